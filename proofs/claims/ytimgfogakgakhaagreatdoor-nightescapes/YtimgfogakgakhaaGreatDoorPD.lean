/-
  The seals of chapter 7's evidence. No condition but the theorems' own. Exceptions of chapter 7, their evidence, and what is wrong with them. No condition but the theorems' own. The checks of exceptions of chapter 7, both sides, and their validity. No condition but the theorems' own. NightValid returns true. No condition but the theorems' own. Arguments of chapter 7's statements with keys. No condition but the theorems' own. Three small numbers, as an argument. No condition but the theorems' own. The cases of chapter 7, both sides. No condition but the theorems' own. Bills of chapter 7, and that NightCases returns true. No condition but the theorems' own.
-/
import Derived.Test.YtimgfogakgakhaaGreatDoorPC
import Derived.Test.YtimgfogakgakhaaGreatDoorAvD
import Derived.Test.YtimgfogakgakhaaGreatDoorPB
namespace Go.Proofs.YtimgfogakgakhaaGreatDoor
open Go Go.Av Go.RowKit
theorem w_of {f : Nat} {args : List AV} {bs : List ABlk} {r : AV} {fin : List ABlk} (fn : Func) (B : BA) (hf : Tryz.prog.funcs[f]? = some fn) (hb : fn.body = some (bodyOf fn)) (hn : (fn.name == "runtime.NumGoroutine") = false) (hlen : Nat.ble args.length fn.ntmps = true) (hwf : wfB (bs.length + 1) (startW args bs) = true)
    {q : Prop} (hq : q) (h : VC (bodyE Tryz.prog T0 G0 fn.ntmps []) B 10000 0 (bodyOf fn) (startW args bs) (retQW T0 fn bs.length r fin) = q) : WCall Tryz.prog G0 f args bs r fin :=
  callW_of_VC tok mix hf hb hn (Nat.le_of_ble_eq_true hlen) hwf B (vc_of hq h)
def yA (r k : Nat) (B : BA) : BA := modA r k (fun a => { a with res := .bool true }) B
def encB (b : UInt8) : List AV := [.int .u8 b.toNat]
def at8 (a b c d e f g h : Int) : Nat → Int
  | 0 => a | 1 => b | 2 => c | 3 => d | 4 => e | 5 => f | 6 => g | _ => h
def seX (j : Nat) (h : Int) (s : List UInt8) : Nat → Int
  | 0 => h
  | i + 1 => ((4 * j + 3) * seX j h s i + (s.getD i 0).toNat + 5 * j + 2).tmod 256
theorem seX_b {j : Nat} {h : Int} {s : List UInt8} (hh : 0 ≤ h ∧ h ≤ 255) (hj : j < 8) : ∀ i, 0 ≤ seX j h s i ∧ seX j h s i ≤ 255
  | 0 => hh
  | i + 1 => by
    have ih := seX_b hh hj (s := s) i
    have h1 := mul_bd (a := 4 * (j : Int) + 3) (b := seX j h s i) (A := 31) (B := 255) (by omega) ih
    have h2 := (s.getD i 0).toNat_lt
    unfold seX
    exact ⟨Int.tmod_nonneg _ (by omega), by have := Int.tmod_lt_of_pos ((4 * (j : Int) + 3) * seX j h s i + (s.getD i 0).toNat + 5 * j + 2) (show (0 : Int) < 256 by omega); omega⟩
def sea (ks : Nat → Int) (s : List UInt8) (j : Nat) : Int := seX j (ks j) s s.length
def kE (z ks : Nat → Int) (s : List UInt8) (i j : Nat) : AV := .int .u8 (if j < i then sea ks s j else z j)
def kA (z ks : Nat → Int) (s : List UInt8) (i : Nat) : List AV := [kE z ks s i 0, kE z ks s i 1, kE z ks s i 2, kE z ks s i 3, kE z ks s i 4, kE z ks s i 5, kE z ks s i 6, kE z ks s i 7]
def sealK (ks : Nat → Int) (s : List UInt8) : List AV := [.int .u8 (sea ks s 0), .int .u8 (sea ks s 1), .int .u8 (sea ks s 2), .int .u8 (sea ks s 3), .int .u8 (sea ks s 4), .int .u8 (sea ks s 5), .int .u8 (sea ks s 6), .int .u8 (sea ks s 7)]
theorem kA_at {z ks : Nat → Int} {s : List UInt8} {i : Nat} (h : i < 8) : nth (kA z ks s i) i = .int .u8 (z i) := by
  match i, h with
  | 0, _ => rfl
  | 1, _ => rfl
  | 2, _ => rfl
  | 3, _ => rfl
  | 4, _ => rfl
  | 5, _ => rfl
  | 6, _ => rfl
  | 7, _ => rfl
def rdBy (s : List UInt8) : List AV → Option AV
  | [.elt _ _ i _] => some (.int .u8 ((s.getD i 0).toNat : Nat))
  | _ => none
def rdId : List AV → Option AV
  | [.int _ n] => some (.i n)
  | _ => none
def rdId8 : List AV → Option AV
  | [.int _ n] => some (.int .u8 n)
  | _ => none
theorem wrap8 {n : Int} (h : 0 ≤ n ∧ n ≤ 255) : IntKind.u8.wrap n = n := by
  show (if (false && decide (n % 256 ≥ 128)) = true then n % 256 - 256 else n % 256) = n
  simp only [Bool.false_and, Bool.false_eq_true, if_false]
  omega
def K189 (z ks : Nat → Int) (s : List UInt8) (b : Nat) : Option LA :=
  if b.beq 0 then
    let K : List GS := [.keep [1, 2, 4, 9] [1, 2], .bound 3]
    some { pre := K, post := K
           Gh := Nat
           st := fun i => ⟨[(1, .sl 1 (s.map encB)), (2, .ptr 1 0), (4, .ptr 2 0), (9, .i i)], [(1, .box (kA z ks s i)), (2, .box [.int .u8 0, .int .u8 0, .int .u8 0, .int .u8 0, .int .u8 0, .int .u8 0, .int .u8 0, .int .u8 0])], 3⟩
           ok := fun i => i ≤ 8
           ms := fun i => 8 - i }
  else
    let K : List GS := [.keep [1, 2, 4, 5, 6, 9, 16, 17, 18] [1, 2], .bound 3]
    some { pre := K, post := K
           Gh := Nat × Nat
           st := fun g => ⟨[(1, .sl 1 (s.map encB)), (2, .ptr 1 0), (4, .ptr 2 0), (5, .i g.1), (6, .i (seX g.1 (ks g.1) s g.2)), (9, .i g.1), (16, .sl 1 (s.map encB)), (17, .i (s.map encB).length), (18, .i g.2)], [(1, .box (kA z ks s g.1)), (2, .box [.int .u8 0, .int .u8 0, .int .u8 0, .int .u8 0, .int .u8 0, .int .u8 0, .int .u8 0, .int .u8 0])], 3⟩
           ok := fun g => g.1 < 8 ∧ g.2 ≤ s.length
           rel := some fun g0 g => g.1 = g0.1
           ms := fun g => s.length - g.2 }
def spZ : Nat → List AV → Option AV := spS
theorem kA_st {z ks : Nat → Int} {s : List UInt8} {g : Nat} (h : g < 8) {v : Int} (hv : v = sea ks s g) : [AV.int .u8 (if g = 0 then v else if 0 < g then sea ks s 0 else z 0), AV.int .u8 (if g = 1 then v else if 1 < g then sea ks s 1 else z 1), AV.int .u8 (if g = 2 then v else if 2 < g then sea ks s 2 else z 2), AV.int .u8 (if g = 3 then v else if 3 < g then sea ks s 3 else z 3), AV.int .u8 (if g = 4 then v else if 4 < g then sea ks s 4 else z 4), AV.int .u8 (if g = 5 then v else if 5 < g then sea ks s 5 else z 5), AV.int .u8 (if g = 6 then v else if 6 < g then sea ks s 6 else z 6), AV.int .u8 (if g = 7 then v else if 7 < g then sea ks s 7 else z 7)] = kA z ks s (g + 1) := by
  subst hv
  match g, h with
  | 0, _ => rfl
  | 1, _ => rfl
  | 2, _ => rfl
  | 3, _ => rfl
  | 4, _ => rfl
  | 5, _ => rfl
  | 6, _ => rfl
  | 7, _ => rfl
def rdY (ks : Nat → Int) : List AV → Option AV
  | [.ptr _ o] => some (.int .u8 (ks o))
  | _ => none
theorem c189 (ks : Nat → Int) (s : List UInt8) (hk : ∀ i, 0 ≤ ks i ∧ ks i ≤ 255) (hs : s.length ≤ 1000) : PCall Tryz.prog G0 189 [.agg [.int .u8 (ks 0), .int .u8 (ks 1), .int .u8 (ks 2), .int .u8 (ks 3), .int .u8 (ks 4), .int .u8 (ks 5), .int .u8 (ks 6), .int .u8 (ks 7)], .sl 1 (s.map encB)] (.agg (sealK ks s)) := by
  have key :
   (∃ (g : Nat), g ≤ 8 ∧ AS.mk [(1, AV.sl 1 (List.map encB s)), (2, AV.ptr 1 0), (4, AV.ptr 2 0), (9, AV.i 0)] [(1, ABlk.box [AV.int IntKind.u8 (ks 0), AV.int IntKind.u8 (ks 1), AV.int IntKind.u8 (ks 2), AV.int IntKind.u8 (ks 3),
   AV.int IntKind.u8 (ks 4), AV.int IntKind.u8 (ks 5), AV.int IntKind.u8 (ks 6), AV.int IntKind.u8 (ks 7)]), (2, ABlk.box [AV.int IntKind.u8 (0 : Int), AV.int IntKind.u8 (0 : Int), AV.int IntKind.u8 (0 : Int), AV.int IntKind.u8 (0 :
   Int), AV.int IntKind.u8 (0 : Int), AV.int IntKind.u8 (0 : Int), AV.int IntKind.u8 (0 : Int), AV.int IntKind.u8 (0 : Int)])] 3 = AS.mk [(1, AV.sl 1 (List.map encB s)), (2, AV.ptr 1 0), (4, AV.ptr 2 0), (9, AV.i (↑g : Int))] [(1,
   ABlk.box (kA ks ks s g)), (2, ABlk.box [AV.int IntKind.u8 (0 : Int), AV.int IntKind.u8 (0 : Int), AV.int IntKind.u8 (0 : Int), AV.int IntKind.u8 (0 : Int), AV.int IntKind.u8 (0 : Int), AV.int IntKind.u8 (0 : Int), AV.int IntKind.u8
   (0 : Int), AV.int IntKind.u8 (0 : Int)])] 3) ∧ ∀ (g : Nat), g ≤ 8 → (decide ((↑g : Int) < 8) = true → (0 : Int) ≤ (↑g : Int) ∧ (↑g : Int) < (↑8 : Int) ∧ 0 + (↑g : Int).toNat * 1 + 1 ≤ 8 ∧ nth (kA ks ks s g) (0 + (↑g : Int).toNat *
   1) = AV.int IntKind.u8 (ks (0 + (↑g : Int).toNat * 1)) ∧ AV.i (IntKind.i64.wrap (ks (0 + (↑g : Int).toNat * 1))) = AV.i (ks (0 + (↑g : Int).toNat * 1)) ∧ ∃ (g0 : Nat × Nat), (g0.fst < 8 ∧ g0.snd ≤ s.length) ∧ g0.fst = g0.fst ∧
   AS.mk [(1, AV.sl 1 (List.map encB s)), (2, AV.ptr 1 0), (4, AV.ptr 2 0), (5, AV.i (↑g : Int)), (6, AV.i (ks (0 + (↑g : Int).toNat * 1))), (9, AV.i (↑g : Int)), (16, AV.sl 1 (List.map encB s)), (17, AV.i (↑(List.map encB s).length :
   Int)), (18, AV.i 0)] [(1, ABlk.box (kA ks ks s g)), (2, ABlk.box [AV.int IntKind.u8 (0 : Int), AV.int IntKind.u8 (0 : Int), AV.int IntKind.u8 (0 : Int), AV.int IntKind.u8 (0 : Int), AV.int IntKind.u8 (0 : Int), AV.int IntKind.u8 (0
   : Int), AV.int IntKind.u8 (0 : Int), AV.int IntKind.u8 (0 : Int)])] 3 = AS.mk [(1, AV.sl 1 (List.map encB s)), (2, AV.ptr 1 0), (4, AV.ptr 2 0), (5, AV.i (↑g0.fst : Int)), (6, AV.i (seX g0.fst (ks g0.fst) s g0.snd)), (9, AV.i
   (↑g0.fst : Int)), (16, AV.sl 1 (List.map encB s)), (17, AV.i (↑(List.map encB s).length : Int)), (18, AV.i (↑g0.snd : Int))] [(1, ABlk.box [AV.int IntKind.u8 (if 0 < g0.fst then sea ks s 0 else ks 0), AV.int IntKind.u8 (if 1 <
   g0.fst then sea ks s 1 else ks 1), AV.int IntKind.u8 (if 2 < g0.fst then sea ks s 2 else ks 2), AV.int IntKind.u8 (if 3 < g0.fst then sea ks s 3 else ks 3), AV.int IntKind.u8 (if 4 < g0.fst then sea ks s 4 else ks 4), AV.int
   IntKind.u8 (if 5 < g0.fst then sea ks s 5 else ks 5), AV.int IntKind.u8 (if 6 < g0.fst then sea ks s 6 else ks 6), AV.int IntKind.u8 (if 7 < g0.fst then sea ks s 7 else ks 7)]), (2, ABlk.box [AV.int IntKind.u8 (0 : Int), AV.int
   IntKind.u8 (0 : Int), AV.int IntKind.u8 (0 : Int), AV.int IntKind.u8 (0 : Int), AV.int IntKind.u8 (0 : Int), AV.int IntKind.u8 (0 : Int), AV.int IntKind.u8 (0 : Int), AV.int IntKind.u8 (0 : Int)])] 3 ∧ ∀ (g_1 : Nat × Nat), g_1.fst
   < 8 ∧ g_1.snd ≤ s.length → g_1.fst = g0.fst → (decide ((↑g_1.snd : Int) < (↑(List.map encB s).length : Int)) = true → (0 : Int) ≤ (↑g_1.snd : Int) ∧ (↑g_1.snd : Int) < (↑(List.map encB s).length : Int) ∧ nth (nthR (List.map encB s)
   (↑g_1.snd : Int).toNat) 0 = AV.int IntKind.u8 (↑(s.getD (↑g_1.snd : Int).toNat (0 : UInt8)).toNat : Int) ∧ In64 ((4 : Int) * (↑g_1.fst : Int)) ∧ In64 ((4 : Int) * (↑g_1.fst : Int) + 3) ∧ In64 (((4 : Int) * (↑g_1.fst : Int) + 3) *
   seX g_1.fst (ks g_1.fst) s g_1.snd) ∧ In64 (((4 : Int) * (↑g_1.fst : Int) + 3) * seX g_1.fst (ks g_1.fst) s g_1.snd + (↑(s.getD (↑g_1.snd : Int).toNat (0 : UInt8)).toNat : Int)) ∧ In64 ((5 : Int) * (↑g_1.fst : Int)) ∧ In64 (((4 :
   Int) * (↑g_1.fst : Int) + 3) * seX g_1.fst (ks g_1.fst) s g_1.snd + (↑(s.getD (↑g_1.snd : Int).toNat (0 : UInt8)).toNat : Int) + 5 * (↑g_1.fst : Int)) ∧ In64 (((4 : Int) * (↑g_1.fst : Int) + 3) * seX g_1.fst (ks g_1.fst) s g_1.snd
   + (↑(s.getD (↑g_1.snd : Int).toNat (0 : UInt8)).toNat : Int) + 5 * (↑g_1.fst : Int) + 2) ∧ ¬(256 : Int) = (0 : Int) ∧ AV.i (IntKind.i64.wrap (↑(s.getD (↑g_1.snd : Int).toNat (0 : UInt8)).toNat : Int)) = AV.i (↑(s.getD (↑g_1.snd :
   Int).toNat (0 : UInt8)).toNat : Int) ∧ In64 ((↑g_1.snd : Int) + 1) ∧ ∃ (g' : Nat × Nat), (g'.fst < 8 ∧ g'.snd ≤ s.length) ∧ g'.fst = g0.fst ∧ s.length - g'.snd < s.length - g_1.snd ∧ AS.mk [(1, AV.sl 1 (List.map encB s)), (2,
   AV.ptr 1 0), (4, AV.ptr 2 0), (5, AV.i (↑g_1.fst : Int)), (6, AV.i ((((4 : Int) * (↑g_1.fst : Int) + 3) * seX g_1.fst (ks g_1.fst) s g_1.snd + (↑(s.getD (↑g_1.snd : Int).toNat (0 : UInt8)).toNat : Int) + 5 * (↑g_1.fst : Int) +
   2).tmod (256 : Int))), (9, AV.i (↑g_1.fst : Int)), (16, AV.sl 1 (List.map encB s)), (17, AV.i (↑(List.map encB s).length : Int)), (18, AV.i ((↑g_1.snd : Int) + 1))] [(1, ABlk.box [AV.int IntKind.u8 (if 0 < g_1.fst then sea ks s 0
   else ks 0), AV.int IntKind.u8 (if 1 < g_1.fst then sea ks s 1 else ks 1), AV.int IntKind.u8 (if 2 < g_1.fst then sea ks s 2 else ks 2), AV.int IntKind.u8 (if 3 < g_1.fst then sea ks s 3 else ks 3), AV.int IntKind.u8 (if 4 < g_1.fst
   then sea ks s 4 else ks 4), AV.int IntKind.u8 (if 5 < g_1.fst then sea ks s 5 else ks 5), AV.int IntKind.u8 (if 6 < g_1.fst then sea ks s 6 else ks 6), AV.int IntKind.u8 (if 7 < g_1.fst then sea ks s 7 else ks 7)]), (2, ABlk.box
   [AV.int IntKind.u8 (0 : Int), AV.int IntKind.u8 (0 : Int), AV.int IntKind.u8 (0 : Int), AV.int IntKind.u8 (0 : Int), AV.int IntKind.u8 (0 : Int), AV.int IntKind.u8 (0 : Int), AV.int IntKind.u8 (0 : Int), AV.int IntKind.u8 (0 :
   Int)])] 3 = AS.mk [(1, AV.sl 1 (List.map encB s)), (2, AV.ptr 1 0), (4, AV.ptr 2 0), (5, AV.i (↑g'.fst : Int)), (6, AV.i (seX g'.fst (ks g'.fst) s g'.snd)), (9, AV.i (↑g'.fst : Int)), (16, AV.sl 1 (List.map encB s)), (17, AV.i
   (↑(List.map encB s).length : Int)), (18, AV.i (↑g'.snd : Int))] [(1, ABlk.box [AV.int IntKind.u8 (if 0 < g'.fst then sea ks s 0 else ks 0), AV.int IntKind.u8 (if 1 < g'.fst then sea ks s 1 else ks 1), AV.int IntKind.u8 (if 2 <
   g'.fst then sea ks s 2 else ks 2), AV.int IntKind.u8 (if 3 < g'.fst then sea ks s 3 else ks 3), AV.int IntKind.u8 (if 4 < g'.fst then sea ks s 4 else ks 4), AV.int IntKind.u8 (if 5 < g'.fst then sea ks s 5 else ks 5), AV.int
   IntKind.u8 (if 6 < g'.fst then sea ks s 6 else ks 6), AV.int IntKind.u8 (if 7 < g'.fst then sea ks s 7 else ks 7)]), (2, ABlk.box [AV.int IntKind.u8 (0 : Int), AV.int IntKind.u8 (0 : Int), AV.int IntKind.u8 (0 : Int), AV.int
   IntKind.u8 (0 : Int), AV.int IntKind.u8 (0 : Int), AV.int IntKind.u8 (0 : Int), AV.int IntKind.u8 (0 : Int), AV.int IntKind.u8 (0 : Int)])] 3) ∧ (decide ((↑g_1.snd : Int) < (↑(List.map encB s).length : Int)) = false → (0 : Int) ≤
   (↑g_1.fst : Int) ∧ (↑g_1.fst : Int) < (↑8 : Int) ∧ 0 + (↑g_1.fst : Int).toNat * 1 + 1 ≤ 8 ∧ AV.int IntKind.u8 (IntKind.u8.wrap (seX g_1.fst (ks g_1.fst) s g_1.snd)) = AV.int IntKind.u8 (seX g_1.fst (ks g_1.fst) s g_1.snd) ∧ In64
   ((↑g_1.fst : Int) + 1) ∧ ∃ (g' : Nat), g' ≤ 8 ∧ 8 - g' < 8 - g ∧ AS.mk [(1, AV.sl 1 (List.map encB s)), (2, AV.ptr 1 0), (4, AV.ptr 2 0), (9, AV.i ((↑g_1.fst : Int) + 1))] [(1, ABlk.box [AV.int IntKind.u8 (if 0 + (↑g_1.fst :
   Int).toNat * 1 = 0 then seX g_1.fst (ks g_1.fst) s g_1.snd else if 0 < g_1.fst then sea ks s 0 else ks 0), AV.int IntKind.u8 (if 0 + (↑g_1.fst : Int).toNat * 1 = 0 + 1 then seX g_1.fst (ks g_1.fst) s g_1.snd else if 1 < g_1.fst
   then sea ks s 1 else ks 1), AV.int IntKind.u8 (if 0 + (↑g_1.fst : Int).toNat * 1 = 0 + 1 + 1 then seX g_1.fst (ks g_1.fst) s g_1.snd else if 2 < g_1.fst then sea ks s 2 else ks 2), AV.int IntKind.u8 (if 0 + (↑g_1.fst : Int).toNat *
   1 = 0 + 1 + 1 + 1 then seX g_1.fst (ks g_1.fst) s g_1.snd else if 3 < g_1.fst then sea ks s 3 else ks 3), AV.int IntKind.u8 (if 0 + (↑g_1.fst : Int).toNat * 1 = 0 + 1 + 1 + 1 + 1 then seX g_1.fst (ks g_1.fst) s g_1.snd else if 4 <
   g_1.fst then sea ks s 4 else ks 4), AV.int IntKind.u8 (if 0 + (↑g_1.fst : Int).toNat * 1 = 0 + 1 + 1 + 1 + 1 + 1 then seX g_1.fst (ks g_1.fst) s g_1.snd else if 5 < g_1.fst then sea ks s 5 else ks 5), AV.int IntKind.u8 (if 0 +
   (↑g_1.fst : Int).toNat * 1 = 0 + 1 + 1 + 1 + 1 + 1 + 1 then seX g_1.fst (ks g_1.fst) s g_1.snd else if 6 < g_1.fst then sea ks s 6 else ks 6), AV.int IntKind.u8 (if 0 + (↑g_1.fst : Int).toNat * 1 = 0 + 1 + 1 + 1 + 1 + 1 + 1 + 1
   then seX g_1.fst (ks g_1.fst) s g_1.snd else if 7 < g_1.fst then sea ks s 7 else ks 7)]), (2, ABlk.box [AV.int IntKind.u8 (0 : Int), AV.int IntKind.u8 (0 : Int), AV.int IntKind.u8 (0 : Int), AV.int IntKind.u8 (0 : Int), AV.int
   IntKind.u8 (0 : Int), AV.int IntKind.u8 (0 : Int), AV.int IntKind.u8 (0 : Int), AV.int IntKind.u8 (0 : Int)])] 3 = AS.mk [(1, AV.sl 1 (List.map encB s)), (2, AV.ptr 1 0), (4, AV.ptr 2 0), (9, AV.i (↑g' : Int))] [(1, ABlk.box (kA ks
   ks s g')), (2, ABlk.box [AV.int IntKind.u8 (0 : Int), AV.int IntKind.u8 (0 : Int), AV.int IntKind.u8 (0 : Int), AV.int IntKind.u8 (0 : Int), AV.int IntKind.u8 (0 : Int), AV.int IntKind.u8 (0 : Int), AV.int IntKind.u8 (0 : Int),
   AV.int IntKind.u8 (0 : Int)])] 3)) ∧ (decide ((↑g : Int) < 8) = false → AV.agg (kA ks ks s g) = AV.agg [AV.int IntKind.u8 (sea ks s 0), AV.int IntKind.u8 (sea ks s 1), AV.int IntKind.u8 (sea ks s 2), AV.int IntKind.u8 (sea ks s 3),
   AV.int IntKind.u8 (sea ks s 4), AV.int IntKind.u8 (sea ks s 5), AV.int IntKind.u8 (sea ks s 6), AV.int IntKind.u8 (sea ks s 7)]) := by
    have : (List.map encB s).length = s.length := by simp only [List.length_map]
    refine ⟨⟨0, by omega, rfl⟩, fun g hg => ⟨fun hd => ?_, fun hd => ?_⟩⟩
    · have hlt : g < 8 := by have h9 := of_decide_eq_true hd; have h8 := hg; (try simp only [List.length_map] at h8); (try simp only [List.length_map] at h9); omega
      try rw [show (↑g : Int).toNat = g from Int.toNat_natCast g]
      rw [show 0 + g * 1 = g by omega]
      have hkg := hk g
      try rw [show (↑g : Int).toNat = g from Int.toNat_natCast g]
      refine ⟨(by omega), (by omega), (by omega), kA_at hlt, congrArg AV.i (wrap_in (by unfold In64; omega)), ⟨(g, 0), ⟨by omega, by omega⟩, rfl, rfl, fun g_1 hok2 hr2 => ?_⟩⟩
      · obtain ⟨i2, j2⟩ := g_1
        dsimp only at hok2 hr2 ⊢
        obtain ⟨hi2, hg2⟩ := hok2
        have hr3 : g = i2 := hr2.symm
        subst hr3
        refine ⟨fun hd2 => ?_, fun hd2 => ?_⟩
        · have hlt2 : j2 < s.length := by have h9 := of_decide_eq_true hd2; have h8 := hg2; (try simp only [List.length_map] at h8); (try simp only [List.length_map] at h9); omega
          have hx := seX_b (hk g) hlt (s := s) j2
          have hx1 := mul_bd (a := 4 * (g : Int) + 3) (b := seX g (ks g) s j2) (A := 31) (B := 255) (by omega) hx
          have hby := (s.getD j2 0).toNat_lt
          try rw [show (↑j2 : Int).toNat = j2 from Int.toNat_natCast j2]
          exact ⟨(by omega), (by omega), congrArg (fun r => nth r 0) (row_at encB hlt2), (by unfold In64; omega), (by unfold In64; omega), (by unfold In64; omega), (by unfold In64; omega), (by unfold In64; omega), (by unfold In64; omega), (by unfold In64; omega), (by decide), congrArg AV.i (wrap_in (by unfold In64; omega)), (by unfold In64; omega), ⟨(g, j2 + 1), ⟨by omega, by omega⟩, rfl, (by (try dsimp only); omega), rfl⟩⟩
        · have hge2 : j2 = s.length := by have h9 := of_decide_eq_false hd2; have h8 := hg2; (try simp only [List.length_map] at h8); (try simp only [List.length_map] at h9); omega
          subst hge2
          refine ⟨(by omega), (by omega), (by omega), congrArg (AV.int .u8) (wrap8 (seX_b (hk g) hlt _)), (by unfold In64; omega), ⟨g + 1, by omega, by omega, ?_⟩⟩
          · rw [show (↑g : Int).toNat = g from Int.toNat_natCast g, show 0 + g * 1 = g by omega]
            exact congrArg (fun c => AS.mk _ [(1, ABlk.box c), _] _) (kA_st hlt rfl)
    · have hge : g = 8 := by have h9 := of_decide_eq_false hd; have h8 := hg; (try simp only [List.length_map] at h8); (try simp only [List.length_map] at h9); omega
      subst hge
      exact rfl
  exact c_of Tryz.f189 (yA 4 2 (yA 10 4 (mkB spZ 189 [(4, 2, rdY ks), (4, 3, rdId), (7, 1, rdBy s), (8, 6, rdId), (10, 2, rdId8)] (K189 ks ks s)))) (by kernel_rfl) (by kernel_rfl) (by kernel_rfl) (by kernel_rfl) key (by kernel_rfl)
end Go.Proofs.YtimgfogakgakhaaGreatDoor
namespace Go.Proofs.YtimgfogakgakhaaGreatDoor
open Go Go.Av Go.RowKit
structure Xc where
  fl : List UInt8
  re : List UInt8
  day : Int
  e0 : Int
  e1 : Int
  e2 : Int
  e3 : Int
  e4 : Int
  e5 : Int
  e6 : Int
  e7 : Int
  deriving Inhabited
def encXc (x : Xc) : List AV := [.str x.fl, .str x.re, .i x.day, .int .u8 x.e0, .int .u8 x.e1, .int .u8 x.e2, .int .u8 x.e3, .int .u8 x.e4, .int .u8 x.e5, .int .u8 x.e6, .int .u8 x.e7]
theorem c153 (ks : Nat → Int) (s : List UInt8) (hk : ∀ i, 0 ≤ ks i ∧ ks i ≤ 255) (hs : s.length ≤ 1000) : PCall Tryz.prog G0 153 [.agg [.int .u8 (ks 0), .int .u8 (ks 1), .int .u8 (ks 2), .int .u8 (ks 3), .int .u8 (ks 4), .int .u8 (ks 5), .int .u8 (ks 6), .int .u8 (ks 7)], .sl 1 (s.map encB)] (.tup [.agg (sealK ks s), .i 0]) := by
  have key :
   AV.bool (decide ((↑(List.map encB s).length : Int) > 400000)) = AV.bool false ∧ PCall Tryz.prog G0 189 [AV.agg [AV.int IntKind.u8 (ks 0), AV.int IntKind.u8 (ks 1), AV.int IntKind.u8 (ks 2), AV.int IntKind.u8 (ks 3), AV.int
   IntKind.u8 (ks 4), AV.int IntKind.u8 (ks 5), AV.int IntKind.u8 (ks 6), AV.int IntKind.u8 (ks 7)], AV.sl 1 (List.map encB s)] (AV.agg [AV.int IntKind.u8 (sea ks s 0), AV.int IntKind.u8 (sea ks s 1), AV.int IntKind.u8 (sea ks s 2),
   AV.int IntKind.u8 (sea ks s 3), AV.int IntKind.u8 (sea ks s 4), AV.int IntKind.u8 (sea ks s 5), AV.int IntKind.u8 (sea ks s 6), AV.int IntKind.u8 (sea ks s 7)]) ∧ AV.tup [AV.agg [AV.int IntKind.u8 (sea ks s 0), AV.int IntKind.u8
   (sea ks s 1), AV.int IntKind.u8 (sea ks s 2), AV.int IntKind.u8 (sea ks s 3), AV.int IntKind.u8 (sea ks s 4), AV.int IntKind.u8 (sea ks s 5), AV.int IntKind.u8 (sea ks s 6), AV.int IntKind.u8 (sea ks s 7)], AV.i 0] = AV.tup [AV.agg
   [AV.int IntKind.u8 (sea ks s 0), AV.int IntKind.u8 (sea ks s 1), AV.int IntKind.u8 (sea ks s 2), AV.int IntKind.u8 (sea ks s 3), AV.int IntKind.u8 (sea ks s 4), AV.int IntKind.u8 (sea ks s 5), AV.int IntKind.u8 (sea ks s 6), AV.int
   IntKind.u8 (sea ks s 7)], AV.i 0] := by
    have : (List.map encB s).length = s.length := by simp only [List.length_map]
    exact ⟨congrArg AV.bool (decide_eq_false (by omega)), (c189 ks s hk hs), rfl⟩
  exact c_of Tryz.f153 ({ mkB (fun n x => match n with | 189 => some (.agg (sealK ks s)) | _ => spS n x) 153 [(1, 2, rdF)] noLa with cl := clL [8] }) (by kernel_rfl) (by kernel_rfl) (by kernel_rfl) (by kernel_rfl) key (by kernel_rfl)
def kyR (r : Ru) : Nat → Int := at8 r.k0 r.k1 r.k2 r.k3 r.k4 r.k5 r.k6 r.k7
def KyOK (r : Ru) : Prop := ∀ i, 0 ≤ kyR r i ∧ kyR r i ≤ 255
def evS (r : Ru) (a b : List UInt8) : List AV := sealK (kyR r) (a ++ [32] ++ b)
theorem c125 (r : Ru) (a b : List UInt8) (hk : KyOK r) (ha : a.length ≤ 400) (hb : b.length ≤ 400) : PCall Tryz.prog G0 125 [.agg (encRu r), .str a, .str b] (.agg (evS r a b)) := by
  have key :
   a.length + 1 ≤ 9223372036854775807 ∧ (a ++ [(32 : UInt8)]).length + b.length ≤ 9223372036854775807 ∧ (a ++ [(32 : UInt8)] ++ b).length ≤ 9223372036854775807 ∧ PCall Tryz.prog G0 153 [AV.agg [AV.int IntKind.u8 r.k0, AV.int
   IntKind.u8 r.k1, AV.int IntKind.u8 r.k2, AV.int IntKind.u8 r.k3, AV.int IntKind.u8 r.k4, AV.int IntKind.u8 r.k5, AV.int IntKind.u8 r.k6, AV.int IntKind.u8 r.k7], AV.sl 1 (List.map (fun (b : UInt8) => [AV.int IntKind.u8 (↑b.toNat :
   Int)]) (a ++ [(32 : UInt8)] ++ b))] (AV.tup [AV.agg [AV.int IntKind.u8 (sea (kyR r) (a ++ [(32 : UInt8)] ++ b) 0), AV.int IntKind.u8 (sea (kyR r) (a ++ [(32 : UInt8)] ++ b) 1), AV.int IntKind.u8 (sea (kyR r) (a ++ [(32 : UInt8)] ++
   b) 2), AV.int IntKind.u8 (sea (kyR r) (a ++ [(32 : UInt8)] ++ b) 3), AV.int IntKind.u8 (sea (kyR r) (a ++ [(32 : UInt8)] ++ b) 4), AV.int IntKind.u8 (sea (kyR r) (a ++ [(32 : UInt8)] ++ b) 5), AV.int IntKind.u8 (sea (kyR r) (a ++
   [(32 : UInt8)] ++ b) 6), AV.int IntKind.u8 (sea (kyR r) (a ++ [(32 : UInt8)] ++ b) 7)], AV.i 0]) ∧ AV.agg [AV.int IntKind.u8 (sea (kyR r) (a ++ [(32 : UInt8)] ++ b) 0), AV.int IntKind.u8 (sea (kyR r) (a ++ [(32 : UInt8)] ++ b) 1),
   AV.int IntKind.u8 (sea (kyR r) (a ++ [(32 : UInt8)] ++ b) 2), AV.int IntKind.u8 (sea (kyR r) (a ++ [(32 : UInt8)] ++ b) 3), AV.int IntKind.u8 (sea (kyR r) (a ++ [(32 : UInt8)] ++ b) 4), AV.int IntKind.u8 (sea (kyR r) (a ++ [(32 :
   UInt8)] ++ b) 5), AV.int IntKind.u8 (sea (kyR r) (a ++ [(32 : UInt8)] ++ b) 6), AV.int IntKind.u8 (sea (kyR r) (a ++ [(32 : UInt8)] ++ b) 7)] = AV.agg [AV.int IntKind.u8 (sea (kyR r) (a ++ [(32 : UInt8)] ++ b) 0), AV.int IntKind.u8
   (sea (kyR r) (a ++ [(32 : UInt8)] ++ b) 1), AV.int IntKind.u8 (sea (kyR r) (a ++ [(32 : UInt8)] ++ b) 2), AV.int IntKind.u8 (sea (kyR r) (a ++ [(32 : UInt8)] ++ b) 3), AV.int IntKind.u8 (sea (kyR r) (a ++ [(32 : UInt8)] ++ b) 4),
   AV.int IntKind.u8 (sea (kyR r) (a ++ [(32 : UInt8)] ++ b) 5), AV.int IntKind.u8 (sea (kyR r) (a ++ [(32 : UInt8)] ++ b) 6), AV.int IntKind.u8 (sea (kyR r) (a ++ [(32 : UInt8)] ++ b) 7)] := by
    have h1 : (a ++ [32]).length = a.length + 1 := by simp
    have h2 : (a ++ [32] ++ b).length = a.length + 1 + b.length := by rw [List.length_append, h1]
    have h3 : (a ++ ([32] ++ b)).length = a.length + 1 + b.length := by rw [← List.append_assoc, h2]
    exact ⟨(by simp only [List.length_append, List.length_cons, List.length_nil] at *; omega), (by simp only [List.length_append, List.length_cons, List.length_nil] at *; omega), (by simp only [List.length_append, List.length_cons, List.length_nil] at *; omega), (c153 (kyR r) (a ++ [32] ++ b) hk (by omega)), rfl⟩
  exact c_of Tryz.f125 (fzB (mkB (fun n x => match n with | 153 => some (.tup [.agg (evS r a b), .i 0]) | _ => spS n x) 125 [] noLa)) (by kernel_rfl) (by kernel_rfl) (by kernel_rfl) (by kernel_rfl) key (by kernel_rfl)
def la209 (rs : List (List UInt8)) (s : List UInt8) : LA := {
  pre := [.keep [0, 1, 6, 7, 8] [], .bound 1], post := [.keep [0, 1, 6, 7, 8] [], .bound 1]
  Gh := Nat
  st := fun i => ⟨[(0, .sl 1 (rs.map encS)), (1, .str s), (6, .sl 1 (rs.map encS)), (7, .i (rs.map encS).length), (8, .i i)], [], 1⟩
  ok := fun i => i ≤ rs.length ∧ ∀ j, j < i → pS rs s j = false
  ms := fun i => rs.length - i }
theorem c209 (rs : List (List UInt8)) (s : List UInt8) (hl : rs.length ≤ 1000) : PCall Tryz.prog G0 209 [.sl 1 (rs.map encS), .str s] (.i (fiI (pS rs s) rs.length)) := by
  have key :
   (∃ (g : Nat), (g ≤ rs.length ∧ ∀ (j : Nat), j < g → pS rs s j = false) ∧ AS.mk [(0, AV.sl 1 (List.map encS rs)), (1, AV.str s), (6, AV.sl 1 (List.map encS rs)), (7, AV.i (↑(List.map encS rs).length : Int)), (8, AV.i 0)] [] 1 =
   AS.mk [(0, AV.sl 1 (List.map encS rs)), (1, AV.str s), (6, AV.sl 1 (List.map encS rs)), (7, AV.i (↑(List.map encS rs).length : Int)), (8, AV.i (↑g : Int))] [] 1) ∧ ∀ (g : Nat), (g ≤ rs.length ∧ ∀ (j : Nat), j < g → pS rs s j =
   false) → (decide ((↑g : Int) < (↑(List.map encS rs).length : Int)) = true → (0 : Int) ≤ (↑g : Int) ∧ (↑g : Int) < (↑(List.map encS rs).length : Int) ∧ nth (nthR (List.map encS rs) (↑g : Int).toNat) 0 = AV.str (rs.getD (↑g :
   Int).toNat []) ∧ ((s == rs.getD (↑g : Int).toNat []) = true → AV.i (↑g : Int) = AV.i (fiI (pS rs s) rs.length)) ∧ ((s == rs.getD (↑g : Int).toNat []) = false → In64 ((↑g : Int) + 1) ∧ ∃ (g' : Nat), (g' ≤ rs.length ∧ ∀ (j : Nat), j
   < g' → pS rs s j = false) ∧ rs.length - g' < rs.length - g ∧ AS.mk [(0, AV.sl 1 (List.map encS rs)), (1, AV.str s), (6, AV.sl 1 (List.map encS rs)), (7, AV.i (↑(List.map encS rs).length : Int)), (8, AV.i ((↑g : Int) + 1))] [] 1 =
   AS.mk [(0, AV.sl 1 (List.map encS rs)), (1, AV.str s), (6, AV.sl 1 (List.map encS rs)), (7, AV.i (↑(List.map encS rs).length : Int)), (8, AV.i (↑g' : Int))] [] 1)) ∧ (decide ((↑g : Int) < (↑(List.map encS rs).length : Int)) = false
   → AV.i (-1) = AV.i (fiI (pS rs s) rs.length)) := by
    have hlm : (List.map encS rs).length = rs.length := List.length_map _
    have : (List.map encS rs).length = rs.length := by simp only [List.length_map]
    refine ⟨⟨0, ⟨by omega, by intros; omega⟩, rfl⟩, fun g ⟨hg, ha⟩ => ⟨fun hd => ?_, fun hd => ?_⟩⟩
    · have hlt : g < rs.length := by have h9 := of_decide_eq_true hd; have h8 := hg; (try simp only [List.length_map] at h8); (try simp only [List.length_map] at h9); omega
      try rw [show (↑g : Int).toNat = g from Int.toNat_natCast g]
      refine ⟨(by omega), (by omega), congrArg (fun r => nth r 0) (row_at encS hlt), fun h1 => ?_, fun h1 => ⟨(by unfold In64; omega), ⟨g + 1, ⟨by omega, all_ext ha (by unfold pS; rw [beqL_comm]; exact h1)⟩, by omega, rfl⟩⟩⟩
      · rw [fiI, fi_some ha (show pS rs s g = true by unfold pS; rw [beqL_comm]; exact h1) hlt, if_neg (by omega)]
    · have hge : g = rs.length := by have h9 := of_decide_eq_false hd; have h8 := hg; (try simp only [List.length_map] at h8); (try simp only [List.length_map] at h9); omega
      subst hge
      rw [fiI, fi_none ha, if_pos rfl]
  exact c_of Tryz.f209 (mkB spS 209 [(4, 4, rdL 1 encS rs 1 false)] (la1 (la209 rs s))) (by kernel_rfl) (by kernel_rfl) (by kernel_rfl) (by kernel_rfl) key (by kernel_rfl)
theorem c185 (rs : List (List UInt8)) (s : List UInt8) (hl : rs.length ≤ 1000) : PCall Tryz.prog G0 185 [.sl 1 (rs.map encS), .str s] (.bool (decide (fiN (pS rs s) rs.length < rs.length))) := by
  have key :
   PCall Tryz.prog G0 209 [AV.sl 1 (List.map encS rs), AV.str s] (AV.i (fiI (pS rs s) rs.length)) ∧ AV.bool (decide (fiI (pS rs s) rs.length ≥ 0)) = AV.bool (decide (fiN (pS rs s) rs.length < rs.length)) := by
    exact ⟨(c209 rs s hl), congrArg AV.bool fiI_dec⟩
  exact c_of Tryz.f185 (mkB (fun n x => match n with | 209 => some (.i (fiI (pS rs s) rs.length)) | _ => spS n x) 185 [] noLa) (by kernel_rfl) (by kernel_rfl) (by kernel_rfl) (by kernel_rfl) key (by kernel_rfl)
def noRe (r : Ru) (x : Xc) : Bool := !decide (fiN (pS r.rs x.re) r.rs.length < r.rs.length)
def evB (r : Ru) (x : Xc) : Bool := match eqTy T0 9 27 [.int .u8 x.e0, .int .u8 x.e1, .int .u8 x.e2, .int .u8 x.e3, .int .u8 x.e4, .int .u8 x.e5, .int .u8 x.e6, .int .u8 x.e7] (evS r x.fl x.re) with
  | some b => !b
  | none => false
theorem c184 (r : Ru) (m : Mv) (x : Xc) (hl : r.rs.length ≤ 1000) : PCall Tryz.prog G0 184 [.agg (encRu r), .agg (encMv m), .agg (encXc x)] (.bool (noRe r x)) := by
  have key :
   PCall Tryz.prog G0 185 [AV.sl 1 (List.map encS r.rs), AV.str x.re] (AV.bool (decide (fiN (pS r.rs x.re) r.rs.length < r.rs.length))) ∧ (AV.bool !decide (fiN (pS r.rs x.re) r.rs.length < r.rs.length)) = AV.bool (noRe r x) := by
    refine ⟨(c185 r.rs x.re hl), ?_⟩
    · first | rfl | trivial
  exact c_of Tryz.f184 (mkB (fun n y => match n with | 185 => some (.bool (decide (fiN (pS r.rs x.re) r.rs.length < r.rs.length))) | _ => spS n y) 184 [] noLa) (by kernel_rfl) (by kernel_rfl) (by kernel_rfl) (by kernel_rfl) key (by kernel_rfl)
theorem c186 (r : Ru) (m : Mv) (x : Xc)  : PCall Tryz.prog G0 186 [.agg (encRu r), .agg (encMv m), .agg (encXc x)] (.bool (decide (x.day < m.day))) := by
  have key :
   AV.bool (decide (x.day < m.day)) = AV.bool (decide (x.day < m.day)) := by
    exact rfl
  exact c_of Tryz.f186 (mkB spS 186 [] noLa) (by kernel_rfl) (by kernel_rfl) (by kernel_rfl) (by kernel_rfl) key (by kernel_rfl)
theorem c187 (r : Ru) (m : Mv) (x : Xc) (h : In64 (m.day + r.dl)) : PCall Tryz.prog G0 187 [.agg (encRu r), .agg (encMv m), .agg (encXc x)] (.bool (decide (x.day > m.day + r.dl))) := by
  have key :
   In64 (m.day + r.dl) ∧ AV.bool (decide (x.day > m.day + r.dl)) = AV.bool (decide (x.day > m.day + r.dl)) := by
    exact ⟨h, rfl⟩
  exact c_of Tryz.f187 (mkB spS 187 [] noLa) (by kernel_rfl) (by kernel_rfl) (by kernel_rfl) (by kernel_rfl) key (by kernel_rfl)
theorem c188 (r : Ru) (m : Mv) (x : Xc) (hk : KyOK r) (ha : x.fl.length ≤ 400) (hb : x.re.length ≤ 400) : PCall Tryz.prog G0 188 [.agg (encRu r), .agg (encMv m), .agg (encXc x)] (.bool (evB r x)) := by
  have key :
   PCall Tryz.prog G0 125 [AV.agg (encRu r), AV.str x.fl, AV.str x.re] (AV.agg [AV.int IntKind.u8 (sea (kyR r) (x.fl ++ [(32 : UInt8)] ++ x.re) 0), AV.int IntKind.u8 (sea (kyR r) (x.fl ++ [(32 : UInt8)] ++ x.re) 1), AV.int IntKind.u8
   (sea (kyR r) (x.fl ++ [(32 : UInt8)] ++ x.re) 2), AV.int IntKind.u8 (sea (kyR r) (x.fl ++ [(32 : UInt8)] ++ x.re) 3), AV.int IntKind.u8 (sea (kyR r) (x.fl ++ [(32 : UInt8)] ++ x.re) 4), AV.int IntKind.u8 (sea (kyR r) (x.fl ++ [(32
   : UInt8)] ++ x.re) 5), AV.int IntKind.u8 (sea (kyR r) (x.fl ++ [(32 : UInt8)] ++ x.re) 6), AV.int IntKind.u8 (sea (kyR r) (x.fl ++ [(32 : UInt8)] ++ x.re) 7)]) ∧ (AV.bool !(x.e0 == sea (kyR r) (x.fl ++ [(32 : UInt8)] ++ x.re) 0 &&
   true && (x.e1 == sea (kyR r) (x.fl ++ [(32 : UInt8)] ++ x.re) 1 && true && (x.e2 == sea (kyR r) (x.fl ++ [(32 : UInt8)] ++ x.re) 2 && true && (x.e3 == sea (kyR r) (x.fl ++ [(32 : UInt8)] ++ x.re) 3 && true && (x.e4 == sea (kyR r)
   (x.fl ++ [(32 : UInt8)] ++ x.re) 4 && true && (x.e5 == sea (kyR r) (x.fl ++ [(32 : UInt8)] ++ x.re) 5 && true && (x.e6 == sea (kyR r) (x.fl ++ [(32 : UInt8)] ++ x.re) 6 && true && (x.e7 == sea (kyR r) (x.fl ++ [(32 : UInt8)] ++
   x.re) 7 && true && true))))))))) = AV.bool (evB r x) ∧ AV.bool (evB r x) = AV.bool (evB r x) := by
    exact ⟨(c125 r x.fl x.re hk ha hb), (by kernel_rfl), (by kernel_rfl)⟩
  exact c_of Tryz.f188 (mkB (fun n y => match n with | 125 => some (.agg (evS r x.fl x.re)) | _ => spS n y) 188 [(1, 8, fun _ => some (.bool (evB r x)))] noLa) (by kernel_rfl) (by kernel_rfl) (by kernel_rfl) (by kernel_rfl) key (by kernel_rfl)
def W0 : List UInt8 := [114, 101, 97, 115, 111, 110]
def W1 : List UInt8 := [101, 97, 114, 108, 121]
def W2 : List UInt8 := [108, 97, 116, 101]
def W3 : List UInt8 := [101, 118, 105, 100, 101, 110, 99, 101]
def wordV (r : Ru) (m : Mv) (x : Xc) : List UInt8 := if noRe r x = true then W0 else if decide (x.day < m.day) = true then W1 else if decide (x.day > m.day + r.dl) = true then W2 else if evB r x = true then W3 else []
def fau : List AV := [.str W0, .fn (.func 184) [] [], .str W1, .fn (.func 186) [] [], .str W2, .fn (.func 187) [] [], .str W3, .fn (.func 188) [] []]
theorem c152   : PCall Tryz.prog G0 152 [] (.agg fau) := by
  have key :
   (0 : Int) ≤ 0 ∧ (0 : Int) < (↑4 : Int) ∧ (0 : Int) ≤ 1 ∧ (1 : Int) < (↑4 : Int) ∧ (0 : Int) ≤ 2 ∧ (2 : Int) < (↑4 : Int) ∧ (0 : Int) ≤ 3 ∧ (3 : Int) < (↑4 : Int) ∧ AV.agg [AV.str [(114 : UInt8), (101 : UInt8), (97 : UInt8), (115 :
   UInt8), (111 : UInt8), (110 : UInt8)], AV.fn (Fn.func 184) [] [], AV.str [(101 : UInt8), (97 : UInt8), (114 : UInt8), (108 : UInt8), (121 : UInt8)], AV.fn (Fn.func 186) [] [], AV.str [(108 : UInt8), (97 : UInt8), (116 : UInt8),
   (101 : UInt8)], AV.fn (Fn.func 187) [] [], AV.str [(101 : UInt8), (118 : UInt8), (105 : UInt8), (100 : UInt8), (101 : UInt8), (110 : UInt8), (99 : UInt8), (101 : UInt8)], AV.fn (Fn.func 188) [] []] = AV.agg [AV.str [(114 : UInt8),
   (101 : UInt8), (97 : UInt8), (115 : UInt8), (111 : UInt8), (110 : UInt8)], AV.fn (Fn.func 184) [] [], AV.str [(101 : UInt8), (97 : UInt8), (114 : UInt8), (108 : UInt8), (121 : UInt8)], AV.fn (Fn.func 186) [] [], AV.str [(108 :
   UInt8), (97 : UInt8), (116 : UInt8), (101 : UInt8)], AV.fn (Fn.func 187) [] [], AV.str [(101 : UInt8), (118 : UInt8), (105 : UInt8), (100 : UInt8), (101 : UInt8), (110 : UInt8), (99 : UInt8), (101 : UInt8)], AV.fn (Fn.func 188) []
   []] := by
    exact ⟨(by omega), (by omega), (by omega), (by omega), (by omega), (by omega), (by omega), (by omega), rfl⟩
  exact c_of Tryz.f152 (mkB spS 152 [] noLa) (by kernel_rfl) (by kernel_rfl) (by kernel_rfl) (by kernel_rfl) key (by kernel_rfl)
def sp124 (r : Ru) (m : Mv) (x : Xc) : Nat → List AV → Option AV
  | 152, _ => some (.agg fau)
  | 184, _ => some (.bool (noRe r x))
  | 186, _ => some (.bool (decide (x.day < m.day)))
  | 187, _ => some (.bool (decide (x.day > m.day + r.dl)))
  | 188, _ => some (.bool (evB r x))
  | n, y => spS n y
theorem c124 (r : Ru) (m : Mv) (x : Xc) (hl : r.rs.length ≤ 1000) (h : In64 (m.day + r.dl)) (hk : KyOK r) (ha : x.fl.length ≤ 400) (hb : x.re.length ≤ 400) : PCall Tryz.prog G0 124 [.agg (encRu r), .agg (encMv m), .agg (encXc x)] (.str (wordV r m x)) := by
  have key :
   PCall Tryz.prog G0 152 [] (AV.agg [AV.str [(114 : UInt8), (101 : UInt8), (97 : UInt8), (115 : UInt8), (111 : UInt8), (110 : UInt8)], AV.fn (Fn.func 184) [] [], AV.str [(101 : UInt8), (97 : UInt8), (114 : UInt8), (108 : UInt8), (121
   : UInt8)], AV.fn (Fn.func 186) [] [], AV.str [(108 : UInt8), (97 : UInt8), (116 : UInt8), (101 : UInt8)], AV.fn (Fn.func 187) [] [], AV.str [(101 : UInt8), (118 : UInt8), (105 : UInt8), (100 : UInt8), (101 : UInt8), (110 : UInt8),
   (99 : UInt8), (101 : UInt8)], AV.fn (Fn.func 188) [] []]) ∧ (0 : Int) ≤ 0 ∧ (0 : Int) < (↑4 : Int) ∧ PCall Tryz.prog G0 184 [AV.agg (encRu r), AV.agg (encMv m), AV.agg (encXc x)] (AV.bool (noRe r x)) ∧ (noRe r x = true → AV.str
   [(114 : UInt8), (101 : UInt8), (97 : UInt8), (115 : UInt8), (111 : UInt8), (110 : UInt8)] = AV.str (wordV r m x)) ∧ (noRe r x = false → In64 ((0 : Int) + 1) ∧ (0 : Int) ≤ 0 + 1 ∧ (0 : Int) + 1 < (↑4 : Int) ∧ PCall Tryz.prog G0 186
   [AV.agg (encRu r), AV.agg (encMv m), AV.agg (encXc x)] (AV.bool (decide (x.day < m.day))) ∧ (decide (x.day < m.day) = true → AV.str [(101 : UInt8), (97 : UInt8), (114 : UInt8), (108 : UInt8), (121 : UInt8)] = AV.str (wordV r m x))
   ∧ (decide (x.day < m.day) = false → In64 ((0 : Int) + 1 + 1) ∧ (0 : Int) ≤ 0 + 1 + 1 ∧ (0 : Int) + 1 + 1 < (↑4 : Int) ∧ PCall Tryz.prog G0 187 [AV.agg (encRu r), AV.agg (encMv m), AV.agg (encXc x)] (AV.bool (decide (x.day > m.day +
   r.dl))) ∧ (decide (x.day > m.day + r.dl) = true → AV.str [(108 : UInt8), (97 : UInt8), (116 : UInt8), (101 : UInt8)] = AV.str (wordV r m x)) ∧ (decide (x.day > m.day + r.dl) = false → In64 ((0 : Int) + 1 + 1 + 1) ∧ (0 : Int) ≤ 0 +
   1 + 1 + 1 ∧ (0 : Int) + 1 + 1 + 1 < (↑4 : Int) ∧ PCall Tryz.prog G0 188 [AV.agg (encRu r), AV.agg (encMv m), AV.agg (encXc x)] (AV.bool (evB r x)) ∧ (evB r x = true → AV.str [(101 : UInt8), (118 : UInt8), (105 : UInt8), (100 :
   UInt8), (101 : UInt8), (110 : UInt8), (99 : UInt8), (101 : UInt8)] = AV.str (wordV r m x)) ∧ (evB r x = false → In64 ((0 : Int) + 1 + 1 + 1 + 1) ∧ AV.str [] = AV.str (wordV r m x))))) := by
    refine ⟨c152, (by omega), (by omega), (c184 r m x hl), fun h1 => ?_, fun h1 => ⟨(by unfold In64; omega), (by omega), (by omega), (c186 r m x), fun h2 => ?_, fun h2 => ⟨(by unfold In64; omega), (by omega), (by omega), (c187 r m x h), fun h3 => ?_, fun h3 => ⟨(by unfold In64; omega), (by omega), (by omega), (c188 r m x hk ha hb), fun h4 => ?_, fun h4 => ⟨(by unfold In64; omega), ?_⟩⟩⟩⟩⟩
    · unfold wordV
      simp only [*, if_true, if_false, Bool.false_eq_true]
      try rfl
    · unfold wordV
      simp only [*, if_true, if_false, Bool.false_eq_true]
      try rfl
    · unfold wordV
      simp only [*, if_true, if_false, Bool.false_eq_true]
      try rfl
    · unfold wordV
      simp only [*, if_true, if_false, Bool.false_eq_true]
      try rfl
    · unfold wordV
      simp only [*, if_true, if_false, Bool.false_eq_true]
      try rfl
  exact c_of Tryz.f124 ({ mkB (sp124 r m x) 124 [] noLa with cl := clL [12] }) (by kernel_rfl) (by kernel_rfl) (by kernel_rfl) (by kernel_rfl) key (by kernel_rfl)
end Go.Proofs.YtimgfogakgakhaaGreatDoor
namespace Go.Proofs.YtimgfogakgakhaaGreatDoor
open Go Go.Av Go.RowKit
def mv0 : Mv := ⟨[], [], [], 0, 0⟩
def mvAt (l : List Mv) (s : List UInt8) : Mv := if fiN (pM l s) l.length < l.length then l.getD (fiN (pM l s) l.length) default else mv0
def flatM (l : List Mv) : List AV := l.flatMap fun m => [.str m.fl, .agg (encMv m)]
def kvM (m : Mv) : AV × AV := (.str m.fl, .agg (encMv m))
theorem pairs_flat : ∀ l : List Mv, pairsV (flatM l) = l.map kvM
  | [] => rfl
  | m :: l => by
    show kvM m :: pairsV (flatM l) = _
    rw [pairs_flat l]
    rfl
def dis (l : List Mv) : Prop := ∀ i, i < l.length → ∀ j, j < i → ((l.getD j default).fl == (l.getD i default).fl) = false
theorem dis_of {r : Ru} {l : List Mv} (h : chkMR r l = 0) : dis l := by
  unfold chkMR at h
  obtain ⟨h1, h2⟩ := ite_z h
  intro i hi j hj
  have h7 := (scan_zero h2).1 i hi
  unfold fMv at h7
  rw [first_zero, first_zero] at h7
  have h8 := when_z (by decide) h7.2.1
  rw [fiI_dec, decide_eq_false_iff_not] at h8
  exact fi_all h8 j hj
theorem look_mv (s : List UInt8) : ∀ l : List Mv, mlook (.str s) (l.map kvM) = some (if (l.any fun m => m.fl == s) = true then some (.agg (encMv (mvAt l s))) else none)
  | [] => rfl
  | m :: l => by
    have ih := look_mv s l
    simp only [List.map_cons, kvM, mlook, eqCell, List.any_cons] at ih ⊢
    rw [beqL_comm s m.fl]
    by_cases h : (m.fl == s) = true
    · simp only [h, Bool.true_or, if_true]
      have e : fiN (pM (m :: l) s) (m :: l).length = 0 := fi_some (i := 0) (by intros; omega) (show ((m :: l).getD 0 default).fl == s by simpa using h) (by simp)
      rw [mvAt, e, if_pos (by simp)]
      rfl
    · have h' := Bool.eq_false_iff.2 h
      simp only [h', Bool.false_or]
      rw [ih]
      by_cases q : (l.any fun m => m.fl == s) = true
      · rw [if_pos q, if_pos q]
        have q2 := q
        rw [show l = l.take l.length from (List.take_length).symm, any_take (Nat.le_refl _), decide_eq_true_eq] at q2
        have e : ∀ n, fiN (pM (m :: l) s) (n + 1) = fiN (pM l s) n + 1 := fun n => by
          induction n with
          | zero =>
            simp only [fiN]
            rw [if_neg (by omega), if_neg (show ¬ pM (m :: l) s 0 = true from h)]
          | succ n ihn =>
            rw [fiN, ihn]
            show _ = (if fiN (pM l s) n < n then fiN (pM l s) n else if pM l s n then n else n + 1) + 1
            rw [show pM (m :: l) s (n + 1) = pM l s n from rfl]
            repeat' split
            all_goals omega
        have e1 : fiN (pM (m :: l) s) (m :: l).length = fiN (pM l s) l.length + 1 := e l.length
        have q3 : fiN (pM l s) l.length < l.length := q2
        rw [mvAt, mvAt, e1, if_pos q3, if_pos (by simp only [List.length_cons]; omega)]
        rfl
      · rw [if_neg q, if_neg q]
theorem any_mv (l : List Mv) (s : List UInt8) : (l.any fun m => m.fl == s) = decide (fiN (pM l s) l.length < l.length) := by
  have := any_take (l := l) (q := fun m => m.fl == s) (Nat.le_refl l.length)
  rw [List.take_length] at this
  exact this
theorem put_mv (m : Mv) : ∀ l : List Mv, (∀ x, x ∈ l → (x.fl == m.fl) = false) → mput (.str m.fl) (.agg (encMv m)) (l.map kvM) = some (l.map kvM ++ [kvM m])
  | [], _ => rfl
  | a :: l, h => by
    have h1 := h a (by simp)
    have ih := put_mv m l (fun x hx => h x (by simp [hx]))
    simp only [List.map_cons, kvM, mput, eqCell] at ih ⊢
    rw [beqL_comm m.fl a.fl, h1]
    simp only [ih, List.cons_append]
theorem put_at {l : List Mv} (hd : dis l) {g : Nat} (hg : g < l.length) : mput (.str (l.getD g default).fl) (.agg (encMv (l.getD g default))) ((l.take g).map kvM) = some ((l.take (g + 1)).map kvM) := by
  rw [put_mv _ _ (fun x hx => by
    obtain ⟨i, hi, rfl⟩ := mem_get hx
    rw [List.length_take] at hi
    have := hd g hg i (by omega)
    rw [show (l.take g).getD i default = l.getD i default by rw [List.getD_eq_getElem?_getD, List.getD_eq_getElem?_getD, List.getElem?_take, if_pos (by omega)]]
    exact this), List.take_add_one, List.map_append]
  simp [List.getD_eq_getElem?_getD, hg]
def la120 (l : List Mv) : LA := {
  pre := [.keep [3, 7, 8, 9] [0, 2], .bound 3], post := [.keep [3, 7, 8, 9] [0, 2], .bound 3]
  Gh := Nat
  st := fun i => ⟨[(3, .ref 2), (7, .sl 5 (l.map encMv)), (8, .i (l.map encMv).length), (9, .i i)], [(0, .pins 1), (2, .map ((l.take i).map kvM))], 3⟩
  ok := fun i => i ≤ (l.map encMv).length
  ms := fun i => (l.map encMv).length - i }
theorem w120 (l : List Mv) (hD : dis l) (hl : l.length ≤ 1000) : WCall Tryz.prog G0 120 [.sl 5 (l.map encMv)] [] (.ref 1) [.map (l.map kvM)] := by
  have key :
   (∃ (g : Nat), g ≤ (List.map encMv l).length ∧ AS.mk [(3, AV.ref 2), (7, AV.sl 5 (List.map encMv l)), (8, AV.i (↑(List.map encMv l).length : Int)), (9, AV.i 0)] [(0, ABlk.pins 1), (2, ABlk.map [])] 3 = AS.mk [(3, AV.ref 2), (7,
   AV.sl 5 (List.map encMv l)), (8, AV.i (↑(List.map encMv l).length : Int)), (9, AV.i (↑g : Int))] [(0, ABlk.pins 1), (2, ABlk.map (List.map kvM (List.take g l)))] 3) ∧ ∀ (g : Nat), g ≤ (List.map encMv l).length → (decide ((↑g : Int)
   < (↑(List.map encMv l).length : Int)) = true → (0 : Int) ≤ (↑g : Int) ∧ (↑g : Int) < (↑(List.map encMv l).length : Int) ∧ AV.agg (nthR (List.map encMv l) (↑g : Int).toNat) = AV.agg (encMv (l.getD (↑g : Int).toNat default)) ∧ (mput
   (AV.str (l.getD (↑g : Int).toNat default).fl) (AV.agg (encMv (l.getD (↑g : Int).toNat default))) (List.map kvM (List.take g l))).isSome = true ∧ In64 ((↑g : Int) + 1) ∧ ∃ (g' : Nat), g' ≤ (List.map encMv l).length ∧ (List.map encMv
   l).length - g' < (List.map encMv l).length - g ∧ AS.mk [(3, AV.ref 2), (7, AV.sl 5 (List.map encMv l)), (8, AV.i (↑(List.map encMv l).length : Int)), (9, AV.i ((↑g : Int) + 1))] [(0, ABlk.pins 1), (2, ABlk.map ((mput (AV.str
   (l.getD (↑g : Int).toNat default).fl) (AV.agg (encMv (l.getD (↑g : Int).toNat default))) (List.map kvM (List.take g l))).getD []))] 3 = AS.mk [(3, AV.ref 2), (7, AV.sl 5 (List.map encMv l)), (8, AV.i (↑(List.map encMv l).length :
   Int)), (9, AV.i (↑g' : Int))] [(0, ABlk.pins 1), (2, ABlk.map (List.map kvM (List.take g' l)))] 3) ∧ (decide ((↑g : Int) < (↑(List.map encMv l).length : Int)) = false → AV.ref 1 = AV.ref 1 ∧ [ABlk.map (List.map kvM (List.take g
   l))] = [ABlk.map (List.map kvM l)]) := by
    have hlm : (List.map encMv l).length = l.length := List.length_map _
    have : (List.map encMv l).length = l.length := by simp only [List.length_map]
    refine ⟨⟨0, by omega, rfl⟩, fun g hg => ⟨fun hd => ?_, fun hd => ?_⟩⟩
    · have hlt : g < l.length := by have h9 := of_decide_eq_true hd; have h8 := hg; (try simp only [List.length_map] at h8); (try simp only [List.length_map] at h9); omega
      try rw [show (↑g : Int).toNat = g from Int.toNat_natCast g]
      refine ⟨(by omega), (by omega), congrArg AV.agg (row_at encMv hlt), (by rw [put_at hD hlt]; rfl), (by unfold In64; omega), ⟨g + 1, by omega, by omega, ?_⟩⟩
      · rw [put_at hD hlt]; rfl
    · have hge : g = l.length := by have h9 := of_decide_eq_false hd; have h8 := hg; (try simp only [List.length_map] at h8); (try simp only [List.length_map] at h9); omega
      subst hge
      exact ⟨rfl, (by rw [List.take_length])⟩
  exact w_of Tryz.f120 (mkB spS 120 [(4, 1, rdL 5 encMv l 5 true)] (la1 (la120 l))) (by kernel_rfl) (by kernel_rfl) (by kernel_rfl) (by kernel_rfl) (by kernel_rfl) key (by kernel_rfl)
def laIx {α : Type} (enc : α → List AV) (k : Nat) (p : Nat → Bool) (l : List α) (s : List UInt8) : LA := {
  pre := [.keep [0, 1, 5] [], .bound 1], post := [.keep [0, 1, 5] [], .bound 1]
  Gh := Nat
  st := fun i => ⟨[(0, .sl k (l.map enc)), (1, .str s), (5, .i i)], [], 1⟩
  ok := fun i => i ≤ l.length ∧ ∀ j, j < i → p j = false
  ms := fun i => l.length - i }
def pX (l : List Xc) (s : List UInt8) (i : Nat) : Bool := (l.getD i default).fl == s
theorem c121 (l : List Xc) (s : List UInt8) (hl : l.length ≤ 1000) : PCall Tryz.prog G0 121 [.sl 11 (l.map encXc), .str s] (.i (fiI (pX l s) l.length)) := by
  have key :
   (∃ (g : Nat), (g ≤ l.length ∧ ∀ (j : Nat), j < g → pX l s j = false) ∧ AS.mk [(0, AV.sl 11 (List.map encXc l)), (1, AV.str s), (5, AV.i 0)] [] 1 = AS.mk [(0, AV.sl 11 (List.map encXc l)), (1, AV.str s), (5, AV.i (↑g : Int))] [] 1)
   ∧ ∀ (g : Nat), (g ≤ l.length ∧ ∀ (j : Nat), j < g → pX l s j = false) → (decide ((↑g : Int) < (↑(List.map encXc l).length : Int)) = true → (0 : Int) ≤ (↑g : Int) ∧ (↑g : Int) < (↑(List.map encXc l).length : Int) ∧ nth (nthR
   (List.map encXc l) (↑g : Int).toNat) 0 = AV.str (l.getD (↑g : Int).toNat default).fl ∧ (((l.getD (↑g : Int).toNat default).fl == s) = true → AV.i (↑g : Int) = AV.i (fiI (pX l s) l.length)) ∧ (((l.getD (↑g : Int).toNat default).fl
   == s) = false → In64 ((↑g : Int) + 1) ∧ ∃ (g' : Nat), (g' ≤ l.length ∧ ∀ (j : Nat), j < g' → pX l s j = false) ∧ l.length - g' < l.length - g ∧ AS.mk [(0, AV.sl 11 (List.map encXc l)), (1, AV.str s), (5, AV.i ((↑g : Int) + 1))] []
   1 = AS.mk [(0, AV.sl 11 (List.map encXc l)), (1, AV.str s), (5, AV.i (↑g' : Int))] [] 1)) ∧ (decide ((↑g : Int) < (↑(List.map encXc l).length : Int)) = false → AV.i (-1) = AV.i (fiI (pX l s) l.length)) := by
    have hlm : (List.map encXc l).length = l.length := List.length_map _
    have : (List.map encXc l).length = l.length := by simp only [List.length_map]
    refine ⟨⟨0, ⟨by omega, by intros; omega⟩, rfl⟩, fun g ⟨hg, ha⟩ => ⟨fun hd => ?_, fun hd => ?_⟩⟩
    · have hlt : g < l.length := by have h9 := of_decide_eq_true hd; have h8 := hg; (try simp only [List.length_map] at h8); (try simp only [List.length_map] at h9); omega
      try rw [show (↑g : Int).toNat = g from Int.toNat_natCast g]
      refine ⟨(by omega), (by omega), congrArg (fun r => nth r 0) (row_at encXc hlt), fun h1 => ?_, fun h1 => ⟨(by unfold In64; omega), ⟨g + 1, ⟨by omega, all_ext ha h1⟩, by omega, rfl⟩⟩⟩
      · rw [fiI, fi_some ha (show pX l s g = true from h1) hlt, if_neg (by omega)]
    · have hge : g = l.length := by have h9 := of_decide_eq_false hd; have h8 := hg; (try simp only [List.length_map] at h8); (try simp only [List.length_map] at h9); omega
      subst hge
      rw [fiI, fi_none ha, if_pos rfl]
  exact c_of Tryz.f121 (mkB spS 121 [(4, 4, rdN fun i => (l.getD i default).fl)] (la1 (laIx encXc 11 (pX l s) l s))) (by kernel_rfl) (by kernel_rfl) (by kernel_rfl) (by kernel_rfl) key (by kernel_rfl)
theorem c48 (l : List Xc) (hl : l.length ≤ 1000) : PCall Tryz.prog G0 48 [.sl 11 (l.map encXc)] (.fresh 95 11 (l.map encXc)) := by
  have key :
   (∃ (g : Nat), g ≤ (List.map encXc l).length ∧ AS.mk [(3, AV.own 1 0), (6, AV.sl 11 (List.map encXc l)), (7, AV.i (↑(List.map encXc l).length : Int)), (8, AV.i 0)] [(1, ABlk.buf 95 11 [])] 2 = AS.mk [(3, AV.own 1 (List.map encXc
   (List.take g l)).length), (6, AV.sl 11 (List.map encXc l)), (7, AV.i (↑(List.map encXc l).length : Int)), (8, AV.i (↑g : Int))] [(1, ABlk.buf 95 11 (List.map encXc (List.take g l)))] 2) ∧ ∀ (g : Nat), g ≤ (List.map encXc l).length
   → (decide ((↑g : Int) < (↑(List.map encXc l).length : Int)) = true → (0 : Int) ≤ (↑g : Int) ∧ (↑g : Int) < (↑(List.map encXc l).length : Int) ∧ AV.agg (nthR (List.map encXc l) (↑g : Int).toNat) = AV.agg (encXc (l.getD (↑g :
   Int).toNat default)) ∧ (List.map encXc (List.take g l)).length + 1 ≤ 9223372036854775807 ∧ ((List.map encXc (List.take g l)).length + 1) * 48 ≤ 140737488355328 ∧ In64 ((↑g : Int) + 1) ∧ ∃ (g' : Nat), g' ≤ (List.map encXc l).length
   ∧ (List.map encXc l).length - g' < (List.map encXc l).length - g ∧ AS.mk [(3, AV.own 1 ((List.map encXc (List.take g l)).length + 1)), (6, AV.sl 11 (List.map encXc l)), (7, AV.i (↑(List.map encXc l).length : Int)), (8, AV.i ((↑g :
   Int) + 1))] [(1, ABlk.buf 95 11 (List.map encXc (List.take g l) ++ [(encXc (l.getD (↑g : Int).toNat default))]))] 2 = AS.mk [(3, AV.own 1 (List.map encXc (List.take g' l)).length), (6, AV.sl 11 (List.map encXc l)), (7, AV.i
   (↑(List.map encXc l).length : Int)), (8, AV.i (↑g' : Int))] [(1, ABlk.buf 95 11 (List.map encXc (List.take g' l)))] 2) ∧ (decide ((↑g : Int) < (↑(List.map encXc l).length : Int)) = false → AV.fresh 95 11 (List.map encXc (List.take
   g l)) = AV.fresh 95 11 (List.map encXc l)) := by
    have : (List.map encXc l).length = l.length := by simp only [List.length_map]
    refine ⟨⟨0, by omega, rfl⟩, fun g hg => ⟨fun hd => ?_, fun hd => ?_⟩⟩
    · have hlt : g < l.length := by have h9 := of_decide_eq_true hd; have h8 := hg; (try simp only [List.length_map] at h8); (try simp only [List.length_map] at h9); omega
      have : (List.map encXc (List.take g l)).length = g := by simp only [List.length_map, List.length_take]; omega
      try rw [show (↑g : Int).toNat = g from Int.toNat_natCast g]
      refine ⟨(by omega), (by omega), congrArg AV.agg (row_at encXc hlt), (by omega), (by omega), (by unfold In64; omega), ⟨g + 1, by omega, by omega, ?_⟩⟩
      · first | (rw [← take_succ_map _ _ hlt, List.length_append]; rfl) | (rw [← take_succ _ hlt, List.length_append]; rfl)
    · have hge : g = l.length := by have h9 := of_decide_eq_false hd; have h8 := hg; (try simp only [List.length_map] at h8); (try simp only [List.length_map] at h9); omega
      subst hge
      exact (by rw [List.take_length])
  exact c_of Tryz.f48 (fzB (mkB spS 48 [(4, 1, rdL 11 encXc l 11 true)] (la1 (laConv encXc 11 95 l)))) (by kernel_rfl) (by kernel_rfl) (by kernel_rfl) (by kernel_rfl) key (by kernel_rfl)
def okX (x : Xc) : Bool := if decide ((x.fl.length : Int) > 40) then false else !decide ((x.re.length : Int) > 40)
def shX (l : List Xc) : Bool := if (if decide ((l.length : Int) > 12) then (l.length : Int) != 257 else false) then false else l.all okX
theorem shX_f {m : Xc} (h : (if decide ((m.fl.length : Int) > 40) = true then true else decide ((m.re.length : Int) > 40)) = true) : okX m = false := by
  unfold okX
  revert h
  cases decide ((m.fl.length : Int) > 40) <;> cases decide ((m.re.length : Int) > 40) <;> simp
theorem shX_t {m : Xc} (h : (if decide ((m.fl.length : Int) > 40) = true then true else decide ((m.re.length : Int) > 40)) = false) : okX m = true := by
  unfold okX
  revert h
  cases decide ((m.fl.length : Int) > 40) <;> cases decide ((m.re.length : Int) > 40) <;> simp
def la118 (l : List Xc) : LA := {
  pre := [.keep [0, 3] [], .bound 1], post := [.keep [0, 3] [], .bound 1]
  Gh := Nat
  st := fun i => ⟨[(0, .sl 11 (l.map encXc)), (3, .i i)], [], 1⟩
  ok := fun i => i ≤ l.length ∧ ∀ j, j < i → okX (l.getD j default) = true
  ms := fun i => l.length - i }
theorem c118 (l : List Xc) (hl : l.length ≤ maxLen) : PCall Tryz.prog G0 118 [.sl 11 (l.map encXc)] (.bool (shX l)) := by
  have key :
   (decide ((↑(List.map encXc l).length : Int) > 12) = true → decide ((↑(List.map encXc l).length : Int) > 12) = true) ∧ (decide ((↑(List.map encXc l).length : Int) > 12) = true → decide ((↑(List.map encXc l).length : Int) > 12) =
   true) ∧ (decide ((↑(List.map encXc l).length : Int) > 12) = true → decide ((↑(List.map encXc l).length : Int) > 12) = true) ∧ ((if decide ((↑(List.map encXc l).length : Int) > 12) = true then (↑(List.map encXc l).length : Int) !=
   257 else false) = true → AV.bool false = AV.bool (shX l)) ∧ ((if decide ((↑(List.map encXc l).length : Int) > 12) = true then (↑(List.map encXc l).length : Int) != 257 else false) = false → (∃ (g : Nat), (g ≤ l.length ∧ ∀ (j :
   Nat), j < g → okX (l.getD j default) = true) ∧ AS.mk [(0, AV.sl 11 (List.map encXc l)), (3, AV.i 0)] [] 1 = AS.mk [(0, AV.sl 11 (List.map encXc l)), (3, AV.i (↑g : Int))] [] 1) ∧ ∀ (g : Nat), (g ≤ l.length ∧ ∀ (j : Nat), j < g →
   okX (l.getD j default) = true) → (decide ((↑g : Int) < (↑(List.map encXc l).length : Int)) = true → (0 : Int) ≤ (↑g : Int) ∧ (↑g : Int) < (↑(List.map encXc l).length : Int) ∧ ((!decide ((↑(l.getD (↑g : Int).toNat default).fl.length
   : Int) > 40)) = true → (!decide ((↑(l.getD (↑g : Int).toNat default).fl.length : Int) > 40)) = true) ∧ ((!decide ((↑(l.getD (↑g : Int).toNat default).fl.length : Int) > 40)) = true → (!decide ((↑(l.getD (↑g : Int).toNat
   default).fl.length : Int) > 40)) = true) ∧ ((!decide ((↑(l.getD (↑g : Int).toNat default).fl.length : Int) > 40)) = true → (0 : Int) ≤ (↑g : Int)) ∧ ((!decide ((↑(l.getD (↑g : Int).toNat default).fl.length : Int) > 40)) = true →
   (↑g : Int) < (↑(List.map encXc l).length : Int)) ∧ ((!decide ((↑(l.getD (↑g : Int).toNat default).fl.length : Int) > 40)) = true → (!decide ((↑(l.getD (↑g : Int).toNat default).fl.length : Int) > 40)) = true) ∧ ((!decide ((↑(l.getD
   (↑g : Int).toNat default).fl.length : Int) > 40)) = true → (!decide ((↑(l.getD (↑g : Int).toNat default).fl.length : Int) > 40)) = true) ∧ ((!decide ((↑(l.getD (↑g : Int).toNat default).fl.length : Int) > 40)) = true → (!decide
   ((↑(l.getD (↑g : Int).toNat default).fl.length : Int) > 40)) = true) ∧ ((!decide ((↑(l.getD (↑g : Int).toNat default).fl.length : Int) > 40)) = true → (!decide ((↑(l.getD (↑g : Int).toNat default).fl.length : Int) > 40)) = true) ∧
   (decide ((↑(l.getD (↑g : Int).toNat default).fl.length : Int) > 40) = false → (!decide ((↑(l.getD (↑g : Int).toNat default).fl.length : Int) > 40)) = true) ∧ nth (nthR (List.map encXc l) (↑g : Int).toNat) 0 = AV.str (l.getD (↑g :
   Int).toNat default).fl ∧ impB (!decide ((↑(l.getD (↑g : Int).toNat default).fl.length : Int) > 40)) (nth (nthR (List.map encXc l) (↑g : Int).toNat) 1 = AV.str (l.getD (↑g : Int).toNat default).re) ∧ ((if decide ((↑(l.getD (↑g :
   Int).toNat default).fl.length : Int) > 40) = true then true else decide ((↑(l.getD (↑g : Int).toNat default).re.length : Int) > 40)) = true → AV.bool false = AV.bool (shX l)) ∧ ((if decide ((↑(l.getD (↑g : Int).toNat
   default).fl.length : Int) > 40) = true then true else decide ((↑(l.getD (↑g : Int).toNat default).re.length : Int) > 40)) = false → In64 ((↑g : Int) + 1) ∧ ∃ (g' : Nat), (g' ≤ l.length ∧ ∀ (j : Nat), j < g' → okX (l.getD j default)
   = true) ∧ l.length - g' < l.length - g ∧ AS.mk [(0, AV.sl 11 (List.map encXc l)), (3, AV.i ((↑g : Int) + 1))] [] 1 = AS.mk [(0, AV.sl 11 (List.map encXc l)), (3, AV.i (↑g' : Int))] [] 1)) ∧ (decide ((↑g : Int) < (↑(List.map encXc
   l).length : Int)) = false → AV.bool true = AV.bool (shX l))) := by
    have hlm : (List.map encXc l).length = l.length := List.length_map _
    have hM : maxLen ≤ 9223372036854775807 := by unfold maxLen; omega
    have : (List.map encXc l).length = l.length := by simp only [List.length_map]
    refine ⟨fun h => h, fun h => h, fun h => h, fun h1 => ?_, fun h1 => ⟨⟨0, ⟨by omega, by intros; omega⟩, rfl⟩, fun g ⟨hg, ha⟩ => ⟨fun hd => ?_, fun hd => ?_⟩⟩⟩
    · first
        | (rw [shX, ← hlm, if_pos h1]; done)
        | (rw [shX, ← hlm, if_neg (by rw [h1]; decide), all_f hlt (shX_f h2)])
    · have hlt : g < l.length := by have h9 := of_decide_eq_true hd; have h8 := hg; (try simp only [List.length_map] at h8); (try simp only [List.length_map] at h9); omega
      try rw [show (↑g : Int).toNat = g from Int.toNat_natCast g]
      refine ⟨(by omega), (by omega), fun h => h, fun h => h, fun _ => by omega, fun _ => by omega, fun h => h, fun h => h, fun h => h, fun h => h, fun h => by first | exact h | (rw [h]; rfl) | simp_all, congrArg (fun r => nth r 0) (row_at encXc hlt), impB_iff.2 fun hb => congrArg (fun r => nth r 1) (row_at encXc hlt), fun h2 => ?_, fun h2 => ⟨(by unfold In64; omega), ⟨g + 1, ⟨by omega, all_ext ha (shX_t h2)⟩, by omega, rfl⟩⟩⟩
      · first
          | (rw [shX, ← hlm, if_pos h1]; done)
          | (rw [shX, ← hlm, if_neg (by rw [h1]; decide), all_f hlt (shX_f h2)])
    · have hge : g = l.length := by have h9 := of_decide_eq_false hd; have h8 := hg; (try simp only [List.length_map] at h8); (try simp only [List.length_map] at h9); omega
      subst hge
      rw [shX, ← hlm, if_neg (by rw [h1]; decide), all_t ha]
  exact c_of Tryz.f118 (mkB spS 118 [(6, 4, rdL 11 encXc l 1 false), (6, 12, rdL 11 encXc l 1 false)] (la1 (la118 l))) (by kernel_rfl) (by kernel_rfl) (by kernel_rfl) (by kernel_rfl) key (by kernel_rfl)
def eX (r : Ru) (l : List Mv) (x : List Xc) : Int := sFirst [chkMR r l, sWhen (decide ((x.length : Int) > 256)) 5]
def fXs (l : List Mv) (x : List Xc) (i : Nat) : Int := sFirst [sWhen (!decide (fiN (pM l (x.getD i default).fl) l.length < l.length)) 10, sWhen (hasK (knS ((x.map Xc.fl).take i)) (.str (x.getD i default).fl)) 9, sWhen (!sName (x.getD i default).re) 8, sWithin (x.getD i default).day 0 100000]
def fXr (l : List Mv) (x : List Xc) (i : Nat) : Int := sFirst [sWhen (decide (fiI (pM l (x.getD i default).fl) l.length < 0)) 10, sWhen (decide (fiI (pX x (x.getD i default).fl) i ≥ 0)) 9, sWhen (!sName (x.getD i default).re) 8, sWithin (x.getD i default).day 0 100000]
def exS (r : Ru) (l : List Mv) (x : List Xc) : Int := if eX r l x != 0 then eX r l x else sScan (fXs l x) x.length 0
def exR (r : Ru) (l : List Mv) (x : List Xc) : Int := if eX r l x != 0 then eX r l x else sScan (fXr l x) x.length 0
theorem ex_eq (r : Ru) (l : List Mv) (x : List Xc) : exS r l x = exR r l x := by
  unfold exS exR
  congr 1
  refine scan_same fun k hk => ?_
  unfold fXs fXr
  have e : (x.map Xc.fl).length = x.length := List.length_map _
  rw [not_found, has_s (by omega), fi_congr (p := pS (x.map Xc.fl) _) (q := pX x _) (fun j hj => by unfold pS pX; rw [getD_map (by omega)]), ← fiI_dec]
def rdM (l : List Mv) (ok : Bool) : BL → List AV → Option AV := fun bs ins => match ins with
  | [.ref id, .str s] => match blkOf bs id with
    | .map _ => some (if ok then .tup [.agg (encMv (mvAt l s)), .bool (decide (fiN (pM l s) l.length < l.length))] else .agg (encMv (mvAt l s)))
    | _ => none
  | _ => none
theorem rdM_ok (l : List Mv) (s : List UInt8) : lookV true (.agg [.str [], .str [], .str [], .i 0, .i 0]) (mlook (.str s) (pairsV (flatM l))) = .tup [.agg (encMv (mvAt l s)), .bool (decide (fiN (pM l s) l.length < l.length))] ∧ lookV false (.agg [.str [], .str [], .str [], .i 0, .i 0]) (mlook (.str s) (pairsV (flatM l))) = .agg (encMv (mvAt l s)) ∧ (mlook (.str s) (pairsV (flatM l))).isSome = true := by
  rw [pairs_flat, look_mv, any_mv]
  by_cases h : fiN (pM l s) l.length < l.length
  · rw [decide_eq_true h, if_pos rfl]
    exact ⟨rfl, rfl, rfl⟩
  · rw [decide_eq_false h, if_neg (by decide)]
    have e : mvAt l s = mv0 := if_neg h
    rw [e]
    exact ⟨rfl, rfl, rfl⟩
def hs120 (l : List Mv) : Nat → List AV → List ABlk → Option AV
  | 120, _, _ => some (.gv true (.tup [.ref 1, .tup (flatM l)]))
  | _, _, _ => none
theorem w120r {r : Ru} {l : List Mv} (h : chkMR r l = 0) (hl : l.length ≤ 1000) : WCall Tryz.prog G0 120 [.sl 5 (l.map encMv)] [] (.ref 1) [.map (pairsV (flatM l))] := by
  rw [pairs_flat]
  exact w120 l (dis_of h) hl
def sp54 (r : Ru) (l : List Mv) : Nat → List AV → Option AV
  | 42, _ => some (.i (chkMR r l))
  | n, y => spS n y
def la54 (r : Ru) (l : List Mv) (x : List Xc) : LA := {
  pre := [.keep [3, 8, 9, 30, 31, 32] [16, 17], .bound 18], post := [.keep [3, 8, 9, 30, 31, 32] [16, 17], .bound 18]
  Gh := Nat
  st := fun i => ⟨[(3, .elt 18 [encRu r] 0 0), (8, .ref 16), (9, .ref 17), (30, .sl 11 (x.map encXc)), (31, .i (x.map encXc).length), (32, .i i)], [(16, .map (pairsV (flatM l))), (17, .map (knS ((x.map Xc.fl).take i)))], 18⟩
  ok := fun i => i ≤ x.length ∧ ∀ j, j < i → fXs l x j = 0
  ms := fun i => x.length - i }
theorem c54 (r : Ru) (l : List Mv) (x : List Xc) (hS : Sh r l) (hx : x.length ≤ 1000) (hX : ∀ y, y ∈ x → y.re.length ≤ 1000) : PCall Tryz.prog G0 54 [.agg (encRu r), .sl 5 (l.map encMv), .sl 11 (x.map encXc)] (.i (exS r l x)) := by
  have key :
   PCall Tryz.prog G0 42 [AV.agg (encRu r), AV.sl 5 (List.map encMv l)] (AV.i (chkMR r l)) ∧ PCall Tryz.prog G0 95 [AV.bool (decide ((↑(List.map encXc x).length : Int) > 256)), AV.i 5] (AV.i (sWhen (decide ((↑(List.map encXc x).length
   : Int) > 256)) (5 : Int))) ∧ PCall Tryz.prog G0 87 [AV.sl 1 [[AV.i (chkMR r l)], [AV.i (sWhen (decide ((↑(List.map encXc x).length : Int) > 256)) (5 : Int))]]] (AV.i (sFirst [hdI [AV.i (chkMR r l)], hdI [AV.i (sWhen (decide
   ((↑(List.map encXc x).length : Int) > 256)) (5 : Int))]])) ∧ ((sFirst [hdI [AV.i (chkMR r l)], hdI [AV.i (sWhen (decide ((↑(List.map encXc x).length : Int) > 256)) (5 : Int))]] != 0) = true → AV.i (sFirst [hdI [AV.i (chkMR r l)],
   hdI [AV.i (sWhen (decide ((↑(List.map encXc x).length : Int) > 256)) (5 : Int))]]) = AV.i (exS r l x)) ∧ ((sFirst [hdI [AV.i (chkMR r l)], hdI [AV.i (sWhen (decide ((↑(List.map encXc x).length : Int) > 256)) (5 : Int))]] != 0) =
   false → WCall Tryz.prog G0 120 [AV.sl 5 (List.map encMv l)] [] (AV.ref 1) [ABlk.map (pairsV (flatM l))] ∧ (∃ (g : Nat), (g ≤ x.length ∧ ∀ (j : Nat), j < g → fXs l x j = (0 : Int)) ∧ AS.mk [(3, AV.elt 18 [(encRu r)] 0 0), (8, AV.ref
   16), (9, AV.ref 17), (30, AV.sl 11 (List.map encXc x)), (31, AV.i (↑(List.map encXc x).length : Int)), (32, AV.i 0)] [(16, ABlk.map (pairsV (flatM l))), (17, ABlk.map [])] 18 = AS.mk [(3, AV.elt 18 [(encRu r)] 0 0), (8, AV.ref 16),
   (9, AV.ref 17), (30, AV.sl 11 (List.map encXc x)), (31, AV.i (↑(List.map encXc x).length : Int)), (32, AV.i (↑g : Int))] [(16, ABlk.map (pairsV (flatM l))), (17, ABlk.map (knS (List.take g (List.map Xc.fl x))))] 18) ∧ ∀ (g : Nat),
   (g ≤ x.length ∧ ∀ (j : Nat), j < g → fXs l x j = (0 : Int)) → (decide ((↑g : Int) < (↑(List.map encXc x).length : Int)) = true → (0 : Int) ≤ (↑g : Int) ∧ (↑g : Int) < (↑(List.map encXc x).length : Int) ∧ AV.agg (nthR (List.map
   encXc x) (↑g : Int).toNat) = AV.agg (encXc (x.getD (↑g : Int).toNat default)) ∧ (mlook (AV.str (x.getD (↑g : Int).toNat default).fl) (pairsV (flatM l))).isSome = true ∧ lookV true (AV.agg [AV.str [], AV.str [], AV.str [], AV.i 0,
   AV.i 0]) (mlook (AV.str (x.getD (↑g : Int).toNat default).fl) (pairsV (flatM l))) = AV.tup [AV.agg (encMv (mvAt l (x.getD (↑g : Int).toNat default).fl)), AV.bool (decide (fiN (pM l (x.getD (↑g : Int).toNat default).fl) l.length <
   l.length))] ∧ (mlook (AV.str (x.getD (↑g : Int).toNat default).fl) (knS (List.take g (List.map Xc.fl x)))).isSome = true ∧ PCall Tryz.prog G0 95 [AV.bool !decide (fiN (pM l (x.getD (↑g : Int).toNat default).fl) l.length <
   l.length), AV.i 10] (AV.i (sWhen (!decide (fiN (pM l (x.getD (↑g : Int).toNat default).fl) l.length < l.length)) (10 : Int))) ∧ lookV false (AV.bool false) (mlook (AV.str (x.getD (↑g : Int).toNat default).fl) (knS (List.take g
   (List.map Xc.fl x)))) = AV.bool (hasK (knS (List.take g (List.map Xc.fl x))) (AV.str (x.getD (↑g : Int).toNat default).fl)) ∧ PCall Tryz.prog G0 95 [AV.bool (hasK (knS (List.take g (List.map Xc.fl x))) (AV.str (x.getD (↑g :
   Int).toNat default).fl)), AV.i 9] (AV.i (sWhen (hasK (knS (List.take g (List.map Xc.fl x))) (AV.str (x.getD (↑g : Int).toNat default).fl)) (9 : Int))) ∧ PCall Tryz.prog G0 113 [AV.str (x.getD (↑g : Int).toNat default).re] (AV.i
   (sWhen (!sName (x.getD (↑g : Int).toNat default).re) (8 : Int))) ∧ PCall Tryz.prog G0 92 [AV.i (x.getD (↑g : Int).toNat default).day, AV.i 0, AV.i 100000] (AV.i (sWithin (x.getD (↑g : Int).toNat default).day (0 : Int) (100000 :
   Int))) ∧ PCall Tryz.prog G0 87 [AV.sl 1 [[AV.i (sWhen (!decide (fiN (pM l (x.getD (↑g : Int).toNat default).fl) l.length < l.length)) (10 : Int))], [AV.i (sWhen (hasK (knS (List.take g (List.map Xc.fl x))) (AV.str (x.getD (↑g :
   Int).toNat default).fl)) (9 : Int))], [AV.i (sWhen (!sName (x.getD (↑g : Int).toNat default).re) (8 : Int))], [AV.i (sWithin (x.getD (↑g : Int).toNat default).day (0 : Int) (100000 : Int))]]] (AV.i (sFirst [hdI [AV.i (sWhen
   (!decide (fiN (pM l (x.getD (↑g : Int).toNat default).fl) l.length < l.length)) (10 : Int))], hdI [AV.i (sWhen (hasK (knS (List.take g (List.map Xc.fl x))) (AV.str (x.getD (↑g : Int).toNat default).fl)) (9 : Int))], hdI [AV.i
   (sWhen (!sName (x.getD (↑g : Int).toNat default).re) (8 : Int))], hdI [AV.i (sWithin (x.getD (↑g : Int).toNat default).day (0 : Int) (100000 : Int))]])) ∧ ((sFirst [hdI [AV.i (sWhen (!decide (fiN (pM l (x.getD (↑g : Int).toNat
   default).fl) l.length < l.length)) (10 : Int))], hdI [AV.i (sWhen (hasK (knS (List.take g (List.map Xc.fl x))) (AV.str (x.getD (↑g : Int).toNat default).fl)) (9 : Int))], hdI [AV.i (sWhen (!sName (x.getD (↑g : Int).toNat
   default).re) (8 : Int))], hdI [AV.i (sWithin (x.getD (↑g : Int).toNat default).day (0 : Int) (100000 : Int))]] != 0) = true → AV.i (sFirst [hdI [AV.i (sWhen (!decide (fiN (pM l (x.getD (↑g : Int).toNat default).fl) l.length <
   l.length)) (10 : Int))], hdI [AV.i (sWhen (hasK (knS (List.take g (List.map Xc.fl x))) (AV.str (x.getD (↑g : Int).toNat default).fl)) (9 : Int))], hdI [AV.i (sWhen (!sName (x.getD (↑g : Int).toNat default).re) (8 : Int))], hdI
   [AV.i (sWithin (x.getD (↑g : Int).toNat default).day (0 : Int) (100000 : Int))]]) = AV.i (exS r l x)) ∧ ((sFirst [hdI [AV.i (sWhen (!decide (fiN (pM l (x.getD (↑g : Int).toNat default).fl) l.length < l.length)) (10 : Int))], hdI
   [AV.i (sWhen (hasK (knS (List.take g (List.map Xc.fl x))) (AV.str (x.getD (↑g : Int).toNat default).fl)) (9 : Int))], hdI [AV.i (sWhen (!sName (x.getD (↑g : Int).toNat default).re) (8 : Int))], hdI [AV.i (sWithin (x.getD (↑g :
   Int).toNat default).day (0 : Int) (100000 : Int))]] != 0) = false → (mput (AV.str (x.getD (↑g : Int).toNat default).fl) (AV.bool true) (knS (List.take g (List.map Xc.fl x)))).isSome = true ∧ In64 ((↑g : Int) + 1) ∧ ∃ (g' : Nat),
   (g' ≤ x.length ∧ ∀ (j : Nat), j < g' → fXs l x j = (0 : Int)) ∧ x.length - g' < x.length - g ∧ AS.mk [(3, AV.elt 18 [(encRu r)] 0 0), (8, AV.ref 16), (9, AV.ref 17), (30, AV.sl 11 (List.map encXc x)), (31, AV.i (↑(List.map encXc
   x).length : Int)), (32, AV.i ((↑g : Int) + 1))] [(16, ABlk.map (pairsV (flatM l))), (17, ABlk.map ((mput (AV.str (x.getD (↑g : Int).toNat default).fl) (AV.bool true) (knS (List.take g (List.map Xc.fl x)))).getD []))] 18 = AS.mk
   [(3, AV.elt 18 [(encRu r)] 0 0), (8, AV.ref 16), (9, AV.ref 17), (30, AV.sl 11 (List.map encXc x)), (31, AV.i (↑(List.map encXc x).length : Int)), (32, AV.i (↑g' : Int))] [(16, ABlk.map (pairsV (flatM l))), (17, ABlk.map (knS
   (List.take g' (List.map Xc.fl x))))] 18)) ∧ (decide ((↑g : Int) < (↑(List.map encXc x).length : Int)) = false → AV.i 0 = AV.i (exS r l x))) := by
    have hlm : (List.map encXc x).length = x.length := List.length_map _
    have heX : sFirst [hdI [AV.i (chkMR r l)], hdI [AV.i (sWhen (decide ((↑(List.map encXc x).length : Int) > (256 : Int))) (5 : Int))]] = eX r l x := by rw [hlm]; rfl
    rw [heX]
    have : (List.map encXc x).length = x.length := by simp only [List.length_map]
    refine ⟨(c42r hS), (c95 _ _), (by have := c87 [chkMR r l, sWhen (decide ((↑(List.map encXc x).length : Int) > (256 : Int))) 5] (by simp); rw [← heX]; exact this), fun h1 => ?_, fun h1 => ?_⟩
    · rw [exS, if_pos h1]
    · have h0 : chkMR r l = 0 := by
        have hz := bne_f h1
        unfold eX at hz
        rw [first_zero] at hz
        exact hz.1
      refine ⟨(w120r h0 hS.k), ⟨⟨0, ⟨by omega, by intros; omega⟩, rfl⟩, fun g ⟨hg, ha⟩ => ⟨fun hd => ?_, fun hd => ?_⟩⟩⟩
      · have hlt : g < x.length := by have h9 := of_decide_eq_true hd; have h8 := hg; (try simp only [List.length_map] at h8); (try simp only [List.length_map] at h9); omega
        try rw [show (↑g : Int).toNat = g from Int.toNat_natCast g]
        have hgl : g < (x.map Xc.fl).length := by rw [List.length_map]; exact hlt
        have hfl : (x.map Xc.fl).getD g default = (x.getD g default).fl := getD_map hlt
        have hput : fXs l x g = 0 → mput (.str (x.getD g default).fl) (.bool true) (knS ((x.map Xc.fl).take g)) = some (knS ((x.map Xc.fl).take (g + 1))) := fun hz => by
          unfold fXs at hz
          rw [first_zero, first_zero] at hz
          have := put_nm hgl (by rw [hfl]; exact when_z (by decide) hz.2.1)
          rw [hfl] at this
          exact this
        try rw [show (↑g : Int).toNat = g from Int.toNat_natCast g]
        refine ⟨(by omega), (by omega), congrArg AV.agg (row_at encXc hlt), (rdM_ok l _).2.2, (rdM_ok l _).1, look_some (fun s => s) _ _, (c95 _ _), look_key (fun s => s) _ _, (c95 _ _), (c113 _ (by have := hX _ (getD_mem hlt); omega)), (c92 _ _ _), (c87 [_, _, _, _] (by simp)), fun h2 => ?_, fun h2 => ?_⟩
        · have hne : fXs l x g ≠ 0 := bne_t h2
          refine av_int ?_
          rw [exS, if_neg (by rw [h1]; decide), scan_hit hlt ha hne]; rfl
        · have hz : fXs l x g = 0 := bne_f h2
          have hp := hput hz
          refine ⟨(by rw [hp]; rfl), (by unfold In64; omega), ⟨g + 1, ⟨by omega, all_ext ha hz⟩, by omega, ?_⟩⟩
          · rw [hp]; rfl
      · have hge : g = x.length := by have h9 := of_decide_eq_false hd; have h8 := hg; (try simp only [List.length_map] at h8); (try simp only [List.length_map] at h9); omega
        subst hge
        rw [exS, if_neg (by rw [h1]; decide), scan_end ha]
  exact c_of Tryz.f54 ({ modA 8 3 (fun a => { a with rdb := rdM l true }) (modA 9 6 (fun a => { a with rdb := rdK }) (fzB (mkB (sp54 r l) 54 [(7, 1, rdL 11 encXc x 11 true)] (la1 (la54 r l x))))) with hs := hs120 l }) (by kernel_rfl) (by kernel_rfl) (by kernel_rfl) (by kernel_rfl) key (by kernel_rfl)
end Go.Proofs.YtimgfogakgakhaaGreatDoor
namespace Go.Proofs.YtimgfogakgakhaaGreatDoor
open Go Go.Av Go.RowKit
theorem ru_more {r : Ru} (h : chkR r = 0) : (0 ≤ r.dl ∧ r.dl ≤ 60) ∧ (0 ≤ r.fi ∧ r.fi ≤ 100000) ∧ r.rs.length ≤ 8 := by
  unfold chkR at h
  obtain ⟨h1, h2⟩ := ite_z h
  obtain ⟨-, h3⟩ := scan_zero h2
  obtain ⟨-, h4⟩ := gt5 h3
  obtain ⟨-, h5⟩ := scan_zero h4
  obtain ⟨h8, h6⟩ := ite_z h5
  obtain ⟨-, h7⟩ := scan_zero h6
  unfold e6 at h7
  rw [first_zero, first_zero, first_zero, within_zero, within_zero, within_zero] at h7
  unfold e4 at h8
  rw [first_zero, first_zero] at h8
  have := when_z (by decide) h8.2.1
  simp only [decide_eq_false_iff_not] at this
  exact ⟨h7.1, h7.2.1, by omega⟩
def rdSlX (x : List Xc) : List AV → Option AV
  | [.sl _ _, .int _ n] => some (.sl 11 ((x.take n.toNat).map encXc))
  | _ => none
theorem c121t {x : List Xc} {g : Nat} (s : List UInt8) (hl : x.length ≤ 1000) (hg : g ≤ x.length) : PCall Tryz.prog G0 121 [.sl 11 ((x.take g).map encXc), .str s] (.i (fiI (pX x s) ((x.take g).map encXc).length)) := by
  have h := c121 (x.take g) s (by rw [List.length_take]; omega)
  rw [show (x.take g).length = g by rw [List.length_take]; omega, fiI_congr (q := pX x s) (fun j hj => by unfold pX; rw [List.getD_eq_getElem?_getD, List.getD_eq_getElem?_getD, List.getElem?_take, if_pos hj])] at h
  rw [show ((x.take g).map encXc).length = g by rw [List.length_map, List.length_take]; omega]
  exact h
def sp50 (r : Ru) (l : List Mv) (x : List Xc) : Nat → List AV → Option AV
  | 36, _ => some (.i (chkMR r l))
  | 109, [_, .str s] => some (.i (fiI (pM l s) l.length))
  | 121, [.sl _ rows, .str s] => some (.i (fiI (pX x s) rows.length))
  | n, y => spS n y
def la50 (r : Ru) (l : List Mv) (x : List Xc) : LA := {
  pre := [.keep [1, 2, 3, 8] [], .bound 1], post := [.keep [1, 2, 3, 8] [], .bound 1]
  Gh := Nat
  st := fun i => ⟨[(1, .sl 5 (l.map encMv)), (2, .sl 11 (x.map encXc)), (3, .elt 18 [encRu r] 0 0), (8, .i i)], [], 1⟩
  ok := fun i => i ≤ x.length ∧ ∀ j, j < i → fXr l x j = 0
  ms := fun i => x.length - i }
theorem c50 (r : Ru) (l : List Mv) (x : List Xc) (hS : Sh r l) (hx : x.length ≤ 1000) (hX : ∀ y, y ∈ x → y.re.length ≤ 1000) : PCall Tryz.prog G0 50 [.agg (encRu r), .sl 5 (l.map encMv), .sl 11 (x.map encXc)] (.i (exR r l x)) := by
  have key :
   PCall Tryz.prog G0 36 [AV.agg (encRu r), AV.sl 5 (List.map encMv l)] (AV.i (chkMR r l)) ∧ PCall Tryz.prog G0 37 [AV.bool (decide ((↑(List.map encXc x).length : Int) > 256)), AV.i 5] (AV.i (sWhen (decide ((↑(List.map encXc x).length
   : Int) > 256)) (5 : Int))) ∧ PCall Tryz.prog G0 24 [AV.sl 1 [[AV.i (chkMR r l)], [AV.i (sWhen (decide ((↑(List.map encXc x).length : Int) > 256)) (5 : Int))]]] (AV.i (sFirst [hdI [AV.i (chkMR r l)], hdI [AV.i (sWhen (decide
   ((↑(List.map encXc x).length : Int) > 256)) (5 : Int))]])) ∧ ((sFirst [hdI [AV.i (chkMR r l)], hdI [AV.i (sWhen (decide ((↑(List.map encXc x).length : Int) > 256)) (5 : Int))]] != 0) = true → AV.i (sFirst [hdI [AV.i (chkMR r l)],
   hdI [AV.i (sWhen (decide ((↑(List.map encXc x).length : Int) > 256)) (5 : Int))]]) = AV.i (exR r l x)) ∧ ((sFirst [hdI [AV.i (chkMR r l)], hdI [AV.i (sWhen (decide ((↑(List.map encXc x).length : Int) > 256)) (5 : Int))]] != 0) =
   false → (∃ (g : Nat), (g ≤ x.length ∧ ∀ (j : Nat), j < g → fXr l x j = (0 : Int)) ∧ AS.mk [(1, AV.sl 5 (List.map encMv l)), (2, AV.sl 11 (List.map encXc x)), (3, AV.elt 18 [(encRu r)] 0 0), (8, AV.i 0)] [] 1 = AS.mk [(1, AV.sl 5
   (List.map encMv l)), (2, AV.sl 11 (List.map encXc x)), (3, AV.elt 18 [(encRu r)] 0 0), (8, AV.i (↑g : Int))] [] 1) ∧ ∀ (g : Nat), (g ≤ x.length ∧ ∀ (j : Nat), j < g → fXr l x j = (0 : Int)) → (decide ((↑g : Int) < (↑(List.map encXc
   x).length : Int)) = true → (0 : Int) ≤ (↑g : Int) ∧ (↑g : Int) < (↑(List.map encXc x).length : Int) ∧ (0 : Int) ≤ 0 ∧ (0 : Int) ≤ (↑g : Int) ∧ (↑g : Int) ≤ (↑(List.map encXc x).length : Int) ∧ (0 : Int) ≤ (↑g : Int) ∧ (↑g : Int) <
   (↑(List.map encXc x).length : Int) ∧ (0 : Int) ≤ (↑g : Int) ∧ (↑g : Int) < (↑(List.map encXc x).length : Int) ∧ (0 : Int) ≤ (↑g : Int) ∧ (↑g : Int) < (↑(List.map encXc x).length : Int) ∧ nth (nthR (List.map encXc x) (↑g :
   Int).toNat) 0 = AV.str (x.getD (↑g : Int).toNat default).fl ∧ PCall Tryz.prog G0 109 [AV.sl 5 (List.map encMv l), AV.str (x.getD (↑g : Int).toNat default).fl] (AV.i (fiI (pM l (x.getD (↑g : Int).toNat default).fl) l.length)) ∧
   PCall Tryz.prog G0 37 [AV.bool (decide (fiI (pM l (x.getD (↑g : Int).toNat default).fl) l.length < 0)), AV.i 10] (AV.i (sWhen (decide (fiI (pM l (x.getD (↑g : Int).toNat default).fl) l.length < 0)) (10 : Int))) ∧ AV.sl 11
   (List.take ((↑g : Int) - 0).toNat (List.drop 0 (List.map encXc x))) = AV.sl 11 (List.map encXc (List.take (↑g : Int).toNat x)) ∧ nth (nthR (List.map encXc x) (↑g : Int).toNat) 0 = AV.str (x.getD (↑g : Int).toNat default).fl ∧ PCall
   Tryz.prog G0 121 [AV.sl 11 (List.map encXc (List.take (↑g : Int).toNat x)), AV.str (x.getD (↑g : Int).toNat default).fl] (AV.i (fiI (pX x (x.getD (↑g : Int).toNat default).fl) (List.map encXc (List.take (↑g : Int).toNat
   x)).length)) ∧ PCall Tryz.prog G0 37 [AV.bool (decide (fiI (pX x (x.getD (↑g : Int).toNat default).fl) (List.map encXc (List.take (↑g : Int).toNat x)).length ≥ 0)), AV.i 9] (AV.i (sWhen (decide (fiI (pX x (x.getD (↑g : Int).toNat
   default).fl) (List.map encXc (List.take (↑g : Int).toNat x)).length ≥ 0)) (9 : Int))) ∧ nth (nthR (List.map encXc x) (↑g : Int).toNat) 1 = AV.str (x.getD (↑g : Int).toNat default).re ∧ PCall Tryz.prog G0 51 [AV.str (x.getD (↑g :
   Int).toNat default).re] (AV.i (sWhen (!sName (x.getD (↑g : Int).toNat default).re) (8 : Int))) ∧ nth (nthR (List.map encXc x) (↑g : Int).toNat) 2 = AV.i (x.getD (↑g : Int).toNat default).day ∧ PCall Tryz.prog G0 23 [AV.i (x.getD
   (↑g : Int).toNat default).day, AV.i 0, AV.i 100000] (AV.i (sWithin (x.getD (↑g : Int).toNat default).day (0 : Int) (100000 : Int))) ∧ PCall Tryz.prog G0 24 [AV.sl 1 [[AV.i (sWhen (decide (fiI (pM l (x.getD (↑g : Int).toNat
   default).fl) l.length < 0)) (10 : Int))], [AV.i (sWhen (decide (fiI (pX x (x.getD (↑g : Int).toNat default).fl) (List.map encXc (List.take (↑g : Int).toNat x)).length ≥ 0)) (9 : Int))], [AV.i (sWhen (!sName (x.getD (↑g : Int).toNat
   default).re) (8 : Int))], [AV.i (sWithin (x.getD (↑g : Int).toNat default).day (0 : Int) (100000 : Int))]]] (AV.i (sFirst [hdI [AV.i (sWhen (decide (fiI (pM l (x.getD (↑g : Int).toNat default).fl) l.length < 0)) (10 : Int))], hdI
   [AV.i (sWhen (decide (fiI (pX x (x.getD (↑g : Int).toNat default).fl) (List.map encXc (List.take (↑g : Int).toNat x)).length ≥ 0)) (9 : Int))], hdI [AV.i (sWhen (!sName (x.getD (↑g : Int).toNat default).re) (8 : Int))], hdI [AV.i
   (sWithin (x.getD (↑g : Int).toNat default).day (0 : Int) (100000 : Int))]])) ∧ ((sFirst [hdI [AV.i (sWhen (decide (fiI (pM l (x.getD (↑g : Int).toNat default).fl) l.length < 0)) (10 : Int))], hdI [AV.i (sWhen (decide (fiI (pX x
   (x.getD (↑g : Int).toNat default).fl) (List.map encXc (List.take (↑g : Int).toNat x)).length ≥ 0)) (9 : Int))], hdI [AV.i (sWhen (!sName (x.getD (↑g : Int).toNat default).re) (8 : Int))], hdI [AV.i (sWithin (x.getD (↑g : Int).toNat
   default).day (0 : Int) (100000 : Int))]] != 0) = true → AV.i (sFirst [hdI [AV.i (sWhen (decide (fiI (pM l (x.getD (↑g : Int).toNat default).fl) l.length < 0)) (10 : Int))], hdI [AV.i (sWhen (decide (fiI (pX x (x.getD (↑g :
   Int).toNat default).fl) (List.map encXc (List.take (↑g : Int).toNat x)).length ≥ 0)) (9 : Int))], hdI [AV.i (sWhen (!sName (x.getD (↑g : Int).toNat default).re) (8 : Int))], hdI [AV.i (sWithin (x.getD (↑g : Int).toNat default).day
   (0 : Int) (100000 : Int))]]) = AV.i (exR r l x)) ∧ ((sFirst [hdI [AV.i (sWhen (decide (fiI (pM l (x.getD (↑g : Int).toNat default).fl) l.length < 0)) (10 : Int))], hdI [AV.i (sWhen (decide (fiI (pX x (x.getD (↑g : Int).toNat
   default).fl) (List.map encXc (List.take (↑g : Int).toNat x)).length ≥ 0)) (9 : Int))], hdI [AV.i (sWhen (!sName (x.getD (↑g : Int).toNat default).re) (8 : Int))], hdI [AV.i (sWithin (x.getD (↑g : Int).toNat default).day (0 : Int)
   (100000 : Int))]] != 0) = false → In64 ((↑g : Int) + 1) ∧ ∃ (g' : Nat), (g' ≤ x.length ∧ ∀ (j : Nat), j < g' → fXr l x j = (0 : Int)) ∧ x.length - g' < x.length - g ∧ AS.mk [(1, AV.sl 5 (List.map encMv l)), (2, AV.sl 11 (List.map
   encXc x)), (3, AV.elt 18 [(encRu r)] 0 0), (8, AV.i ((↑g : Int) + 1))] [] 1 = AS.mk [(1, AV.sl 5 (List.map encMv l)), (2, AV.sl 11 (List.map encXc x)), (3, AV.elt 18 [(encRu r)] 0 0), (8, AV.i (↑g' : Int))] [] 1)) ∧ (decide ((↑g :
   Int) < (↑(List.map encXc x).length : Int)) = false → AV.i 0 = AV.i (exR r l x))) := by
    have hlm : (List.map encXc x).length = x.length := List.length_map _
    have heX : sFirst [hdI [AV.i (chkMR r l)], hdI [AV.i (sWhen (decide ((↑(List.map encXc x).length : Int) > (256 : Int))) (5 : Int))]] = eX r l x := by rw [hlm]; rfl
    rw [heX]
    have : (List.map encXc x).length = x.length := by simp only [List.length_map]
    refine ⟨(c36 r l hS.t hS.s hS.n hS.m hS.k hS.v), (c37 _ _), (by have := c24 [chkMR r l, sWhen (decide ((↑(List.map encXc x).length : Int) > (256 : Int))) 5] (by simp); rw [← heX]; exact this), fun h1 => ?_, fun h1 => ⟨⟨0, ⟨by omega, by intros; omega⟩, rfl⟩, fun g ⟨hg, ha⟩ => ⟨fun hd => ?_, fun hd => ?_⟩⟩⟩
    · rw [exR, if_pos h1]
    · have hlt : g < x.length := by have h9 := of_decide_eq_true hd; have h8 := hg; (try simp only [List.length_map] at h8); (try simp only [List.length_map] at h9); omega
      try rw [show (↑g : Int).toNat = g from Int.toNat_natCast g]
      have hlg : ((x.take g).map encXc).length = g := by rw [List.length_map, List.length_take]; omega
      try rw [show (↑g : Int).toNat = g from Int.toNat_natCast g]
      refine ⟨(by omega), (by omega), (by omega), (by omega), (by omega), (by omega), (by omega), (by omega), (by omega), (by omega), (by omega), congrArg (fun r => nth r 0) (row_at encXc hlt), (c109 l _ hS.k), (c37 _ _), ?_, congrArg (fun r => nth r 0) (row_at encXc hlt), (c121t _ hx (by omega)), (c37 _ _), congrArg (fun r => nth r 1) (row_at encXc hlt), (c51 _ (by have := hX _ (getD_mem hlt); omega)), congrArg (fun r => nth r 2) (row_at encXc hlt), (c23 _ _ _), (c24 [_, _, _, _] (by simp)), fun h2 => ?_, fun h2 => ?_⟩
      · rw [List.drop_zero, List.map_take]; rfl
      · have h7 := bne_t h2
        rw [hlg] at h7
        have hne : fXr l x g ≠ 0 := h7
        refine av_int ?_
        rw [exR, if_neg (by rw [h1]; decide), scan_hit hlt ha hne, hlg]; rfl
      · have hz : fXr l x g = 0 := by have h7 := bne_f h2; rw [hlg] at h7; exact h7
        exact ⟨(by unfold In64; omega), ⟨g + 1, ⟨by omega, all_ext ha hz⟩, by omega, rfl⟩⟩
    · have hge : g = x.length := by have h9 := of_decide_eq_false hd; have h8 := hg; (try simp only [List.length_map] at h8); (try simp only [List.length_map] at h9); omega
      subst hge
      rw [exR, if_neg (by rw [h1]; decide), scan_end ha]
  exact c_of Tryz.f50 (fzB (mkB (sp50 r l x) 50 [(7, 5, rdL 11 encXc x 1 false), (7, 16, rdL 11 encXc x 1 false), (7, 24, rdL 11 encXc x 1 false), (7, 30, rdL 11 encXc x 1 false), (7, 11, rdSlX x)] (la1 (la50 r l x)))) (by kernel_rfl) (by kernel_rfl) (by kernel_rfl) (by kernel_rfl) key (by kernel_rfl)
theorem ex_ok {r : Ru} {l : List Mv} {x : List Xc} (h : exR r l x = 0) : chkMR r l = 0 ∧ x.length ≤ 256 ∧ ∀ i, i < x.length → fXr l x i = 0 := by
  unfold exR at h
  obtain ⟨h1, h2⟩ := ite_z h
  unfold eX at h1
  rw [first_zero, first_zero] at h1
  have hl := when_z (by decide) h1.2.1
  simp only [decide_eq_false_iff_not] at hl
  exact ⟨h1.1, by omega, (scan_zero h2).1⟩
theorem ex_found {r : Ru} {l : List Mv} {x : List Xc} (h : exR r l x = 0) {y : Xc} (hy : y ∈ x) : fiN (pM l y.fl) l.length < l.length := by
  obtain ⟨i, hi, rfl⟩ := mem_get hy
  have h7 := (ex_ok h).2.2 i hi
  unfold fXr at h7
  rw [first_zero] at h7
  have h8 := when_z (by decide) h7.1
  rw [← not_found] at h8
  simpa using h8
theorem mvAt_mem {l : List Mv} {s : List UInt8} (h : fiN (pM l s) l.length < l.length) : mvAt l s ∈ l := by
  rw [mvAt, if_pos h]
  exact getD_mem h
theorem day_in {r : Ru} {l : List Mv} (h : chkMR r l = 0) {m : Mv} (hm : m ∈ l) : In64 (m.day + r.dl) := by
  have h1 := ((mv_ok h).2.1.2 m hm).d
  have h2 := (ru_more (mv_ok h).1).1
  unfold In64
  omega
theorem c54r {r : Ru} {l : List Mv} {x : List Xc} (hS : Sh r l) (hx : x.length ≤ 1000) (hX : ∀ y, y ∈ x → y.re.length ≤ 1000) : PCall Tryz.prog G0 54 [.agg (encRu r), .sl 5 (l.map encMv), .sl 11 (x.map encXc)] (.i (exR r l x)) := by
  have := c54 r l x hS hx hX
  rw [ex_eq] at this
  exact this
def sp56 (r : Ru) (l : List Mv) (x : Xc) : Nat → List AV → Option AV
  | 54, _ => some (.i (exR r l [x]))
  | 124, _ => some (.str (wordV r (mvAt l x.fl) x))
  | n, y => spS n y
def w7 (r : Ru) (l : List Mv) (x : Xc) : List UInt8 := if exR r l [x] == 0 then wordV r (mvAt l x.fl) x else []
theorem c56 (r : Ru) (l : List Mv) (x : Xc) (hS : Sh r l) (hk : KyOK r) (ha : x.fl.length ≤ 400) (hb : x.re.length ≤ 400) : PCall Tryz.prog G0 56 [.agg (encRu r), .sl 5 (l.map encMv), .agg (encXc x)] (.tup [.str (w7 r l x), .i (exR r l [x])]) := by
  have key :
   PCall Tryz.prog G0 54 [AV.agg (encRu r), AV.sl 5 (List.map encMv l), AV.sl 11 [(encXc x)]] (AV.i (exR r l [x])) ∧ ((exR r l [x] != 0) = true → AV.tup [AV.str [], AV.i (exR r l [x])] = AV.tup [AV.str (w7 r l x), AV.i (exR r l [x])])
   ∧ ((exR r l [x] != 0) = false → (mlook (AV.str x.fl) (pairsV (flatM l))).isSome = true ∧ WCall Tryz.prog G0 120 [AV.sl 5 (List.map encMv l)] [] (AV.ref 1) [ABlk.map (pairsV (flatM l))] ∧ lookV false (AV.agg [AV.str [], AV.str [],
   AV.str [], AV.i 0, AV.i 0]) (mlook (AV.str x.fl) (pairsV (flatM l))) = AV.agg (encMv (mvAt l x.fl)) ∧ PCall Tryz.prog G0 124 [AV.agg (encRu r), AV.agg (encMv (mvAt l x.fl)), AV.agg (encXc x)] (AV.str (wordV r (mvAt l x.fl) x)) ∧
   AV.tup [AV.str (wordV r (mvAt l x.fl) x), AV.i 0] = AV.tup [AV.str (w7 r l x), AV.i (exR r l [x])]) := by
    refine ⟨(c54r (x := [x]) hS (by simp) (fun y hy => by rw [List.mem_singleton.1 hy]; omega)), fun h1 => ?_, fun h1 => ?_⟩
    · rw [w7, if_neg]
      simpa using h1
    · have h9 : exR r l [x] = 0 := bne_f h1
      have h0 := (ex_ok h9).1
      have hf : fiN (pM l x.fl) l.length < l.length := ex_found h9 (List.mem_singleton.2 rfl)
      refine ⟨(rdM_ok l _).2.2, (w120r h0 hS.k), (rdM_ok l _).2.1, (c124 r (mvAt l x.fl) x hS.s (day_in h0 (mvAt_mem hf)) hk ha hb), ?_⟩
      · rw [w7, h9]; rfl
  exact c_of Tryz.f56 ({ modA 4 5 (fun a => { a with rdb := rdM l false }) (fzB (mkB (sp56 r l x) 56 [] noLa)) with hs := hs120 l }) (by kernel_rfl) (by kernel_rfl) (by kernel_rfl) (by kernel_rfl) key (by kernel_rfl)
def evZ (b : Bool) (r : Ru) (x y : List UInt8) : List AV := [.int .u8 (if b = true then sea (kyR r) (x ++ [32] ++ y) 0 else 0), .int .u8 (if b = true then sea (kyR r) (x ++ [32] ++ y) 1 else 0), .int .u8 (if b = true then sea (kyR r) (x ++ [32] ++ y) 2 else 0), .int .u8 (if b = true then sea (kyR r) (x ++ [32] ++ y) 3 else 0), .int .u8 (if b = true then sea (kyR r) (x ++ [32] ++ y) 4 else 0), .int .u8 (if b = true then sea (kyR r) (x ++ [32] ++ y) 5 else 0), .int .u8 (if b = true then sea (kyR r) (x ++ [32] ++ y) 6 else 0), .int .u8 (if b = true then sea (kyR r) (x ++ [32] ++ y) 7 else 0)]
def e57 (r : Ru) (a b : List UInt8) : Int := sFirst [chkR r, sWhen (!sName a) 8, sWhen (!sName b) 8]
theorem c29r (r : Ru) (hl : r.ts.length ≤ 1000) (hm : r.rs.length ≤ 1000) (hn : ∀ t, t ∈ r.ts → t.n.length ≤ 1000) (hs : ∀ s, s ∈ r.rs → s.length ≤ 1000) : PCall Tryz.prog G0 29 [.agg (encRu r)] (.i (chkR r)) := by
  have := c29 r hl hm hn hs
  rw [chk_eq] at this
  exact this
theorem c57 (r : Ru) (a b : List UInt8) (hl : r.ts.length ≤ 1000) (hm : r.rs.length ≤ 1000) (hn : ∀ t, t ∈ r.ts → t.n.length ≤ 1000) (hs : ∀ s, s ∈ r.rs → s.length ≤ 1000) (hk : KyOK r) (ha : a.length ≤ 400) (hb : b.length ≤ 400) : PCall Tryz.prog G0 57 [.agg (encRu r), .str a, .str b] (.tup [.agg (evZ (e57 r a b == 0) r a b), .i (e57 r a b)]) := by
  have key :
   PCall Tryz.prog G0 29 [AV.agg (encRu r)] (AV.i (chkR r)) ∧ PCall Tryz.prog G0 113 [AV.str a] (AV.i (sWhen (!sName a) (8 : Int))) ∧ PCall Tryz.prog G0 113 [AV.str b] (AV.i (sWhen (!sName b) (8 : Int))) ∧ PCall Tryz.prog G0 87 [AV.sl
   1 [[AV.i (chkR r)], [AV.i (sWhen (!sName a) (8 : Int))], [AV.i (sWhen (!sName b) (8 : Int))]]] (AV.i (sFirst [hdI [AV.i (chkR r)], hdI [AV.i (sWhen (!sName a) (8 : Int))], hdI [AV.i (sWhen (!sName b) (8 : Int))]])) ∧ ((sFirst [hdI
   [AV.i (chkR r)], hdI [AV.i (sWhen (!sName a) (8 : Int))], hdI [AV.i (sWhen (!sName b) (8 : Int))]] != 0) = true → AV.tup [AV.agg [AV.int IntKind.u8 (0 : Int), AV.int IntKind.u8 (0 : Int), AV.int IntKind.u8 (0 : Int), AV.int
   IntKind.u8 (0 : Int), AV.int IntKind.u8 (0 : Int), AV.int IntKind.u8 (0 : Int), AV.int IntKind.u8 (0 : Int), AV.int IntKind.u8 (0 : Int)], AV.i (sFirst [hdI [AV.i (chkR r)], hdI [AV.i (sWhen (!sName a) (8 : Int))], hdI [AV.i (sWhen
   (!sName b) (8 : Int))]])] = AV.tup [AV.agg [AV.int IntKind.u8 (if (e57 r a b == 0) = true then sea (kyR r) (a ++ [(32 : UInt8)] ++ b) 0 else (0 : Int)), AV.int IntKind.u8 (if (e57 r a b == 0) = true then sea (kyR r) (a ++ [(32 :
   UInt8)] ++ b) 1 else (0 : Int)), AV.int IntKind.u8 (if (e57 r a b == 0) = true then sea (kyR r) (a ++ [(32 : UInt8)] ++ b) 2 else (0 : Int)), AV.int IntKind.u8 (if (e57 r a b == 0) = true then sea (kyR r) (a ++ [(32 : UInt8)] ++ b)
   3 else (0 : Int)), AV.int IntKind.u8 (if (e57 r a b == 0) = true then sea (kyR r) (a ++ [(32 : UInt8)] ++ b) 4 else (0 : Int)), AV.int IntKind.u8 (if (e57 r a b == 0) = true then sea (kyR r) (a ++ [(32 : UInt8)] ++ b) 5 else (0 :
   Int)), AV.int IntKind.u8 (if (e57 r a b == 0) = true then sea (kyR r) (a ++ [(32 : UInt8)] ++ b) 6 else (0 : Int)), AV.int IntKind.u8 (if (e57 r a b == 0) = true then sea (kyR r) (a ++ [(32 : UInt8)] ++ b) 7 else (0 : Int))], AV.i
   (e57 r a b)]) ∧ ((sFirst [hdI [AV.i (chkR r)], hdI [AV.i (sWhen (!sName a) (8 : Int))], hdI [AV.i (sWhen (!sName b) (8 : Int))]] != 0) = false → PCall Tryz.prog G0 125 [AV.agg (encRu r), AV.str a, AV.str b] (AV.agg [AV.int
   IntKind.u8 (sea (kyR r) (a ++ [(32 : UInt8)] ++ b) 0), AV.int IntKind.u8 (sea (kyR r) (a ++ [(32 : UInt8)] ++ b) 1), AV.int IntKind.u8 (sea (kyR r) (a ++ [(32 : UInt8)] ++ b) 2), AV.int IntKind.u8 (sea (kyR r) (a ++ [(32 : UInt8)]
   ++ b) 3), AV.int IntKind.u8 (sea (kyR r) (a ++ [(32 : UInt8)] ++ b) 4), AV.int IntKind.u8 (sea (kyR r) (a ++ [(32 : UInt8)] ++ b) 5), AV.int IntKind.u8 (sea (kyR r) (a ++ [(32 : UInt8)] ++ b) 6), AV.int IntKind.u8 (sea (kyR r) (a
   ++ [(32 : UInt8)] ++ b) 7)]) ∧ AV.tup [AV.agg [AV.int IntKind.u8 (sea (kyR r) (a ++ [(32 : UInt8)] ++ b) 0), AV.int IntKind.u8 (sea (kyR r) (a ++ [(32 : UInt8)] ++ b) 1), AV.int IntKind.u8 (sea (kyR r) (a ++ [(32 : UInt8)] ++ b)
   2), AV.int IntKind.u8 (sea (kyR r) (a ++ [(32 : UInt8)] ++ b) 3), AV.int IntKind.u8 (sea (kyR r) (a ++ [(32 : UInt8)] ++ b) 4), AV.int IntKind.u8 (sea (kyR r) (a ++ [(32 : UInt8)] ++ b) 5), AV.int IntKind.u8 (sea (kyR r) (a ++ [(32
   : UInt8)] ++ b) 6), AV.int IntKind.u8 (sea (kyR r) (a ++ [(32 : UInt8)] ++ b) 7)], AV.i 0] = AV.tup [AV.agg [AV.int IntKind.u8 (if (e57 r a b == 0) = true then sea (kyR r) (a ++ [(32 : UInt8)] ++ b) 0 else (0 : Int)), AV.int
   IntKind.u8 (if (e57 r a b == 0) = true then sea (kyR r) (a ++ [(32 : UInt8)] ++ b) 1 else (0 : Int)), AV.int IntKind.u8 (if (e57 r a b == 0) = true then sea (kyR r) (a ++ [(32 : UInt8)] ++ b) 2 else (0 : Int)), AV.int IntKind.u8
   (if (e57 r a b == 0) = true then sea (kyR r) (a ++ [(32 : UInt8)] ++ b) 3 else (0 : Int)), AV.int IntKind.u8 (if (e57 r a b == 0) = true then sea (kyR r) (a ++ [(32 : UInt8)] ++ b) 4 else (0 : Int)), AV.int IntKind.u8 (if (e57 r a
   b == 0) = true then sea (kyR r) (a ++ [(32 : UInt8)] ++ b) 5 else (0 : Int)), AV.int IntKind.u8 (if (e57 r a b == 0) = true then sea (kyR r) (a ++ [(32 : UInt8)] ++ b) 6 else (0 : Int)), AV.int IntKind.u8 (if (e57 r a b == 0) =
   true then sea (kyR r) (a ++ [(32 : UInt8)] ++ b) 7 else (0 : Int))], AV.i (e57 r a b)]) := by
    refine ⟨(c29r r hl hm hn hs), (c113 _ (by omega)), (c113 _ (by omega)), (c87 [_, _, _] (by simp)), fun h1 => ?_, fun h1 => ⟨(c125 r a b hk ha hb), ?_⟩⟩
    · have e : sFirst [hdI [AV.i (chkR r)], hdI [AV.i (sWhen (!sName a) 8)], hdI [AV.i (sWhen (!sName b) 8)]] = e57 r a b := rfl
      rw [e] at h1
      first
        | (rw [show (e57 r a b == 0) = false by simpa using h1]; rfl)
        | (rw [show e57 r a b = 0 from bne_f h1]; rfl)
    · have e : sFirst [hdI [AV.i (chkR r)], hdI [AV.i (sWhen (!sName a) 8)], hdI [AV.i (sWhen (!sName b) 8)]] = e57 r a b := rfl
      rw [e] at h1
      first
        | (rw [show (e57 r a b == 0) = false by simpa using h1]; rfl)
        | (rw [show e57 r a b = 0 from bne_f h1]; rfl)
  exact c_of Tryz.f57 (fzB (mkB (fun n y => match n with | 29 => some (.i (chkR r)) | 125 => some (.agg (evS r a b)) | _ => spN n y) 57 [] noLa)) (by kernel_rfl) (by kernel_rfl) (by kernel_rfl) (by kernel_rfl) key (by kernel_rfl)
end Go.Proofs.YtimgfogakgakhaaGreatDoor
namespace Go.Proofs.YtimgfogakgakhaaGreatDoor
open Go Go.Av Go.RowKit Go.ChangeShapes Go.WideShapes
theorem at8_b {a b c d e f g h : Int} (h1 : 0 ≤ a ∧ a ≤ 255) (h2 : 0 ≤ b ∧ b ≤ 255) (h3 : 0 ≤ c ∧ c ≤ 255) (h4 : 0 ≤ d ∧ d ≤ 255) (h5 : 0 ≤ e ∧ e ≤ 255) (h6 : 0 ≤ f ∧ f ≤ 255) (h7 : 0 ≤ g ∧ g ≤ 255) (h8 : 0 ≤ h ∧ h ≤ 255) (i : Nat) : 0 ≤ at8 a b c d e f g h i ∧ at8 a b c d e f g h i ≤ 255 := by
  unfold at8
  split <;> assumption
theorem ruk_arg {a : AV} (h : ASh1 T0 8 29 a) : ∃ r : Ru, a = .agg (encRu r) ∧ r.ts.length ≤ maxLen ∧ r.rs.length ≤ maxLen ∧ KyOK r := by
  obtain ⟨l, rfl, h2⟩ := ash1_agg (cs := [.int .i64, .int .i64, .int .i64, .int .i64, .sl 6 151 3, .int .i64, .sl 6 9 1, .int .i64, .int .i64, .int .i64, .int .u8, .int .u8, .int .u8, .int .u8, .int .u8, .int .u8, .int .u8, .int .u8])
    (ti := ⟨(.struct [(0, 23, 2), (2, 23, 2), (4, 24, 1), (5, 3, 1), (6, 25, 1), (7, 3, 1), (8, 3, 1), (9, 3, 1), (10, 27, 8)]), 18, 120, true, [.int .i64 0, .int .i64 0, .int .i64 0, .int .i64 0, .ex (.slice none 0 0), .int .i64 0, .ex (.slice none 0 0), .int .i64 0, .int .i64 0, .int .i64 0, .int .u8 0, .int .u8 0, .int .u8 0, .int .u8 0, .int .u8 0, .int .u8 0, .int .u8 0, .int .u8 0], true⟩)
    (by kernel_rfl) rfl (by kernel_rfl) (by kernel_rfl) h
  obtain ⟨_, _, rfl, ⟨a, rfl, _⟩, _, _, rfl, ⟨b, rfl, _⟩, _, _, rfl, ⟨c, rfl, _⟩, _, _, rfl, ⟨d, rfl, _⟩, _, _, rfl, ⟨rt, rfl, hlt, hrt⟩, _, _, rfl, ⟨q, rfl, _⟩, _, _, rfl, ⟨rs, rfl, hls, hrs⟩, _, _, rfl, ⟨dl, rfl, _⟩, _, _, rfl, ⟨fi, rfl, _⟩, _, _, rfl, ⟨ra, rfl, _⟩, _, _, rfl, ⟨k0, rfl, q0⟩, _, _, rfl, ⟨k1, rfl, q1⟩, _, _, rfl, ⟨k2, rfl, q2⟩, _, _, rfl, ⟨k3, rfl, q3⟩, _, _, rfl, ⟨k4, rfl, q4⟩, _, _, rfl, ⟨k5, rfl, q5⟩, _, _, rfl, ⟨k6, rfl, q6⟩, _, _, rfl, ⟨k7, rfl, q7⟩, rfl⟩ := h2
  obtain ⟨ts, rfl, _⟩ := rows_enc (enc := encTp) (Q := fun _ => True) (fun r hm => tp_of (by kernel_rfl) (by kernel_rfl) (hrt r hm))
  obtain ⟨ws, rfl, _⟩ := rows_enc (enc := encS) (Q := fun _ => True) (fun r hm => str_of (by kernel_rfl) (by kernel_rfl) (hrs r hm))
  exact ⟨⟨a, b, c, d, ts, q, ws, dl, fi, ra, k0, k1, k2, k3, k4, k5, k6, k7⟩, rfl, by simpa using hlt, by simpa using hls, at8_b (wf8 q0) (wf8 q1) (wf8 q2) (wf8 q3) (wf8 q4) (wf8 q5) (wf8 q6) (wf8 q7)⟩
theorem xr_of {n : Nat} {r : List AV} (hn : shapeT T0 n 92 = [.str, .str, .int .i64, .int .u8, .int .u8, .int .u8, .int .u8, .int .u8, .int .u8, .int .u8, .int .u8]) (hp : plainT T0 n 92 = true) (h : ASh T0 n 92 r) : ∃ x : Xc, r = encXc x ∧ True := by
  have := ash_shape n 92 r hp h
  rw [hn] at this
  obtain ⟨_, _, rfl, ⟨a, rfl, _⟩, _, _, rfl, ⟨b, rfl, _⟩, _, _, rfl, ⟨d, rfl, _⟩, _, _, rfl, ⟨k0, rfl, _⟩, _, _, rfl, ⟨k1, rfl, _⟩, _, _, rfl, ⟨k2, rfl, _⟩, _, _, rfl, ⟨k3, rfl, _⟩, _, _, rfl, ⟨k4, rfl, _⟩, _, _, rfl, ⟨k5, rfl, _⟩, _, _, rfl, ⟨k6, rfl, _⟩, _, _, rfl, ⟨k7, rfl, _⟩, rfl⟩ := this
  exact ⟨⟨a, b, d, k0, k1, k2, k3, k4, k5, k6, k7⟩, rfl, trivial⟩
theorem off_arg {a : AV} (h : ASh1 T0 8 75 a) : ∃ (l : List Mv) (x : List Xc), a = .agg [.sl 5 (l.map encMv), .sl 11 (x.map encXc)] ∧ l.length ≤ maxLen ∧ x.length ≤ maxLen := by
  obtain ⟨l, rfl, h2⟩ := ash1_agg (cs := [.sl 6 64 5, .sl 6 92 11]) (ti := ⟨(.struct [(0, 52, 1), (1, 73, 1)]), 2, 48, true, [.ex (.slice none 0 0), .ex (.slice none 0 0)], true⟩) (by kernel_rfl) rfl (by kernel_rfl) (by kernel_rfl) h
  obtain ⟨_, _, rfl, ⟨rm, rfl, hlm, hrm⟩, _, _, rfl, ⟨rx, rfl, hlx, hrx⟩, rfl⟩ := h2
  obtain ⟨ms, rfl, _⟩ := rows_enc (enc := encMv) (Q := fun _ => True) (fun r hm => mv_of (by kernel_rfl) (by kernel_rfl) (hrm r hm))
  obtain ⟨xs, rfl, _⟩ := rows_enc (enc := encXc) (Q := fun _ => True) (fun r hm => xr_of (by kernel_rfl) (by kernel_rfl) (hrx r hm))
  exact ⟨ms, xs, rfl, by simpa using hlm, by simpa using hlx⟩
end Go.Proofs.YtimgfogakgakhaaGreatDoor
namespace Go.Proofs.YtimgfogakgakhaaGreatDoor
open Go Go.Av Go.RowKit
theorem u83_arg {a : AV} (h : ASh1 T0 8 119 a) : ∃ x y z : Int, a = .agg [.int .u8 x, .int .u8 y, .int .u8 z] ∧ (0 ≤ x ∧ x ≤ 255) ∧ (0 ≤ y ∧ y ≤ 255) ∧ (0 ≤ z ∧ z ≤ 255) := by
  obtain ⟨l, rfl, h2⟩ := ash1_agg (cs := [.int .u8, .int .u8, .int .u8]) (ti := ⟨(.arr 3 5 1), 3, 3, true, [.int .u8 0, .int .u8 0, .int .u8 0], true⟩) (by kernel_rfl) rfl (by kernel_rfl) (by kernel_rfl) h
  obtain ⟨_, _, rfl, ⟨x, rfl, hx⟩, _, _, rfl, ⟨y, rfl, hy⟩, _, _, rfl, ⟨z, rfl, hz⟩, rfl⟩ := h2
  exact ⟨x, y, z, rfl, wf8 hx, wf8 hy, wf8 hz⟩
end Go.Proofs.YtimgfogakgakhaaGreatDoor
namespace Go.Proofs.YtimgfogakgakhaaGreatDoor
open Go Go.Av Go.RowKit
end Go.Proofs.YtimgfogakgakhaaGreatDoor
namespace Go.Proofs.YtimgfogakgakhaaGreatDoor
open Go Go.Av Go.RowKit
structure Cs where
  fl : List UInt8
  w : List UInt8
  f : Int
  deriving Inhabited
def encCs (c : Cs) : List AV := [.str c.fl, .str c.w, .i c.f]
def WN : List UInt8 := [110, 111, 110, 101]
def ixX (x : List Xc) (s : List UInt8) : Nat := fiN (pX x s) x.length
def wordC (r : Ru) (x : List Xc) (m : Mv) : List UInt8 := if ixX x m.fl < x.length then wordV r m (x.getD (ixX x m.fl) default) else WN
def oneC (r : Ru) (x : List Xc) (m : Mv) : List Cs := if wiR r.c r.d m.mi = true then (if (wordC r x m != []) = true then [⟨m.fl, wordC r x m, r.fi⟩] else []) else []
def caL (r : Ru) (l : List Mv) (x : List Xc) : List Cs := l.flatMap (oneC r x)
theorem flat_succ {α β : Type} [Inhabited α] (f : α → List β) {l : List α} {g : Nat} (h : g < l.length) : (l.take (g + 1)).flatMap f = (l.take g).flatMap f ++ f (l.getD g default) := by
  rw [List.take_add_one, List.flatMap_append]
  simp [List.getD_eq_getElem?_getD, h]
theorem flat_len {α β : Type} (f : α → List β) (h : ∀ a, (f a).length ≤ 1) : ∀ l : List α, (l.flatMap f).length ≤ l.length
  | [] => Nat.le_refl _
  | a :: l => by
    have := flat_len f h l
    have := h a
    rw [List.flatMap_cons, List.length_append, List.length_cons]
    omega
theorem oneC_len (r : Ru) (x : List Xc) (m : Mv) : (oneC r x m).length ≤ 1 := by
  unfold oneC
  split
  · split <;> simp
  · simp
theorem ru_cur {r : Ru} (h : chkR r = 0) : (0 ≤ r.c ∧ r.c < 1440) ∧ (0 ≤ r.d ∧ r.d < 1440) ∧ r.c ≠ r.d := by
  unfold chkR at h
  obtain ⟨h1, -⟩ := ite_z h
  unfold e1 at h1
  rw [first_zero, first_zero] at h1
  exact sp_ok h1.2.1
theorem c90w {a b m : Int} (ha : 0 ≤ a ∧ a < 1440) (hb : 0 ≤ b ∧ b < 1440) (hab : a ≠ b) (hm : 0 ≤ m ∧ m < 1440) : PCall Tryz.prog G0 90 [.agg [.i a, .i b], .i m] (.bool (wiR a b m)) := by
  have := c90 a b m ha hb hm
  rw [has_wi ha hb hab hm] at this
  exact this
def Fm (m : Mv) : AV := .fn (.func 151) [] [.elt 5 [encMv m] 0 0]
theorem c151 (y : Xc) (m : Mv)  : PCall Tryz.prog G0 151 [.agg (encXc y), .elt 5 [encMv m] 0 0] (.bool (y.fl == m.fl)) := by
  have key :
   AV.bool (y.fl == m.fl) = AV.bool (y.fl == m.fl) := by
    exact rfl
  exact c_of Tryz.f151 (mkB spS 151 [] noLa) (by kernel_rfl) (by kernel_rfl) (by kernel_rfl) (by kernel_rfl) key (by kernel_rfl)
def decXc : List AV → Xc
  | [.str a, .str b, .int _ d, .int _ e0, .int _ e1, .int _ e2, .int _ e3, .int _ e4, .int _ e5, .int _ e6, .int _ e7] => ⟨a, b, d, e0, e1, e2, e3, e4, e5, e6, e7⟩
  | _ => default
def la150 (x : List Xc) (m : Mv) : LA := {
  pre := [.keep [0, 1, 6, 7, 8] [], .bound 1], post := [.keep [0, 1, 6, 7, 8] [], .bound 1]
  Gh := Nat
  st := fun i => ⟨[(0, .sl 11 (x.map encXc)), (1, Fm m), (6, .sl 11 (x.map encXc)), (7, .i (x.map encXc).length), (8, .i i)], [], 1⟩
  ok := fun i => i ≤ x.length ∧ ∀ j, j < i → pX x m.fl j = false
  ms := fun i => x.length - i }
theorem c150 (x : List Xc) (m : Mv) (hl : x.length ≤ 1000) : PCall Tryz.prog G0 150 [.sl 11 (x.map encXc), Fm m] (.i (fiI (pX x m.fl) x.length)) := by
  have key :
   (∃ (g : Nat), (g ≤ x.length ∧ ∀ (j : Nat), j < g → pX x m.fl j = false) ∧ AS.mk [(0, AV.sl 11 (List.map encXc x)), (1, AV.fn (Fn.func 151) [] [AV.elt 5 [(encMv m)] 0 0]), (6, AV.sl 11 (List.map encXc x)), (7, AV.i (↑(List.map encXc
   x).length : Int)), (8, AV.i 0)] [] 1 = AS.mk [(0, AV.sl 11 (List.map encXc x)), (1, AV.fn (Fn.func 151) [] [AV.elt 5 [(encMv m)] 0 0]), (6, AV.sl 11 (List.map encXc x)), (7, AV.i (↑(List.map encXc x).length : Int)), (8, AV.i (↑g :
   Int))] [] 1) ∧ ∀ (g : Nat), (g ≤ x.length ∧ ∀ (j : Nat), j < g → pX x m.fl j = false) → (decide ((↑g : Int) < (↑(List.map encXc x).length : Int)) = true → (0 : Int) ≤ (↑g : Int) ∧ (↑g : Int) < (↑(List.map encXc x).length : Int) ∧
   AV.agg (nthR (List.map encXc x) (↑g : Int).toNat) = AV.agg (encXc (x.getD (↑g : Int).toNat default)) ∧ PCall Tryz.prog G0 151 [AV.agg (encXc (x.getD (↑g : Int).toNat default)), AV.elt 5 [(encMv m)] 0 0] (AV.bool ((x.getD (↑g :
   Int).toNat default).fl == m.fl)) ∧ (((x.getD (↑g : Int).toNat default).fl == m.fl) = true → AV.i (↑g : Int) = AV.i (fiI (pX x m.fl) x.length)) ∧ (((x.getD (↑g : Int).toNat default).fl == m.fl) = false → In64 ((↑g : Int) + 1) ∧ ∃
   (g' : Nat), (g' ≤ x.length ∧ ∀ (j : Nat), j < g' → pX x m.fl j = false) ∧ x.length - g' < x.length - g ∧ AS.mk [(0, AV.sl 11 (List.map encXc x)), (1, AV.fn (Fn.func 151) [] [AV.elt 5 [(encMv m)] 0 0]), (6, AV.sl 11 (List.map encXc
   x)), (7, AV.i (↑(List.map encXc x).length : Int)), (8, AV.i ((↑g : Int) + 1))] [] 1 = AS.mk [(0, AV.sl 11 (List.map encXc x)), (1, AV.fn (Fn.func 151) [] [AV.elt 5 [(encMv m)] 0 0]), (6, AV.sl 11 (List.map encXc x)), (7, AV.i
   (↑(List.map encXc x).length : Int)), (8, AV.i (↑g' : Int))] [] 1)) ∧ (decide ((↑g : Int) < (↑(List.map encXc x).length : Int)) = false → AV.i (-1) = AV.i (fiI (pX x m.fl) x.length)) := by
    have hlm : (List.map encXc x).length = x.length := List.length_map _
    have : (List.map encXc x).length = x.length := by simp only [List.length_map]
    refine ⟨⟨0, ⟨by omega, by intros; omega⟩, rfl⟩, fun g ⟨hg, ha⟩ => ⟨fun hd => ?_, fun hd => ?_⟩⟩
    · have hlt : g < x.length := by have h9 := of_decide_eq_true hd; have h8 := hg; (try simp only [List.length_map] at h8); (try simp only [List.length_map] at h9); omega
      try rw [show (↑g : Int).toNat = g from Int.toNat_natCast g]
      refine ⟨(by omega), (by omega), congrArg AV.agg (row_at encXc hlt), (c151 _ m), fun h1 => ?_, fun h1 => ⟨(by unfold In64; omega), ⟨g + 1, ⟨by omega, all_ext ha h1⟩, by omega, rfl⟩⟩⟩
      · rw [fiI, fi_some ha (show pX x m.fl g = true from h1) hlt, if_neg (by omega)]
    · have hge : g = x.length := by have h9 := of_decide_eq_false hd; have h8 := hg; (try simp only [List.length_map] at h8); (try simp only [List.length_map] at h9); omega
      subst hge
      rw [fiI, fi_none ha, if_pos rfl]
  exact c_of Tryz.f150 (mkB (fun n z => match n, z with | 151, [.agg y, _] => some (.bool ((decXc y).fl == m.fl)) | n, z => spS n z) 150 [(4, 4, rdL 11 encXc x 11 true)] (la1 (la150 x m))) (by kernel_rfl) (by kernel_rfl) (by kernel_rfl) (by kernel_rfl) key (by kernel_rfl)
def sp119 (r : Ru) (l : List Mv) (x : List Xc) : Nat → List AV → Option AV
  | 90, [.agg [.int _ a, .int _ b], .int _ m] => some (.bool (wiR a b m))
  | 150, [_, .fn _ _ [.elt _ [.str s :: _] _ _]] => some (.i (fiI (pX x s) x.length))
  | 124, [_, .agg m, .agg y] => some (.str (wordV r (decMv m) (decXc y)))
  | 121, [_, .str s] => some (.i (fiI (pX x s) x.length))
  | 58, [_, _, .agg y] => some (.str (wordV r (mvAt l (decXc y).fl) (decXc y)))
  | n, z => spS n z
structure Of (r : Ru) (l : List Mv) (x : List Xc) : Prop where
  S : Sh r l
  k : KyOK r
  e : exR r l x = 0
  n : x.length ≤ 1000
  b : ∀ y, y ∈ x → y.fl.length ≤ 400 ∧ y.re.length ≤ 400
def la119 (r : Ru) (l : List Mv) (x : List Xc) : LA := {
  pre := [.own 7 122 3, .reno 7 1, .keep [2, 3, 7, 12, 13, 14] [1], .bound 2], post := [.reno 7 1, .keep [2, 3, 7, 12, 13, 14] [1], .bound 2]
  Gh := Nat
  st := fun i => ⟨[(2, .sl 11 (x.map encXc)), (3, .elt 18 [encRu r] 0 0), (7, .own 1 (((l.take i).flatMap (oneC r x)).map encCs).length), (12, .sl 5 (l.map encMv)), (13, .i (l.map encMv).length), (14, .i i)], [(1, .buf 122 3 (((l.take i).flatMap (oneC r x)).map encCs))], 2⟩
  ok := fun i => i ≤ (l.map encMv).length
  ms := fun i => (l.map encMv).length - i }
theorem wordC_t {r : Ru} {x : List Xc} {m : Mv} (h : ixX x m.fl < x.length) : wordC r x m = wordV r m (x.getD (ixX x m.fl) default) := if_pos h
theorem wordC_f {r : Ru} {x : List Xc} {m : Mv} (h : ¬ ixX x m.fl < x.length) : wordC r x m = WN := if_neg h
theorem ix_t {x : List Xc} {s : List UInt8} (h : decide (fiI (pX x s) x.length ≥ 0) = true) : ixX x s < x.length ∧ (fiI (pX x s) x.length).toNat = ixX x s ∧ 0 ≤ fiI (pX x s) x.length ∧ fiI (pX x s) x.length < x.length := by
  rw [fiI_dec, decide_eq_true_eq] at h
  have := fiI_bd h
  exact ⟨h, this.2.2, this.1, this.2.1⟩
theorem ix_f {x : List Xc} {s : List UInt8} (h : decide (fiI (pX x s) x.length ≥ 0) = false) : ¬ ixX x s < x.length := by
  rw [fiI_dec, decide_eq_false_iff_not] at h
  exact h
theorem st_no {r : Ru} {l : List Mv} {x : List Xc} {g : Nat} (hg : g < l.length) (h : oneC r x (l.getD g default) = []) : (l.take (g + 1)).flatMap (oneC r x) = (l.take g).flatMap (oneC r x) := by
  rw [flat_succ _ hg, h, List.append_nil]
theorem st_one {r : Ru} {l : List Mv} {x : List Xc} {g : Nat} {c : Cs} (hg : g < l.length) (h : oneC r x (l.getD g default) = [c]) : ((l.take (g + 1)).flatMap (oneC r x)).map encCs = ((l.take g).flatMap (oneC r x)).map encCs ++ [encCs c] := by
  rw [flat_succ _ hg, h, List.map_append]
  rfl
theorem oneC_w {r : Ru} {x : List Xc} {m : Mv} (h : (!wiR r.c r.d m.mi) = true) : oneC r x m = [] := by
  unfold oneC
  rw [if_neg]
  simpa using h
theorem oneC_1 {r : Ru} {x : List Xc} {m : Mv} (h : (!wiR r.c r.d m.mi) = false) {w : List UInt8} (hw : wordC r x m = w) (h2 : (!(w == [])) = true) : oneC r x m = [⟨m.fl, w, r.fi⟩] := by
  subst hw
  unfold oneC
  rw [if_pos (by simpa using h), if_pos (show (wordC r x m != []) = true from h2)]
theorem oneC_0 {r : Ru} {x : List Xc} {m : Mv} (h : (!wiR r.c r.d m.mi) = false) {w : List UInt8} (hw : wordC r x m = w) (h2 : (!(w == [])) = false) : oneC r x m = [] := by
  subst hw
  unfold oneC
  rw [if_pos (by simpa using h), if_neg]
  rw [show (wordC r x m != []) = !(wordC r x m == []) from rfl, h2]
  decide
theorem c119 (r : Ru) (l : List Mv) (x : List Xc) (hO : Of r l x) : PCall Tryz.prog G0 119 [.agg (encRu r), .sl 5 (l.map encMv), .sl 11 (x.map encXc)] (.fresh 122 3 ((caL r l x).map encCs)) := by
  have key :
   (∃ (g : Nat), g ≤ (List.map encMv l).length ∧ AS.mk [(2, AV.sl 11 (List.map encXc x)), (3, AV.elt 18 [(encRu r)] 0 0), (7, AV.own 1 0), (12, AV.sl 5 (List.map encMv l)), (13, AV.i (↑(List.map encMv l).length : Int)), (14, AV.i 0)]
   [(1, ABlk.buf 122 3 [])] 2 = AS.mk [(2, AV.sl 11 (List.map encXc x)), (3, AV.elt 18 [(encRu r)] 0 0), (7, AV.own 1 (List.map encCs (List.flatMap (oneC r x) (List.take g l))).length), (12, AV.sl 5 (List.map encMv l)), (13, AV.i
   (↑(List.map encMv l).length : Int)), (14, AV.i (↑g : Int))] [(1, ABlk.buf 122 3 (List.map encCs (List.flatMap (oneC r x) (List.take g l))))] 2) ∧ ∀ (g : Nat), g ≤ (List.map encMv l).length → (decide ((↑g : Int) < (↑(List.map encMv
   l).length : Int)) = true → (0 : Int) ≤ (↑g : Int) ∧ (↑g : Int) < (↑(List.map encMv l).length : Int) ∧ AV.agg (nthR (List.map encMv l) (↑g : Int).toNat) = AV.agg (encMv (l.getD (↑g : Int).toNat default)) ∧ PCall Tryz.prog G0 90
   [AV.agg [AV.i r.c, AV.i r.d], AV.i (l.getD (↑g : Int).toNat default).mi] (AV.bool (wiR r.c r.d (l.getD (↑g : Int).toNat default).mi)) ∧ ((!wiR r.c r.d (l.getD (↑g : Int).toNat default).mi) = true → In64 ((↑g : Int) + 1) ∧ ∃ (g' :
   Nat), g' ≤ (List.map encMv l).length ∧ (List.map encMv l).length - g' < (List.map encMv l).length - g ∧ AS.mk [(2, AV.sl 11 (List.map encXc x)), (3, AV.elt 18 [(encRu r)] 0 0), (7, AV.own 1 (List.map encCs (List.flatMap (oneC r x)
   (List.take g l))).length), (12, AV.sl 5 (List.map encMv l)), (13, AV.i (↑(List.map encMv l).length : Int)), (14, AV.i ((↑g : Int) + 1))] [(1, ABlk.buf 122 3 (List.map encCs (List.flatMap (oneC r x) (List.take g l))))] 2 = AS.mk
   [(2, AV.sl 11 (List.map encXc x)), (3, AV.elt 18 [(encRu r)] 0 0), (7, AV.own 1 (List.map encCs (List.flatMap (oneC r x) (List.take g' l))).length), (12, AV.sl 5 (List.map encMv l)), (13, AV.i (↑(List.map encMv l).length : Int)),
   (14, AV.i (↑g' : Int))] [(1, ABlk.buf 122 3 (List.map encCs (List.flatMap (oneC r x) (List.take g' l))))] 2) ∧ ((!wiR r.c r.d (l.getD (↑g : Int).toNat default).mi) = false → PCall Tryz.prog G0 150 [AV.sl 11 (List.map encXc x),
   AV.fn (Fn.func 151) [] [AV.elt 5 [(encMv (l.getD (↑g : Int).toNat default))] 0 0]] (AV.i (fiI (pX x (l.getD (↑g : Int).toNat default).fl) x.length)) ∧ (decide (fiI (pX x (l.getD (↑g : Int).toNat default).fl) x.length ≥ 0) = true →
   (0 : Int) ≤ fiI (pX x (l.getD (↑g : Int).toNat default).fl) x.length ∧ fiI (pX x (l.getD (↑g : Int).toNat default).fl) x.length < (↑(List.map encXc x).length : Int) ∧ AV.agg (nthR (List.map encXc x) (fiI (pX x (l.getD (↑g :
   Int).toNat default).fl) x.length).toNat) = AV.agg (encXc (x.getD (fiI (pX x (l.getD (↑g : Int).toNat default).fl) x.length).toNat default)) ∧ PCall Tryz.prog G0 124 [AV.agg (encRu r), AV.agg (encMv (l.getD (↑g : Int).toNat
   default)), AV.agg (encXc (x.getD (fiI (pX x (l.getD (↑g : Int).toNat default).fl) x.length).toNat default))] (AV.str (wordV r (decMv (encMv (l.getD (↑g : Int).toNat default))) (decXc (encXc (x.getD (fiI (pX x (l.getD (↑g :
   Int).toNat default).fl) x.length).toNat default))))) ∧ ((!wordV r (decMv (encMv (l.getD (↑g : Int).toNat default))) (decXc (encXc (x.getD (fiI (pX x (l.getD (↑g : Int).toNat default).fl) x.length).toNat default))) == []) = true →
   (List.map encCs (List.flatMap (oneC r x) (List.take g l))).length + 1 ≤ 9223372036854775807 ∧ ((List.map encCs (List.flatMap (oneC r x) (List.take g l))).length + 1) * 40 ≤ 140737488355328 ∧ In64 ((↑g : Int) + 1) ∧ ∃ (g' : Nat), g'
   ≤ (List.map encMv l).length ∧ (List.map encMv l).length - g' < (List.map encMv l).length - g ∧ AS.mk [(2, AV.sl 11 (List.map encXc x)), (3, AV.elt 18 [(encRu r)] 0 0), (7, AV.own 1 ((List.map encCs (List.flatMap (oneC r x)
   (List.take g l))).length + 1)), (12, AV.sl 5 (List.map encMv l)), (13, AV.i (↑(List.map encMv l).length : Int)), (14, AV.i ((↑g : Int) + 1))] [(1, ABlk.buf 122 3 (List.map encCs (List.flatMap (oneC r x) (List.take g l)) ++ [[AV.str
   (l.getD (↑g : Int).toNat default).fl, AV.str (wordV r (decMv (encMv (l.getD (↑g : Int).toNat default))) (decXc (encXc (x.getD (fiI (pX x (l.getD (↑g : Int).toNat default).fl) x.length).toNat default)))), AV.i r.fi]]))] 2 = AS.mk
   [(2, AV.sl 11 (List.map encXc x)), (3, AV.elt 18 [(encRu r)] 0 0), (7, AV.own 1 (List.map encCs (List.flatMap (oneC r x) (List.take g' l))).length), (12, AV.sl 5 (List.map encMv l)), (13, AV.i (↑(List.map encMv l).length : Int)),
   (14, AV.i (↑g' : Int))] [(1, ABlk.buf 122 3 (List.map encCs (List.flatMap (oneC r x) (List.take g' l))))] 2) ∧ ((!wordV r (decMv (encMv (l.getD (↑g : Int).toNat default))) (decXc (encXc (x.getD (fiI (pX x (l.getD (↑g : Int).toNat
   default).fl) x.length).toNat default))) == []) = false → In64 ((↑g : Int) + 1) ∧ ∃ (g' : Nat), g' ≤ (List.map encMv l).length ∧ (List.map encMv l).length - g' < (List.map encMv l).length - g ∧ AS.mk [(2, AV.sl 11 (List.map encXc
   x)), (3, AV.elt 18 [(encRu r)] 0 0), (7, AV.own 1 (List.map encCs (List.flatMap (oneC r x) (List.take g l))).length), (12, AV.sl 5 (List.map encMv l)), (13, AV.i (↑(List.map encMv l).length : Int)), (14, AV.i ((↑g : Int) + 1))]
   [(1, ABlk.buf 122 3 (List.map encCs (List.flatMap (oneC r x) (List.take g l))))] 2 = AS.mk [(2, AV.sl 11 (List.map encXc x)), (3, AV.elt 18 [(encRu r)] 0 0), (7, AV.own 1 (List.map encCs (List.flatMap (oneC r x) (List.take g'
   l))).length), (12, AV.sl 5 (List.map encMv l)), (13, AV.i (↑(List.map encMv l).length : Int)), (14, AV.i (↑g' : Int))] [(1, ABlk.buf 122 3 (List.map encCs (List.flatMap (oneC r x) (List.take g' l))))] 2)) ∧ (decide (fiI (pX x
   (l.getD (↑g : Int).toNat default).fl) x.length ≥ 0) = false → (true = true → (List.map encCs (List.flatMap (oneC r x) (List.take g l))).length + 1 ≤ 9223372036854775807 ∧ ((List.map encCs (List.flatMap (oneC r x) (List.take g
   l))).length + 1) * 40 ≤ 140737488355328 ∧ In64 ((↑g : Int) + 1) ∧ ∃ (g' : Nat), g' ≤ (List.map encMv l).length ∧ (List.map encMv l).length - g' < (List.map encMv l).length - g ∧ AS.mk [(2, AV.sl 11 (List.map encXc x)), (3, AV.elt
   18 [(encRu r)] 0 0), (7, AV.own 1 ((List.map encCs (List.flatMap (oneC r x) (List.take g l))).length + 1)), (12, AV.sl 5 (List.map encMv l)), (13, AV.i (↑(List.map encMv l).length : Int)), (14, AV.i ((↑g : Int) + 1))] [(1, ABlk.buf
   122 3 (List.map encCs (List.flatMap (oneC r x) (List.take g l)) ++ [[AV.str (l.getD (↑g : Int).toNat default).fl, AV.str [(110 : UInt8), (111 : UInt8), (110 : UInt8), (101 : UInt8)], AV.i r.fi]]))] 2 = AS.mk [(2, AV.sl 11 (List.map
   encXc x)), (3, AV.elt 18 [(encRu r)] 0 0), (7, AV.own 1 (List.map encCs (List.flatMap (oneC r x) (List.take g' l))).length), (12, AV.sl 5 (List.map encMv l)), (13, AV.i (↑(List.map encMv l).length : Int)), (14, AV.i (↑g' : Int))]
   [(1, ABlk.buf 122 3 (List.map encCs (List.flatMap (oneC r x) (List.take g' l))))] 2) ∧ (true = false → In64 ((↑g : Int) + 1) ∧ ∃ (g' : Nat), g' ≤ (List.map encMv l).length ∧ (List.map encMv l).length - g' < (List.map encMv
   l).length - g ∧ AS.mk [(2, AV.sl 11 (List.map encXc x)), (3, AV.elt 18 [(encRu r)] 0 0), (7, AV.own 1 (List.map encCs (List.flatMap (oneC r x) (List.take g l))).length), (12, AV.sl 5 (List.map encMv l)), (13, AV.i (↑(List.map encMv
   l).length : Int)), (14, AV.i ((↑g : Int) + 1))] [(1, ABlk.buf 122 3 (List.map encCs (List.flatMap (oneC r x) (List.take g l))))] 2 = AS.mk [(2, AV.sl 11 (List.map encXc x)), (3, AV.elt 18 [(encRu r)] 0 0), (7, AV.own 1 (List.map
   encCs (List.flatMap (oneC r x) (List.take g' l))).length), (12, AV.sl 5 (List.map encMv l)), (13, AV.i (↑(List.map encMv l).length : Int)), (14, AV.i (↑g' : Int))] [(1, ABlk.buf 122 3 (List.map encCs (List.flatMap (oneC r x)
   (List.take g' l))))] 2)))) ∧ (decide ((↑g : Int) < (↑(List.map encMv l).length : Int)) = false → AV.fresh 122 3 (List.map encCs (List.flatMap (oneC r x) (List.take g l))) = AV.fresh 122 3 (List.map encCs (caL r l x))) := by
    have hlm : (List.map encMv l).length = l.length := List.length_map _
    have hxm : (List.map encXc x).length = x.length := List.length_map _
    have hlk := hO.S.k
    have h0 := (ex_ok hO.e).1
    have hcu := ru_cur (mv_ok h0).1
    have : (List.map encMv l).length = l.length := by simp only [List.length_map]
    have : (List.map encXc x).length = x.length := by simp only [List.length_map]
    refine ⟨⟨0, by omega, rfl⟩, fun g hg => ⟨fun hd => ?_, fun hd => ?_⟩⟩
    · have hlt : g < l.length := by have h9 := of_decide_eq_true hd; have h8 := hg; (try simp only [List.length_map] at h8); (try simp only [List.length_map] at h9); omega
      try rw [show (↑g : Int).toNat = g from Int.toNat_natCast g]
      have hmv := (mv_ok h0).2.1.2 _ (getD_mem hlt)
      have hmi := hmv.m
      have hfl : (List.map encCs (List.flatMap (oneC r x) (List.take g l))).length ≤ g := by
        rw [List.length_map]
        have := flat_len (oneC r x) (oneC_len r x) (l.take g)
        rw [List.length_take] at this
        omega
      try rw [show (↑g : Int).toNat = g from Int.toNat_natCast g]
      refine ⟨(by omega), (by omega), congrArg AV.agg (row_at encMv hlt), (c90w hcu.1 hcu.2.1 hcu.2.2 (by omega)), fun h1 => ⟨(by unfold In64; omega), ⟨g + 1, by omega, by omega, ?_⟩⟩, fun h1 => ⟨(c150 x _ hO.n), fun h2 => ?_, fun h2 => ?_⟩⟩
      · first
          | (rw [st_no hlt (oneC_w h1)]; rfl)
          | (rw [st_no hlt (oneC_0 h1 hw h3)]; rfl)
          | (exact absurd h3 (by decide))
      · have hi := ix_t h2
        have hw : wordC r x (l.getD g default) = wordV r (l.getD g default) (x.getD (fiI (pX x (l.getD g default).fl) x.length).toNat default) := by rw [wordC_t hi.1, hi.2.1]
        have hym : x.getD (fiI (pX x (l.getD g default).fl) x.length).toNat default ∈ x := getD_mem (by omega)
        refine ⟨(by omega), (by omega), congrArg AV.agg (row_at encXc (by omega)), (c124 r _ _ hO.S.s (day_in h0 (getD_mem hlt)) hO.k (hO.b _ hym).1 (hO.b _ hym).2), fun h3 => ⟨(by omega), (by omega), (by unfold In64; omega), ⟨g + 1, by omega, by omega, ?_⟩⟩, fun h3 => ⟨(by unfold In64; omega), ⟨g + 1, by omega, by omega, ?_⟩⟩⟩
        · first
            | (rw [st_one hlt (oneC_1 h1 hw h3), List.length_append]; rfl)
            | (rw [st_one hlt (oneC_1 h1 hw rfl), List.length_append]; rfl)
        · first
            | (rw [st_no hlt (oneC_w h1)]; rfl)
            | (rw [st_no hlt (oneC_0 h1 hw h3)]; rfl)
            | (exact absurd h3 (by decide))
      · have hw : wordC r x (l.getD g default) = WN := wordC_f (ix_f h2)
        refine ⟨fun h3 => ⟨(by omega), (by omega), (by unfold In64; omega), ⟨g + 1, by omega, by omega, ?_⟩⟩, fun h3 => ⟨(by unfold In64; omega), ⟨g + 1, by omega, by omega, ?_⟩⟩⟩
        · first
            | (rw [st_one hlt (oneC_1 h1 hw h3), List.length_append]; rfl)
            | (rw [st_one hlt (oneC_1 h1 hw rfl), List.length_append]; rfl)
        · first
            | (rw [st_no hlt (oneC_w h1)]; rfl)
            | (rw [st_no hlt (oneC_0 h1 hw h3)]; rfl)
            | (exact absurd h3 (by decide))
    · have hge : g = l.length := by have h9 := of_decide_eq_false hd; have h8 := hg; (try simp only [List.length_map] at h8); (try simp only [List.length_map] at h9); omega
      subst hge
      exact (by rw [List.take_length]; rfl)
  exact c_of Tryz.f119 (fzB (mkB (sp119 r l x) 119 [(4, 1, rdL 5 encMv l 5 true), (9, 5, rdL 11 encXc x 11 true)] (la1 (la119 r l x)))) (by kernel_rfl) (by kernel_rfl) (by kernel_rfl) (by kernel_rfl) key (by kernel_rfl)
theorem mvAt_self {l : List Mv} (hd : dis l) {g : Nat} (hg : g < l.length) : mvAt l (l.getD g default).fl = l.getD g default := by
  have e : fiN (pM l (l.getD g default).fl) l.length = g := fi_some (fun j hj => hd g hg j hj) (beq_self_eq_true _) hg
  rw [mvAt, e, if_pos hg]
def ca6 (r : Ru) (l : List Mv) (x : List Xc) : List Cs := if exR r l x == 0 then caL r l x else []
theorem c47 (r : Ru) (l : List Mv) (x : List Xc) (hS : Sh r l) (hk : KyOK r) (hn : x.length ≤ 1000) (hb : ∀ y, y ∈ x → y.fl.length ≤ 400 ∧ y.re.length ≤ 400) : PCall Tryz.prog G0 47 [.agg (encRu r), .sl 5 (l.map encMv), .sl 11 (x.map encXc)] (.tup [.sl 3 ((ca6 r l x).map encCs), .i (exR r l x)]) := by
  have key :
   PCall Tryz.prog G0 54 [AV.agg (encRu r), AV.sl 5 (List.map encMv l), AV.sl 11 (List.map encXc x)] (AV.i (exR r l x)) ∧ ((exR r l x != 0) = true → AV.tup [AV.sl 3 [], AV.i (exR r l x)] = AV.tup [AV.sl 3 (List.map encCs (ca6 r l x)),
   AV.i (exR r l x)]) ∧ ((exR r l x != 0) = false → PCall Tryz.prog G0 119 [AV.agg (encRu r), AV.sl 5 (List.map encMv l), AV.sl 11 (List.map encXc x)] (AV.fresh 122 3 (List.map encCs (caL r l x))) ∧ AV.tup [AV.sl 3 (List.map encCs
   (caL r l x)), AV.i 0] = AV.tup [AV.sl 3 (List.map encCs (ca6 r l x)), AV.i (exR r l x)]) := by
    refine ⟨(c54r hS hn (fun y hy => by have := (hb y hy).2; omega)), fun h1 => ?_, fun h1 => ⟨(c119 r l x ⟨hS, hk, bne_f h1, hn, hb⟩), ?_⟩⟩
    · rw [ca6, if_neg (by simpa using h1)]; rfl
    · rw [ca6, bne_f h1]; rfl
  exact c_of Tryz.f47 (gsB (fun i => if i.beq 4 then [.frzo 6] else if i.beq 3 then [.nil 6 3] else []) (fzB (mkB (fun n z => match n with | 54 => some (.i (exR r l x)) | 119 => some (.fresh 122 3 ((caL r l x).map encCs)) | _ => spS n z) 47 [] noLa))) (by kernel_rfl) (by kernel_rfl) (by kernel_rfl) (by kernel_rfl) key (by kernel_rfl)
end Go.Proofs.YtimgfogakgakhaaGreatDoor
namespace Go.Proofs.YtimgfogakgakhaaGreatDoor
open Go Go.Av Go.RowKit
def smF {α : Type} [Inhabited α] (f : α → Int) (n : Int) (l : List α) : Nat → Int
  | 0 => n
  | i + 1 => smF f n l i + f (l.getD i default)
theorem sm_bd {α : Type} [Inhabited α] {f : α → Int} {n N b : Int} {l : List α} (hn : 0 ≤ n ∧ n ≤ N) (hw : ∀ x, x ∈ l → 0 ≤ f x ∧ f x ≤ b) : ∀ i, i ≤ l.length → 0 ≤ smF f n l i ∧ smF f n l i ≤ N + b * i
  | 0, _ => by simp only [smF]; omega
  | i + 1, hi => by
    have := sm_bd hn hw i (by omega)
    have := hw _ (getD_mem (show i < l.length by omega))
    rw [smF, Int.natCast_add, Int.mul_add]
    omega
theorem sm_congr {α β : Type} [Inhabited α] [Inhabited β] {f : α → Int} {g : β → Int} {n : Int} {l : List α} {m : List β} (h : ∀ i, i < l.length → f (l.getD i default) = g (m.getD i default)) : ∀ i, i ≤ l.length → smF f n l i = smF g n m i
  | 0, _ => rfl
  | i + 1, hi => by rw [smF, smF, sm_congr h i (by omega), h i (by omega)]
def feB (r : Ru) (al : List UInt8) (m : Mv) : Int := if (m.al == al) = true then rFe r m else 0
def fiB (l : List Mv) (al : List UInt8) (c : Cs) : Int := if ((mvAt l c.fl).al == al) = true then c.f else 0
def feD (al : List UInt8) (d : Dt) : Int := if (d.m.al == al) = true then feOf d else 0
def fees (r : Ru) (l : List Mv) (al : List UInt8) : Int := smF (feB r al) 0 l l.length
def bill (r : Ru) (l : List Mv) (x : List Xc) (al : List UInt8) : Int := smF (fiB l al) (fees r l al) (caL r l x) (caL r l x).length
theorem ca_mem {r : Ru} {l : List Mv} {x : List Xc} {c : Cs} (h : c ∈ caL r l x) : ∃ m, m ∈ l ∧ c.fl = m.fl ∧ c.f = r.fi := by
  obtain ⟨m, hm, hc⟩ := List.mem_flatMap.1 h
  refine ⟨m, hm, ?_⟩
  unfold oneC at hc
  split at hc
  · split at hc
    · rw [List.mem_singleton.1 hc]
      exact ⟨rfl, rfl⟩
    · cases hc
  · cases hc
theorem ca_found {r : Ru} {l : List Mv} {x : List Xc} {c : Cs} (h : c ∈ caL r l x) : fiN (pM l c.fl) l.length < l.length := by
  obtain ⟨m, hm, e, -⟩ := ca_mem h
  obtain ⟨i, hi, rfl⟩ := mem_get hm
  exact fi_ex hi (by unfold pM; rw [e]; exact beq_self_eq_true _)
theorem ca_len (r : Ru) (l : List Mv) (x : List Xc) : (caL r l x).length ≤ l.length := flat_len _ (oneC_len r x) l
def eB6 (r : Ru) (l : List Mv) (x : List Xc) (al : List UInt8) : Int := sFirst [exR r l x, sWhen (!sName al) 8]
def sp49 (r : Ru) (l : List Mv) (x : List Xc) : Nat → List AV → Option AV
  | 54, _ => some (.i (exR r l x))
  | 104, _ => some (.sl 10 ((l.map (dtOf r)).map encDt))
  | 106, [.agg c] => some (.i (feOf (decDt c)))
  | 119, _ => some (.sl 3 ((caL r l x).map encCs))
  | n, z => spN n z
def la49 (r : Ru) (l : List Mv) (x : List Xc) (al : List UInt8) (b : Nat) : Option LA :=
  if b.beq 0 then
    let K : List GS := [.keep [1, 2, 3, 4, 11, 31, 32, 33] [], .bound 1]
    some { pre := K, post := K
           Gh := Nat
           st := fun i => ⟨[(1, .sl 5 (l.map encMv)), (2, .sl 11 (x.map encXc)), (3, .str al), (4, .elt 18 [encRu r] 0 0), (11, .i (smF (feD al) 0 (l.map (dtOf r)) i)), (31, .sl 10 ((l.map (dtOf r)).map encDt)), (32, .i ((l.map (dtOf r)).map encDt).length), (33, .i i)], [], 1⟩
           ok := fun i => i ≤ (l.map (dtOf r)).length
           ms := fun i => (l.map (dtOf r)).length - i }
  else
    let K : List GS := [.keep [3, 11, 14, 52, 53, 54] [3], .bound 4]
    some { pre := K, post := K
           Gh := Nat
           st := fun i => ⟨[(3, .str al), (11, .i (smF (fiB l al) (fees r l al) (caL r l x) i)), (14, .ref 3), (52, .sl 3 ((caL r l x).map encCs)), (53, .i ((caL r l x).map encCs).length), (54, .i i)], [(3, .map (pairsV (flatM l)))], 4⟩
           ok := fun i => i ≤ (caL r l x).length
           ms := fun i => (caL r l x).length - i }
theorem feD_eq {r : Ru} {l : List Mv} (h : RuOK r ∧ ∀ m, m ∈ l → MvOK r m) (al : List UInt8) : smF (feD al) 0 (l.map (dtOf r)) l.length = fees r l al := by
  have hl : (l.map (dtOf r)).length = l.length := List.length_map _
  unfold fees
  refine sm_congr (fun i hi => ?_) _ (by omega)
  rw [hl] at hi
  rw [getD_map hi]
  show (if ((l.getD i default).al == al) = true then feOf (dtOf r (l.getD i default)) else 0) = feB r al (l.getD i default)
  rw [fe_eq h.1 (h.2 _ (getD_mem hi))]
  rfl
theorem fees_bd {r : Ru} {l : List Mv} (h : RuOK r ∧ ∀ m, m ∈ l → MvOK r m) (al : List UInt8) : ∀ i, i ≤ l.length → 0 ≤ smF (feB r al) 0 l i ∧ smF (feB r al) 0 l i ≤ 0 + 200000 * i :=
  sm_bd (by omega) fun m hm => by
    have := fe_bd h.1 (h.2 m hm)
    unfold feB
    split <;> omega
theorem fiB_bd {r : Ru} {l : List Mv} {x : List Xc} (h : chkR r = 0) (al : List UInt8) (c : Cs) (hc : c ∈ caL r l x) : 0 ≤ fiB l al c ∧ fiB l al c ≤ 100000 := by
  obtain ⟨-, -, -, e⟩ := ca_mem hc
  have := (ru_more h).2.1
  unfold fiB
  rw [e]
  split <;> omega
theorem smF_t {α : Type} [Inhabited α] {f : α → Int} {n : Int} {l : List α} {g : Nat} {v : Int} (h : f (l.getD g default) = v) : smF f n l (g + 1) = smF f n l g + v := by rw [smF, h]
theorem smF_0 {α : Type} [Inhabited α] {f : α → Int} {n : Int} {l : List α} {g : Nat} (h : f (l.getD g default) = 0) : smF f n l (g + 1) = smF f n l g := by rw [smF, h, Int.add_zero]
theorem c49 (r : Ru) (l : List Mv) (x : List Xc) (al : List UInt8) (hS : Sh r l) (hk : KyOK r) (hn : x.length ≤ 1000) (hb : ∀ y, y ∈ x → y.fl.length ≤ 400 ∧ y.re.length ≤ 400) (ha : al.length ≤ 1000) : PCall Tryz.prog G0 49 [.agg (encRu r), .sl 5 (l.map encMv), .sl 11 (x.map encXc), .str al] (.tup [.i (if eB6 r l x al != 0 then 0 else bill r l x al), .i (eB6 r l x al)]) := by
  have key :
   PCall Tryz.prog G0 54 [AV.agg (encRu r), AV.sl 5 (List.map encMv l), AV.sl 11 (List.map encXc x)] (AV.i (exR r l x)) ∧ PCall Tryz.prog G0 113 [AV.str al] (AV.i (sWhen (!sName al) (8 : Int))) ∧ PCall Tryz.prog G0 87 [AV.sl 1 [[AV.i
   (exR r l x)], [AV.i (sWhen (!sName al) (8 : Int))]]] (AV.i (sFirst [hdI [AV.i (exR r l x)], hdI [AV.i (sWhen (!sName al) (8 : Int))]])) ∧ ((sFirst [hdI [AV.i (exR r l x)], hdI [AV.i (sWhen (!sName al) (8 : Int))]] != 0) = true →
   AV.tup [AV.i 0, AV.i (sFirst [hdI [AV.i (exR r l x)], hdI [AV.i (sWhen (!sName al) (8 : Int))]])] = AV.tup [AV.i (if (eB6 r l x al != 0) = true then (0 : Int) else bill r l x al), AV.i (eB6 r l x al)]) ∧ ((sFirst [hdI [AV.i (exR r
   l x)], hdI [AV.i (sWhen (!sName al) (8 : Int))]] != 0) = false → PCall Tryz.prog G0 104 [AV.sl 5 (List.map encMv l), AV.fn (Fn.func 105) [AV.agg (encRu r)] []] (AV.sl 10 (List.map encDt (List.map (dtOf r) l))) ∧ (∃ (g : Nat), g ≤
   (List.map (dtOf r) l).length ∧ AS.mk [(1, AV.sl 5 (List.map encMv l)), (2, AV.sl 11 (List.map encXc x)), (3, AV.str al), (4, AV.elt 18 [(encRu r)] 0 0), (11, AV.i 0), (31, AV.sl 10 (List.map encDt (List.map (dtOf r) l))), (32, AV.i
   (↑(List.map encDt (List.map (dtOf r) l)).length : Int)), (33, AV.i 0)] [] 1 = AS.mk [(1, AV.sl 5 (List.map encMv l)), (2, AV.sl 11 (List.map encXc x)), (3, AV.str al), (4, AV.elt 18 [(encRu r)] 0 0), (11, AV.i (smF (feD al) (0 :
   Int) (List.map (dtOf r) l) g)), (31, AV.sl 10 (List.map encDt (List.map (dtOf r) l))), (32, AV.i (↑(List.map encDt (List.map (dtOf r) l)).length : Int)), (33, AV.i (↑g : Int))] [] 1) ∧ ∀ (g : Nat), g ≤ (List.map (dtOf r) l).length
   → (decide ((↑g : Int) < (↑(List.map encDt (List.map (dtOf r) l)).length : Int)) = true → (0 : Int) ≤ (↑g : Int) ∧ (↑g : Int) < (↑(List.map encDt (List.map (dtOf r) l)).length : Int) ∧ AV.agg (nthR (List.map encDt (List.map (dtOf r)
   l)) (↑g : Int).toNat) = AV.agg (encDt ((List.map (dtOf r) l).getD (↑g : Int).toNat default)) ∧ ((((List.map (dtOf r) l).getD (↑g : Int).toNat default).m.al == al) = true → In64 (smF (feD al) (0 : Int) (List.map (dtOf r) l) g + feOf
   (decDt (encDt ((List.map (dtOf r) l).getD (↑g : Int).toNat default)))) ∧ PCall Tryz.prog G0 106 [AV.agg (encDt ((List.map (dtOf r) l).getD (↑g : Int).toNat default))] (AV.i (feOf (decDt (encDt ((List.map (dtOf r) l).getD (↑g :
   Int).toNat default))))) ∧ In64 ((↑g : Int) + 1) ∧ ∃ (g' : Nat), g' ≤ (List.map (dtOf r) l).length ∧ (List.map (dtOf r) l).length - g' < (List.map (dtOf r) l).length - g ∧ AS.mk [(1, AV.sl 5 (List.map encMv l)), (2, AV.sl 11
   (List.map encXc x)), (3, AV.str al), (4, AV.elt 18 [(encRu r)] 0 0), (11, AV.i (smF (feD al) (0 : Int) (List.map (dtOf r) l) g + feOf (decDt (encDt ((List.map (dtOf r) l).getD (↑g : Int).toNat default))))), (31, AV.sl 10 (List.map
   encDt (List.map (dtOf r) l))), (32, AV.i (↑(List.map encDt (List.map (dtOf r) l)).length : Int)), (33, AV.i ((↑g : Int) + 1))] [] 1 = AS.mk [(1, AV.sl 5 (List.map encMv l)), (2, AV.sl 11 (List.map encXc x)), (3, AV.str al), (4,
   AV.elt 18 [(encRu r)] 0 0), (11, AV.i (smF (feD al) (0 : Int) (List.map (dtOf r) l) g')), (31, AV.sl 10 (List.map encDt (List.map (dtOf r) l))), (32, AV.i (↑(List.map encDt (List.map (dtOf r) l)).length : Int)), (33, AV.i (↑g' :
   Int))] [] 1) ∧ ((((List.map (dtOf r) l).getD (↑g : Int).toNat default).m.al == al) = false → In64 ((↑g : Int) + 1) ∧ ∃ (g' : Nat), g' ≤ (List.map (dtOf r) l).length ∧ (List.map (dtOf r) l).length - g' < (List.map (dtOf r) l).length
   - g ∧ AS.mk [(1, AV.sl 5 (List.map encMv l)), (2, AV.sl 11 (List.map encXc x)), (3, AV.str al), (4, AV.elt 18 [(encRu r)] 0 0), (11, AV.i (smF (feD al) (0 : Int) (List.map (dtOf r) l) g)), (31, AV.sl 10 (List.map encDt (List.map
   (dtOf r) l))), (32, AV.i (↑(List.map encDt (List.map (dtOf r) l)).length : Int)), (33, AV.i ((↑g : Int) + 1))] [] 1 = AS.mk [(1, AV.sl 5 (List.map encMv l)), (2, AV.sl 11 (List.map encXc x)), (3, AV.str al), (4, AV.elt 18 [(encRu
   r)] 0 0), (11, AV.i (smF (feD al) (0 : Int) (List.map (dtOf r) l) g')), (31, AV.sl 10 (List.map encDt (List.map (dtOf r) l))), (32, AV.i (↑(List.map encDt (List.map (dtOf r) l)).length : Int)), (33, AV.i (↑g' : Int))] [] 1)) ∧
   (decide ((↑g : Int) < (↑(List.map encDt (List.map (dtOf r) l)).length : Int)) = false → WCall Tryz.prog G0 120 [AV.sl 5 (List.map encMv l)] [] (AV.ref 1) [ABlk.map (pairsV (flatM l))] ∧ PCall Tryz.prog G0 119 [AV.agg (encRu r),
   AV.sl 5 (List.map encMv l), AV.sl 11 (List.map encXc x)] (AV.sl 3 (List.map encCs (caL r l x))) ∧ (∃ (g_1 : Nat), g_1 ≤ (caL r l x).length ∧ AS.mk [(3, AV.str al), (11, AV.i (smF (feD al) (0 : Int) (List.map (dtOf r) l) g)), (14,
   AV.ref 3), (52, AV.sl 3 (List.map encCs (caL r l x))), (53, AV.i (↑(List.map encCs (caL r l x)).length : Int)), (54, AV.i 0)] [(3, ABlk.map (pairsV (flatM l)))] 4 = AS.mk [(3, AV.str al), (11, AV.i (smF (fiB l al) (fees r l al)
   (caL r l x) g_1)), (14, AV.ref 3), (52, AV.sl 3 (List.map encCs (caL r l x))), (53, AV.i (↑(List.map encCs (caL r l x)).length : Int)), (54, AV.i (↑g_1 : Int))] [(3, ABlk.map (pairsV (flatM l)))] 4) ∧ ∀ (g : Nat), g ≤ (caL r l
   x).length → (decide ((↑g : Int) < (↑(List.map encCs (caL r l x)).length : Int)) = true → (0 : Int) ≤ (↑g : Int) ∧ (↑g : Int) < (↑(List.map encCs (caL r l x)).length : Int) ∧ AV.agg (nthR (List.map encCs (caL r l x)) (↑g :
   Int).toNat) = AV.agg (encCs ((caL r l x).getD (↑g : Int).toNat default)) ∧ (mlook (AV.str ((caL r l x).getD (↑g : Int).toNat default).fl) (pairsV (flatM l))).isSome = true ∧ lookV false (AV.agg [AV.str [], AV.str [], AV.str [],
   AV.i 0, AV.i 0]) (mlook (AV.str ((caL r l x).getD (↑g : Int).toNat default).fl) (pairsV (flatM l))) = AV.agg (encMv (mvAt l ((caL r l x).getD (↑g : Int).toNat default).fl)) ∧ (((mvAt l ((caL r l x).getD (↑g : Int).toNat
   default).fl).al == al) = true → In64 (smF (fiB l al) (fees r l al) (caL r l x) g + ((caL r l x).getD (↑g : Int).toNat default).f) ∧ In64 ((↑g : Int) + 1) ∧ ∃ (g' : Nat), g' ≤ (caL r l x).length ∧ (caL r l x).length - g' < (caL r l
   x).length - g ∧ AS.mk [(3, AV.str al), (11, AV.i (smF (fiB l al) (fees r l al) (caL r l x) g + ((caL r l x).getD (↑g : Int).toNat default).f)), (14, AV.ref 3), (52, AV.sl 3 (List.map encCs (caL r l x))), (53, AV.i (↑(List.map encCs
   (caL r l x)).length : Int)), (54, AV.i ((↑g : Int) + 1))] [(3, ABlk.map (pairsV (flatM l)))] 4 = AS.mk [(3, AV.str al), (11, AV.i (smF (fiB l al) (fees r l al) (caL r l x) g')), (14, AV.ref 3), (52, AV.sl 3 (List.map encCs (caL r l
   x))), (53, AV.i (↑(List.map encCs (caL r l x)).length : Int)), (54, AV.i (↑g' : Int))] [(3, ABlk.map (pairsV (flatM l)))] 4) ∧ (((mvAt l ((caL r l x).getD (↑g : Int).toNat default).fl).al == al) = false → In64 ((↑g : Int) + 1) ∧ ∃
   (g' : Nat), g' ≤ (caL r l x).length ∧ (caL r l x).length - g' < (caL r l x).length - g ∧ AS.mk [(3, AV.str al), (11, AV.i (smF (fiB l al) (fees r l al) (caL r l x) g)), (14, AV.ref 3), (52, AV.sl 3 (List.map encCs (caL r l x))),
   (53, AV.i (↑(List.map encCs (caL r l x)).length : Int)), (54, AV.i ((↑g : Int) + 1))] [(3, ABlk.map (pairsV (flatM l)))] 4 = AS.mk [(3, AV.str al), (11, AV.i (smF (fiB l al) (fees r l al) (caL r l x) g')), (14, AV.ref 3), (52,
   AV.sl 3 (List.map encCs (caL r l x))), (53, AV.i (↑(List.map encCs (caL r l x)).length : Int)), (54, AV.i (↑g' : Int))] [(3, ABlk.map (pairsV (flatM l)))] 4)) ∧ (decide ((↑g : Int) < (↑(List.map encCs (caL r l x)).length : Int)) =
   false → AV.tup [AV.i (smF (fiB l al) (fees r l al) (caL r l x) g), AV.i 0] = AV.tup [AV.i (if (eB6 r l x al != 0) = true then (0 : Int) else bill r l x al), AV.i (eB6 r l x al)]))) := by
    have hlk := hS.k
    have : (List.map (dtOf r) l).length = l.length := by simp only [List.length_map]
    have : (List.map encDt (List.map (dtOf r) l)).length = l.length := by simp only [List.length_map]
    have : (List.map encCs (caL r l x)).length = (caL r l x).length := by simp only [List.length_map]
    refine ⟨(c54r hS hn (fun y hy => by have := (hb y hy).2; omega)), (c113 _ (by omega)), (c87 [_, _] (by simp)), fun h1 => ?_, fun h1 => ?_⟩
    · rw [if_pos (show (eB6 r l x al != 0) = true from h1)]; rfl
    · have hB : (eB6 r l x al != 0) = false := h1
      have hz := bne_f hB
      have hz2 := hz
      unfold eB6 at hz2
      rw [first_zero] at hz2
      have hO : Of r l x := ⟨hS, hk, hz2.1, hn, hb⟩
      have h0 := (ex_ok hO.e).1
      have hV := (mv_ok h0).2.1
      have hfb := fees_bd hV al
      have hlm : (l.map (dtOf r)).length = l.length := List.length_map _
      have hdb : ∀ i, i ≤ (l.map (dtOf r)).length → 0 ≤ smF (feD al) 0 (l.map (dtOf r)) i ∧ smF (feD al) 0 (l.map (dtOf r)) i ≤ 0 + 200000 * i := sm_bd (by omega) fun d hd => by
        obtain ⟨m, hm, rfl⟩ := List.mem_map.1 hd
        have := fe_bd hV.1 (hV.2 m hm)
        unfold feD
        rw [fe_eq hV.1 (hV.2 m hm)]
        split <;> omega
      have hfe := feD_eq hV al
      have hcl := ca_len r l x
      have hfs := hfb l.length (Nat.le_refl _)
      have hcb := fun i => sm_bd (f := fiB l al) (n := fees r l al) (N := 200000000) (b := 100000) (l := caL r l x) (by unfold fees; omega) (fun c hc => fiB_bd (mv_ok h0).1 al c hc) i
      refine ⟨((c104 r l hV.1 hV.2 hlk).un), ⟨⟨0, by omega, rfl⟩, fun g hg => ⟨fun hd => ?_, fun hd => ?_⟩⟩⟩
      · have hlt : g < (List.map (dtOf r) l).length := by have h9 := of_decide_eq_true hd; have h8 := hg; (try simp only [List.length_map] at h8); (try simp only [List.length_map] at h9); omega
        try rw [show (↑g : Int).toNat = g from Int.toNat_natCast g]
        have hgb := hdb g (by omega)
        have hgm := getD_mem hlt
        have hg64 : 0 ≤ feOf ((l.map (dtOf r)).getD g default) ∧ feOf ((l.map (dtOf r)).getD g default) ≤ 200000 := by
          obtain ⟨m, hm, e⟩ := List.mem_map.1 hgm
          rw [← e, fe_eq hV.1 (hV.2 m hm)]
          exact fe_bd hV.1 (hV.2 m hm)
        try rw [show (↑g : Int).toNat = g from Int.toNat_natCast g]
        refine ⟨(by omega), (by omega), congrArg AV.agg (row_at encDt hlt), fun h2 => ⟨(by show In64 (_ + feOf ((l.map (dtOf r)).getD g default)); unfold In64; omega), (c106 _ (fe_in hV _ hgm)), (by unfold In64; omega), ⟨g + 1, by omega, by omega, ?_⟩⟩, fun h2 => ⟨(by unfold In64; omega), ⟨g + 1, by omega, by omega, ?_⟩⟩⟩
        · rw [smF_t (f := feD al) (show feD al ((l.map (dtOf r)).getD g default) = _ from if_pos h2)]; rfl
        · rw [smF_0 (f := feD al) (show feD al ((l.map (dtOf r)).getD g default) = 0 from if_neg (by rw [h2]; decide))]; rfl
      · have hge : g = (List.map (dtOf r) l).length := by have h9 := of_decide_eq_false hd; have h8 := hg; (try simp only [List.length_map] at h8); (try simp only [List.length_map] at h9); omega
        subst hge
        refine ⟨(w120r h0 hS.k), ((c119 r l x hO).un), ⟨⟨0, by omega, (by rw [hlm, hfe]; rfl)⟩, fun g hg2 => ⟨fun hd2 => ?_, fun hd2 => ?_⟩⟩⟩
        · have hlt2 : g < (caL r l x).length := by have h9 := of_decide_eq_true hd2; have h8 := hg2; (try simp only [List.length_map] at h8); (try simp only [List.length_map] at h9); omega
          try rw [show (↑g : Int).toNat = g from Int.toNat_natCast g]
          have hgb := hcb g (by omega)
          have hgm := getD_mem hlt2
          have hgf : 0 ≤ ((caL r l x).getD g default).f ∧ ((caL r l x).getD g default).f ≤ 100000 := by
            obtain ⟨-, -, -, e⟩ := ca_mem hgm
            rw [e]
            exact (ru_more (mv_ok h0).1).2.1
          try rw [show (↑g : Int).toNat = g from Int.toNat_natCast g]
          refine ⟨(by omega), (by omega), congrArg AV.agg (row_at encCs hlt2), (rdM_ok l _).2.2, (rdM_ok l _).2.1, fun h2 => ⟨(by unfold In64; omega), (by unfold In64; omega), ⟨g + 1, by omega, by omega, ?_⟩⟩, fun h2 => ⟨(by unfold In64; omega), ⟨g + 1, by omega, by omega, ?_⟩⟩⟩
          · rw [smF_t (f := fiB l al) (show fiB l al ((caL r l x).getD g default) = _ from if_pos h2)]; rfl
          · rw [smF_0 (f := fiB l al) (show fiB l al ((caL r l x).getD g default) = 0 from if_neg (by rw [h2]; decide))]; rfl
        · have hge2 : g = (caL r l x).length := by have h9 := of_decide_eq_false hd2; have h8 := hg2; (try simp only [List.length_map] at h8); (try simp only [List.length_map] at h9); omega
          subst hge2
          rw [if_neg (by rw [hB]; decide), hz]; rfl
  exact c_of Tryz.f49 ({ modA 15 3 (fun a => { a with rdb := rdM l false }) (fzB (mkB (sp49 r l x) 49 [(7, 1, rdL 10 encDt (l.map (dtOf r)) 10 true), (14, 1, rdL 3 encCs (caL r l x) 3 true)] (la49 r l x al))) with hs := hs120 l }) (by kernel_rfl) (by kernel_rfl) (by kernel_rfl) (by kernel_rfl) key (by kernel_rfl)
end Go.Proofs.YtimgfogakgakhaaGreatDoor
