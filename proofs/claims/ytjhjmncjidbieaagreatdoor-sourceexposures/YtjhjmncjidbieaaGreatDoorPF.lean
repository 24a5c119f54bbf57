/-
  What chapter 2's given and told return: the type itself. No condition but the theorems' own. What is asked of a type; what the source returns of it. No condition but the theorems' own. Contracts from the parts of a body. No condition but the theorems' own. SourceExposures returns true. No condition but the theorems' own. What loops over functions are handed in chapter 2, on concrete values. No condition but the theorem's own. Contracts of the library at this program, laid by the kit from its shelf: each is one application of a theorem of the library. No condition but what each theorem names. The library's strconv.Itoa and strings.Join, as contracts on abstract values. No condition but the theorems' own. The library's calls on concrete values, and what is known of the program for runs on concrete values. No condition but the theorems' own. Calls on concrete values. No condition: runs in the kernel. The arguments of chapter 2's statements, and the way from a contract of a statement to its row. No condition but the theorems' own. A type, and what is asked of it, as arguments. No condition but the theorems' own. A track, and ticks with a receiver, as arguments. No condition but the theorems' own.
-/
import Derived.Test.YtjhjmncjidbieaaGreatDoorPC
import Derived.Test.YtjhjmncjidbieaaGreatDoorAvC
import Derived.Test.YtjhjmncjidbieaaGreatDoorPD
import Derived.Test.YtjhjmncjidbieaaGreatDoorPE
import Derived.Shelf.Strings.OnBuilder
import Derived.Shelf.LaysM
import Derived.Shelf.Strconv.Itoa3
import Derived.Test.YtjhjmncjidbieaaGreatDoorProg
import Derived.Test.YtjhjmncjidbieaaGreatDoorPA
import Derived.Test.YtjhjmncjidbieaaGreatDoorPB
import Derived.Test.YtjhjmncjidbieaaGreatDoorCards
import Derived.Test.YtjhjmncjidbieaaGreatDoorTie
import Derived.LaidMore
import Derived.LaidOnce
import Derived.Stop.Joined
import Derived.SevenTiedAt
namespace Go.Proofs.YtjhjmncjidbieaaGreatDoor
open Go Go.Av Go.RowKit
def sp28 : Nat → List AV → Option AV
  | 58, [.agg c] => some (.agg c)
  | n, x => spR n x
def zeroTy : List AV := [.str [], .ex (.slice none 0 0), .i 0, .i 0, .i 0, .i 0, .i 0, .i 0, .i 0, .i 0, .i 0, .ex (.slice none 0 0), .ex (.slice none 0 0)]
def la28 (t : Ty) : LA := {
  pre := [.reno 3 1, .reno 2 3, .ownb 1 12 182 2, .renc 1 12 2, .keep [2, 3, 20, 21, 22] [1, 2, 3], .bound 4], post := [.renc 1 12 2, .keep [2, 3, 20, 21, 22] [1, 2, 3], .bound 4]
  Gh := Nat
  st := fun i => ⟨[(2, .ptr 3 0), (3, .ptr 1 0), (20, .sl 2 (t.st.map encSg)), (21, .i t.st.length), (22, .i i)], [(1, .box [.str t.name, .sl 1 (t.sh.map encI), .i t.d0, .i t.d1, .i t.d2, .i t.d3, .i t.d4, .i t.d5, .i t.d6, .i t.d7, .i t.side, .sl 1 (t.sq.map encI), .own 2 ((t.st.take i).map encSg).length]), (2, .buf 182 2 ((t.st.take i).map encSg)), (3, .box zeroTy)], 4⟩
  ok := fun i => i ≤ t.st.length
  ms := fun i => t.st.length - i }
theorem c28 (t : Ty) (hl : t.st.length ≤ 1000) (h2 : t.sh.length ≤ 1000) (h3 : t.sq.length ≤ 1000) (h4 : ∀ s, s ∈ t.st → s.e.length ≤ 1000) : PCall Tryz.prog G0 28 [.agg (encTy t)] (.agg (encTy t)) := by
  have key :
   PCall Tryz.prog G0 58 [AV.agg [AV.str t.name, AV.sl 1 (List.map encI t.sh), AV.i t.d0, AV.i t.d1, AV.i t.d2, AV.i t.d3, AV.i t.d4, AV.i t.d5, AV.i t.d6, AV.i t.d7, AV.i t.side, AV.sl 1 (List.map encI t.sq), AV.sl 2 (List.map encSg
   t.st)]] (AV.agg [AV.str t.name, AV.sl 1 (List.map encI t.sh), AV.i t.d0, AV.i t.d1, AV.i t.d2, AV.i t.d3, AV.i t.d4, AV.i t.d5, AV.i t.d6, AV.i t.d7, AV.i t.side, AV.sl 1 (List.map encI t.sq), AV.sl 2 (List.map encSg t.st)]) ∧ (∃
   (g : Nat), g ≤ t.st.length ∧ AS.mk [(2, AV.ptr 3 0), (3, AV.ptr 1 0), (20, AV.sl 2 (List.map encSg t.st)), (21, AV.i (↑(List.map encSg t.st).length : Int)), (22, AV.i 0)] [(1, ABlk.box [AV.str t.name, AV.sl 1 (List.map encI t.sh),
   AV.i t.d0, AV.i t.d1, AV.i t.d2, AV.i t.d3, AV.i t.d4, AV.i t.d5, AV.i t.d6, AV.i t.d7, AV.i t.side, AV.sl 1 (List.map encI t.sq), AV.own 2 0]), (2, ABlk.buf 182 2 []), (3, ABlk.box [AV.str [], AV.ex (Value.slice none 0 0), AV.i 0,
   AV.i 0, AV.i 0, AV.i 0, AV.i 0, AV.i 0, AV.i 0, AV.i 0, AV.i 0, AV.ex (Value.slice none 0 0), AV.ex (Value.slice none 0 0)])] 4 = AS.mk [(2, AV.ptr 3 0), (3, AV.ptr 1 0), (20, AV.sl 2 (List.map encSg t.st)), (21, AV.i (↑t.st.length
   : Int)), (22, AV.i (↑g : Int))] [(1, ABlk.box [AV.str t.name, AV.sl 1 (List.map encI t.sh), AV.i t.d0, AV.i t.d1, AV.i t.d2, AV.i t.d3, AV.i t.d4, AV.i t.d5, AV.i t.d6, AV.i t.d7, AV.i t.side, AV.sl 1 (List.map encI t.sq), AV.own 2
   (List.map encSg (List.take g t.st)).length]), (2, ABlk.buf 182 2 (List.map encSg (List.take g t.st))), (3, ABlk.box [AV.str [], AV.ex (Value.slice none 0 0), AV.i 0, AV.i 0, AV.i 0, AV.i 0, AV.i 0, AV.i 0, AV.i 0, AV.i 0, AV.i 0,
   AV.ex (Value.slice none 0 0), AV.ex (Value.slice none 0 0)])] 4) ∧ ∀ (g : Nat), g ≤ t.st.length → (decide ((↑g : Int) < (↑t.st.length : Int)) = true → (0 : Int) ≤ (↑g : Int) ∧ (↑g : Int) < (↑(List.map encSg t.st).length : Int) ∧
   AV.agg (nthR (List.map encSg t.st) (↑g : Int).toNat) = AV.agg [AV.i (t.st.getD (↑g : Int).toNat default).p, AV.sl 1 (List.map encI (t.st.getD (↑g : Int).toNat default).e)] ∧ (List.map encSg (List.take g t.st)).length + 1 ≤
   9223372036854775807 ∧ ((List.map encSg (List.take g t.st)).length + 1) * 32 ≤ 140737488355328 ∧ In64 ((↑g : Int) + 1) ∧ ∃ (g' : Nat), g' ≤ t.st.length ∧ t.st.length - g' < t.st.length - g ∧ AS.mk [(2, AV.ptr 3 0), (3, AV.ptr 1 0),
   (20, AV.sl 2 (List.map encSg t.st)), (21, AV.i (↑t.st.length : Int)), (22, AV.i ((↑g : Int) + 1))] [(1, ABlk.box [AV.str t.name, AV.sl 1 (List.map encI t.sh), AV.i t.d0, AV.i t.d1, AV.i t.d2, AV.i t.d3, AV.i t.d4, AV.i t.d5, AV.i
   t.d6, AV.i t.d7, AV.i t.side, AV.sl 1 (List.map encI t.sq), AV.own 2 ((List.map encSg (List.take g t.st)).length + 1)]), (2, ABlk.buf 182 2 (List.map encSg (List.take g t.st) ++ [[AV.i (t.st.getD (↑g : Int).toNat default).p, AV.sl
   1 (List.map encI (t.st.getD (↑g : Int).toNat default).e)]])), (3, ABlk.box [AV.str [], AV.ex (Value.slice none 0 0), AV.i 0, AV.i 0, AV.i 0, AV.i 0, AV.i 0, AV.i 0, AV.i 0, AV.i 0, AV.i 0, AV.ex (Value.slice none 0 0), AV.ex
   (Value.slice none 0 0)])] 4 = AS.mk [(2, AV.ptr 3 0), (3, AV.ptr 1 0), (20, AV.sl 2 (List.map encSg t.st)), (21, AV.i (↑t.st.length : Int)), (22, AV.i (↑g' : Int))] [(1, ABlk.box [AV.str t.name, AV.sl 1 (List.map encI t.sh), AV.i
   t.d0, AV.i t.d1, AV.i t.d2, AV.i t.d3, AV.i t.d4, AV.i t.d5, AV.i t.d6, AV.i t.d7, AV.i t.side, AV.sl 1 (List.map encI t.sq), AV.own 2 (List.map encSg (List.take g' t.st)).length]), (2, ABlk.buf 182 2 (List.map encSg (List.take g'
   t.st))), (3, ABlk.box [AV.str [], AV.ex (Value.slice none 0 0), AV.i 0, AV.i 0, AV.i 0, AV.i 0, AV.i 0, AV.i 0, AV.i 0, AV.i 0, AV.i 0, AV.ex (Value.slice none 0 0), AV.ex (Value.slice none 0 0)])] 4) ∧ (decide ((↑g : Int) <
   (↑t.st.length : Int)) = false → AV.agg [AV.str t.name, AV.sl 1 (List.map encI t.sh), AV.i t.d0, AV.i t.d1, AV.i t.d2, AV.i t.d3, AV.i t.d4, AV.i t.d5, AV.i t.d6, AV.i t.d7, AV.i t.side, AV.sl 1 (List.map encI t.sq), AV.sl 2
   (List.map encSg (List.take g t.st))] = AV.agg [AV.str t.name, AV.sl 1 (List.map encI t.sh), AV.i t.d0, AV.i t.d1, AV.i t.d2, AV.i t.d3, AV.i t.d4, AV.i t.d5, AV.i t.d6, AV.i t.d7, AV.i t.side, AV.sl 1 (List.map encI t.sq), AV.sl 2
   (List.map encSg t.st)]) := by
    have hlm : (List.map encSg t.st).length = t.st.length := List.length_map _
    refine ⟨c58 t hl h2 h3 h4, ⟨0, by omega, by rw [hlm]; rfl⟩, fun g hg => ⟨fun hd => ?_, fun hd => ?_⟩⟩
    · have hlt := lt_of_dec hd
      have h6 := take_succ encSg hlt
      have h7 : (List.map encSg (List.take g t.st)).length = g := by rw [List.length_map, List.length_take]; omega
      have h8 : (List.map encSg (List.take (g + 1) t.st)).length = g + 1 := by rw [List.length_map, List.length_take]; omega
      refine ⟨by omega, by omega, congrArg AV.agg (row_at encSg hlt), by omega, by omega, by unfold In64; omega, g + 1, hlt, by omega, ?_⟩
      rw [h8, ← h6, h7]
      rfl
    · rw [ge_of_dec hd hg, List.take_length]
  exact c_of Tryz.f28 ({ modA 6 4 (fun a => { a with fz := false }) (mkB sp28 28 [(5, 1, rdL 2 encSg t.st 2 true)] (fun i => if i.beq 0 then some (la28 t) else none)) with bx := fun i => if i.beq 0 then [.frzc 1 12] else [], gs := fun i => if i.beq 1 then [.frzo 1] else [] }) (by kernel_rfl) (by kernel_rfl) (by kernel_rfl) (by kernel_rfl) key (by kernel_rfl)
end Go.Proofs.YtjhjmncjidbieaaGreatDoor
namespace Go.Proofs.YtjhjmncjidbieaaGreatDoor
open Go Go.Av Go.RowKit
structure Ask where
  p : Int
  d : Int
  x : Int
  y : Int
  z : Int
  a : Int
  b : Int
  q : Int
  x2 : Int
  y2 : Int
  z2 : Int
  u : Int
  v : Int
  e : Int
def encAsk (k : Ask) : List AV := [.i k.p, .i k.d, .i k.x, .i k.y, .i k.z, .i k.a, .i k.b, .i k.q, .i k.x2, .i k.y2, .i k.z2, .i k.u, .i k.v, .i k.e]
theorem r_zero {c e : Int} (h : (c == 0) = true) : (if (c != 0) = true then 0 else e) = e := by
  have : c = 0 := by simpa using h
  subst this
  rfl
theorem r_bad {c e : Int} (h : (c == 0) = false) : (if (c != 0) = true then 0 else e) = 0 := by
  have h' : (c != 0) = true := by
    rw [bne, h]
    rfl
  rw [if_pos h']
structure ShortTy (t : Ty) : Prop where
  n : t.name.length ≤ 40
  s : t.sh.length ≤ 9
  q : t.sq.length ≤ 9
  st : t.st.length ≤ 7
  e : ∀ x, x ∈ t.st → x.e.length ≤ 9
theorem short_of {t : Ty} (h : sShort t = true) : ShortTy t := by
  unfold sShort at h
  simp only [Bool.and_eq_true, List.all_eq_true, decide_eq_true_eq] at h
  exact ⟨h.2.1, h.2.2.1, h.2.2.2.1, h.2.2.2.2, h.1⟩
def rdT : List AV → Option AV := fun _ => some (.bool true)
def noSym (r : Nat) (B : BA) : BA := { B with ra := fun i => if i.beq r then { B.ra i with ans := (B.ra i).ans.map fun a => { a with sym := false } } else B.ra i }
def b6 (t : Ty) (k : Ask) : List (Nat × AV) := [(2, .elt 13 [encTy t] 0 0), (3, .elt 14 [encAsk k] 0 0), (4, .bool false)]
end Go.Proofs.YtjhjmncjidbieaaGreatDoor
namespace Go.Proofs.YtjhjmncjidbieaaGreatDoor
open Go Go.Av Go.RowKit
theorem c32t {t : Ty} (h : ShortTy t) : PCall Tryz.prog G0 32 [.agg (encTy t)] (.i (sTyR t)) := c32 t (by have := h.st; omega) (by have := h.s; omega) (by have := h.q; omega) (fun x hx => by have := h.e x hx; omega) (by have := h.n; omega)
def rdF : List AV → Option AV := fun _ => some (.bool false)
def md (g : List GS) (l : List (Nat × AV)) : Option (List GS × AS) := some (g ++ [.keep (l.map (·.1)) [], .bound 1], ⟨l, [], 1⟩)
theorem c_ofG {f : Nat} {args : List AV} {r : AV} (fn : Func) (B : BA) (ms : List (Option (List GS × AS))) (hf : Tryz.prog.funcs[f]? = some fn) (hb : fn.body = some (bodyOf fn)) (hn : (fn.name == "runtime.NumGoroutine") = false) (hlen : Nat.ble args.length fn.ntmps = true)
    {q : Prop} (hq : q) (h : partsG (bodyE Tryz.prog T0 G0 fn.ntmps []) B (retQ T0 fn fun v => v = r) (flatSeq (bodyOf fn)) ms (startS args) = q) : PCall Tryz.prog G0 f args r :=
  call_of_partsG tok mix hf hb hn (Nat.le_of_ble_eq_true hlen) B ms (vc_of hq h)
end Go.Proofs.YtjhjmncjidbieaaGreatDoor
namespace Go.Proofs.YtjhjmncjidbieaaGreatDoor
open Go Go.Av Go.RowKit
def md1 (g : List GS) (l : List (Nat × AV)) (c : List AV) : Option (List GS × AS) := some (g ++ [.keep (l.map (·.1)) [1], .bound 2], ⟨l, [(1, .box c)], 2⟩)
def v0 (t : Ty) (l : List Fx) (a b x y z : Int) : Int := if decide (fromA l a ≥ toB l b) then 0 else (mxH (hrdA t l x y z) (fromA l a) (toB l b - fromA l a).toNat).1
def v1 (t : Ty) (l : List Fx) (a b x y z : Int) : Int := if decide (fromA l a ≥ toB l b) then 0 else (mxH (hrdA t l x y z) (fromA l a) (toB l b - fromA l a).toNat).2
def v2 (l : List Fx) (a b : Int) : Int := if decide (fromA l a ≥ toB l b) then 7 else 0
theorem mxV_eq (t : Ty) (l : List Fx) (a b x y z : Int) : mxV (hrdA t l x y z) (fromA l a) (toB l b) = [.i (v0 t l a b x y z), .i (v1 t l a b x y z), .i (v2 l a b)] := by
  unfold mxV v0 v1 v2
  cases decide (fromA l a ≥ toB l b) <;> rfl
def rM0 (t : Ty) (l : List Fx) (a b x y z : Int) : Int := if chkH t l a b x y z != 0 then 0 else v0 t l a b x y z
def rM1 (t : Ty) (l : List Fx) (a b x y z : Int) : Int := if chkH t l a b x y z != 0 then 0 else v1 t l a b x y z
def rM2 (t : Ty) (l : List Fx) (a b x y z : Int) : Int := if chkH t l a b x y z != 0 then chkH t l a b x y z else v2 l a b
theorem rMax_eq (t : Ty) (l : List Fx) (a b x y z : Int) : rMax t l a b x y z = [.i (rM0 t l a b x y z), .i (rM1 t l a b x y z), .i (rM2 t l a b x y z)] := by
  unfold rMax rM0 rM1 rM2
  rw [mxV_eq]
  cases (chkH t l a b x y z != 0) <;> rfl
def rL (t : Ty) (l : List Fx) (x y z : Int) : Int := if chkEn t l x y z != 0 then 0 else lowN t l x y z (l.length - 1)
def rH (t : Ty) (l : List Fx) (x y z : Int) : Int := if chkEn t l x y z != 0 then 0 else highN t l x y z (l.length - 1)
theorem rEnc_eq (t : Ty) (l : List Fx) (x y z : Int) : rEnc t l x y z = [.agg [.i (rL t l x y z), .i (rH t l x y z)], .i (chkEn t l x y z)] := by
  unfold rEnc rL rH
  by_cases h : chkEn t l x y z = 0
  · rw [h]
    rfl
  · have h' : (chkEn t l x y z != 0) = true := by simpa using h
    rw [if_pos h', if_pos h', if_pos h']
def sp4 (t : Ty) (l : List Fx) (a b x y z : Int) : Nat → List AV → Option AV
  | 13, _ => some (.bool true)
  | 25, _ => some (.bool (sShort t))
  | 26, _ => some (.bool (decide (l.length ≤ 17)))
  | 27, _ => some (.tup [.i (rExp t l a b x y z), .i (chkH t l a b x y z)])
  | 28, _ => some (.agg (encTy t))
  | 29, _ => some (.sl 5 (l.map encFx))
  | 30, _ => some (.tup [.i (rM0 t l a b x y z), .i (rM1 t l a b x y z), .i (rM2 t l a b x y z)])
  | 31, _ => some (.tup [.agg [.i (rL t l x y z), .i (rH t l x y z)], .i (chkEn t l x y z)])
  | 32, _ => some (.i (sTyR t))
  | 33, _ => some (.i (sTrackR l))
  | 34, _ => some (.i (sWhen (if (if decide (a < 0) then true else decide (a > b)) then true else decide (b > 100000000)) 14))
  | 36, _ => some (.i (sumH (hrdA t l x y z) (fromA l a) (toB l b - fromA l a).toNat))
  | 37, _ => some (.tup [.i (v0 t l a b x y z), .i (v1 t l a b x y z), .i (v2 l a b)])
  | 38, _ => some (.agg [.i (lowN t l x y z (l.length - 1)), .i (highN t l x y z (l.length - 1))])
  | n, w => spR n w
def b4 (t : Ty) (l : List Fx) (a b x y z : Int) : List (Nat × AV) := [(1, .sl 5 (l.map encFx)), (3, .elt 13 [encTy t] 0 0), (5, .elt 5 [[.i a, .i b, .i x, .i y, .i z]] 0 0), (6, .bool false)]
def w4 (t : Ty) (l : List Fx) (a b x y z : Int) : List (Nat × AV) := [(7, .i (rExp t l a b x y z)), (8, .i (chkH t l a b x y z)), (9, .i (rM0 t l a b x y z)), (10, .i (rM1 t l a b x y z)), (11, .i (rM2 t l a b x y z)), (12, .elt 2 [[.i (rL t l x y z), .i (rH t l x y z)]] 0 0), (13, .i (chkEn t l x y z)),
  (14, .i (sFirst [sTyR t, sTrackR l])), (15, .i (chkH t l a b x y z)), (16, .i (chkEn t l x y z))]
def x4 (p q r s : Int) : List (Nat × AV) := [(17, .i p), (18, .i q), (19, .i r), (20, .i s)]
def m4 (t : Ty) (l : List Fx) (a b x y z : Int) : List (Option (List GS × AS)) :=
  let B := b4 t l a b x y z
  let W := w4 t l a b x y z
  [md [] B, md [] (B ++ [(29, .bool false)]), md [] B, md [] (B ++ W.take 2), md [] (B ++ W.take 5), md [] (B ++ W.take 7), md [] (B ++ W.take 8), md [] (B ++ W), md [] (B ++ W ++ [(17, .i (chkH t l a b x y z))]), md [] (B ++ W ++ x4 (chkH t l a b x y z) 0 0 0),
   md1 [.reno 21 1] (B ++ W ++ x4 (chkH t l a b x y z) 0 0 0 ++ [(21, .ptr 1 0)]) [.i 0, .i 0],
   md1 [] (B ++ W ++ x4 (chkH t l a b x y z) 0 0 0 ++ [(21, .ptr 1 0), (89, .bool (chkH t l a b x y z == 0))]) [.i 0, .i 0],
   md1 [] (B ++ W ++ x4 (rM2 t l a b x y z) (rExp t l a b x y z) (rM0 t l a b x y z) (rM1 t l a b x y z) ++ [(21, .ptr 1 0)]) [.i 0, .i 0],
   md1 [] (B ++ W ++ x4 (rM2 t l a b x y z) (rExp t l a b x y z) (rM0 t l a b x y z) (rM1 t l a b x y z) ++ [(21, .ptr 1 0), (109, .bool (chkEn t l x y z == 0))]) [.i 0, .i 0],
   md [.frzo 21] (B ++ W ++ x4 (rM2 t l a b x y z) (rExp t l a b x y z) (rM0 t l a b x y z) (rM1 t l a b x y z) ++ [(21, .elt 2 [[.i (rL t l x y z), .i (rH t l x y z)]] 0 0)])]
def f4 (t : Ty) (l : List Fx) (a b x y z : Int) : List (Option (List GS × AS)) := [md [] (b4 t l a b x y z), md [] (b4 t l a b x y z ++ [(29, .bool true)])]
def cl4 : Operand → Bool
  | .tmp t => t.beq 29
  | _ => false
def rds4 : List (Nat × Nat × (List AV → Option AV)) := [(16, 2, rdT), (16, 6, rdT), (16, 11, rdT), (16, 16, rdT), (16, 21, rdT), (16, 26, rdT), (16, 31, rdT)]
def B4 (t : Ty) (l : List Fx) (a b x y z : Int) (r : List (Nat × Nat × (List AV → Option AV))) : BA := { noSym 1 (noSym 16 (fzB (mkB (sp4 t l a b x y z) 4 (r ++ rds4) noLa))) with cl := cl4 }
theorem c4_0 (t : Ty) (l : List Fx) (a b x y z : Int) (hA : PCall Tryz.prog G0 13 [] (.bool true)) (hl : t.st.length ≤ 9223372036854775807) (h0 : (!sShort t) = true) : PCall Tryz.prog G0 4 [.agg (encTy t), .sl 5 (l.map encFx), .agg [.i a, .i b, .i x, .i y, .i z]] (.bool true) := by
  have key :
   AS.mk [(1, AV.sl 5 (List.map encFx l)), (3, AV.elt 13 [(encTy t)] 0 0), (5, AV.elt 5 [[AV.i a, AV.i b, AV.i x, AV.i y, AV.i z]] 0 0), (6, AV.bool false)] [] 1 = AS.mk [(1, AV.sl 5 (List.map encFx l)), (3, AV.elt 13 [(encTy t)] 0
   0), (5, AV.elt 5 [[AV.i a, AV.i b, AV.i x, AV.i y, AV.i z]] 0 0), (6, AV.bool false)] [] 1 ∧ ((true = false → false = true) ∧ PCall Tryz.prog G0 25 [AV.agg (encTy t)] (AV.bool (sShort t)) ∧ (AV.bool !sShort t) = AV.bool true ∧
   AS.mk [(1, AV.sl 5 (List.map encFx l)), (3, AV.elt 13 [(encTy t)] 0 0), (5, AV.elt 5 [[AV.i a, AV.i b, AV.i x, AV.i y, AV.i z]] 0 0), (6, AV.bool false), (29, AV.bool true)] [] 1 = AS.mk [(1, AV.sl 5 (List.map encFx l)), (3, AV.elt
   13 [(encTy t)] 0 0), (5, AV.elt 5 [[AV.i a, AV.i b, AV.i x, AV.i y, AV.i z]] 0 0), (6, AV.bool false), (29, AV.bool true)] [] 1) ∧ PCall Tryz.prog G0 13 [] (AV.bool true) ∧ AV.bool true = AV.bool true := by
    exact ⟨rfl, ⟨(fun h => by cases h), c25 t hl, congrArg AV.bool h0, rfl⟩, hA, rfl⟩
  exact c_ofG Tryz.f4 (B4 t l a b x y z [(1, 2, rdT)]) (f4 t l a b x y z) (by kernel_rfl) (by kernel_rfl) (by kernel_rfl) (by kernel_rfl) key (by kernel_rfl)
theorem c4_1 (t : Ty) (l : List Fx) (a b x y z : Int) (hA : PCall Tryz.prog G0 13 [] (.bool true)) (hl : t.st.length ≤ 9223372036854775807) (h0 : (!sShort t) = false) (h1 : (!decide (l.length ≤ 17)) = true) : PCall Tryz.prog G0 4 [.agg (encTy t), .sl 5 (l.map encFx), .agg [.i a, .i b, .i x, .i y, .i z]] (.bool true) := by
  have key :
   AS.mk [(1, AV.sl 5 (List.map encFx l)), (3, AV.elt 13 [(encTy t)] 0 0), (5, AV.elt 5 [[AV.i a, AV.i b, AV.i x, AV.i y, AV.i z]] 0 0), (6, AV.bool false)] [] 1 = AS.mk [(1, AV.sl 5 (List.map encFx l)), (3, AV.elt 13 [(encTy t)] 0
   0), (5, AV.elt 5 [[AV.i a, AV.i b, AV.i x, AV.i y, AV.i z]] 0 0), (6, AV.bool false)] [] 1 ∧ (PCall Tryz.prog G0 25 [AV.agg (encTy t)] (AV.bool (sShort t)) ∧ (AV.bool !sShort t) = AV.bool false ∧ PCall Tryz.prog G0 26 [AV.sl 5
   (List.map encFx l)] (AV.bool (decide (l.length ≤ 17))) ∧ (AV.bool !decide (l.length ≤ 17)) = AV.bool true ∧ AS.mk [(1, AV.sl 5 (List.map encFx l)), (3, AV.elt 13 [(encTy t)] 0 0), (5, AV.elt 5 [[AV.i a, AV.i b, AV.i x, AV.i y, AV.i
   z]] 0 0), (6, AV.bool false), (29, AV.bool true)] [] 1 = AS.mk [(1, AV.sl 5 (List.map encFx l)), (3, AV.elt 13 [(encTy t)] 0 0), (5, AV.elt 5 [[AV.i a, AV.i b, AV.i x, AV.i y, AV.i z]] 0 0), (6, AV.bool false), (29, AV.bool true)]
   [] 1) ∧ PCall Tryz.prog G0 13 [] (AV.bool true) ∧ AV.bool true = AV.bool true := by
    exact ⟨rfl, ⟨c25 t hl, congrArg AV.bool h0, c26 l, congrArg AV.bool h1, rfl⟩, hA, rfl⟩
  exact c_ofG Tryz.f4 (B4 t l a b x y z [(1, 2, rdF), (1, 6, rdT)]) (f4 t l a b x y z) (by kernel_rfl) (by kernel_rfl) (by kernel_rfl) (by kernel_rfl) key (by kernel_rfl)
theorem c4_ok (t : Ty) (l : List Fx) (a b x y z : Int) (hA : PCall Tryz.prog G0 13 [] (.bool true)) (hl : t.st.length ≤ 9223372036854775807) (h0 : (!sShort t) = false) (h1 : (!decide (l.length ≤ 17)) = false) : PCall Tryz.prog G0 4 [.agg (encTy t), .sl 5 (l.map encFx), .agg [.i a, .i b, .i x, .i y, .i z]] (.bool true) := by
  have key :
   AS.mk [(1, AV.sl 5 (List.map encFx l)), (3, AV.elt 13 [(encTy t)] 0 0), (5, AV.elt 5 [[AV.i a, AV.i b, AV.i x, AV.i y, AV.i z]] 0 0), (6, AV.bool false)] [] 1 = AS.mk [(1, AV.sl 5 (List.map encFx l)), (3, AV.elt 13 [(encTy t)] 0
   0), (5, AV.elt 5 [[AV.i a, AV.i b, AV.i x, AV.i y, AV.i z]] 0 0), (6, AV.bool false)] [] 1 ∧ (PCall Tryz.prog G0 25 [AV.agg (encTy t)] (AV.bool (sShort t)) ∧ (AV.bool !sShort t) = AV.bool false ∧ PCall Tryz.prog G0 26 [AV.sl 5
   (List.map encFx l)] (AV.bool (decide (l.length ≤ 17))) ∧ (AV.bool !decide (l.length ≤ 17)) = AV.bool false ∧ AS.mk [(1, AV.sl 5 (List.map encFx l)), (3, AV.elt 13 [(encTy t)] 0 0), (5, AV.elt 5 [[AV.i a, AV.i b, AV.i x, AV.i y,
   AV.i z]] 0 0), (6, AV.bool false), (29, AV.bool false)] [] 1 = AS.mk [(1, AV.sl 5 (List.map encFx l)), (3, AV.elt 13 [(encTy t)] 0 0), (5, AV.elt 5 [[AV.i a, AV.i b, AV.i x, AV.i y, AV.i z]] 0 0), (6, AV.bool false), (29, AV.bool
   false)] [] 1) ∧ AS.mk [(1, AV.sl 5 (List.map encFx l)), (3, AV.elt 13 [(encTy t)] 0 0), (5, AV.elt 5 [[AV.i a, AV.i b, AV.i x, AV.i y, AV.i z]] 0 0), (6, AV.bool false)] [] 1 = AS.mk [(1, AV.sl 5 (List.map encFx l)), (3, AV.elt 13
   [(encTy t)] 0 0), (5, AV.elt 5 [[AV.i a, AV.i b, AV.i x, AV.i y, AV.i z]] 0 0), (6, AV.bool false)] [] 1 ∧ (PCall Tryz.prog G0 28 [AV.agg (encTy t)] (AV.agg (encTy t)) ∧ PCall Tryz.prog G0 29 [AV.sl 5 (List.map encFx l)] (AV.sl 5
   (List.map encFx l)) ∧ PCall Tryz.prog G0 27 [AV.agg (encTy t), AV.sl 5 (List.map encFx l), AV.agg [AV.i a, AV.i b], AV.agg [AV.i x, AV.i y, AV.i z]] (AV.tup [AV.i (rExp t l a b x y z), AV.i (chkH t l a b x y z)]) ∧ AS.mk [(1, AV.sl
   5 (List.map encFx l)), (3, AV.elt 13 [(encTy t)] 0 0), (5, AV.elt 5 [[AV.i a, AV.i b, AV.i x, AV.i y, AV.i z]] 0 0), (6, AV.bool false), (7, AV.i (rExp t l a b x y z)), (8, AV.i (chkH t l a b x y z))] [] 1 = AS.mk [(1, AV.sl 5
   (List.map encFx l)), (3, AV.elt 13 [(encTy t)] 0 0), (5, AV.elt 5 [[AV.i a, AV.i b, AV.i x, AV.i y, AV.i z]] 0 0), (6, AV.bool false), (7, AV.i (rExp t l a b x y z)), (8, AV.i (chkH t l a b x y z))] [] 1) ∧ (PCall Tryz.prog G0 28
   [AV.agg (encTy t)] (AV.agg (encTy t)) ∧ PCall Tryz.prog G0 29 [AV.sl 5 (List.map encFx l)] (AV.sl 5 (List.map encFx l)) ∧ PCall Tryz.prog G0 30 [AV.agg (encTy t), AV.sl 5 (List.map encFx l), AV.agg [AV.i a, AV.i b], AV.agg [AV.i x,
   AV.i y, AV.i z]] (AV.tup [AV.i (rM0 t l a b x y z), AV.i (rM1 t l a b x y z), AV.i (rM2 t l a b x y z)]) ∧ AS.mk [(1, AV.sl 5 (List.map encFx l)), (3, AV.elt 13 [(encTy t)] 0 0), (5, AV.elt 5 [[AV.i a, AV.i b, AV.i x, AV.i y, AV.i
   z]] 0 0), (6, AV.bool false), (7, AV.i (rExp t l a b x y z)), (8, AV.i (chkH t l a b x y z)), (9, AV.i (rM0 t l a b x y z)), (10, AV.i (rM1 t l a b x y z)), (11, AV.i (rM2 t l a b x y z))] [] 1 = AS.mk [(1, AV.sl 5 (List.map encFx
   l)), (3, AV.elt 13 [(encTy t)] 0 0), (5, AV.elt 5 [[AV.i a, AV.i b, AV.i x, AV.i y, AV.i z]] 0 0), (6, AV.bool false), (7, AV.i (rExp t l a b x y z)), (8, AV.i (chkH t l a b x y z)), (9, AV.i (rM0 t l a b x y z)), (10, AV.i (rM1 t
   l a b x y z)), (11, AV.i (rM2 t l a b x y z))] [] 1) ∧ (PCall Tryz.prog G0 28 [AV.agg (encTy t)] (AV.agg (encTy t)) ∧ PCall Tryz.prog G0 29 [AV.sl 5 (List.map encFx l)] (AV.sl 5 (List.map encFx l)) ∧ PCall Tryz.prog G0 31 [AV.agg
   (encTy t), AV.sl 5 (List.map encFx l), AV.agg [AV.i x, AV.i y, AV.i z]] (AV.tup [AV.agg [AV.i (rL t l x y z), AV.i (rH t l x y z)], AV.i (chkEn t l x y z)]) ∧ AS.mk [(1, AV.sl 5 (List.map encFx l)), (3, AV.elt 13 [(encTy t)] 0 0),
   (5, AV.elt 5 [[AV.i a, AV.i b, AV.i x, AV.i y, AV.i z]] 0 0), (6, AV.bool false), (7, AV.i (rExp t l a b x y z)), (8, AV.i (chkH t l a b x y z)), (9, AV.i (rM0 t l a b x y z)), (10, AV.i (rM1 t l a b x y z)), (11, AV.i (rM2 t l a b
   x y z)), (12, AV.elt 2 [[AV.i (rL t l x y z), AV.i (rH t l x y z)]] 0 0), (13, AV.i (chkEn t l x y z))] [] 1 = AS.mk [(1, AV.sl 5 (List.map encFx l)), (3, AV.elt 13 [(encTy t)] 0 0), (5, AV.elt 5 [[AV.i a, AV.i b, AV.i x, AV.i y,
   AV.i z]] 0 0), (6, AV.bool false), (7, AV.i (rExp t l a b x y z)), (8, AV.i (chkH t l a b x y z)), (9, AV.i (rM0 t l a b x y z)), (10, AV.i (rM1 t l a b x y z)), (11, AV.i (rM2 t l a b x y z)), (12, AV.elt 2 [[AV.i (rL t l x y z),
   AV.i (rH t l x y z)]] 0 0), (13, AV.i (chkEn t l x y z))] [] 1) ∧ (PCall Tryz.prog G0 32 [AV.agg (encTy t)] (AV.i (sTyR t)) ∧ PCall Tryz.prog G0 33 [AV.sl 5 (List.map encFx l)] (AV.i (sTrackR l)) ∧ PCall Tryz.prog G0 16 [AV.sl 1
   [[AV.i (sTyR t)], [AV.i (sTrackR l)]]] (AV.i (sFirst [hdI [AV.i (sTyR t)], hdI [AV.i (sTrackR l)]])) ∧ AS.mk [(1, AV.sl 5 (List.map encFx l)), (3, AV.elt 13 [(encTy t)] 0 0), (5, AV.elt 5 [[AV.i a, AV.i b, AV.i x, AV.i y, AV.i z]]
   0 0), (6, AV.bool false), (7, AV.i (rExp t l a b x y z)), (8, AV.i (chkH t l a b x y z)), (9, AV.i (rM0 t l a b x y z)), (10, AV.i (rM1 t l a b x y z)), (11, AV.i (rM2 t l a b x y z)), (12, AV.elt 2 [[AV.i (rL t l x y z), AV.i (rH
   t l x y z)]] 0 0), (13, AV.i (chkEn t l x y z)), (14, AV.i (sFirst [hdI [AV.i (sTyR t)], hdI [AV.i (sTrackR l)]]))] [] 1 = AS.mk [(1, AV.sl 5 (List.map encFx l)), (3, AV.elt 13 [(encTy t)] 0 0), (5, AV.elt 5 [[AV.i a, AV.i b, AV.i
   x, AV.i y, AV.i z]] 0 0), (6, AV.bool false), (7, AV.i (rExp t l a b x y z)), (8, AV.i (chkH t l a b x y z)), (9, AV.i (rM0 t l a b x y z)), (10, AV.i (rM1 t l a b x y z)), (11, AV.i (rM2 t l a b x y z)), (12, AV.elt 2 [[AV.i (rL t
   l x y z), AV.i (rH t l x y z)]] 0 0), (13, AV.i (chkEn t l x y z)), (14, AV.i (sFirst [sTyR t, sTrackR l]))] [] 1) ∧ (PCall Tryz.prog G0 34 [AV.agg [AV.i a, AV.i b]] (AV.i (sWhen (if (if decide (a < 0) = true then true else decide
   (a > b)) = true then true else decide (b > 100000000)) (14 : Int))) ∧ PCall Tryz.prog G0 35 [AV.agg [AV.i x, AV.i y, AV.i z]] (AV.i (sPlace x y z)) ∧ PCall Tryz.prog G0 16 [AV.sl 1 [[AV.i (sFirst [sTyR t, sTrackR l])], [AV.i (sWhen
   (if (if decide (a < 0) = true then true else decide (a > b)) = true then true else decide (b > 100000000)) (14 : Int))], [AV.i (sPlace x y z)]]] (AV.i (sFirst [hdI [AV.i (sFirst [sTyR t, sTrackR l])], hdI [AV.i (sWhen (if (if
   decide (a < 0) = true then true else decide (a > b)) = true then true else decide (b > 100000000)) (14 : Int))], hdI [AV.i (sPlace x y z)]])) ∧ PCall Tryz.prog G0 35 [AV.agg [AV.i x, AV.i y, AV.i z]] (AV.i (sPlace x y z)) ∧ PCall
   Tryz.prog G0 16 [AV.sl 1 [[AV.i (sFirst [sTyR t, sTrackR l])], [AV.i (sPlace x y z)]]] (AV.i (sFirst [hdI [AV.i (sFirst [sTyR t, sTrackR l])], hdI [AV.i (sPlace x y z)]])) ∧ AS.mk [(1, AV.sl 5 (List.map encFx l)), (3, AV.elt 13
   [(encTy t)] 0 0), (5, AV.elt 5 [[AV.i a, AV.i b, AV.i x, AV.i y, AV.i z]] 0 0), (6, AV.bool false), (7, AV.i (rExp t l a b x y z)), (8, AV.i (chkH t l a b x y z)), (9, AV.i (rM0 t l a b x y z)), (10, AV.i (rM1 t l a b x y z)), (11,
   AV.i (rM2 t l a b x y z)), (12, AV.elt 2 [[AV.i (rL t l x y z), AV.i (rH t l x y z)]] 0 0), (13, AV.i (chkEn t l x y z)), (14, AV.i (sFirst [sTyR t, sTrackR l])), (15, AV.i (sFirst [hdI [AV.i (sFirst [sTyR t, sTrackR l])], hdI
   [AV.i (sWhen (if (if decide (a < 0) = true then true else decide (a > b)) = true then true else decide (b > 100000000)) (14 : Int))], hdI [AV.i (sPlace x y z)]])), (16, AV.i (sFirst [hdI [AV.i (sFirst [sTyR t, sTrackR l])], hdI
   [AV.i (sPlace x y z)]]))] [] 1 = AS.mk [(1, AV.sl 5 (List.map encFx l)), (3, AV.elt 13 [(encTy t)] 0 0), (5, AV.elt 5 [[AV.i a, AV.i b, AV.i x, AV.i y, AV.i z]] 0 0), (6, AV.bool false), (7, AV.i (rExp t l a b x y z)), (8, AV.i
   (chkH t l a b x y z)), (9, AV.i (rM0 t l a b x y z)), (10, AV.i (rM1 t l a b x y z)), (11, AV.i (rM2 t l a b x y z)), (12, AV.elt 2 [[AV.i (rL t l x y z), AV.i (rH t l x y z)]] 0 0), (13, AV.i (chkEn t l x y z)), (14, AV.i (sFirst
   [sTyR t, sTrackR l])), (15, AV.i (chkH t l a b x y z)), (16, AV.i (chkEn t l x y z))] [] 1) ∧ AS.mk [(1, AV.sl 5 (List.map encFx l)), (3, AV.elt 13 [(encTy t)] 0 0), (5, AV.elt 5 [[AV.i a, AV.i b, AV.i x, AV.i y, AV.i z]] 0 0), (6,
   AV.bool false), (7, AV.i (rExp t l a b x y z)), (8, AV.i (chkH t l a b x y z)), (9, AV.i (rM0 t l a b x y z)), (10, AV.i (rM1 t l a b x y z)), (11, AV.i (rM2 t l a b x y z)), (12, AV.elt 2 [[AV.i (rL t l x y z), AV.i (rH t l x y
   z)]] 0 0), (13, AV.i (chkEn t l x y z)), (14, AV.i (sFirst [sTyR t, sTrackR l])), (15, AV.i (chkH t l a b x y z)), (16, AV.i (chkEn t l x y z)), (17, AV.i (chkH t l a b x y z))] [] 1 = AS.mk [(1, AV.sl 5 (List.map encFx l)), (3,
   AV.elt 13 [(encTy t)] 0 0), (5, AV.elt 5 [[AV.i a, AV.i b, AV.i x, AV.i y, AV.i z]] 0 0), (6, AV.bool false), (7, AV.i (rExp t l a b x y z)), (8, AV.i (chkH t l a b x y z)), (9, AV.i (rM0 t l a b x y z)), (10, AV.i (rM1 t l a b x y
   z)), (11, AV.i (rM2 t l a b x y z)), (12, AV.elt 2 [[AV.i (rL t l x y z), AV.i (rH t l x y z)]] 0 0), (13, AV.i (chkEn t l x y z)), (14, AV.i (sFirst [sTyR t, sTrackR l])), (15, AV.i (chkH t l a b x y z)), (16, AV.i (chkEn t l x y
   z)), (17, AV.i (chkH t l a b x y z))] [] 1 ∧ AS.mk [(1, AV.sl 5 (List.map encFx l)), (3, AV.elt 13 [(encTy t)] 0 0), (5, AV.elt 5 [[AV.i a, AV.i b, AV.i x, AV.i y, AV.i z]] 0 0), (6, AV.bool false), (7, AV.i (rExp t l a b x y z)),
   (8, AV.i (chkH t l a b x y z)), (9, AV.i (rM0 t l a b x y z)), (10, AV.i (rM1 t l a b x y z)), (11, AV.i (rM2 t l a b x y z)), (12, AV.elt 2 [[AV.i (rL t l x y z), AV.i (rH t l x y z)]] 0 0), (13, AV.i (chkEn t l x y z)), (14, AV.i
   (sFirst [sTyR t, sTrackR l])), (15, AV.i (chkH t l a b x y z)), (16, AV.i (chkEn t l x y z)), (17, AV.i (chkH t l a b x y z)), (18, AV.i 0), (19, AV.i 0), (20, AV.i 0)] [] 1 = AS.mk [(1, AV.sl 5 (List.map encFx l)), (3, AV.elt 13
   [(encTy t)] 0 0), (5, AV.elt 5 [[AV.i a, AV.i b, AV.i x, AV.i y, AV.i z]] 0 0), (6, AV.bool false), (7, AV.i (rExp t l a b x y z)), (8, AV.i (chkH t l a b x y z)), (9, AV.i (rM0 t l a b x y z)), (10, AV.i (rM1 t l a b x y z)), (11,
   AV.i (rM2 t l a b x y z)), (12, AV.elt 2 [[AV.i (rL t l x y z), AV.i (rH t l x y z)]] 0 0), (13, AV.i (chkEn t l x y z)), (14, AV.i (sFirst [sTyR t, sTrackR l])), (15, AV.i (chkH t l a b x y z)), (16, AV.i (chkEn t l x y z)), (17,
   AV.i (chkH t l a b x y z)), (18, AV.i 0), (19, AV.i 0), (20, AV.i 0)] [] 1 ∧ AS.mk [(1, AV.sl 5 (List.map encFx l)), (3, AV.elt 13 [(encTy t)] 0 0), (5, AV.elt 5 [[AV.i a, AV.i b, AV.i x, AV.i y, AV.i z]] 0 0), (6, AV.bool false),
   (7, AV.i (rExp t l a b x y z)), (8, AV.i (chkH t l a b x y z)), (9, AV.i (rM0 t l a b x y z)), (10, AV.i (rM1 t l a b x y z)), (11, AV.i (rM2 t l a b x y z)), (12, AV.elt 2 [[AV.i (rL t l x y z), AV.i (rH t l x y z)]] 0 0), (13,
   AV.i (chkEn t l x y z)), (14, AV.i (sFirst [sTyR t, sTrackR l])), (15, AV.i (chkH t l a b x y z)), (16, AV.i (chkEn t l x y z)), (17, AV.i (chkH t l a b x y z)), (18, AV.i 0), (19, AV.i 0), (20, AV.i 0), (21, AV.ptr 1 0)] [(1,
   ABlk.box [AV.i 0, AV.i 0])] 2 = AS.mk [(1, AV.sl 5 (List.map encFx l)), (3, AV.elt 13 [(encTy t)] 0 0), (5, AV.elt 5 [[AV.i a, AV.i b, AV.i x, AV.i y, AV.i z]] 0 0), (6, AV.bool false), (7, AV.i (rExp t l a b x y z)), (8, AV.i
   (chkH t l a b x y z)), (9, AV.i (rM0 t l a b x y z)), (10, AV.i (rM1 t l a b x y z)), (11, AV.i (rM2 t l a b x y z)), (12, AV.elt 2 [[AV.i (rL t l x y z), AV.i (rH t l x y z)]] 0 0), (13, AV.i (chkEn t l x y z)), (14, AV.i (sFirst
   [sTyR t, sTrackR l])), (15, AV.i (chkH t l a b x y z)), (16, AV.i (chkEn t l x y z)), (17, AV.i (chkH t l a b x y z)), (18, AV.i 0), (19, AV.i 0), (20, AV.i 0), (21, AV.ptr 1 0)] [(1, ABlk.box [AV.i 0, AV.i 0])] 2 ∧ AS.mk [(1,
   AV.sl 5 (List.map encFx l)), (3, AV.elt 13 [(encTy t)] 0 0), (5, AV.elt 5 [[AV.i a, AV.i b, AV.i x, AV.i y, AV.i z]] 0 0), (6, AV.bool false), (7, AV.i (rExp t l a b x y z)), (8, AV.i (chkH t l a b x y z)), (9, AV.i (rM0 t l a b x
   y z)), (10, AV.i (rM1 t l a b x y z)), (11, AV.i (rM2 t l a b x y z)), (12, AV.elt 2 [[AV.i (rL t l x y z), AV.i (rH t l x y z)]] 0 0), (13, AV.i (chkEn t l x y z)), (14, AV.i (sFirst [sTyR t, sTrackR l])), (15, AV.i (chkH t l a b
   x y z)), (16, AV.i (chkEn t l x y z)), (17, AV.i (chkH t l a b x y z)), (18, AV.i 0), (19, AV.i 0), (20, AV.i 0), (21, AV.ptr 1 0), (89, AV.bool (chkH t l a b x y z == 0))] [(1, ABlk.box [AV.i 0, AV.i 0])] 2 = AS.mk [(1, AV.sl 5
   (List.map encFx l)), (3, AV.elt 13 [(encTy t)] 0 0), (5, AV.elt 5 [[AV.i a, AV.i b, AV.i x, AV.i y, AV.i z]] 0 0), (6, AV.bool false), (7, AV.i (rExp t l a b x y z)), (8, AV.i (chkH t l a b x y z)), (9, AV.i (rM0 t l a b x y z)),
   (10, AV.i (rM1 t l a b x y z)), (11, AV.i (rM2 t l a b x y z)), (12, AV.elt 2 [[AV.i (rL t l x y z), AV.i (rH t l x y z)]] 0 0), (13, AV.i (chkEn t l x y z)), (14, AV.i (sFirst [sTyR t, sTrackR l])), (15, AV.i (chkH t l a b x y
   z)), (16, AV.i (chkEn t l x y z)), (17, AV.i (chkH t l a b x y z)), (18, AV.i 0), (19, AV.i 0), (20, AV.i 0), (21, AV.ptr 1 0), (89, AV.bool (chkH t l a b x y z == 0))] [(1, ABlk.box [AV.i 0, AV.i 0])] 2 ∧ (((chkH t l a b x y z ==
   0) = true → PCall Tryz.prog G0 36 [AV.agg (encTy t), AV.sl 5 (List.map encFx l), AV.agg [AV.i a, AV.i b], AV.agg [AV.i x, AV.i y, AV.i z]] (AV.i (sumH (hrdA t l x y z) (fromA l a) (toB l b - fromA l a).toNat)) ∧ PCall Tryz.prog G0
   37 [AV.agg (encTy t), AV.sl 5 (List.map encFx l), AV.agg [AV.i a, AV.i b], AV.agg [AV.i x, AV.i y, AV.i z]] (AV.tup [AV.i (v0 t l a b x y z), AV.i (v1 t l a b x y z), AV.i (v2 l a b)]) ∧ AS.mk [(1, AV.sl 5 (List.map encFx l)), (3,
   AV.elt 13 [(encTy t)] 0 0), (5, AV.elt 5 [[AV.i a, AV.i b, AV.i x, AV.i y, AV.i z]] 0 0), (6, AV.bool false), (7, AV.i (rExp t l a b x y z)), (8, AV.i (chkH t l a b x y z)), (9, AV.i (rM0 t l a b x y z)), (10, AV.i (rM1 t l a b x y
   z)), (11, AV.i (rM2 t l a b x y z)), (12, AV.elt 2 [[AV.i (rL t l x y z), AV.i (rH t l x y z)]] 0 0), (13, AV.i (chkEn t l x y z)), (14, AV.i (sFirst [sTyR t, sTrackR l])), (15, AV.i (chkH t l a b x y z)), (16, AV.i (chkEn t l x y
   z)), (17, AV.i (v2 l a b)), (18, AV.i (sumH (hrdA t l x y z) (fromA l a) (toB l b - fromA l a).toNat)), (19, AV.i (v0 t l a b x y z)), (20, AV.i (v1 t l a b x y z)), (21, AV.ptr 1 0)] [(1, ABlk.box [AV.i 0, AV.i 0])] 2 = AS.mk [(1,
   AV.sl 5 (List.map encFx l)), (3, AV.elt 13 [(encTy t)] 0 0), (5, AV.elt 5 [[AV.i a, AV.i b, AV.i x, AV.i y, AV.i z]] 0 0), (6, AV.bool false), (7, AV.i (rExp t l a b x y z)), (8, AV.i (chkH t l a b x y z)), (9, AV.i (rM0 t l a b x
   y z)), (10, AV.i (rM1 t l a b x y z)), (11, AV.i (rM2 t l a b x y z)), (12, AV.elt 2 [[AV.i (rL t l x y z), AV.i (rH t l x y z)]] 0 0), (13, AV.i (chkEn t l x y z)), (14, AV.i (sFirst [sTyR t, sTrackR l])), (15, AV.i (chkH t l a b
   x y z)), (16, AV.i (chkEn t l x y z)), (17, AV.i (rM2 t l a b x y z)), (18, AV.i (rExp t l a b x y z)), (19, AV.i (rM0 t l a b x y z)), (20, AV.i (rM1 t l a b x y z)), (21, AV.ptr 1 0)] [(1, ABlk.box [AV.i 0, AV.i 0])] 2) ∧ ((chkH
   t l a b x y z == 0) = false → AS.mk [(1, AV.sl 5 (List.map encFx l)), (3, AV.elt 13 [(encTy t)] 0 0), (5, AV.elt 5 [[AV.i a, AV.i b, AV.i x, AV.i y, AV.i z]] 0 0), (6, AV.bool false), (7, AV.i (rExp t l a b x y z)), (8, AV.i (chkH
   t l a b x y z)), (9, AV.i (rM0 t l a b x y z)), (10, AV.i (rM1 t l a b x y z)), (11, AV.i (rM2 t l a b x y z)), (12, AV.elt 2 [[AV.i (rL t l x y z), AV.i (rH t l x y z)]] 0 0), (13, AV.i (chkEn t l x y z)), (14, AV.i (sFirst [sTyR
   t, sTrackR l])), (15, AV.i (chkH t l a b x y z)), (16, AV.i (chkEn t l x y z)), (17, AV.i (chkH t l a b x y z)), (18, AV.i 0), (19, AV.i 0), (20, AV.i 0), (21, AV.ptr 1 0)] [(1, ABlk.box [AV.i 0, AV.i 0])] 2 = AS.mk [(1, AV.sl 5
   (List.map encFx l)), (3, AV.elt 13 [(encTy t)] 0 0), (5, AV.elt 5 [[AV.i a, AV.i b, AV.i x, AV.i y, AV.i z]] 0 0), (6, AV.bool false), (7, AV.i (rExp t l a b x y z)), (8, AV.i (chkH t l a b x y z)), (9, AV.i (rM0 t l a b x y z)),
   (10, AV.i (rM1 t l a b x y z)), (11, AV.i (rM2 t l a b x y z)), (12, AV.elt 2 [[AV.i (rL t l x y z), AV.i (rH t l x y z)]] 0 0), (13, AV.i (chkEn t l x y z)), (14, AV.i (sFirst [sTyR t, sTrackR l])), (15, AV.i (chkH t l a b x y
   z)), (16, AV.i (chkEn t l x y z)), (17, AV.i (rM2 t l a b x y z)), (18, AV.i (rExp t l a b x y z)), (19, AV.i (rM0 t l a b x y z)), (20, AV.i (rM1 t l a b x y z)), (21, AV.ptr 1 0)] [(1, ABlk.box [AV.i 0, AV.i 0])] 2)) ∧ AS.mk [(1,
   AV.sl 5 (List.map encFx l)), (3, AV.elt 13 [(encTy t)] 0 0), (5, AV.elt 5 [[AV.i a, AV.i b, AV.i x, AV.i y, AV.i z]] 0 0), (6, AV.bool false), (7, AV.i (rExp t l a b x y z)), (8, AV.i (chkH t l a b x y z)), (9, AV.i (rM0 t l a b x
   y z)), (10, AV.i (rM1 t l a b x y z)), (11, AV.i (rM2 t l a b x y z)), (12, AV.elt 2 [[AV.i (rL t l x y z), AV.i (rH t l x y z)]] 0 0), (13, AV.i (chkEn t l x y z)), (14, AV.i (sFirst [sTyR t, sTrackR l])), (15, AV.i (chkH t l a b
   x y z)), (16, AV.i (chkEn t l x y z)), (17, AV.i (rM2 t l a b x y z)), (18, AV.i (rExp t l a b x y z)), (19, AV.i (rM0 t l a b x y z)), (20, AV.i (rM1 t l a b x y z)), (21, AV.ptr 1 0), (109, AV.bool (chkEn t l x y z == 0))] [(1,
   ABlk.box [AV.i 0, AV.i 0])] 2 = AS.mk [(1, AV.sl 5 (List.map encFx l)), (3, AV.elt 13 [(encTy t)] 0 0), (5, AV.elt 5 [[AV.i a, AV.i b, AV.i x, AV.i y, AV.i z]] 0 0), (6, AV.bool false), (7, AV.i (rExp t l a b x y z)), (8, AV.i
   (chkH t l a b x y z)), (9, AV.i (rM0 t l a b x y z)), (10, AV.i (rM1 t l a b x y z)), (11, AV.i (rM2 t l a b x y z)), (12, AV.elt 2 [[AV.i (rL t l x y z), AV.i (rH t l x y z)]] 0 0), (13, AV.i (chkEn t l x y z)), (14, AV.i (sFirst
   [sTyR t, sTrackR l])), (15, AV.i (chkH t l a b x y z)), (16, AV.i (chkEn t l x y z)), (17, AV.i (rM2 t l a b x y z)), (18, AV.i (rExp t l a b x y z)), (19, AV.i (rM0 t l a b x y z)), (20, AV.i (rM1 t l a b x y z)), (21, AV.ptr 1
   0), (109, AV.bool (chkEn t l x y z == 0))] [(1, ABlk.box [AV.i 0, AV.i 0])] 2 ∧ (((chkEn t l x y z == 0) = true → PCall Tryz.prog G0 38 [AV.agg (encTy t), AV.sl 5 (List.map encFx l), AV.agg [AV.i x, AV.i y, AV.i z]] (AV.agg [AV.i
   (lowN t l x y z (l.length - 1)), AV.i (highN t l x y z (l.length - 1))]) ∧ AS.mk [(1, AV.sl 5 (List.map encFx l)), (3, AV.elt 13 [(encTy t)] 0 0), (5, AV.elt 5 [[AV.i a, AV.i b, AV.i x, AV.i y, AV.i z]] 0 0), (6, AV.bool false),
   (7, AV.i (rExp t l a b x y z)), (8, AV.i (chkH t l a b x y z)), (9, AV.i (rM0 t l a b x y z)), (10, AV.i (rM1 t l a b x y z)), (11, AV.i (rM2 t l a b x y z)), (12, AV.elt 2 [[AV.i (rL t l x y z), AV.i (rH t l x y z)]] 0 0), (13,
   AV.i (chkEn t l x y z)), (14, AV.i (sFirst [sTyR t, sTrackR l])), (15, AV.i (chkH t l a b x y z)), (16, AV.i (chkEn t l x y z)), (17, AV.i (rM2 t l a b x y z)), (18, AV.i (rExp t l a b x y z)), (19, AV.i (rM0 t l a b x y z)), (20,
   AV.i (rM1 t l a b x y z)), (21, AV.elt 2 [[AV.i (lowN t l x y z (l.length - 1)), AV.i (highN t l x y z (l.length - 1))]] 0 0)] [] 1 = AS.mk [(1, AV.sl 5 (List.map encFx l)), (3, AV.elt 13 [(encTy t)] 0 0), (5, AV.elt 5 [[AV.i a,
   AV.i b, AV.i x, AV.i y, AV.i z]] 0 0), (6, AV.bool false), (7, AV.i (rExp t l a b x y z)), (8, AV.i (chkH t l a b x y z)), (9, AV.i (rM0 t l a b x y z)), (10, AV.i (rM1 t l a b x y z)), (11, AV.i (rM2 t l a b x y z)), (12, AV.elt 2
   [[AV.i (rL t l x y z), AV.i (rH t l x y z)]] 0 0), (13, AV.i (chkEn t l x y z)), (14, AV.i (sFirst [sTyR t, sTrackR l])), (15, AV.i (chkH t l a b x y z)), (16, AV.i (chkEn t l x y z)), (17, AV.i (rM2 t l a b x y z)), (18, AV.i
   (rExp t l a b x y z)), (19, AV.i (rM0 t l a b x y z)), (20, AV.i (rM1 t l a b x y z)), (21, AV.elt 2 [[AV.i (rL t l x y z), AV.i (rH t l x y z)]] 0 0)] [] 1) ∧ ((chkEn t l x y z == 0) = false → AS.mk [(1, AV.sl 5 (List.map encFx
   l)), (3, AV.elt 13 [(encTy t)] 0 0), (5, AV.elt 5 [[AV.i a, AV.i b, AV.i x, AV.i y, AV.i z]] 0 0), (6, AV.bool false), (7, AV.i (rExp t l a b x y z)), (8, AV.i (chkH t l a b x y z)), (9, AV.i (rM0 t l a b x y z)), (10, AV.i (rM1 t
   l a b x y z)), (11, AV.i (rM2 t l a b x y z)), (12, AV.elt 2 [[AV.i (rL t l x y z), AV.i (rH t l x y z)]] 0 0), (13, AV.i (chkEn t l x y z)), (14, AV.i (sFirst [sTyR t, sTrackR l])), (15, AV.i (chkH t l a b x y z)), (16, AV.i
   (chkEn t l x y z)), (17, AV.i (rM2 t l a b x y z)), (18, AV.i (rExp t l a b x y z)), (19, AV.i (rM0 t l a b x y z)), (20, AV.i (rM1 t l a b x y z)), (21, AV.elt 2 [[AV.i 0, AV.i 0]] 0 0)] [] 1 = AS.mk [(1, AV.sl 5 (List.map encFx
   l)), (3, AV.elt 13 [(encTy t)] 0 0), (5, AV.elt 5 [[AV.i a, AV.i b, AV.i x, AV.i y, AV.i z]] 0 0), (6, AV.bool false), (7, AV.i (rExp t l a b x y z)), (8, AV.i (chkH t l a b x y z)), (9, AV.i (rM0 t l a b x y z)), (10, AV.i (rM1 t
   l a b x y z)), (11, AV.i (rM2 t l a b x y z)), (12, AV.elt 2 [[AV.i (rL t l x y z), AV.i (rH t l x y z)]] 0 0), (13, AV.i (chkEn t l x y z)), (14, AV.i (sFirst [sTyR t, sTrackR l])), (15, AV.i (chkH t l a b x y z)), (16, AV.i
   (chkEn t l x y z)), (17, AV.i (rM2 t l a b x y z)), (18, AV.i (rExp t l a b x y z)), (19, AV.i (rM0 t l a b x y z)), (20, AV.i (rM1 t l a b x y z)), (21, AV.elt 2 [[AV.i (rL t l x y z), AV.i (rH t l x y z)]] 0 0)] [] 1)) ∧ AV.bool
   (rExp t l a b x y z == rExp t l a b x y z) = AV.bool true ∧ AV.bool (chkH t l a b x y z == chkH t l a b x y z) = AV.bool true ∧ AV.bool (rM0 t l a b x y z == rM0 t l a b x y z) = AV.bool true ∧ AV.bool (rM1 t l a b x y z == rM1 t l
   a b x y z) = AV.bool true ∧ AV.bool (rM2 t l a b x y z == rM2 t l a b x y z) = AV.bool true ∧ AV.bool (rL t l x y z == rL t l x y z && true && (rH t l x y z == rH t l x y z && true && true)) = AV.bool true ∧ AV.bool (chkEn t l x y
   z == chkEn t l x y z) = AV.bool true ∧ PCall Tryz.prog G0 13 [] (AV.bool true) ∧ AV.bool true = AV.bool true := by
    have hS := short_of (t := t) (by simpa using h0)
    have hl17 : l.length ≤ 17 := by simpa using h1
    have hlm : (List.map encFx l).length = l.length := List.length_map _
    have s1 : t.st.length ≤ 1000 := by have := hS.st; omega
    have s2 : t.sh.length ≤ 1000 := by have := hS.s; omega
    have s3 : t.sq.length ≤ 1000 := by have := hS.q; omega
    have s4 : ∀ s, s ∈ t.st → s.e.length ≤ 1000 := fun x hx => by have := hS.e x hx; omega
    have s5 : t.name.length ≤ 1000000 := by have := hS.n; omega
    have k28 := c28 t s1 s2 s3 s4
    have k29 := (c29 l (by omega)).un
    have k27 := c27 t l a b x y z s1 s2 s3 s4 s5 (by omega)
    have k30 := c30 t l a b x y z s1 s2 s3 s4 s5 (by omega)
    rw [rMax_eq] at k30
    have k31 := c31 t l x y z s1 s2 s3 s4 s5 (by omega)
    rw [rEnc_eq] at k31
    have e1 : sFirst [sFirst [sTyR t, sTrackR l], sWhen (if (if decide (a < 0) then true else decide (a > b)) then true else decide (b > 100000000)) 14, sPlace x y z] = chkH t l a b x y z := by
      rw [chkH, ty_eq, track_eq]
      simp only [first_c, first_n, orE_0, orE_as]
    have e2 : sFirst [sFirst [sTyR t, sTrackR l], sPlace x y z] = chkEn t l x y z := by
      rw [chkEn, ty_eq, track_eq]
      simp only [first_c, first_n, orE_0, orE_as]
    refine ⟨rfl, ⟨c25 t hl, congrArg AV.bool h0, c26 l, congrArg AV.bool h1, rfl⟩, rfl, ⟨k28, k29, k27, rfl⟩, ⟨k28, k29, k30, rfl⟩, ⟨k28, k29, k31, rfl⟩, ⟨c32t hS, c33 l (by omega), c16 [_, _] (by simp), rfl⟩, ⟨c34 _ _, c35 _ _ _, c16 [_, _, _] (by simp), c35 _ _ _, c16 [_, _] (by simp), ?_⟩, rfl, rfl, rfl, rfl, ⟨fun h => ?_, fun h => ?_⟩, rfl, ⟨fun h => ?_, fun h => ?_⟩, by simp, by simp, by simp, by simp, by simp, by simp, by simp, hA, rfl⟩
    · rw [← e1, ← e2]
      rfl
    · have hz : chkH t l a b x y z = 0 := by simpa using h
      obtain ⟨h2, h3, h4, h5, h6, h7, h8, h9⟩ := chkH_ok hz
      have k37 := c37 t l a b x y z h2 h3 h4 h5 h6 h7 h8 h9
      rw [mxV_eq] at k37
      refine ⟨c36 t l a b x y z h2 h3 h4 h5 h6 h7 h8 h9, k37, ?_⟩
      rw [show rExp t l a b x y z = sumH (hrdA t l x y z) (fromA l a) (toB l b - fromA l a).toNat from r_zero h, show rM0 t l a b x y z = v0 t l a b x y z from r_zero h, show rM1 t l a b x y z = v1 t l a b x y z from r_zero h, show rM2 t l a b x y z = v2 l a b by rw [rM2, hz]; rfl]
    · have h' : (chkH t l a b x y z != 0) = true := by
        rw [bne, h]
        rfl
      rw [show rExp t l a b x y z = 0 from r_bad h, show rM0 t l a b x y z = 0 from r_bad h, show rM1 t l a b x y z = 0 from r_bad h, show rM2 t l a b x y z = chkH t l a b x y z by rw [rM2, if_pos h']]
    · have hz : chkEn t l x y z = 0 := by simpa using h
      have hz2 := hz
      unfold chkEn at hz2
      simp only [first_zero] at hz2
      obtain ⟨hT, hTr, hP, _⟩ := hz2
      rw [track_eq] at hTr
      obtain ⟨hO, hsp⟩ := track_ok hTr
      have p := place_ok hP
      refine ⟨c38 t l x y z hT hO hsp p.1 p.2.1 p.2.2, ?_⟩
      rw [show rL t l x y z = lowN t l x y z (l.length - 1) from r_zero h, show rH t l x y z = highN t l x y z (l.length - 1) from r_zero h]
    · rw [show rL t l x y z = 0 from r_bad h, show rH t l x y z = 0 from r_bad h]
  exact c_ofG Tryz.f4 (B4 t l a b x y z [(1, 2, rdF), (1, 6, rdF)]) (m4 t l a b x y z) (by kernel_rfl) (by kernel_rfl) (by kernel_rfl) (by kernel_rfl) key (by kernel_rfl)
theorem c4 (t : Ty) (l : List Fx) (a b x y z : Int) (hA : PCall Tryz.prog G0 13 [] (.bool true)) (hl : t.st.length ≤ 9223372036854775807) : PCall Tryz.prog G0 4 [.agg (encTy t), .sl 5 (l.map encFx), .agg [.i a, .i b, .i x, .i y, .i z]] (.bool true) := by
  cases h0 : (!sShort t) with
  | true => exact c4_0 t l a b x y z hA hl h0
  | false =>
  cases h1 : (!decide (l.length ≤ 17)) with
  | true => exact c4_1 t l a b x y z hA hl h0 h1
  | false => exact c4_ok t l a b x y z hA hl h0 h1
end Go.Proofs.YtjhjmncjidbieaaGreatDoor
namespace Go.Proofs.YtjhjmncjidbieaaGreatDoor
open Go Go.Av Go.RowKit
def aggOf : Option AV → Option (List AV)
  | some (.agg s) => some s
  | _ => none
def intOf : Option AV → Option Int
  | some (.int .i64 n) => some n
  | _ => none
theorem aggOf_ok {x : Option AV} {s : List AV} (h : aggOf x = some s) : x = some (.agg s) := by
  cases x with
  | none => cases h
  | some v => cases v <;> simp [aggOf] at h; rw [h]
theorem intOf_ok {x : Option AV} {n : Int} (h : intOf x = some n) : x = some (.i n) := by
  cases x with
  | none => cases h
  | some v => cases v <;> simp [intOf] at h; rename_i k m; cases k <;> simp at h; rw [h]
def stOf (rec : Nat → List AV → Option AV) (rows : List (List AV)) (a : Int) (i : Nat) : Option (List AV) := aggOf (rec 126 [.sl 5 rows, .i (a + i)])
def hrOf (rec : Nat → List AV → Option AV) (tc r : List AV) (s : List AV) : Option Int := intOf (rec 117 [.agg tc, .agg s, .agg r])
def sqH (rec : Nat → List AV → Option AV) (f : Nat) (cap : List AV) : Option (List (List AV)) :=
  match cap with
  | [.elt 2 [[.int .i64 a, .int .i64 b]] 0 0, .elt 13 [[c0, c1, c2, c3, c4, c5, c6, c7, c8, c9, c10, c11, c12]] 0 0, .elt 1 [[.sl 5 rows]] 0 0, .elt 3 [[.int .i64 rx, .int .i64 ry, .int .i64 rz]] 0 0] =>
    if Nat.beq f 144 && (decide (-1000000000 ≤ a) && (decide (b ≤ 1000000000) && (List.range (b - a).toNat).all fun i => match stOf rec rows a i with
        | some s => (hrOf rec [c0, c1, c2, c3, c4, c5, c6, c7, c8, c9, c10, c11, c12] [.i rx, .i ry, .i rz] s).isSome
        | none => false)) then
      some (hrL a (fun i => (hrOf rec [c0, c1, c2, c3, c4, c5, c6, c7, c8, c9, c10, c11, c12] [.i rx, .i ry, .i rz] ((stOf rec rows a i).getD [])).getD 0) (b - a).toNat)
    else none
  | _ => none
theorem sqH_ok (rec : Nat → List AV → Option AV) (hrec : ∀ f args r, rec f args = some r → PCall Tryz.prog G0 f args r) (f : Nat) (cap : List AV) (L : List (List AV)) (h : sqH rec f cap = some L) : PSeq Tryz.prog G0 f cap L := by
  unfold sqH at h
  split at h
  · rename_i a b c0 c1 c2 c3 c4 c5 c6 c7 c8 c9 c10 c11 c12 rows rx ry rz
    split at h
    · rename_i hb
      simp only [Bool.and_eq_true, decide_eq_true_eq, List.all_eq_true, List.mem_range] at hb
      obtain ⟨h1, h2, h3, h4⟩ := hb
      have := Nat.eq_of_beq_eq_true h1
      subst this
      cases h
      have key : ∀ i : Nat, i < (b - a).toNat → ∃ s n, stOf rec rows a i = some s ∧ hrOf rec [c0, c1, c2, c3, c4, c5, c6, c7, c8, c9, c10, c11, c12] [.i rx, .i ry, .i rz] s = some n := fun i hi => by
        have := h4 i hi
        split at this
        · rename_i s hs
          obtain ⟨n, hn⟩ := Option.isSome_iff_exists.1 this
          exact ⟨s, n, hs, hn⟩
        · cases this
      refine s144 a b c0 c1 c2 c3 c4 c5 c6 c7 c8 c9 c10 c11 c12 rows rx ry rz (fun i => (stOf rec rows a i).getD []) (fun s => (hrOf rec [c0, c1, c2, c3, c4, c5, c6, c7, c8, c9, c10, c11, c12] [.i rx, .i ry, .i rz] s).getD 0) h2 h3 (fun i hi => ?_) (fun i hi => ?_)
      · obtain ⟨s, n, hs, hn⟩ := key i hi
        rw [hs]
        exact hrec _ _ _ (aggOf_ok hs)
      · obtain ⟨s, n, hs, hn⟩ := key i hi
        simp only [hs, Option.getD_some, hn]
        exact hrec _ _ _ (intOf_ok hn)
    · cases h
  · cases h
end Go.Proofs.YtjhjmncjidbieaaGreatDoor
namespace Go.Proofs
open Go.Shelf
def Tryz.lays156_ren : Go.Shelf.Ren := ⟨fun | 156 => 161 | 165 => 173 | 166 => 174 | 169 => 175 | 240 => 182 | 241 => 183 | 276 => 190 | 277 => 191 | n => n, fun | 31 => 160 | 9 => 9 | 3 => 3 | 4 => 4 | 0 => 0 | 20 => 20 | 72 => 261 | 76 => 265 | 70 => 258 | 37 => 259 | 75 => 264 | 127 => 270 | 164 => 274 | 5 => 5 | 80 => 229 | n => n, fun | n => n⟩
theorem Tryz.lays156 : Go.Proofs.Lays.n156 Tryz.prog Tryz.lays156_ren := {
  mixed := by kernel_rfl
  f156 := Tryz.func161.trans (congrArg some (by kernel_rfl))
  f165 := Tryz.func173.trans (congrArg some (by kernel_rfl))
  f166 := Tryz.func174.trans (congrArg some (by kernel_rfl))
  f169 := Tryz.func175.trans (congrArg some (by kernel_rfl))
  f240 := Tryz.func182.trans (congrArg some (by kernel_rfl))
  f241 := Tryz.func183.trans (congrArg some (by kernel_rfl))
  f276 := Tryz.func190.trans (congrArg some (by kernel_rfl))
  f277 := Tryz.func191.trans (congrArg some (by kernel_rfl))
  t0 := Tryz.underlying0
  a0 := Tryz.isAgg0
  z0 := Tryz.sizeOf0
  v0 := Tryz.zeroValue0
  t3 := Tryz.underlying3
  a3 := Tryz.isAgg3
  z3 := Tryz.sizeOf3
  v3 := Tryz.zeroValue3
  t4 := Tryz.underlying4
  a4 := Tryz.isAgg4
  z4 := Tryz.sizeOf4
  v4 := Tryz.zeroValue4
  t9 := Tryz.underlying9
  a9 := Tryz.isAgg9
  z9 := Tryz.sizeOf9
  v9 := Tryz.zeroValue9
  t20 := Tryz.underlying20
  a20 := Tryz.isAgg20
  z20 := Tryz.sizeOf20
  v20 := Tryz.zeroValue20
  t31 := Tryz.underlying160
  a31 := Tryz.isAgg160
  z31 := Tryz.sizeOf160
  v31 := Tryz.zeroValue160
  t37 := Tryz.underlying259
  a37 := Tryz.isAgg259
  z37 := Tryz.sizeOf259
  v37 := Tryz.zeroValue259
  t70 := Tryz.underlying258
  a70 := Tryz.isAgg258
  z70 := Tryz.sizeOf258
  v70 := Tryz.zeroValue258
  t72 := Tryz.underlying261
  a72 := Tryz.isAgg261
  z72 := Tryz.sizeOf261
  v72 := Tryz.zeroValue261
  t75 := Tryz.underlying264
  a75 := Tryz.isAgg264
  z75 := Tryz.sizeOf264
  v75 := Tryz.zeroValue264
  t76 := Tryz.underlying265
  a76 := Tryz.isAgg265
  z76 := Tryz.sizeOf265
  v76 := Tryz.zeroValue265
  t127 := Tryz.underlying270
  a127 := Tryz.isAgg270
  z127 := Tryz.sizeOf270
  v127 := Tryz.zeroValue270
  t164 := Tryz.underlying274
  a164 := Tryz.isAgg274
  z164 := Tryz.sizeOf274
  v164 := Tryz.zeroValue274 }
theorem Tryz.Builder_Extra_156 : Builder.Extra Tryz.prog Tryz.lays156_ren := {
  sizeBuilder := by kernel_rfl
  liesBuilder := by kernel_rfl
  t5 := Tryz.underlying5
  a5 := Tryz.isAgg5
  z5 := Tryz.sizeOf5
  v5 := Tryz.zeroValue5
  infoByte := by kernel_rfl
  cellsByte := by kernel_rfl
  sizeByte := by kernel_rfl
  neB5 := by decide }
open Go.RowKit in
theorem Tryz.strings_Join_none (a : Option Addr) (c : Nat) (sep : ByteArray) (w : World) :
    Calls Tryz.prog 161 #[.slice a 0 c, .string sep] w fun e w' => e = .returned (.string ⟨#[]⟩) ∧ w' = w := Any.strings_Join_none Tryz.lays156 Tryz.Builder_Extra_156 a c sep w
open Go.RowKit in
theorem Tryz.strings_Join (bk o c : Nat) (xs : List ByteArray) (sep : ByteArray) (w : World) (hcells : ∀ (j : Nat) x, xs[j]? = some x → w.cell? ⟨bk, o + j, none⟩ = some (.string x)) (hbk : bk < w.heap.size) (hN : xs.length ≤ 140737488355328) (hcap : xs.length ≤ c) (hlen : (Lib.join (xs.map (·.data.toList)) sep.data.toList).length ≤ 140737488355328) :
    Calls Tryz.prog 161 #[.slice (some ⟨bk, o, none⟩) xs.length c, .string sep] w fun e w' => e = .returned (.string ⟨(Lib.join (xs.map (·.data.toList)) sep.data.toList).toArray⟩) ∧ Below w.heap.size w w' := Any.strings_Join Tryz.lays156 Tryz.Builder_Extra_156 bk o c xs sep w hcells hbk hN hcap hlen
def Tryz.laysM171_ren : Go.Shelf.Ren := ⟨fun | 171 => 163 | 243 => 176 | 246 => 184 | 283 => 192 | 284 => 193 | 285 => 194 | 286 => 195 | 129 => 201 | 317 => 200 | 318 => 202 | 319 => 203 | 320 => 204 | 337 => 206 | 338 => 207 | n => n, fun | 3 => 3 | 9 => 9 | 2 => 2 | 4 => 4 | 171 => 277 | 0 => 0 | 53 => 278 | 37 => 259 | 5 => 5 | 173 => 281 | 212 => 285 | 51 => 78 | 20 => 20 | 213 => 286 | 46 => 283 | 232 => 295 | 233 => 296 | n => n, fun | 17 => 4 | 18 => 7 | 19 => 8 | n => n⟩
theorem Tryz.laysM171 : Go.Proofs.LaysM.n171 Tryz.prog Tryz.laysM171_ren := {
  mixed := by kernel_rfl
  f129 := Tryz.func201.trans (congrArg some (by kernel_rfl))
  f171 := Tryz.func163.trans (congrArg some (by kernel_rfl))
  f243 := Tryz.func176.trans (congrArg some (by kernel_rfl))
  f246 := Tryz.func184.trans (congrArg some (by kernel_rfl))
  f283 := Tryz.func192.trans (congrArg some (by kernel_rfl))
  f284 := Tryz.func193.trans (congrArg some (by kernel_rfl))
  f285 := Tryz.func194.trans (congrArg some (by kernel_rfl))
  f286 := Tryz.func195.trans (congrArg some (by kernel_rfl))
  f317 := Tryz.func200.trans (congrArg some (by kernel_rfl))
  f318 := Tryz.func202.trans (congrArg some (by kernel_rfl))
  f319 := Tryz.func203.trans (congrArg some (by kernel_rfl))
  f320 := Tryz.func204.trans (congrArg some (by kernel_rfl))
  f337 := Tryz.func206.trans (congrArg some (by kernel_rfl))
  f338 := Tryz.func207.trans (congrArg some (by kernel_rfl))
  t0 := Tryz.underlying0
  a0 := Tryz.isAgg0
  z0 := Tryz.sizeOf0
  v0 := Tryz.zeroValue0
  t2 := Tryz.underlying2
  a2 := Tryz.isAgg2
  z2 := Tryz.sizeOf2
  v2 := Tryz.zeroValue2
  t3 := Tryz.underlying3
  a3 := Tryz.isAgg3
  z3 := Tryz.sizeOf3
  v3 := Tryz.zeroValue3
  t4 := Tryz.underlying4
  a4 := Tryz.isAgg4
  z4 := Tryz.sizeOf4
  v4 := Tryz.zeroValue4
  t5 := Tryz.underlying5
  a5 := Tryz.isAgg5
  z5 := Tryz.sizeOf5
  v5 := Tryz.zeroValue5
  t9 := Tryz.underlying9
  a9 := Tryz.isAgg9
  z9 := Tryz.sizeOf9
  v9 := Tryz.zeroValue9
  t20 := Tryz.underlying20
  a20 := Tryz.isAgg20
  z20 := Tryz.sizeOf20
  v20 := Tryz.zeroValue20
  t37 := Tryz.underlying259
  a37 := Tryz.isAgg259
  z37 := Tryz.sizeOf259
  v37 := Tryz.zeroValue259
  t46 := Tryz.underlying283
  a46 := Tryz.isAgg283
  z46 := Tryz.sizeOf283
  v46 := Tryz.zeroValue283
  t51 := Tryz.underlying78
  a51 := Tryz.isAgg78
  z51 := Tryz.sizeOf78
  v51 := Tryz.zeroValue78
  t53 := Tryz.underlying278
  a53 := Tryz.isAgg278
  z53 := Tryz.sizeOf278
  v53 := Tryz.zeroValue278
  t171 := Tryz.underlying277
  a171 := Tryz.isAgg277
  z171 := Tryz.sizeOf277
  v171 := Tryz.zeroValue277
  t173 := Tryz.underlying281
  a173 := Tryz.isAgg281
  z173 := Tryz.sizeOf281
  v173 := Tryz.zeroValue281
  t212 := Tryz.underlying285
  a212 := Tryz.isAgg285
  z212 := Tryz.sizeOf285
  v212 := Tryz.zeroValue285
  t213 := Tryz.underlying286
  a213 := Tryz.isAgg286
  z213 := Tryz.sizeOf286
  t232 := Tryz.underlying295
  a232 := Tryz.isAgg295
  z232 := Tryz.sizeOf295
  v232 := Tryz.zeroValue295
  t233 := Tryz.underlying296
  a233 := Tryz.isAgg296
  z233 := Tryz.sizeOf296
  v233 := Tryz.zeroValue296
  g17 := by kernel_rfl
  g18 := by kernel_rfl
  g19 := by kernel_rfl
  i0 := by kernel_rfl
  i2 := by kernel_rfl
  i3 := by kernel_rfl
  i4 := by kernel_rfl
  i5 := by kernel_rfl
  i9 := by kernel_rfl
  i20 := by kernel_rfl
  i37 := by kernel_rfl
  i46 := by kernel_rfl
  i51 := by kernel_rfl
  i53 := by kernel_rfl
  i171 := by kernel_rfl
  i173 := by kernel_rfl
  i212 := by kernel_rfl
  i232 := by kernel_rfl
  i233 := by kernel_rfl
  m17 := by kernel_rfl
  m18 := by kernel_rfl
  m19 := by kernel_rfl }
open Go.RowKit Go.Sort Go.Lib in
theorem Tryz.strconv_Itoa (n : Int) (h0 : -9223372036854775808 ≤ n) (h1 : n ≤ 9223372036854775807) (w : World) (htab : Lib.TabIs Tryz.prog w "internal/strconv.uint64pow10" .u64 Lib.pow10Tab) :
    Calls Tryz.prog 163 #[.int .i64 n] w fun e w' => e = .returned (.string ⟨(Lib.itoa n).toArray⟩) ∧ ∃ k os, w' = grow (w.drewN k) os := Any.strconv_Itoa Tryz.laysM171 n h0 h1 w htab
end Go.Proofs
namespace Go.Proofs.YtjhjmncjidbieaaGreatDoor
open Go Go.Av Go.RowKit
theorem rep_int {X : Nat → Prop} {w : World} {v : Value} {k : IntKind} {n : Int} (h : Rep X w v (.int k n)) : v = .int k n := by cases h; rfl
theorem rep_str {X : Nat → Prop} {w : World} {v : Value} {l : List UInt8} (h : Rep X w v (.str l)) : v = .string ⟨l.toArray⟩ := by cases h; rfl
theorem elt_cells {X : Nat → Prop} {w : World} {pv : Value} {k i0 j0 : Nat} {rows : List (List AV)} (h : Rep X w pv (.elt k rows i0 j0)) : ∃ b o, pv = .pointer (some ⟨b, o + i0 * k + j0, none⟩) ∧ ∃ cv : Nat → Nat → Value,
    (∀ i, i < rows.length → ∀ j, j < k → w.cell? ⟨b, o + i * k + j, none⟩ = some (cv i j)) ∧ ∀ i, i < rows.length → ∀ j, j < k → Rep X w (cv i j) (nth (nthR rows i) j) := by
  cases h with
  | elt b o k rows i0 j0 cv hb hX hi hk hc hr h1 => exact ⟨b, o, rfl, cv, hc, hr⟩
theorem glob_ints {X : Nat → Prop} {w : World} {g : Nat} {zs : List Int} {q : IntKind} (h : GlobOK X w g (zs.map fun z => AV.int q z)) : ∃ cs T z, w.heap[g]? = some (.cells cs T z) ∧ cs = (zs.map fun z => Value.int q z).toArray := by
  obtain ⟨h1, cs, T, z, h2, h3⟩ := h
  refine ⟨cs, T, z, h2, ?_⟩
  rw [List.length_map] at h3
  obtain ⟨b, o, hp, cv, hc, hr⟩ := elt_cells h1
  simp only [Value.pointer.injEq, Option.some.injEq, Addr.mk.injEq, Nat.zero_mul, Nat.add_zero] at hp
  obtain ⟨rfl, rfl, -⟩ := hp
  refine Array.ext (by simp [h3]) fun i hi1 hi2 => ?_
  have hik : i < zs.length := by omega
  have e1 := hc 0 (by simp) i (by simpa using hik)
  have e2 := hr 0 (by simp) i (by simpa using hik)
  have e3 : nth (nthR [zs.map fun z => AV.int q z] 0) i = .int q zs[i] := by
    simp [nthR, nth, List.getD_eq_getElem?_getD, hik]
  rw [e3] at e2
  have e4 := rep_int e2
  rw [e4] at e1
  simp only [Nat.zero_mul, Nat.add_zero, Nat.zero_add] at e1
  have e5 : w.cell? ⟨g, i, none⟩ = cs[i]? := by unfold World.cell?; simp [h2]
  rw [e5, Array.getElem?_eq_getElem hi1] at e1
  simp only [Option.some.injEq] at e1
  rw [e1]
  simp
theorem tab_of {w : World} {X : Nat → Prop} (h : GlobOK X w 4 (Lib.pow10Tab.map fun z => AV.int .u64 z)) : Lib.TabIs Tryz.prog w "internal/strconv.uint64pow10" .u64 Lib.pow10Tab := by
  obtain ⟨cs, T, z, h2, h3⟩ := glob_ints h
  unfold Lib.TabIs World.var?
  rw [show Tryz.prog.globalNamed "internal/strconv.uint64pow10" = some 4 by kernel_rfl]
  simp only [Option.bind_some, h2, h3]
theorem c163 (n : Int) (h : In64 n) : PCall Tryz.prog G0 163 [.i n] (.str (Lib.itoa n)) := by
  refine ⟨⟨Tryz.f163, bodyOf Tryz.f163, by kernel_rfl, by kernel_rfl, by kernel_rfl⟩, fun w X vs hX hG hz => ?_⟩
  obtain ⟨h1, h2⟩ := hz
  obtain ⟨v, rfl⟩ : ∃ v, vs = #[v] := by
    obtain ⟨l⟩ := vs
    match l, h1 with
    | [v], _ => exact ⟨v, rfl⟩
  have hv := rep_int (h2 0 v (.i n) rfl rfl)
  subst hv
  refine (Tryz.strconv_Itoa n h.1 h.2 w (tab_of (hG 4 _ (by kernel_rfl)))).mono fun e w' ⟨he, k, os, hw⟩ => ⟨_, he, ?_, .str _⟩
  subst hw
  exact ⟨rfl, rfl, rfl, by show w.heap.size ≤ (w.heap ++ os).size; simp, fun i hi => by
    show (w.heap ++ os)[i]? = _
    rw [Array.getElem?_append_left hi]⟩
theorem c161 (xs : List (List UInt8)) (sep : List UInt8) (hn : xs.length ≤ 140737488355328) (hl : (Lib.join xs sep).length ≤ 140737488355328) : PCall Tryz.prog G0 161 [.sl 1 (xs.map fun x => [.str x]), .str sep] (.str (Lib.join xs sep)) := by
  refine ⟨⟨Tryz.f161, bodyOf Tryz.f161, by kernel_rfl, by kernel_rfl, by kernel_rfl⟩, fun w X vs hX hG hz => ?_⟩
  obtain ⟨h1, h2⟩ := hz
  obtain ⟨v, s, rfl⟩ : ∃ v s, vs = #[v, s] := by
    obtain ⟨l⟩ := vs
    match l, h1 with
    | [v, s], _ => exact ⟨v, s, rfl⟩
  have hs := rep_str (h2 1 s (.str sep) rfl rfl)
  subst hs
  have hv := h2 0 v _ rfl rfl
  clear h1 h2
  generalize hr : (xs.map fun x => [AV.str x]) = rows at hv
  have hlen : rows.length = xs.length := by rw [← hr]; simp
  cases hv with
  | slE a cap =>
    have : xs = [] := by simpa using hr
    subst this
    exact (Tryz.strings_Join_none a cap _ w).mono fun e w' ⟨he, hw⟩ => ⟨_, he, by rw [hw]; exact Below.refl _ _, .str _⟩
  | sl b o cap k rows cv hb hX2 hcap hmax hk hc hrr h1 =>
    have key := Tryz.strings_Join b o cap (xs.map fun x => ⟨x.toArray⟩) ⟨sep.toArray⟩ w (fun j x hx => ?_) hb (by simpa using hn) (by simp; omega) (by
      rw [List.map_map, show ((fun x : ByteArray => x.data.toList) ∘ fun x : List UInt8 => (⟨x.toArray⟩ : ByteArray)) = id by funext x; simp, List.map_id]
      exact hl)
    · rw [List.map_map, show ((fun x : ByteArray => x.data.toList) ∘ fun x : List UInt8 => (⟨x.toArray⟩ : ByteArray)) = id by funext x; simp, List.map_id] at key
      rw [List.length_map] at key
      rw [hlen]
      exact key.mono fun e w' ⟨he, hw⟩ => ⟨_, he, hw, .str _⟩
    · obtain ⟨y, hy, rfl⟩ : ∃ y, xs[j]? = some y ∧ (⟨y.toArray⟩ : ByteArray) = x := by
        rw [List.getElem?_map] at hx
        simpa using hx
      have hj : j < xs.length := (List.getElem?_eq_some_iff.1 hy).1
      have e1 := hc j (by omega) 0 (by omega)
      have e2 := hrr j (by omega) 0 (by omega)
      have e3 : nth (nthR rows j) 0 = .str y := by
        rw [← hr]
        simp [nthR, nth, List.getD_eq_getElem?_getD, hy]
      rw [e3] at e2
      rw [rep_str e2] at e1
      simpa using e1
end Go.Proofs.YtjhjmncjidbieaaGreatDoor
namespace Go.Proofs.YtjhjmncjidbieaaGreatDoor
open Go Go.Av Go.RowKit
def ddF : Nat → Nat → List UInt8
  | 0, u => [UInt8.ofNat (48 + u)]
  | k + 1, u => if u < 10 then [UInt8.ofNat (48 + u)] else ddF k (u / 10) ++ [UInt8.ofNat (48 + u % 10)]
theorem ddF_eq : ∀ (k u : Nat), u < 10 ^ (k + 1) → ddF k u = Lib.decDigits u
  | 0, u, h => by
    rw [Lib.decDigits, dif_pos (by simpa using h)]
    rfl
  | k + 1, u, h => by
    rw [Lib.decDigits, ddF]
    by_cases h10 : u < 10
    · rw [if_pos h10, dif_pos h10]
    · rw [if_neg h10, dif_neg h10, ddF_eq k (u / 10) (by rw [Nat.pow_succ] at h; omega)]
def strsOf : List (List AV) → Option (List (List UInt8))
  | [] => some []
  | [.str x] :: l => match strsOf l with
    | some m => some (x :: m)
    | none => none
  | _ => none
theorem strsOf_ok : ∀ {rows : List (List AV)} {xs : List (List UInt8)}, strsOf rows = some xs → rows = xs.map fun x => [.str x]
  | [], xs, h => by cases h; rfl
  | row :: l, xs, h => by
    unfold strsOf at h
    split at h
    · rename_i h1; cases h1
    · rename_i x m h1
      cases h1
      split at h
      · rename_i m hm
        cases h
        rw [strsOf_ok hm]
        rfl
      · cases h
    · cases h
def libO (f : Nat) : List AV → Option AV
  | [.int .i64 n] => if Nat.beq f 163 && (decide (0 ≤ n) && decide (n < 1000000000)) then some (.str (ddF 9 n.toNat)) else none
  | [.sl 1 rows, .str sep] => if Nat.beq f 161 then match strsOf rows with
      | some xs => if decide (xs.length ≤ 1000) && decide ((Lib.join xs sep).length ≤ 1000000) then some (.str (Lib.join xs sep)) else none
      | none => none
    else none
  | _ => none
theorem libO_ok (f : Nat) (a : List AV) (r : AV) (h : libO f a = some r) : PCall Tryz.prog G0 f a r := by
  unfold libO at h
  split at h
  · rename_i n
    split at h
    · rename_i hb
      simp only [Bool.and_eq_true, decide_eq_true_eq] at hb
      obtain ⟨h1, h2, h3⟩ := hb
      have := Nat.eq_of_beq_eq_true h1
      subst this
      cases h
      have := c163 n (by unfold In64; omega)
      rw [Lib.itoa, if_neg (by omega), ← ddF_eq 9 n.toNat (by omega)] at this
      exact this
    · cases h
  · rename_i rows sep
    split at h
    · rename_i h1
      have := Nat.eq_of_beq_eq_true h1
      subst this
      split at h
      · rename_i xs hxs
        split at h
        · rename_i hb
          simp only [Bool.and_eq_true, decide_eq_true_eq] at hb
          cases h
          rw [strsOf_ok hxs]
          exact c161 xs sep (by omega) (by omega)
        · cases h
      · cases h
    · cases h
  · cases h
def orcL (l : List Mem) (f : Nat) (a : List AV) : Option AV := match libO f a with
  | some r => some r
  | none => orcM l f a
theorem orcL_ok {l : List Mem} (hl : KnownM Tryz.prog G0 l) (f : Nat) (a : List AV) (r : AV) (h : orcL l f a = some r) : PCall Tryz.prog G0 f a r := by
  unfold orcL at h
  split at h
  · rename_i r' hr
    cases h
    exact libO_ok f a _ hr
  · exact orcM_ok hl f a r h
theorem ftok : FTOK Tryz.prog F0 := by unfold FTOK; kernel_rfl
theorem run_c {l : List Mem} (hl : KnownM Tryz.prog G0 l) {f : Nat} {a : List AV} {r : AV} (h : callM Tryz.prog T0 G0 F0 (orcL l) sqH 10000 60 f a = some r) : PCall Tryz.prog G0 f a r :=
  callM_ok tok mix ftok (orcL_ok hl) sqH_ok _ _ _ _ h
end Go.Proofs.YtjhjmncjidbieaaGreatDoor
namespace Go.Proofs.YtjhjmncjidbieaaGreatDoor
open Go Go.Av Go.RowKit
def awv0 : List (List AV) := [[.i 5, .i 0, .i 0, .i 0, .i 10], [.i 9, .i 8, .i 0, .i 0, .i 20]]
def awv1 : List (List AV) := [[.i 10, .sl 1 [[.i 1000], [.i 400]]], [.i 20, .sl 1 [[.i 2000], [.i 600]]]]
def awv2 : List AV := [.sl 5 awv0, .i 6]
def awv3 : List (List AV) := [[.i 1000], [.i 1000], [.i 1000], [.i 1000], [.i 500], [.i 500], [.i 500], [.i 500]]
def awv4 : List AV := [.sl 1 awv3]
def awv5 : List (List AV) := [[.i 100, .i 0, .i 0, .i 0, .i 100], [.i 103, .i 10, .i 0, .i 50, .i 80], [.i 104, .i 10, .i 5, .i 50, .i 80]]
def awv6 : List AV := [.str [111, 110, 101], .str [106, 101, 116], .sl 5 awv0]
def awv7 : List AV := [.str [116, 119, 111], .str [106, 101, 116], .sl 5 awv0]
def awv8 : List AV := [.str [111, 110, 101], .str [106, 101, 116], .sl 5 awv0, .i 2700]
def awv9 : List AV := [.str [116, 119, 111], .str [106, 101, 116], .sl 5 awv0, .i 2700]
def awv10 : List AV := [.str [106, 101, 116], .sl 1 [[.i 600], [.i 400]], .i 1000, .i 1000, .i 1000, .i 1000, .i 500, .i 500, .i 500, .i 500, .i 500, .sl 1 [[.i 0], [.i 100]], .sl 2 awv1]
def awv11 : List (List AV) := [awv10]
def awv12 : List (List AV) := [awv6, awv7]
def awv13 : List AV := [.agg awv10]
def awv14 : List AV := [.sl 13 awv11]
def awv15 : List (List AV) := [awv14]
def awv16 : List AV := [.agg awv10, .i 30, .i 0]
def awv17 : List AV := [.agg awv10, .i 15, .i 99]
def awv18 : List AV := [.agg awv10, .i 15, .i 100]
def awv19 : List (List AV) := [awv8, awv9]
def awv20 : List AV := [.agg awv10, .sl 5 awv0, .agg [.i 6, .i 8], .agg [.i 4, .i 2, .i 0]]
def awv21 : List AV := [.agg awv10, .sl 5 awv0, .agg [.i 0, .i 100000000], .agg [.i 4, .i 2, .i 0]]
def awv22 : List AV := [.sl 13 awv11, .sl 3 awv12, .agg [.i 4, .i 2, .i 0]]
def awM0 : List Mem := []
theorem awK0 : KnownM Tryz.prog G0 awM0 := KnownM.nil
theorem awc1 : PCall Tryz.prog G0 122 ([.str [106, 101, 116]]) (.bool true) := run_c awK0 (by kernel_rfl)
def awM1 : List Mem := ⟨122, [.str [106, 101, 116]], .bool true⟩ :: awM0
theorem awK1 : KnownM Tryz.prog G0 awM1 := KnownM.cons awc1 awK0
theorem awc2 : PCall Tryz.prog G0 123 ([.i 2, .i 8]) (.i 0) := run_c awK1 (by kernel_rfl)
def awM2 : List Mem := ⟨123, [.i 2, .i 8], .i 0⟩ :: awM1
theorem awK2 : KnownM Tryz.prog G0 awM2 := KnownM.cons awc2 awK1
theorem awc3 : PCall Tryz.prog G0 124 ([.sl 1 [[.i 600], [.i 400]], .i 1000]) (.i 0) := run_c awK2 (by kernel_rfl)
def awM3 : List Mem := ⟨124, [.sl 1 [[.i 600], [.i 400]], .i 1000], .i 0⟩ :: awM2
theorem awK3 : KnownM Tryz.prog G0 awM3 := KnownM.cons awc3 awK2
theorem awc4 : PCall Tryz.prog G0 87 ([.sl 1 [[.i 0], [.i 0], [.i 0], [.i 0]]]) (.i 0) := run_c awK3 (by kernel_rfl)
def awM4 : List Mem := ⟨87, [.sl 1 [[.i 0], [.i 0], [.i 0], [.i 0]]], .i 0⟩ :: awM3
theorem awK4 : KnownM Tryz.prog G0 awM4 := KnownM.cons awc4 awK3
theorem awc5 : PCall Tryz.prog G0 87 ([.sl 1 [[.i 0], [.i 0], [.i 0], [.i 0], [.i 0], [.i 0], [.i 0], [.i 0]]]) (.i 0) := run_c awK4 (by kernel_rfl)
def awM5 : List Mem := ⟨87, [.sl 1 [[.i 0], [.i 0], [.i 0], [.i 0], [.i 0], [.i 0], [.i 0], [.i 0]]], .i 0⟩ :: awM4
theorem awK5 : KnownM Tryz.prog G0 awM5 := KnownM.cons awc5 awK4
theorem awc6 : PCall Tryz.prog G0 124 ([.sl 1 awv3, .i 2000]) (.i 0) := run_c awK5 (by kernel_rfl)
def awM6 : List Mem := ⟨124, [.sl 1 awv3, .i 2000], .i 0⟩ :: awM5
theorem awK6 : KnownM Tryz.prog G0 awM6 := KnownM.cons awc6 awK5
theorem awc7 : PCall Tryz.prog G0 124 ([.sl 1 [[.i 0], [.i 100]], .i 100000000000]) (.i 0) := run_c awK6 (by kernel_rfl)
def awM7 : List Mem := ⟨124, [.sl 1 [[.i 0], [.i 100]], .i 100000000000], .i 0⟩ :: awM6
theorem awK7 : KnownM Tryz.prog G0 awM7 := KnownM.cons awc7 awK6
theorem awc8 : PCall Tryz.prog G0 123 ([.i 2, .i 6]) (.i 0) := run_c awK7 (by kernel_rfl)
def awM8 : List Mem := ⟨123, [.i 2, .i 6], .i 0⟩ :: awM7
theorem awK8 : KnownM Tryz.prog G0 awM8 := KnownM.cons awc8 awK7
theorem awc9 : PCall Tryz.prog G0 124 ([.sl 1 [[.i 1000], [.i 400]], .i 100000000]) (.i 0) := run_c awK8 (by kernel_rfl)
def awM9 : List Mem := ⟨124, [.sl 1 [[.i 1000], [.i 400]], .i 100000000], .i 0⟩ :: awM8
theorem awK9 : KnownM Tryz.prog G0 awM9 := KnownM.cons awc9 awK8
theorem awc10 : PCall Tryz.prog G0 124 ([.sl 1 [[.i 2000], [.i 600]], .i 100000000]) (.i 0) := run_c awK9 (by kernel_rfl)
def awM10 : List Mem := ⟨124, [.sl 1 [[.i 2000], [.i 600]], .i 100000000], .i 0⟩ :: awM9
theorem awK10 : KnownM Tryz.prog G0 awM10 := KnownM.cons awc10 awK9
theorem awc11 : PCall Tryz.prog G0 125 (awv13) (.i 0) := run_c awK10 (by kernel_rfl)
def awM11 : List Mem := ⟨125, awv13, .i 0⟩ :: awM10
theorem awK11 : KnownM Tryz.prog G0 awM11 := KnownM.cons awc11 awK10
theorem awc12 : PCall Tryz.prog G0 53 (awv13) (.i 0) := run_c awK11 (by kernel_rfl)
def awM12 : List Mem := ⟨53, awv13, .i 0⟩ :: awM11
theorem awK12 : KnownM Tryz.prog G0 awM12 := KnownM.cons awc12 awK11
theorem awc13 : PCall Tryz.prog G0 87 ([.sl 1 [[.i 0], [.i 0], [.i 0]]]) (.i 0) := run_c awK12 (by kernel_rfl)
def awM13 : List Mem := ⟨87, [.sl 1 [[.i 0], [.i 0], [.i 0]]], .i 0⟩ :: awM12
theorem awK13 : KnownM Tryz.prog G0 awM13 := KnownM.cons awc13 awK12
theorem awc14 : PCall Tryz.prog G0 114 (awv17) (.i 1500) := run_c awK13 (by kernel_rfl)
def awM14 : List Mem := ⟨114, awv17, .i 1500⟩ :: awM13
theorem awK14 : KnownM Tryz.prog G0 awM14 := KnownM.cons awc14 awK13
theorem awc15 : PCall Tryz.prog G0 40 (awv17) (.tup [.i 1500, .i 0]) := run_c awK14 (by kernel_rfl)
def awM15 : List Mem := ⟨40, awv17, .tup [.i 1500, .i 0]⟩ :: awM14
theorem awK15 : KnownM Tryz.prog G0 awM15 := KnownM.cons awc15 awK14
theorem awc16 : PCall Tryz.prog G0 114 (awv18) (.i 500) := run_c awK15 (by kernel_rfl)
def awM16 : List Mem := ⟨114, awv18, .i 500⟩ :: awM15
theorem awK16 : KnownM Tryz.prog G0 awM16 := KnownM.cons awc16 awK15
theorem awc17 : PCall Tryz.prog G0 40 (awv18) (.tup [.i 500, .i 0]) := run_c awK16 (by kernel_rfl)
def awM17 : List Mem := ⟨40, awv18, .tup [.i 500, .i 0]⟩ :: awM16
theorem awK17 : KnownM Tryz.prog G0 awM17 := KnownM.cons awc17 awK16
theorem awc18 : PCall Tryz.prog G0 114 (awv16) (.i 2000) := run_c awK17 (by kernel_rfl)
def awM18 : List Mem := ⟨114, awv16, .i 2000⟩ :: awM17
theorem awK18 : KnownM Tryz.prog G0 awM18 := KnownM.cons awc18 awK17
theorem awc19 : PCall Tryz.prog G0 40 (awv16) (.tup [.i 2000, .i 0]) := run_c awK18 (by kernel_rfl)
def awM19 : List Mem := ⟨40, awv16, .tup [.i 2000, .i 0]⟩ :: awM18
theorem awK19 : KnownM Tryz.prog G0 awM19 := KnownM.cons awc19 awK18
theorem awc20 : PCall Tryz.prog G0 104 ([.agg [.i 0, .i 0, .i 0]]) (.i 0) := run_c awK19 (by kernel_rfl)
def awM20 : List Mem := ⟨104, [.agg [.i 0, .i 0, .i 0]], .i 0⟩ :: awM19
theorem awK20 : KnownM Tryz.prog G0 awM20 := KnownM.cons awc20 awK19
theorem awc21 : PCall Tryz.prog G0 134 ([.agg [.i 5, .i 0, .i 0, .i 0, .i 10]]) (.i 0) := run_c awK20 (by kernel_rfl)
def awM21 : List Mem := ⟨134, [.agg [.i 5, .i 0, .i 0, .i 0, .i 10]], .i 0⟩ :: awM20
theorem awK21 : KnownM Tryz.prog G0 awM21 := KnownM.cons awc21 awK20
theorem awc22 : PCall Tryz.prog G0 104 ([.agg [.i 8, .i 0, .i 0]]) (.i 0) := run_c awK21 (by kernel_rfl)
def awM22 : List Mem := ⟨104, [.agg [.i 8, .i 0, .i 0]], .i 0⟩ :: awM21
theorem awK22 : KnownM Tryz.prog G0 awM22 := KnownM.cons awc22 awK21
theorem awc23 : PCall Tryz.prog G0 134 ([.agg [.i 9, .i 8, .i 0, .i 0, .i 20]]) (.i 0) := run_c awK22 (by kernel_rfl)
def awM23 : List Mem := ⟨134, [.agg [.i 9, .i 8, .i 0, .i 0, .i 20]], .i 0⟩ :: awM22
theorem awK23 : KnownM Tryz.prog G0 awM23 := KnownM.cons awc23 awK22
theorem awc24 : PCall Tryz.prog G0 76 ([.sl 5 awv0]) (.i 0) := run_c awK23 (by kernel_rfl)
def awM24 : List Mem := ⟨76, [.sl 5 awv0], .i 0⟩ :: awM23
theorem awK24 : KnownM Tryz.prog G0 awM24 := KnownM.cons awc24 awK23
theorem awc25 : PCall Tryz.prog G0 126 (awv2) (.agg [.i 2, .i 0, .i 0, .i 8, .i 0, .i 12]) := run_c awK24 (by kernel_rfl)
def awM25 : List Mem := ⟨126, awv2, .agg [.i 2, .i 0, .i 0, .i 8, .i 0, .i 12]⟩ :: awM24
theorem awK25 : KnownM Tryz.prog G0 awM25 := KnownM.cons awc25 awK24
theorem awc26 : PCall Tryz.prog G0 56 (awv2) (.tup [.agg [.i 2, .i 0, .i 0, .i 8, .i 0, .i 12], .i 0]) := run_c awK25 (by kernel_rfl)
def awM26 : List Mem := ⟨56, awv2, .tup [.agg [.i 2, .i 0, .i 0, .i 8, .i 0, .i 12], .i 0]⟩ :: awM25
theorem awK26 : KnownM Tryz.prog G0 awM26 := KnownM.cons awc26 awK25
theorem awc27 : PCall Tryz.prog G0 104 ([.agg [.i 4, .i 2, .i 0]]) (.i 0) := run_c awK26 (by kernel_rfl)
def awM27 : List Mem := ⟨104, [.agg [.i 4, .i 2, .i 0]], .i 0⟩ :: awM26
theorem awK27 : KnownM Tryz.prog G0 awM27 := KnownM.cons awc27 awK26
theorem awc28 : PCall Tryz.prog G0 99 (awv21) (.i 0) := run_c awK27 (by kernel_rfl)
def awM28 : List Mem := ⟨99, awv21, .i 0⟩ :: awM27
theorem awK28 : KnownM Tryz.prog G0 awM28 := KnownM.cons awc28 awK27
theorem awc29 : PCall Tryz.prog G0 126 ([.sl 5 awv0, .i 5]) (.agg [.i 0, .i 0, .i 0, .i 8, .i 0, .i 10]) := run_c awK28 (by kernel_rfl)
def awM29 : List Mem := ⟨126, [.sl 5 awv0, .i 5], .agg [.i 0, .i 0, .i 0, .i 8, .i 0, .i 10]⟩ :: awM28
theorem awK29 : KnownM Tryz.prog G0 awM29 := KnownM.cons awc29 awK28
theorem awc30 : PCall Tryz.prog G0 116 ([.agg [.i 8, .i 0], .agg [.i 4, .i 2]]) (.i 0) := run_c awK29 (by kernel_rfl)
def awM30 : List Mem := ⟨116, [.agg [.i 8, .i 0], .agg [.i 4, .i 2]], .i 0⟩ :: awM29
theorem awK30 : KnownM Tryz.prog G0 awM30 := KnownM.cons awc30 awK29
theorem awc31 : PCall Tryz.prog G0 114 ([.agg awv10, .i 10, .i 20]) (.i 1000) := run_c awK30 (by kernel_rfl)
def awM31 : List Mem := ⟨114, [.agg awv10, .i 10, .i 20], .i 1000⟩ :: awM30
theorem awK31 : KnownM Tryz.prog G0 awM31 := KnownM.cons awc31 awK30
theorem awc32 : PCall Tryz.prog G0 117 ([.agg awv10, .agg [.i 0, .i 0, .i 0, .i 8, .i 0, .i 10], .agg [.i 4, .i 2, .i 0]]) (.i 500) := run_c awK31 (by kernel_rfl)
def awM32 : List Mem := ⟨117, [.agg awv10, .agg [.i 0, .i 0, .i 0, .i 8, .i 0, .i 10], .agg [.i 4, .i 2, .i 0]], .i 500⟩ :: awM31
theorem awK32 : KnownM Tryz.prog G0 awM32 := KnownM.cons awc32 awK31
theorem awc33 : PCall Tryz.prog G0 116 ([.agg [.i 8, .i 0], .agg [.i 2, .i 2]]) (.i 1) := run_c awK32 (by kernel_rfl)
def awM33 : List Mem := ⟨116, [.agg [.i 8, .i 0], .agg [.i 2, .i 2]], .i 1⟩ :: awM32
theorem awK33 : KnownM Tryz.prog G0 awM33 := KnownM.cons awc33 awK32
theorem awc34 : PCall Tryz.prog G0 114 ([.agg awv10, .i 12, .i 8]) (.i 1200) := run_c awK33 (by kernel_rfl)
def awM34 : List Mem := ⟨114, [.agg awv10, .i 12, .i 8], .i 1200⟩ :: awM33
theorem awK34 : KnownM Tryz.prog G0 awM34 := KnownM.cons awc34 awK33
theorem awc35 : PCall Tryz.prog G0 117 ([.agg awv10, .agg [.i 2, .i 0, .i 0, .i 8, .i 0, .i 12], .agg [.i 4, .i 2, .i 0]]) (.i 600) := run_c awK34 (by kernel_rfl)
def awM35 : List Mem := ⟨117, [.agg awv10, .agg [.i 2, .i 0, .i 0, .i 8, .i 0, .i 12], .agg [.i 4, .i 2, .i 0]], .i 600⟩ :: awM34
theorem awK35 : KnownM Tryz.prog G0 awM35 := KnownM.cons awc35 awK34
theorem awc36 : PCall Tryz.prog G0 126 ([.sl 5 awv0, .i 7]) (.agg [.i 4, .i 0, .i 0, .i 8, .i 0, .i 15]) := run_c awK35 (by kernel_rfl)
def awM36 : List Mem := ⟨126, [.sl 5 awv0, .i 7], .agg [.i 4, .i 0, .i 0, .i 8, .i 0, .i 15]⟩ :: awM35
theorem awK36 : KnownM Tryz.prog G0 awM36 := KnownM.cons awc36 awK35
theorem awc37 : PCall Tryz.prog G0 116 ([.agg [.i 8, .i 0], .agg [.i 0, .i 2]]) (.i 2) := run_c awK36 (by kernel_rfl)
def awM37 : List Mem := ⟨116, [.agg [.i 8, .i 0], .agg [.i 0, .i 2]], .i 2⟩ :: awM36
theorem awK37 : KnownM Tryz.prog G0 awM37 := KnownM.cons awc37 awK36
theorem awc38 : PCall Tryz.prog G0 114 ([.agg awv10, .i 15, .i 4]) (.i 1500) := run_c awK37 (by kernel_rfl)
def awM38 : List Mem := ⟨114, [.agg awv10, .i 15, .i 4], .i 1500⟩ :: awM37
theorem awK38 : KnownM Tryz.prog G0 awM38 := KnownM.cons awc38 awK37
theorem awc39 : PCall Tryz.prog G0 117 ([.agg awv10, .agg [.i 4, .i 0, .i 0, .i 8, .i 0, .i 15], .agg [.i 4, .i 2, .i 0]]) (.i 750) := run_c awK38 (by kernel_rfl)
def awM39 : List Mem := ⟨117, [.agg awv10, .agg [.i 4, .i 0, .i 0, .i 8, .i 0, .i 15], .agg [.i 4, .i 2, .i 0]], .i 750⟩ :: awM38
theorem awK39 : KnownM Tryz.prog G0 awM39 := KnownM.cons awc39 awK38
theorem awc40 : PCall Tryz.prog G0 126 ([.sl 5 awv0, .i 8]) (.agg [.i 6, .i 0, .i 0, .i 8, .i 0, .i 17]) := run_c awK39 (by kernel_rfl)
def awM40 : List Mem := ⟨126, [.sl 5 awv0, .i 8], .agg [.i 6, .i 0, .i 0, .i 8, .i 0, .i 17]⟩ :: awM39
theorem awK40 : KnownM Tryz.prog G0 awM40 := KnownM.cons awc40 awK39
theorem awc41 : PCall Tryz.prog G0 116 ([.agg [.i 8, .i 0], .agg [.i (-2), .i 2]]) (.i 3) := run_c awK40 (by kernel_rfl)
def awM41 : List Mem := ⟨116, [.agg [.i 8, .i 0], .agg [.i (-2), .i 2]], .i 3⟩ :: awM40
theorem awK41 : KnownM Tryz.prog G0 awM41 := KnownM.cons awc41 awK40
theorem awc42 : PCall Tryz.prog G0 114 ([.agg awv10, .i 17, .i 8]) (.i 1700) := run_c awK41 (by kernel_rfl)
def awM42 : List Mem := ⟨114, [.agg awv10, .i 17, .i 8], .i 1700⟩ :: awM41
theorem awK42 : KnownM Tryz.prog G0 awM42 := KnownM.cons awc42 awK41
theorem awc43 : PCall Tryz.prog G0 117 ([.agg awv10, .agg [.i 6, .i 0, .i 0, .i 8, .i 0, .i 17], .agg [.i 4, .i 2, .i 0]]) (.i 850) := run_c awK42 (by kernel_rfl)
def awM43 : List Mem := ⟨117, [.agg awv10, .agg [.i 6, .i 0, .i 0, .i 8, .i 0, .i 17], .agg [.i 4, .i 2, .i 0]], .i 850⟩ :: awM42
theorem awK43 : KnownM Tryz.prog G0 awM43 := KnownM.cons awc43 awK42
theorem awc44 : PCall Tryz.prog G0 100 (awv21) (.i 2700) := run_c awK43 (by kernel_rfl)
def awM44 : List Mem := ⟨100, awv21, .i 2700⟩ :: awM43
theorem awK44 : KnownM Tryz.prog G0 awM44 := KnownM.cons awc44 awK43
theorem awc45 : PCall Tryz.prog G0 27 (awv21) (.tup [.i 2700, .i 0]) := run_c awK44 (by kernel_rfl)
def awM45 : List Mem := ⟨27, awv21, .tup [.i 2700, .i 0]⟩ :: awM44
theorem awK45 : KnownM Tryz.prog G0 awM45 := KnownM.cons awc45 awK44
theorem awc46 : PCall Tryz.prog G0 99 (awv20) (.i 0) := run_c awK45 (by kernel_rfl)
def awM46 : List Mem := ⟨99, awv20, .i 0⟩ :: awM45
theorem awK46 : KnownM Tryz.prog G0 awM46 := KnownM.cons awc46 awK45
theorem awc47 : PCall Tryz.prog G0 100 (awv20) (.i 1350) := run_c awK46 (by kernel_rfl)
def awM47 : List Mem := ⟨100, awv20, .i 1350⟩ :: awM46
theorem awK47 : KnownM Tryz.prog G0 awM47 := KnownM.cons awc47 awK46
theorem awc48 : PCall Tryz.prog G0 27 (awv20) (.tup [.i 1350, .i 0]) := run_c awK47 (by kernel_rfl)
def awM48 : List Mem := ⟨27, awv20, .tup [.i 1350, .i 0]⟩ :: awM47
theorem awK48 : KnownM Tryz.prog G0 awM48 := KnownM.cons awc48 awK47
theorem awc49 : PCall Tryz.prog G0 30 (awv21) (.tup [.i 850, .i 8, .i 0]) := run_c awK48 (by kernel_rfl)
def awM49 : List Mem := ⟨30, awv21, .tup [.i 850, .i 8, .i 0]⟩ :: awM48
theorem awK49 : KnownM Tryz.prog G0 awM49 := KnownM.cons awc49 awK48
theorem awc50 : PCall Tryz.prog G0 146 (awv4) (.i 500) := run_c awK49 (by kernel_rfl)
def awM50 : List Mem := ⟨146, awv4, .i 500⟩ :: awM49
theorem awK50 : KnownM Tryz.prog G0 awM50 := KnownM.cons awc50 awK49
theorem awc51 : PCall Tryz.prog G0 114 ([.agg awv10, .i 20, .i 4]) (.i 2000) := run_c awK50 (by kernel_rfl)
def awM51 : List Mem := ⟨114, [.agg awv10, .i 20, .i 4], .i 2000⟩ :: awM50
theorem awK51 : KnownM Tryz.prog G0 awM51 := KnownM.cons awc51 awK50
theorem awc52 : PCall Tryz.prog G0 147 (awv4) (.i 1000) := run_c awK51 (by kernel_rfl)
def awM52 : List Mem := ⟨147, awv4, .i 1000⟩ :: awM51
theorem awK52 : KnownM Tryz.prog G0 awM52 := KnownM.cons awc52 awK51
theorem awc53 : PCall Tryz.prog G0 105 ([.agg awv10, .agg [.i 5, .i 0, .i 0, .i 0, .i 10], .agg [.i 9, .i 8, .i 0, .i 0, .i 20], .agg [.i 4, .i 2, .i 0]]) (.agg [.i 1000, .i 8000]) := run_c awK52 (by kernel_rfl)
def awM53 : List Mem := ⟨105, [.agg awv10, .agg [.i 5, .i 0, .i 0, .i 0, .i 10], .agg [.i 9, .i 8, .i 0, .i 0, .i 20], .agg [.i 4, .i 2, .i 0]], .agg [.i 1000, .i 8000]⟩ :: awM52
theorem awK53 : KnownM Tryz.prog G0 awM53 := KnownM.cons awc53 awK52
theorem awc54 : PCall Tryz.prog G0 31 ([.agg awv10, .sl 5 awv0, .agg [.i 4, .i 2, .i 0]]) (.tup [.agg [.i 1000, .i 8000], .i 0]) := run_c awK53 (by kernel_rfl)
def awM54 : List Mem := ⟨31, [.agg awv10, .sl 5 awv0, .agg [.i 4, .i 2, .i 0]], .tup [.agg [.i 1000, .i 8000], .i 0]⟩ :: awM53
theorem awK54 : KnownM Tryz.prog G0 awM54 := KnownM.cons awc54 awK53
theorem awc55 : PCall Tryz.prog G0 43 ([.agg awv10, .i 101]) (.tup [.sl 1 [[.i 61], [.i 40]], .i 0]) := run_c awK54 (by kernel_rfl)
def awM55 : List Mem := ⟨43, [.agg awv10, .i 101], .tup [.sl 1 [[.i 61], [.i 40]], .i 0]⟩ :: awM54
theorem awK55 : KnownM Tryz.prog G0 awM55 := KnownM.cons awc55 awK54
theorem awc56 : PCall Tryz.prog G0 39 ([.sl 5 awv0, .i 2]) (.tup [.sl 5 awv0, .i 0]) := run_c awK55 (by kernel_rfl)
def awM56 : List Mem := ⟨39, [.sl 5 awv0, .i 2], .tup [.sl 5 awv0, .i 0]⟩ :: awM55
theorem awK56 : KnownM Tryz.prog G0 awM56 := KnownM.cons awc56 awK55
theorem awc57 : PCall Tryz.prog G0 39 ([.sl 5 awv0, .i 1]) (.tup [.ex (.slice none 0 0), .i 16]) := run_c awK56 (by kernel_rfl)
def awM57 : List Mem := ⟨39, [.sl 5 awv0, .i 1], .tup [.ex (.slice none 0 0), .i 16]⟩ :: awM56
theorem awK57 : KnownM Tryz.prog G0 awM57 := KnownM.cons awc57 awK56
theorem awc58 : PCall Tryz.prog G0 54 ([.sl 1 [[.i 61], [.i 40]], .sl 1 [[.i 61], [.i 40]]]) (.bool true) := run_c awK57 (by kernel_rfl)
def awM58 : List Mem := ⟨54, [.sl 1 [[.i 61], [.i 40]], .sl 1 [[.i 61], [.i 40]]], .bool true⟩ :: awM57
theorem awK58 : KnownM Tryz.prog G0 awM58 := KnownM.cons awc58 awK57
theorem awc59 : PCall Tryz.prog G0 115 ([.agg [.i 1, .i 0]]) (.i 0) := run_c awK58 (by kernel_rfl)
def awM59 : List Mem := ⟨115, [.agg [.i 1, .i 0]], .i 0⟩ :: awM58
theorem awK59 : KnownM Tryz.prog G0 awM59 := KnownM.cons awc59 awK58
theorem awc60 : PCall Tryz.prog G0 115 ([.agg [.i 3, .i 1]]) (.i 0) := run_c awK59 (by kernel_rfl)
def awM60 : List Mem := ⟨115, [.agg [.i 3, .i 1]], .i 0⟩ :: awM59
theorem awK60 : KnownM Tryz.prog G0 awM60 := KnownM.cons awc60 awK59
theorem awc61 : PCall Tryz.prog G0 116 ([.agg [.i 1, .i 0], .agg [.i 3, .i 1]]) (.i 0) := run_c awK60 (by kernel_rfl)
def awM61 : List Mem := ⟨116, [.agg [.i 1, .i 0], .agg [.i 3, .i 1]], .i 0⟩ :: awM60
theorem awK61 : KnownM Tryz.prog G0 awM61 := KnownM.cons awc61 awK60
theorem awc62 : PCall Tryz.prog G0 41 ([.agg [.i 1, .i 0], .agg [.i 3, .i 1]]) (.tup [.i 0, .i 0]) := run_c awK61 (by kernel_rfl)
def awM62 : List Mem := ⟨41, [.agg [.i 1, .i 0], .agg [.i 3, .i 1]], .tup [.i 0, .i 0]⟩ :: awM61
theorem awK62 : KnownM Tryz.prog G0 awM62 := KnownM.cons awc62 awK61
theorem awc63 : PCall Tryz.prog G0 115 ([.agg [.i 2, .i 2]]) (.i 0) := run_c awK62 (by kernel_rfl)
def awM63 : List Mem := ⟨115, [.agg [.i 2, .i 2]], .i 0⟩ :: awM62
theorem awK63 : KnownM Tryz.prog G0 awM63 := KnownM.cons awc63 awK62
theorem awc64 : PCall Tryz.prog G0 116 ([.agg [.i 1, .i 0], .agg [.i 2, .i 2]]) (.i 1) := run_c awK63 (by kernel_rfl)
def awM64 : List Mem := ⟨116, [.agg [.i 1, .i 0], .agg [.i 2, .i 2]], .i 1⟩ :: awM63
theorem awK64 : KnownM Tryz.prog G0 awM64 := KnownM.cons awc64 awK63
theorem awc65 : PCall Tryz.prog G0 41 ([.agg [.i 1, .i 0], .agg [.i 2, .i 2]]) (.tup [.i 1, .i 0]) := run_c awK64 (by kernel_rfl)
def awM65 : List Mem := ⟨41, [.agg [.i 1, .i 0], .agg [.i 2, .i 2]], .tup [.i 1, .i 0]⟩ :: awM64
theorem awK65 : KnownM Tryz.prog G0 awM65 := KnownM.cons awc65 awK64
theorem awc66 : PCall Tryz.prog G0 115 ([.agg [.i 0, .i 5]]) (.i 0) := run_c awK65 (by kernel_rfl)
def awM66 : List Mem := ⟨115, [.agg [.i 0, .i 5]], .i 0⟩ :: awM65
theorem awK66 : KnownM Tryz.prog G0 awM66 := KnownM.cons awc66 awK65
theorem awc67 : PCall Tryz.prog G0 116 ([.agg [.i 1, .i 0], .agg [.i 0, .i 5]]) (.i 2) := run_c awK66 (by kernel_rfl)
def awM67 : List Mem := ⟨116, [.agg [.i 1, .i 0], .agg [.i 0, .i 5]], .i 2⟩ :: awM66
theorem awK67 : KnownM Tryz.prog G0 awM67 := KnownM.cons awc67 awK66
theorem awc68 : PCall Tryz.prog G0 41 ([.agg [.i 1, .i 0], .agg [.i 0, .i 5]]) (.tup [.i 2, .i 0]) := run_c awK67 (by kernel_rfl)
def awM68 : List Mem := ⟨41, [.agg [.i 1, .i 0], .agg [.i 0, .i 5]], .tup [.i 2, .i 0]⟩ :: awM67
theorem awK68 : KnownM Tryz.prog G0 awM68 := KnownM.cons awc68 awK67
theorem awc69 : PCall Tryz.prog G0 115 ([.agg [.i (-2), .i 2]]) (.i 0) := run_c awK68 (by kernel_rfl)
def awM69 : List Mem := ⟨115, [.agg [.i (-2), .i 2]], .i 0⟩ :: awM68
theorem awK69 : KnownM Tryz.prog G0 awM69 := KnownM.cons awc69 awK68
theorem awc70 : PCall Tryz.prog G0 116 ([.agg [.i 1, .i 0], .agg [.i (-2), .i 2]]) (.i 3) := run_c awK69 (by kernel_rfl)
def awM70 : List Mem := ⟨116, [.agg [.i 1, .i 0], .agg [.i (-2), .i 2]], .i 3⟩ :: awM69
theorem awK70 : KnownM Tryz.prog G0 awM70 := KnownM.cons awc70 awK69
theorem awc71 : PCall Tryz.prog G0 41 ([.agg [.i 1, .i 0], .agg [.i (-2), .i 2]]) (.tup [.i 3, .i 0]) := run_c awK70 (by kernel_rfl)
def awM71 : List Mem := ⟨41, [.agg [.i 1, .i 0], .agg [.i (-2), .i 2]], .tup [.i 3, .i 0]⟩ :: awM70
theorem awK71 : KnownM Tryz.prog G0 awM71 := KnownM.cons awc71 awK70
theorem awc72 : PCall Tryz.prog G0 115 ([.agg [.i (-3), .i 0]]) (.i 0) := run_c awK71 (by kernel_rfl)
def awM72 : List Mem := ⟨115, [.agg [.i (-3), .i 0]], .i 0⟩ :: awM71
theorem awK72 : KnownM Tryz.prog G0 awM72 := KnownM.cons awc72 awK71
theorem awc73 : PCall Tryz.prog G0 116 ([.agg [.i 1, .i 0], .agg [.i (-3), .i 0]]) (.i 4) := run_c awK72 (by kernel_rfl)
def awM73 : List Mem := ⟨116, [.agg [.i 1, .i 0], .agg [.i (-3), .i 0]], .i 4⟩ :: awM72
theorem awK73 : KnownM Tryz.prog G0 awM73 := KnownM.cons awc73 awK72
theorem awc74 : PCall Tryz.prog G0 41 ([.agg [.i 1, .i 0], .agg [.i (-3), .i 0]]) (.tup [.i 4, .i 0]) := run_c awK73 (by kernel_rfl)
def awM74 : List Mem := ⟨41, [.agg [.i 1, .i 0], .agg [.i (-3), .i 0]], .tup [.i 4, .i 0]⟩ :: awM73
theorem awK74 : KnownM Tryz.prog G0 awM74 := KnownM.cons awc74 awK73
theorem awc75 : PCall Tryz.prog G0 115 ([.agg [.i (-1), .i (-1)]]) (.i 0) := run_c awK74 (by kernel_rfl)
def awM75 : List Mem := ⟨115, [.agg [.i (-1), .i (-1)]], .i 0⟩ :: awM74
theorem awK75 : KnownM Tryz.prog G0 awM75 := KnownM.cons awc75 awK74
theorem awc76 : PCall Tryz.prog G0 116 ([.agg [.i 1, .i 0], .agg [.i (-1), .i (-1)]]) (.i 5) := run_c awK75 (by kernel_rfl)
def awM76 : List Mem := ⟨116, [.agg [.i 1, .i 0], .agg [.i (-1), .i (-1)]], .i 5⟩ :: awM75
theorem awK76 : KnownM Tryz.prog G0 awM76 := KnownM.cons awc76 awK75
theorem awc77 : PCall Tryz.prog G0 41 ([.agg [.i 1, .i 0], .agg [.i (-1), .i (-1)]]) (.tup [.i 5, .i 0]) := run_c awK76 (by kernel_rfl)
def awM77 : List Mem := ⟨41, [.agg [.i 1, .i 0], .agg [.i (-1), .i (-1)]], .tup [.i 5, .i 0]⟩ :: awM76
theorem awK77 : KnownM Tryz.prog G0 awM77 := KnownM.cons awc77 awK76
theorem awc78 : PCall Tryz.prog G0 115 ([.agg [.i 0, .i (-4)]]) (.i 0) := run_c awK77 (by kernel_rfl)
def awM78 : List Mem := ⟨115, [.agg [.i 0, .i (-4)]], .i 0⟩ :: awM77
theorem awK78 : KnownM Tryz.prog G0 awM78 := KnownM.cons awc78 awK77
theorem awc79 : PCall Tryz.prog G0 116 ([.agg [.i 1, .i 0], .agg [.i 0, .i (-4)]]) (.i 6) := run_c awK78 (by kernel_rfl)
def awM79 : List Mem := ⟨116, [.agg [.i 1, .i 0], .agg [.i 0, .i (-4)]], .i 6⟩ :: awM78
theorem awK79 : KnownM Tryz.prog G0 awM79 := KnownM.cons awc79 awK78
theorem awc80 : PCall Tryz.prog G0 41 ([.agg [.i 1, .i 0], .agg [.i 0, .i (-4)]]) (.tup [.i 6, .i 0]) := run_c awK79 (by kernel_rfl)
def awM80 : List Mem := ⟨41, [.agg [.i 1, .i 0], .agg [.i 0, .i (-4)]], .tup [.i 6, .i 0]⟩ :: awM79
theorem awK80 : KnownM Tryz.prog G0 awM80 := KnownM.cons awc80 awK79
theorem awc81 : PCall Tryz.prog G0 115 ([.agg [.i 2, .i (-2)]]) (.i 0) := run_c awK80 (by kernel_rfl)
def awM81 : List Mem := ⟨115, [.agg [.i 2, .i (-2)]], .i 0⟩ :: awM80
theorem awK81 : KnownM Tryz.prog G0 awM81 := KnownM.cons awc81 awK80
theorem awc82 : PCall Tryz.prog G0 116 ([.agg [.i 1, .i 0], .agg [.i 2, .i (-2)]]) (.i 7) := run_c awK81 (by kernel_rfl)
def awM82 : List Mem := ⟨116, [.agg [.i 1, .i 0], .agg [.i 2, .i (-2)]], .i 7⟩ :: awM81
theorem awK82 : KnownM Tryz.prog G0 awM82 := KnownM.cons awc82 awK81
theorem awc83 : PCall Tryz.prog G0 41 ([.agg [.i 1, .i 0], .agg [.i 2, .i (-2)]]) (.tup [.i 7, .i 0]) := run_c awK82 (by kernel_rfl)
def awM83 : List Mem := ⟨41, [.agg [.i 1, .i 0], .agg [.i 2, .i (-2)]], .tup [.i 7, .i 0]⟩ :: awM82
theorem awK83 : KnownM Tryz.prog G0 awM83 := KnownM.cons awc83 awK82
theorem awc84 : PCall Tryz.prog G0 88 ([.sl 2 [[.i 0, .i 0], [.i 10, .i 0], [.i 10, .i 5]]]) (.i 0) := run_c awK83 (by kernel_rfl)
def awM84 : List Mem := ⟨88, [.sl 2 [[.i 0, .i 0], [.i 10, .i 0], [.i 10, .i 5]]], .i 0⟩ :: awM83
theorem awK84 : KnownM Tryz.prog G0 awM84 := KnownM.cons awc84 awK83
theorem awc85 : PCall Tryz.prog G0 22 ([.sl 3 [[.i 0, .i 0, .i 100], [.i 10, .i 50, .i 80]]]) (.i 0) := run_c awK84 (by kernel_rfl)
def awM85 : List Mem := ⟨22, [.sl 3 [[.i 0, .i 0, .i 100], [.i 10, .i 50, .i 80]]], .i 0⟩ :: awM84
theorem awK85 : KnownM Tryz.prog G0 awM85 := KnownM.cons awc85 awK84
theorem awc86 : PCall Tryz.prog G0 90 ([.sl 3 [[.i 0, .i 0, .i 100], [.i 10, .i 50, .i 80]], .i 0]) (.agg [.i 0, .i 0, .i 100]) := run_c awK85 (by kernel_rfl)
def awM86 : List Mem := ⟨90, [.sl 3 [[.i 0, .i 0, .i 100], [.i 10, .i 50, .i 80]], .i 0], .agg [.i 0, .i 0, .i 100]⟩ :: awM85
theorem awK86 : KnownM Tryz.prog G0 awM86 := KnownM.cons awc86 awK85
theorem awc87 : PCall Tryz.prog G0 90 ([.sl 3 [[.i 0, .i 0, .i 100], [.i 10, .i 50, .i 80]], .i 10]) (.agg [.i 10, .i 50, .i 80]) := run_c awK86 (by kernel_rfl)
def awM87 : List Mem := ⟨90, [.sl 3 [[.i 0, .i 0, .i 100], [.i 10, .i 50, .i 80]], .i 10], .agg [.i 10, .i 50, .i 80]⟩ :: awM86
theorem awK87 : KnownM Tryz.prog G0 awM87 := KnownM.cons awc87 awK86
theorem awc88 : PCall Tryz.prog G0 90 ([.sl 3 [[.i 0, .i 0, .i 100], [.i 10, .i 50, .i 80]], .i 15]) (.agg [.i 10, .i 50, .i 80]) := run_c awK87 (by kernel_rfl)
def awM88 : List Mem := ⟨90, [.sl 3 [[.i 0, .i 0, .i 100], [.i 10, .i 50, .i 80]], .i 15], .agg [.i 10, .i 50, .i 80]⟩ :: awM87
theorem awK88 : KnownM Tryz.prog G0 awM88 := KnownM.cons awc88 awK87
theorem awc89 : PCall Tryz.prog G0 134 ([.agg [.i 100, .i 0, .i 0, .i 0, .i 100]]) (.i 0) := run_c awK88 (by kernel_rfl)
def awM89 : List Mem := ⟨134, [.agg [.i 100, .i 0, .i 0, .i 0, .i 100]], .i 0⟩ :: awM88
theorem awK89 : KnownM Tryz.prog G0 awM89 := KnownM.cons awc89 awK88
theorem awc90 : PCall Tryz.prog G0 104 ([.agg [.i 10, .i 0, .i 50]]) (.i 0) := run_c awK89 (by kernel_rfl)
def awM90 : List Mem := ⟨104, [.agg [.i 10, .i 0, .i 50]], .i 0⟩ :: awM89
theorem awK90 : KnownM Tryz.prog G0 awM90 := KnownM.cons awc90 awK89
theorem awc91 : PCall Tryz.prog G0 134 ([.agg [.i 103, .i 10, .i 0, .i 50, .i 80]]) (.i 0) := run_c awK90 (by kernel_rfl)
def awM91 : List Mem := ⟨134, [.agg [.i 103, .i 10, .i 0, .i 50, .i 80]], .i 0⟩ :: awM90
theorem awK91 : KnownM Tryz.prog G0 awM91 := KnownM.cons awc91 awK90
theorem awc92 : PCall Tryz.prog G0 104 ([.agg [.i 10, .i 5, .i 50]]) (.i 0) := run_c awK91 (by kernel_rfl)
def awM92 : List Mem := ⟨104, [.agg [.i 10, .i 5, .i 50]], .i 0⟩ :: awM91
theorem awK92 : KnownM Tryz.prog G0 awM92 := KnownM.cons awc92 awK91
theorem awc93 : PCall Tryz.prog G0 134 ([.agg [.i 104, .i 10, .i 5, .i 50, .i 80]]) (.i 0) := run_c awK92 (by kernel_rfl)
def awM93 : List Mem := ⟨134, [.agg [.i 104, .i 10, .i 5, .i 50, .i 80]], .i 0⟩ :: awM92
theorem awK93 : KnownM Tryz.prog G0 awM93 := KnownM.cons awc93 awK92
theorem awc94 : PCall Tryz.prog G0 76 ([.sl 5 awv5]) (.i 0) := run_c awK93 (by kernel_rfl)
def awM94 : List Mem := ⟨76, [.sl 5 awv5], .i 0⟩ :: awM93
theorem awK94 : KnownM Tryz.prog G0 awM94 := KnownM.cons awc94 awK93
theorem awc95 : PCall Tryz.prog G0 14 ([.sl 2 [[.i 0, .i 0], [.i 10, .i 0], [.i 10, .i 5]], .sl 3 [[.i 0, .i 0, .i 100], [.i 10, .i 50, .i 80]], .i 4, .i 100]) (.tup [.sl 5 awv5, .i 0]) := run_c awK94 (by kernel_rfl)
def awM95 : List Mem := ⟨14, [.sl 2 [[.i 0, .i 0], [.i 10, .i 0], [.i 10, .i 5]], .sl 3 [[.i 0, .i 0, .i 100], [.i 10, .i 50, .i 80]], .i 4, .i 100], .tup [.sl 5 awv5, .i 0]⟩ :: awM94
theorem awK95 : KnownM Tryz.prog G0 awM95 := KnownM.cons awc95 awK94
theorem awc96 : PCall Tryz.prog G0 122 ([.str [111, 110, 101]]) (.bool true) := run_c awK95 (by kernel_rfl)
def awM96 : List Mem := ⟨122, [.str [111, 110, 101]], .bool true⟩ :: awM95
theorem awK96 : KnownM Tryz.prog G0 awM96 := KnownM.cons awc96 awK95
theorem awc97 : PCall Tryz.prog G0 122 ([.str [116, 119, 111]]) (.bool true) := run_c awK96 (by kernel_rfl)
def awM97 : List Mem := ⟨122, [.str [116, 119, 111]], .bool true⟩ :: awM96
theorem awK97 : KnownM Tryz.prog G0 awM97 := KnownM.cons awc97 awK96
theorem awc98 : PCall Tryz.prog G0 70 ([.sl 13 awv11, .sl 3 awv12]) (.i 0) := run_c awK97 (by kernel_rfl)
def awM98 : List Mem := ⟨70, [.sl 13 awv11, .sl 3 awv12], .i 0⟩ :: awM97
theorem awK98 : KnownM Tryz.prog G0 awM98 := KnownM.cons awc98 awK97
theorem awc99 : PCall Tryz.prog G0 100 ([.agg awv10, .sl 5 awv0, .agg [.i 5, .i 9], .agg [.i 4, .i 2, .i 0]]) (.i 2700) := run_c awK98 (by kernel_rfl)
def awM99 : List Mem := ⟨100, [.agg awv10, .sl 5 awv0, .agg [.i 5, .i 9], .agg [.i 4, .i 2, .i 0]], .i 2700⟩ :: awM98
theorem awK99 : KnownM Tryz.prog G0 awM99 := KnownM.cons awc99 awK98
theorem awc100 : PCall Tryz.prog G0 155 ([.agg awv6, .elt 1 awv15 0 0, .elt 3 [[.i 4, .i 2, .i 0]] 0 0]) (.agg awv8) := run_c awK99 (by kernel_rfl)
def awM100 : List Mem := ⟨155, [.agg awv6, .elt 1 awv15 0 0, .elt 3 [[.i 4, .i 2, .i 0]] 0 0], .agg awv8⟩ :: awM99
theorem awK100 : KnownM Tryz.prog G0 awM100 := KnownM.cons awc100 awK99
theorem awc101 : PCall Tryz.prog G0 155 ([.agg awv7, .elt 1 awv15 0 0, .elt 3 [[.i 4, .i 2, .i 0]] 0 0]) (.agg awv9) := run_c awK100 (by kernel_rfl)
def awM101 : List Mem := ⟨155, [.agg awv7, .elt 1 awv15 0 0, .elt 3 [[.i 4, .i 2, .i 0]] 0 0], .agg awv9⟩ :: awM100
theorem awK101 : KnownM Tryz.prog G0 awM101 := KnownM.cons awc101 awK100
theorem awc102 : PCall Tryz.prog G0 127 (awv22) (.tup [.sl 4 awv19, .i 0]) := run_c awK101 (by kernel_rfl)
def awM102 : List Mem := ⟨127, awv22, .tup [.sl 4 awv19, .i 0]⟩ :: awM101
theorem awK102 : KnownM Tryz.prog G0 awM102 := KnownM.cons awc102 awK101
theorem awc103 : PCall Tryz.prog G0 128 ([.sl 4 awv19]) (.sl 1 [[.i 2700], [.i 2700]]) := run_c awK102 (by kernel_rfl)
def awM103 : List Mem := ⟨128, [.sl 4 awv19], .sl 1 [[.i 2700], [.i 2700]]⟩ :: awM102
theorem awK103 : KnownM Tryz.prog G0 awM103 := KnownM.cons awc103 awK102
theorem awc104 : PCall Tryz.prog G0 61 (awv22) (.tup [.i 5400, .i 0]) := run_c awK103 (by kernel_rfl)
def awM104 : List Mem := ⟨61, awv22, .tup [.i 5400, .i 0]⟩ :: awM103
theorem awK104 : KnownM Tryz.prog G0 awM104 := KnownM.cons awc104 awK103
theorem awc105 : PCall Tryz.prog G0 130 ([.agg awv9, .agg awv8]) (.i 0) := run_c awK104 (by kernel_rfl)
def awM105 : List Mem := ⟨130, [.agg awv9, .agg awv8], .i 0⟩ :: awM104
theorem awK105 : KnownM Tryz.prog G0 awM105 := KnownM.cons awc105 awK104
theorem awc106 : PCall Tryz.prog G0 65 (awv22) (.tup [.str [111, 110, 101], .i 0]) := run_c awK105 (by kernel_rfl)
def awM106 : List Mem := ⟨65, awv22, .tup [.str [111, 110, 101], .i 0]⟩ :: awM105
theorem awK106 : KnownM Tryz.prog G0 awM106 := KnownM.cons awc106 awK105
theorem awc107 : PCall Tryz.prog G0 135 ([.str [116, 121, 112, 101, 32, 106, 101, 116], .sl 1 [[.i 500]]]) (.str [116, 121, 112, 101, 32, 106, 101, 116, 32, 53, 48, 48, 10]) := run_c awK106 (by kernel_rfl)
def awM107 : List Mem := ⟨135, [.str [116, 121, 112, 101, 32, 106, 101, 116], .sl 1 [[.i 500]]], .str [116, 121, 112, 101, 32, 106, 101, 116, 32, 53, 48, 48, 10]⟩ :: awM106
theorem awK107 : KnownM Tryz.prog G0 awM107 := KnownM.cons awc107 awK106
theorem awc108 : PCall Tryz.prog G0 135 ([.str [115, 104, 97, 114, 101, 115], .sl 1 [[.i 600], [.i 400]]]) (.str [115, 104, 97, 114, 101, 115, 32, 54, 48, 48, 32, 52, 48, 48, 10]) := run_c awK107 (by kernel_rfl)
def awM108 : List Mem := ⟨135, [.str [115, 104, 97, 114, 101, 115], .sl 1 [[.i 600], [.i 400]]], .str [115, 104, 97, 114, 101, 115, 32, 54, 48, 48, 32, 52, 48, 48, 10]⟩ :: awM107
theorem awK108 : KnownM Tryz.prog G0 awM108 := KnownM.cons awc108 awK107
theorem awc109 : PCall Tryz.prog G0 135 ([.str [100, 105, 114, 101, 99, 116], .sl 1 awv3]) (.str [100, 105, 114, 101, 99, 116, 32, 49, 48, 48, 48, 32, 49, 48, 48, 48, 32, 49, 48, 48, 48, 32, 49, 48, 48, 48, 32, 53, 48, 48, 32, 53, 48, 48, 32, 53, 48, 48, 32, 53, 48, 48, 10]) := run_c awK108 (by kernel_rfl)
def awM109 : List Mem := ⟨135, [.str [100, 105, 114, 101, 99, 116], .sl 1 awv3], .str [100, 105, 114, 101, 99, 116, 32, 49, 48, 48, 48, 32, 49, 48, 48, 48, 32, 49, 48, 48, 48, 32, 49, 48, 48, 48, 32, 53, 48, 48, 32, 53, 48, 48, 32, 53, 48, 48, 32, 53, 48, 48, 10]⟩ :: awM108
theorem awK109 : KnownM Tryz.prog G0 awM109 := KnownM.cons awc109 awK108
theorem awc110 : PCall Tryz.prog G0 135 ([.str [115, 113, 117, 97, 114, 101, 115], .sl 1 [[.i 0], [.i 100]]]) (.str [115, 113, 117, 97, 114, 101, 115, 32, 48, 32, 49, 48, 48, 10]) := run_c awK109 (by kernel_rfl)
def awM110 : List Mem := ⟨135, [.str [115, 113, 117, 97, 114, 101, 115], .sl 1 [[.i 0], [.i 100]]], .str [115, 113, 117, 97, 114, 101, 115, 32, 48, 32, 49, 48, 48, 10]⟩ :: awM109
theorem awK110 : KnownM Tryz.prog G0 awM110 := KnownM.cons awc110 awK109
theorem awc111 : PCall Tryz.prog G0 135 ([.str [112, 111, 119, 101, 114], .sl 1 [[.i 10], [.i 1000], [.i 400]]]) (.str [112, 111, 119, 101, 114, 32, 49, 48, 32, 49, 48, 48, 48, 32, 52, 48, 48, 10]) := run_c awK110 (by kernel_rfl)
def awM111 : List Mem := ⟨135, [.str [112, 111, 119, 101, 114], .sl 1 [[.i 10], [.i 1000], [.i 400]]], .str [112, 111, 119, 101, 114, 32, 49, 48, 32, 49, 48, 48, 48, 32, 52, 48, 48, 10]⟩ :: awM110
theorem awK111 : KnownM Tryz.prog G0 awM111 := KnownM.cons awc111 awK110
theorem awc112 : PCall Tryz.prog G0 135 ([.str [112, 111, 119, 101, 114], .sl 1 [[.i 20], [.i 2000], [.i 600]]]) (.str [112, 111, 119, 101, 114, 32, 50, 48, 32, 50, 48, 48, 48, 32, 54, 48, 48, 10]) := run_c awK111 (by kernel_rfl)
def awM112 : List Mem := ⟨135, [.str [112, 111, 119, 101, 114], .sl 1 [[.i 20], [.i 2000], [.i 600]]], .str [112, 111, 119, 101, 114, 32, 50, 48, 32, 50, 48, 48, 48, 32, 54, 48, 48, 10]⟩ :: awM111
theorem awK112 : KnownM Tryz.prog G0 awM112 := KnownM.cons awc112 awK111
theorem awc113 : PCall Tryz.prog G0 77 (awv13) (.tup [.str [116, 121, 112, 101, 32, 106, 101, 116, 32, 53, 48, 48, 10, 115, 104, 97, 114, 101, 115, 32, 54, 48, 48, 32, 52, 48, 48, 10, 100, 105, 114, 101, 99, 116, 32, 49, 48, 48, 48, 32, 49, 48, 48, 48, 32, 49, 48, 48, 48, 32, 49, 48, 48, 48, 32, 53, 48, 48, 32, 53, 48, 48, 32, 53, 48, 48, 32, 53, 48, 48, 10, 115, 113, 117, 97, 114, 101, 115, 32, 48, 32, 49, 48, 48, 10, 112, 111, 119, 101, 114, 32, 49, 48, 32, 49, 48, 48, 48, 32, 52, 48, 48, 10, 112, 111, 119, 101, 114, 32, 50, 48, 32, 50, 48, 48, 48, 32, 54, 48, 48, 10], .i 0]) := run_c awK112 (by kernel_rfl)
def awM113 : List Mem := ⟨77, awv13, .tup [.str [116, 121, 112, 101, 32, 106, 101, 116, 32, 53, 48, 48, 10, 115, 104, 97, 114, 101, 115, 32, 54, 48, 48, 32, 52, 48, 48, 10, 100, 105, 114, 101, 99, 116, 32, 49, 48, 48, 48, 32, 49, 48, 48, 48, 32, 49, 48, 48, 48, 32, 49, 48, 48, 48, 32, 53, 48, 48, 32, 53, 48, 48, 32, 53, 48, 48, 32, 53, 48, 48, 10, 115, 113, 117, 97, 114, 101, 115, 32, 48, 32, 49, 48, 48, 10, 112, 111, 119, 101, 114, 32, 49, 48, 32, 49, 48, 48, 48, 32, 52, 48, 48, 10, 112, 111, 119, 101, 114, 32, 50, 48, 32, 50, 48, 48, 48, 32, 54, 48, 48, 10], .i 0]⟩ :: awM112
theorem awK113 : KnownM Tryz.prog G0 awM113 := KnownM.cons awc113 awK112
theorem awc114 : PCall Tryz.prog G0 56 ([.sl 5 awv0, .i 9]) (.tup [.agg [.i 0, .i 0, .i 0, .i 0, .i 0, .i 0], .i 7]) := run_c awK113 (by kernel_rfl)
def awM114 : List Mem := ⟨56, [.sl 5 awv0, .i 9], .tup [.agg [.i 0, .i 0, .i 0, .i 0, .i 0, .i 0], .i 7]⟩ :: awM113
theorem awK114 : KnownM Tryz.prog G0 awM114 := KnownM.cons awc114 awK113
theorem awc115 : PCall Tryz.prog G0 13 ([]) (.bool true) := run_c awK114 (by kernel_rfl)
end Go.Proofs.YtjhjmncjidbieaaGreatDoor
namespace Go.Proofs.YtjhjmncjidbieaaGreatDoor
open Go Go.Av Go.RowKit Go.ChangeShapes Go.WideShapes
theorem hA : PCall Tryz.prog G0 13 [] (.bool true) := awc115
theorem laidOut : laidOutB Tryz.prog = true := by kernel_rfl
theorem own : ownKnob Tryz.prog.godebug = none := by kernel_rfl
def laid5 : List (String × DataW Unit) := Rows.sourcePathsRow.laid
theorem door_met (os : Os) (args : Array Value) : laidMetH Tryz.prog laid5 ((World.doorLaid Tryz.prog 400 os).forCall (fun _ _ => 0) ⟨#[], args, []⟩).memory :=
  laidMetH_of_parts3 (fuel := 8) (laidMet_of_run' 8 (by kernel_rfl) (by kernel_rfl)) (by kernel_rfl) (by kernel_rfl)
theorem globs {W : World} (h : laidMetH Tryz.prog laid5 W) : ∀ g cells, lk g G0 = some cells → GlobOK NoX W g cells := by
  rw [MakeChecks.laidMetH_plain _ _ _ (by kernel_rfl)] at h
  obtain ⟨ps, hl, _⟩ := h
  have m0 := laid_glob (T := T0) tok (n := 8) (name := "flyover/flyoverlaw02.turned") (d := Rows.laid_flyover_flyoverlaw02_turned) (g := 0) (t := 165) (cells := nthR (G0.map (·.2)) 0) (by kernel_rfl) (by kernel_rfl) (by kernel_rfl) (by kernel_rfl) (by kernel_rfl) (by simp [nthR, G0]) (laid := laid5) (ps := ps) (by simp [laid5, Rows.sourcePathsRow]) hl
  have m1 := laid_glob (T := T0) tok (n := 8) (name := "flyover/source.words") (d := Rows.laid_flyover_source_words) (g := 1) (t := 219) (cells := nthR (G0.map (·.2)) 1) (by kernel_rfl) (by kernel_rfl) (by kernel_rfl) (by kernel_rfl) (by kernel_rfl) (by simp [nthR, G0]) (laid := laid5) (ps := ps) (by simp [laid5, Rows.sourcePathsRow]) hl
  have m4 := laid_glob (T := T0) tok (n := 8) (name := "internal/strconv.uint64pow10") (d := Rows.laid_internal_strconv_uint64pow10) (g := 4) (t := 285) (cells := nthR (G0.map (·.2)) 2) (by kernel_rfl) (by kernel_rfl) (by kernel_rfl) (by kernel_rfl) (by kernel_rfl) (by simp [nthR, G0]) (laid := laid5) (ps := ps) (by simp [laid5, Rows.sourcePathsRow]) hl
  intro g cells hg
  obtain ⟨u, hu, e1⟩ := lk_mem hg
  subst e1
  simp only [G0, List.mem_cons, List.not_mem_nil, or_false, Prod.mk.injEq] at hu
  rcases hu with ⟨rfl, rfl⟩ | ⟨rfl, rfl⟩ | ⟨rfl, rfl⟩
  · exact m0
  · exact m1
  · exact m4
theorem wf64 {x : Int} (h : (Lit.int .i64 x).wf = true) : In64 x := by
  simp only [Lit.wf, Bool.and_eq_true, decide_eq_true_eq] at h
  exact h
end Go.Proofs.YtjhjmncjidbieaaGreatDoor
namespace Go.Proofs.YtjhjmncjidbieaaGreatDoor
open Go Go.Av Go.RowKit Go.ChangeShapes Go.WideShapes
theorem int_of {n : Nat} {r : List AV} (hn : shapeT T0 n 3 = [.int .i64]) (hp : plainT T0 n 3 = true) (h : ASh T0 n 3 r) : ∃ x : Int, r = encI x ∧ In64 x := by
  have := ash_shape n 3 r hp h
  rw [hn] at this
  obtain ⟨_, _, rfl, ⟨x, rfl, hx⟩, rfl⟩ := this
  exact ⟨x, rfl, wf64 hx⟩
theorem sg_of {n m : Nat} {r : List AV} (hn : shapeT T0 n 117 = [.int .i64, .sl m 3 1]) (hp : plainT T0 n 117 = true) (hm : shapeT T0 m 3 = [.int .i64]) (hq : plainT T0 m 3 = true) (h : ASh T0 n 117 r) : ∃ s : Sg, r = encSg s ∧ True := by
  have := ash_shape n 117 r hp h
  rw [hn] at this
  obtain ⟨_, _, rfl, ⟨x, rfl, _⟩, _, _, rfl, ⟨rows, rfl, _, hr⟩, rfl⟩ := this
  obtain ⟨e, rfl, _⟩ := rows_enc (enc := encI) (Q := In64) (fun r hm' => int_of hm hq (hr r hm'))
  exact ⟨⟨x, e⟩, rfl, trivial⟩
theorem ty_arg {a : AV} (h : ASh1 T0 8 47 a) : ∃ t : Ty, a = .agg (encTy t) ∧ t.st.length ≤ maxLen := by
  obtain ⟨l, rfl, h2⟩ := ash1_agg (cs := [.str, .sl 6 3 1, .int .i64, .int .i64, .int .i64, .int .i64, .int .i64, .int .i64, .int .i64, .int .i64, .int .i64, .sl 6 3 1, .sl 6 117 2])
    (ti := ⟨(.struct [(0, 9, 1), (1, 43, 1), (2, 44, 8), (10, 3, 1), (11, 43, 1), (12, 45, 1)]), 13, 160, true, [.str [], .ex (.slice none 0 0), .int .i64 0, .int .i64 0, .int .i64 0, .int .i64 0, .int .i64 0, .int .i64 0, .int .i64 0, .int .i64 0, .int .i64 0, .ex (.slice none 0 0), .ex (.slice none 0 0)], true⟩)
    (by kernel_rfl) rfl (by kernel_rfl) (by kernel_rfl) h
  obtain ⟨_, _, rfl, ⟨nm, rfl, _⟩, _, _, rfl, ⟨rs, rfl, _, hrs⟩, _, _, rfl, ⟨d0, rfl, _⟩, _, _, rfl, ⟨d1, rfl, _⟩, _, _, rfl, ⟨d2, rfl, _⟩, _, _, rfl, ⟨d3, rfl, _⟩, _, _, rfl, ⟨d4, rfl, _⟩, _, _, rfl, ⟨d5, rfl, _⟩, _, _, rfl, ⟨d6, rfl, _⟩, _, _, rfl, ⟨d7, rfl, _⟩, _, _, rfl, ⟨sd, rfl, _⟩, _, _, rfl, ⟨rq, rfl, _, hrq⟩, _, _, rfl, ⟨rt, rfl, hlt, hrt⟩, rfl⟩ := h2
  obtain ⟨sh, rfl, _⟩ := rows_enc (enc := encI) (Q := In64) (fun r hm => int_of (by kernel_rfl) (by kernel_rfl) (hrs r hm))
  obtain ⟨sq, rfl, _⟩ := rows_enc (enc := encI) (Q := In64) (fun r hm => int_of (by kernel_rfl) (by kernel_rfl) (hrq r hm))
  obtain ⟨st, rfl, _⟩ := rows_enc (enc := encSg) (Q := fun _ => True) (fun r hm => sg_of (m := 4) (by kernel_rfl) (by kernel_rfl) (by kernel_rfl) (by kernel_rfl) (hrt r hm))
  exact ⟨⟨nm, sh, d0, d1, d2, d3, d4, d5, d6, d7, sd, sq, st⟩, rfl, by simpa using hlt⟩
end Go.Proofs.YtjhjmncjidbieaaGreatDoor
namespace Go.Proofs.YtjhjmncjidbieaaGreatDoor
open Go Go.Av Go.RowKit Go.ChangeShapes Go.WideShapes
theorem fx_of {n : Nat} {r : List AV} (hn : shapeT T0 n 110 = [.int .i64, .int .i64, .int .i64, .int .i64, .int .i64]) (hp : plainT T0 n 110 = true) (h : ASh T0 n 110 r) : ∃ x : Fx, r = encFx x ∧ True := by
  have := ash_shape n 110 r hp h
  rw [hn] at this
  obtain ⟨_, _, rfl, ⟨a, rfl, _⟩, _, _, rfl, ⟨b, rfl, _⟩, _, _, rfl, ⟨c, rfl, _⟩, _, _, rfl, ⟨d, rfl, _⟩, _, _, rfl, ⟨e, rfl, _⟩, rfl⟩ := this
  exact ⟨⟨a, b, c, d, e⟩, rfl, trivial⟩
theorem track_arg {a : AV} (h : ASh1 T0 8 36 a) : ∃ l : List Fx, a = .sl 5 (l.map encFx) := by
  obtain ⟨rows, rfl, _, hr⟩ := ash1_one (c := .sl 7 110 5) (ti := ⟨(.slice 110 5 40), 1, 24, false, [.ex (.slice none 0 0)], false⟩) (by kernel_rfl) rfl (by kernel_rfl) (by kernel_rfl) h
  obtain ⟨l, rfl, _⟩ := rows_enc (enc := encFx) (Q := fun _ => True) (fun r hm => fx_of (by kernel_rfl) (by kernel_rfl) (hr r hm))
  exact ⟨l, rfl⟩
theorem lis_arg {a : AV} (h : ASh1 T0 8 53 a) : ∃ p q x y z : Int, a = .agg [.i p, .i q, .i x, .i y, .i z] := by
  obtain ⟨l, rfl, h2⟩ := ash1_agg (cs := [.int .i64, .int .i64, .int .i64, .int .i64, .int .i64]) (ti := ⟨(.struct [(0, 49, 2), (2, 51, 3)]), 5, 40, true, [.int .i64 0, .int .i64 0, .int .i64 0, .int .i64 0, .int .i64 0], true⟩) (by kernel_rfl) rfl (by kernel_rfl) (by kernel_rfl) h
  obtain ⟨_, _, rfl, ⟨p, rfl, _⟩, _, _, rfl, ⟨q, rfl, _⟩, _, _, rfl, ⟨x, rfl, _⟩, _, _, rfl, ⟨y, rfl, _⟩, _, _, rfl, ⟨z, rfl, _⟩, rfl⟩ := h2
  exact ⟨p, q, x, y, z, rfl⟩
end Go.Proofs.YtjhjmncjidbieaaGreatDoor
