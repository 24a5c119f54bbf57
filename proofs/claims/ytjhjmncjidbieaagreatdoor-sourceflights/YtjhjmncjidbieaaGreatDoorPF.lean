/-
  What chapter 2's exposures of flights return: parts, total, loudest. No condition but the theorems' own. SourceFlights returns true. No condition but the theorems' own. What loops over functions are handed in chapter 2, on concrete values. No condition but the theorem's own. Contracts of the library at this program, laid by the kit from its shelf: each is one application of a theorem of the library. No condition but what each theorem names. The library's strconv.Itoa and strings.Join, as contracts on abstract values. No condition but the theorems' own. The library's calls on concrete values, and what is known of the program for runs on concrete values. No condition but the theorems' own. Calls on concrete values. No condition: runs in the kernel. The arguments of chapter 2's statements, and the way from a contract of a statement to its row. No condition but the theorems' own. A type, and what is asked of it, as arguments. No condition but the theorems' own. A track, and ticks with a receiver, as arguments. No condition but the theorems' own.
-/
import Derived.Test.YtjhjmncjidbieaaGreatDoorPE
import Derived.Test.YtjhjmncjidbieaaGreatDoorAvD
import Derived.Test.YtjhjmncjidbieaaGreatDoorPD
import Derived.Shelf.Strings.OnBuilder
import Derived.Shelf.LaysM
import Derived.Shelf.Strconv.Itoa3
import Derived.Test.YtjhjmncjidbieaaGreatDoorProg
import Derived.Test.YtjhjmncjidbieaaGreatDoorPA
import Derived.Test.YtjhjmncjidbieaaGreatDoorPB
import Derived.Test.YtjhjmncjidbieaaGreatDoorCards
import Derived.Test.YtjhjmncjidbieaaGreatDoorTie
import Derived.LaidMore
import Derived.LaidOnce
import Derived.Stop.Joined
import Derived.SevenTiedAt
-- ENC encFl 3 [AV.str X.n, AV.str X.y, AV.sl 5 (List.map encFx X.tr)]
-- ENC encEx 4 [AV.str X.f.n, AV.str X.f.y, AV.sl 5 (List.map encFx X.f.tr), AV.i X.e]
namespace Go.Proofs.YtjhjmncjidbieaaGreatDoor
open Go Go.Av Go.RowKit
def expo (t : Ty) (l : List Fx) (x y z : Int) : Int := sumH (hrdA t l x y z) (firstT l) (lastT l - firstT l).toNat
def tyF (ts : List Ty) (f : Fl) : Ty := ts.getD (fiN (pT ts f.y) ts.length) default
def expF (ts : List Ty) (x y z : Int) (f : Fl) : Int := expo (tyF ts f) f.tr x y z
structure Ex where
  f : Fl
  e : Int
  deriving Inhabited
def encEx (x : Ex) : List AV := [.str x.f.n, .str x.f.y, .sl 5 (x.f.tr.map encFx), .i x.e]
def mkEx (ts : List Ty) (x y z : Int) (f : Fl) : Ex := ⟨f, expF ts x y z f⟩
structure FlOK (ts : List Ty) (f : Fl) : Prop where
  i : fiN (pT ts f.y) ts.length < ts.length
  t : sTyS (tyF ts f) = 0
  o : TrackOK f.tr
  s : lastT f.tr - firstT f.tr ≤ 1000
def decFl : List AV → Fl
  | .str n :: .str y :: .sl _ rows :: _ => ⟨n, y, decTr rows⟩
  | _ => default
theorem decFl_enc (f : Fl) : decFl (encFl f) = f := by
  show Fl.mk f.n f.y (decTr (f.tr.map encFx)) = f
  rw [decTr_enc]
theorem c100x {t : Ty} {l : List Fx} {x y z : Int} (hT : sTyS t = 0) (hO : TrackOK l) (hsp : lastT l - firstT l ≤ 1000) (hx : -100000 ≤ x ∧ x ≤ 100000) (hy : -100000 ≤ y ∧ y ≤ 100000) (hz : 0 ≤ z ∧ z ≤ 20000) : PCall Tryz.prog G0 100 [.agg (encTy t), .sl 5 (l.map encFx), .agg [.i (firstT l), .i (lastT l)], .agg [.i x, .i y, .i z]] (.i (expo t l x y z)) := by
  have n1 := hO.n1
  have h := c100 t l (firstT l) (lastT l) x y z hT hO hsp (hO.b 0 (by omega)).1 (hO.b (l.length - 1) (by omega)).1 hx hy hz
  rw [show fromA l (firstT l) = firstT l from if_neg (by omega), show toB l (lastT l) = lastT l from if_neg (by omega)] at h
  exact h
theorem c36x {t : Ty} {l : List Fx} {x y z : Int} (hT : sTyS t = 0) (hO : TrackOK l) (hsp : lastT l - firstT l ≤ 1000) (hx : -100000 ≤ x ∧ x ≤ 100000) (hy : -100000 ≤ y ∧ y ≤ 100000) (hz : 0 ≤ z ∧ z ≤ 20000) : PCall Tryz.prog G0 36 [.agg (encTy t), .sl 5 (l.map encFx), .agg [.i 0, .i 100000000], .agg [.i x, .i y, .i z]] (.i (expo t l x y z)) := by
  have n1 := hO.n1
  have b0 : 0 ≤ firstT l ∧ firstT l ≤ 100000000 := (hO.b 0 (by omega)).1
  have b1 : 0 ≤ lastT l ∧ lastT l ≤ 100000000 := (hO.b (l.length - 1) (by omega)).1
  have h := c36 t l 0 100000000 x y z hT hO hsp (by omega) (by omega) hx hy hz
  have e1 : fromA l 0 = firstT l := by
    unfold fromA maxI
    split <;> omega
  have e2 : toB l 100000000 = lastT l := by
    unfold toB minI
    split <;> omega
  rw [e1, e2] at h
  exact h
def sp155 (ts : List Ty) (x y z : Int) : Nat → List AV → Option AV
  | 156, [_, .str s] => some (.i (fiI (pT ts s) ts.length))
  | 102, [.sl _ rows] => some (.agg [.i (firstT (decTr rows)), .i (lastT (decTr rows))])
  | 100, [.agg c, .sl _ rows, _, _] => some (.i (expo (decTy c) (decTr rows) x y z))
  | n, w => spF n w
theorem c155 (ts : List Ty) (f : Fl) (x y z : Int) (hl : ts.length ≤ 1000) (hF : FlOK ts f) (hx : -100000 ≤ x ∧ x ≤ 100000) (hy : -100000 ≤ y ∧ y ≤ 100000) (hz : 0 ≤ z ∧ z ≤ 20000) : PCall Tryz.prog G0 155 [.agg (encFl f), .elt 1 [[.sl 13 (ts.map encTy)]] 0 0, .elt 3 [[.i x, .i y, .i z]] 0 0] (.agg (encEx (mkEx ts x y z f))) := by
  have key :
   (0 : Int) ≤ fiI (pT ts f.y) ts.length ∧ fiI (pT ts f.y) ts.length < (↑(List.map encTy ts).length : Int) ∧ PCall Tryz.prog G0 156 [AV.sl 13 (List.map encTy ts), AV.str f.y] (AV.i (fiI (pT ts f.y) ts.length)) ∧ AV.agg (nthR (List.map
   encTy ts) (fiI (pT ts f.y) ts.length).toNat) = AV.agg (encTy (tyF ts f)) ∧ PCall Tryz.prog G0 102 [AV.sl 5 (List.map encFx f.tr)] (AV.agg [AV.i (firstT (decTr (List.map encFx f.tr))), AV.i (lastT (decTr (List.map encFx f.tr)))]) ∧
   PCall Tryz.prog G0 100 [AV.agg (encTy (tyF ts f)), AV.sl 5 (List.map encFx f.tr), AV.agg [AV.i (firstT (decTr (List.map encFx f.tr))), AV.i (lastT (decTr (List.map encFx f.tr)))], AV.agg [AV.i x, AV.i y, AV.i z]] (AV.i (expo (decTy
   (encTy (tyF ts f))) (decTr (List.map encFx f.tr)) x y z)) ∧ AV.agg [AV.str f.n, AV.str f.y, AV.sl 5 (List.map encFx f.tr), AV.i (expo (decTy (encTy (tyF ts f))) (decTr (List.map encFx f.tr)) x y z)] = AV.agg [AV.str (mkEx ts x y z
   f).f.n, AV.str (mkEx ts x y z f).f.y, AV.sl 5 (List.map encFx (mkEx ts x y z f).f.tr), AV.i (expF ts x y z f)] := by
    simp only [decTy_enc, decTr_enc]
    have hI : fiI (pT ts f.y) ts.length = (fiN (pT ts f.y) ts.length : Nat) := if_neg (by have := hF.i; omega)
    have h156 := c156 ts f.y hl
    rw [hI] at h156 ⊢
    have h1 := hF.i
    have n1 := hF.o.n1
    have n2 := hF.o.n2
    exact ⟨by omega, by rw [List.length_map]; omega, h156, congrArg AV.agg (row_at encTy hF.i), c102 f.tr (by omega) (by omega), c100x hF.t hF.o hF.s hx hy hz, rfl⟩
  exact c_of Tryz.f155 (fzB (mkB (sp155 ts x y z) 155 [(1, 7, fun _ => some (.agg (encTy (tyF ts f))))] noLa)) (by kernel_rfl) (by kernel_rfl) (by kernel_rfl) (by kernel_rfl) key (by kernel_rfl)
def sp154 (ts : List Ty) (x y z : Int) : Nat → List AV → Option AV
  | 155, [.agg c, _, _] => some (.agg (encEx (mkEx ts x y z (decFl c))))
  | n, w => spF n w
def fn155 (ts : List Ty) (x y z : Int) : AV := .fn (.func 155) [] [.elt 1 [[.sl 13 (ts.map encTy)]] 0 0, .elt 3 [[.i x, .i y, .i z]] 0 0]
def la154 (ts : List Ty) (fs : List Fl) (x y z : Int) : LA := {
  pre := [.own 5 210 4, .reno 5 1, .keep [1, 5, 8, 9, 10] [1], .bound 2], post := [.reno 5 1, .keep [1, 5, 8, 9, 10] [1], .bound 2]
  Gh := Nat
  st := fun i => ⟨[(1, fn155 ts x y z), (5, .own 1 (((fs.take i).map (mkEx ts x y z)).map encEx).length), (8, .sl 3 (fs.map encFl)), (9, .i (fs.map encFl).length), (10, .i i)], [(1, .buf 210 4 (((fs.take i).map (mkEx ts x y z)).map encEx))], 2⟩
  ok := fun i => i ≤ (fs.map encFl).length
  ms := fun i => (fs.map encFl).length - i }
theorem c154 (ts : List Ty) (fs : List Fl) (x y z : Int) (hl : ts.length ≤ 1000) (hm : fs.length ≤ 1000) (hF : ∀ f, f ∈ fs → FlOK ts f) (hx : -100000 ≤ x ∧ x ≤ 100000) (hy : -100000 ≤ y ∧ y ≤ 100000) (hz : 0 ≤ z ∧ z ≤ 20000) : PCall Tryz.prog G0 154 [.sl 3 (fs.map encFl), fn155 ts x y z] (.fresh 210 4 ((fs.map (mkEx ts x y z)).map encEx)) := by
  have key :
   (∃ (g : Nat), g ≤ (List.map encFl fs).length ∧ AS.mk [(1, AV.fn (Fn.func 155) [] [AV.elt 1 [[AV.sl 13 (List.map encTy ts)]] 0 0, AV.elt 3 [[AV.i x, AV.i y, AV.i z]] 0 0]), (5, AV.own 1 0), (8, AV.sl 3 (List.map encFl fs)), (9, AV.i
   (↑(List.map encFl fs).length : Int)), (10, AV.i 0)] [(1, ABlk.buf 210 4 [])] 2 = AS.mk [(1, AV.fn (Fn.func 155) [] [AV.elt 1 [[AV.sl 13 (List.map encTy ts)]] 0 0, AV.elt 3 [[AV.i x, AV.i y, AV.i z]] 0 0]), (5, AV.own 1 (List.map
   encEx (List.map (mkEx ts x y z) (List.take g fs))).length), (8, AV.sl 3 (List.map encFl fs)), (9, AV.i (↑(List.map encFl fs).length : Int)), (10, AV.i (↑g : Int))] [(1, ABlk.buf 210 4 (List.map encEx (List.map (mkEx ts x y z)
   (List.take g fs))))] 2) ∧ ∀ (g : Nat), g ≤ (List.map encFl fs).length → (decide ((↑g : Int) < (↑(List.map encFl fs).length : Int)) = true → (0 : Int) ≤ (↑g : Int) ∧ (↑g : Int) < (↑(List.map encFl fs).length : Int) ∧ AV.agg (nthR
   (List.map encFl fs) (↑g : Int).toNat) = AV.agg (encFl (fs.getD (↑g : Int).toNat default)) ∧ (List.map encEx (List.map (mkEx ts x y z) (List.take g fs))).length + 1 ≤ 9223372036854775807 ∧ ((List.map encEx (List.map (mkEx ts x y z)
   (List.take g fs))).length + 1) * 64 ≤ 140737488355328 ∧ PCall Tryz.prog G0 155 [AV.agg (encFl (fs.getD (↑g : Int).toNat default)), AV.elt 1 [[AV.sl 13 (List.map encTy ts)]] 0 0, AV.elt 3 [[AV.i x, AV.i y, AV.i z]] 0 0] (AV.agg
   [AV.str (fs.getD (↑g : Int).toNat default).n, AV.str (fs.getD (↑g : Int).toNat default).y, AV.sl 5 (List.map encFx (decTr (List.map encFx (fs.getD (↑g : Int).toNat default).tr))), AV.i (expF ts x y z (decFl (encFl (fs.getD (↑g :
   Int).toNat default))))]) ∧ In64 ((↑g : Int) + 1) ∧ ∃ (g' : Nat), g' ≤ (List.map encFl fs).length ∧ (List.map encFl fs).length - g' < (List.map encFl fs).length - g ∧ AS.mk [(1, AV.fn (Fn.func 155) [] [AV.elt 1 [[AV.sl 13 (List.map
   encTy ts)]] 0 0, AV.elt 3 [[AV.i x, AV.i y, AV.i z]] 0 0]), (5, AV.own 1 ((List.map encEx (List.map (mkEx ts x y z) (List.take g fs))).length + 1)), (8, AV.sl 3 (List.map encFl fs)), (9, AV.i (↑(List.map encFl fs).length : Int)),
   (10, AV.i ((↑g : Int) + 1))] [(1, ABlk.buf 210 4 (List.map encEx (List.map (mkEx ts x y z) (List.take g fs)) ++ [[AV.str (fs.getD (↑g : Int).toNat default).n, AV.str (fs.getD (↑g : Int).toNat default).y, AV.sl 5 (List.map encFx
   (decTr (List.map encFx (fs.getD (↑g : Int).toNat default).tr))), AV.i (expF ts x y z (decFl (encFl (fs.getD (↑g : Int).toNat default))))]]))] 2 = AS.mk [(1, AV.fn (Fn.func 155) [] [AV.elt 1 [[AV.sl 13 (List.map encTy ts)]] 0 0,
   AV.elt 3 [[AV.i x, AV.i y, AV.i z]] 0 0]), (5, AV.own 1 (List.map encEx (List.map (mkEx ts x y z) (List.take g' fs))).length), (8, AV.sl 3 (List.map encFl fs)), (9, AV.i (↑(List.map encFl fs).length : Int)), (10, AV.i (↑g' : Int))]
   [(1, ABlk.buf 210 4 (List.map encEx (List.map (mkEx ts x y z) (List.take g' fs))))] 2) ∧ (decide ((↑g : Int) < (↑(List.map encFl fs).length : Int)) = false → AV.fresh 210 4 (List.map encEx (List.map (mkEx ts x y z) (List.take g
   fs))) = AV.fresh 210 4 (List.map encEx (List.map (mkEx ts x y z) fs))) := by
    simp only [decTr_enc, decFl_enc]
    have hlm : (List.map encFl fs).length = fs.length := List.length_map _
    refine ⟨⟨0, by omega, rfl⟩, fun g hg => ⟨fun hd => ?_, fun hd => ?_⟩⟩
    · rw [hlm] at hd
      have hlt := lt_of_dec hd
      have hmem := getD_mem hlt
      have h2 := take_succ_map encEx (mkEx ts x y z) hlt
      have h7 : (List.map encEx (List.map (mkEx ts x y z) (List.take g fs))).length = g := by rw [List.length_map, List.length_map, List.length_take]; omega
      have h8 : (List.map encEx (List.map (mkEx ts x y z) (List.take (g + 1) fs))).length = g + 1 := by rw [List.length_map, List.length_map, List.length_take]; omega
      refine ⟨by omega, by omega, congrArg AV.agg (row_at encFl hlt), by omega, by omega, c155 ts (fs.getD g default) x y z hl (hF _ hmem) hx hy hz, by unfold In64; omega, g + 1, by omega, by omega, ?_⟩
      rw [h8, ← h2, h7]
      rfl
    · rw [ge_of_dec hd hg, hlm, List.take_length]
  exact c_of Tryz.f154 (fzB (mkB (sp154 ts x y z) 154 [(4, 1, rdL 3 encFl fs 3 true)] (fun i => if i.beq 0 then some (la154 ts fs x y z) else none))) (by kernel_rfl) (by kernel_rfl) (by kernel_rfl) (by kernel_rfl) key (by kernel_rfl)
theorem c158 (a : Ex)  : PCall Tryz.prog G0 158 [.agg (encEx a)] (.i a.e) := by
  have key :
   AV.i a.e = AV.i a.e := by
    rfl
  exact c_of Tryz.f158 (mkB spF 158 [] noLa) (by kernel_rfl) (by kernel_rfl) (by kernel_rfl) (by kernel_rfl) key (by kernel_rfl)
def sp157 : Nat → List AV → Option AV
  | 158, [.agg c] => some (.i (cJ [c] 0 3))
  | n, w => spF n w
def la157 (l : List Ex) : LA := {
  pre := [.own 5 3 1, .reno 5 1, .keep [1, 5, 8, 9, 10] [1], .bound 2], post := [.reno 5 1, .keep [1, 5, 8, 9, 10] [1], .bound 2]
  Gh := Nat
  st := fun i => ⟨[(1, .fn (.func 158) [] []), (5, .own 1 (((l.take i).map Ex.e).map encI).length), (8, .sl 4 (l.map encEx)), (9, .i (l.map encEx).length), (10, .i i)], [(1, .buf 3 1 (((l.take i).map Ex.e).map encI))], 2⟩
  ok := fun i => i ≤ (l.map encEx).length
  ms := fun i => (l.map encEx).length - i }
theorem c157 (l : List Ex) (hl : l.length ≤ 1000) : PCall Tryz.prog G0 157 [.sl 4 (l.map encEx), .fn (.func 158) [] []] (.fresh 3 1 ((l.map Ex.e).map encI)) := by
  have key :
   (∃ (g : Nat), g ≤ (List.map encEx l).length ∧ AS.mk [(1, AV.fn (Fn.func 158) [] []), (5, AV.own 1 0), (8, AV.sl 4 (List.map encEx l)), (9, AV.i (↑(List.map encEx l).length : Int)), (10, AV.i 0)] [(1, ABlk.buf 3 1 [])] 2 = AS.mk
   [(1, AV.fn (Fn.func 158) [] []), (5, AV.own 1 (List.map encI (List.map Ex.e (List.take g l))).length), (8, AV.sl 4 (List.map encEx l)), (9, AV.i (↑(List.map encEx l).length : Int)), (10, AV.i (↑g : Int))] [(1, ABlk.buf 3 1
   (List.map encI (List.map Ex.e (List.take g l))))] 2) ∧ ∀ (g : Nat), g ≤ (List.map encEx l).length → (decide ((↑g : Int) < (↑(List.map encEx l).length : Int)) = true → (0 : Int) ≤ (↑g : Int) ∧ (↑g : Int) < (↑(List.map encEx
   l).length : Int) ∧ AV.agg (nthR (List.map encEx l) (↑g : Int).toNat) = AV.agg (encEx (l.getD (↑g : Int).toNat default)) ∧ (List.map encI (List.map Ex.e (List.take g l))).length + 1 ≤ 9223372036854775807 ∧ ((List.map encI (List.map
   Ex.e (List.take g l))).length + 1) * 8 ≤ 140737488355328 ∧ PCall Tryz.prog G0 158 [AV.agg (encEx (l.getD (↑g : Int).toNat default))] (AV.i (cJ [(encEx (l.getD (↑g : Int).toNat default))] 0 3)) ∧ In64 ((↑g : Int) + 1) ∧ ∃ (g' :
   Nat), g' ≤ (List.map encEx l).length ∧ (List.map encEx l).length - g' < (List.map encEx l).length - g ∧ AS.mk [(1, AV.fn (Fn.func 158) [] []), (5, AV.own 1 ((List.map encI (List.map Ex.e (List.take g l))).length + 1)), (8, AV.sl 4
   (List.map encEx l)), (9, AV.i (↑(List.map encEx l).length : Int)), (10, AV.i ((↑g : Int) + 1))] [(1, ABlk.buf 3 1 (List.map encI (List.map Ex.e (List.take g l)) ++ [[AV.i (cJ [(encEx (l.getD (↑g : Int).toNat default))] 0 3)]]))] 2
   = AS.mk [(1, AV.fn (Fn.func 158) [] []), (5, AV.own 1 (List.map encI (List.map Ex.e (List.take g' l))).length), (8, AV.sl 4 (List.map encEx l)), (9, AV.i (↑(List.map encEx l).length : Int)), (10, AV.i (↑g' : Int))] [(1, ABlk.buf 3
   1 (List.map encI (List.map Ex.e (List.take g' l))))] 2) ∧ (decide ((↑g : Int) < (↑(List.map encEx l).length : Int)) = false → AV.fresh 3 1 (List.map encI (List.map Ex.e (List.take g l))) = AV.fresh 3 1 (List.map encI (List.map Ex.e
   l))) := by
    have hlm : (List.map encEx l).length = l.length := List.length_map _
    refine ⟨⟨0, by omega, rfl⟩, fun g hg => ⟨fun hd => ?_, fun hd => ?_⟩⟩
    · rw [hlm] at hd
      have hlt := lt_of_dec hd
      have h2 := take_succ_map encI Ex.e hlt
      have h7 : (List.map encI (List.map Ex.e (List.take g l))).length = g := by rw [List.length_map, List.length_map, List.length_take]; omega
      have h8 : (List.map encI (List.map Ex.e (List.take (g + 1) l))).length = g + 1 := by rw [List.length_map, List.length_map, List.length_take]; omega
      refine ⟨by omega, by omega, congrArg AV.agg (row_at encEx hlt), by omega, by omega, c158 (l.getD g default), by unfold In64; omega, g + 1, by omega, by omega, ?_⟩
      rw [h8, ← h2, h7]
      rfl
    · rw [ge_of_dec hd hg, hlm, List.take_length]
  exact c_of Tryz.f157 (fzB (mkB sp157 157 [(4, 1, rdL 4 encEx l 4 true)] (fun i => if i.beq 0 then some (la157 l) else none))) (by kernel_rfl) (by kernel_rfl) (by kernel_rfl) (by kernel_rfl) key (by kernel_rfl)
def decE (r : List AV) : Int := cJ [r] 0 3
theorem mapE (l : List Ex) : (l.map encEx).map decE = l.map Ex.e := by
  rw [List.map_map]
  exact List.map_congr_left fun _ _ => rfl
theorem map_e (ts : List Ty) (x y z : Int) (fs : List Fl) : (fs.map (mkEx ts x y z)).map Ex.e = fs.map (expF ts x y z) := by
  rw [List.map_map]
  exact List.map_congr_left fun _ _ => rfl
def sp128 : Nat → List AV → Option AV
  | 157, [.sl _ rows, _] => some (.fresh 3 1 ((rows.map decE).map encI))
  | n, w => spF n w
theorem c128 (l : List Ex) (hl : l.length ≤ 1000) : PCall Tryz.prog G0 128 [.sl 4 (l.map encEx)] (.fresh 3 1 (((l.map encEx).map decE).map encI)) := by
  have key :
   PCall Tryz.prog G0 157 [AV.sl 4 (List.map encEx l), AV.fn (Fn.func 158) [] []] (AV.fresh 3 1 (List.map encI (List.map decE (List.map encEx l)))) ∧ AV.fresh 3 1 (List.map encI (List.map decE (List.map encEx l))) = AV.fresh 3 1
   (List.map encI (List.map decE (List.map encEx l))) := by
    rw [mapE]
    exact ⟨c157 l hl, rfl⟩
  exact c_of Tryz.f128 (mkB sp128 128 [] noLa) (by kernel_rfl) (by kernel_rfl) (by kernel_rfl) (by kernel_rfl) key (by kernel_rfl)
def chkP (ts : List Ty) (fs : List Fl) (x y z : Int) : Int := sFirst [chkF ts fs, sPlace x y z]
def rP (ts : List Ty) (fs : List Fl) (x y z : Int) : List Ex := if chkP ts fs x y z != 0 then [] else fs.map (mkEx ts x y z)
theorem fl_ok {ts : List Ty} {fs : List Fl} (h : chkF ts fs = 0) : ∀ f, f ∈ fs → FlOK ts f := fun f hf => by
  obtain ⟨_, _, h3, h4⟩ := chkF_z h
  obtain ⟨i, hi, e⟩ := List.mem_iff_getElem.1 hf
  have e2 : fs.getD i default = f := by rw [List.getD_eq_getElem?_getD, List.getElem?_eq_getElem hi, e]; rfl
  obtain ⟨h5, h6⟩ := h4 i hi
  rw [e2] at h5 h6
  rw [track_eq] at h6
  obtain ⟨h7, h8⟩ := track_ok h6
  exact ⟨h5, h3 _ h5, h7, h8⟩
def sp127 (ts : List Ty) (fs : List Fl) (x y z : Int) : Nat → List AV → Option AV
  | 70, _ => some (.i (chkF ts fs))
  | 154, _ => some (.sl 4 ((fs.map (mkEx ts x y z)).map encEx))
  | n, w => spF n w
theorem c127 (ts : List Ty) (fs : List Fl) (x y z : Int) (hl : ts.length ≤ 1000) (hm : fs.length ≤ 1000) (hS : ∀ t, t ∈ ts → ShortTy t) (hF : ∀ f, f ∈ fs → f.n.length ≤ 1000 ∧ f.y.length ≤ 1000 ∧ f.tr.length ≤ 1000) : PCall Tryz.prog G0 127 [.sl 13 (ts.map encTy), .sl 3 (fs.map encFl), .agg [.i x, .i y, .i z]] (.tup [.sl 4 ((rP ts fs x y z).map encEx), .i (chkP ts fs x y z)]) := by
  have key :
   PCall Tryz.prog G0 70 [AV.sl 13 (List.map encTy ts), AV.sl 3 (List.map encFl fs)] (AV.i (chkF ts fs)) ∧ PCall Tryz.prog G0 104 [AV.agg [AV.i x, AV.i y, AV.i z]] (AV.i (sPlace x y z)) ∧ PCall Tryz.prog G0 87 [AV.sl 1 [[AV.i (chkF ts
   fs)], [AV.i (sPlace x y z)]]] (AV.i (sFirst [hdI [AV.i (chkF ts fs)], hdI [AV.i (sPlace x y z)]])) ∧ ((sFirst [hdI [AV.i (chkF ts fs)], hdI [AV.i (sPlace x y z)]] != 0) = true → AV.tup [AV.sl 4 [], AV.i (sFirst [hdI [AV.i (chkF ts
   fs)], hdI [AV.i (sPlace x y z)]])] = AV.tup [AV.sl 4 (List.map encEx (rP ts fs x y z)), AV.i (chkP ts fs x y z)]) ∧ ((sFirst [hdI [AV.i (chkF ts fs)], hdI [AV.i (sPlace x y z)]] != 0) = false → PCall Tryz.prog G0 154 [AV.sl 3
   (List.map encFl fs), AV.fn (Fn.func 155) [] [AV.elt 1 [[AV.sl 13 (List.map encTy ts)]] 0 0, AV.elt 3 [[AV.i x, AV.i y, AV.i z]] 0 0]] (AV.sl 4 (List.map encEx (List.map (mkEx ts x y z) fs))) ∧ AV.tup [AV.sl 4 (List.map encEx
   (List.map (mkEx ts x y z) fs)), AV.i 0] = AV.tup [AV.sl 4 (List.map encEx (rP ts fs x y z)), AV.i (chkP ts fs x y z)]) := by
    refine ⟨c70 ts fs hl hm hS hF, c104 x y z, c87 [_, _] (by simp), fun h => ?_, fun h => ?_⟩
    · have h : (chkP ts fs x y z != 0) = true := h
      show AV.tup [AV.sl 4 [], AV.i (chkP ts fs x y z)] = _
      rw [rP, if_pos h]
      rfl
    · have h : (chkP ts fs x y z != 0) = false := h
      have hz := bne_f h
      have hz' := hz
      unfold chkP at hz'
      rw [first_zero, first_zero] at hz'
      obtain ⟨a, b, _⟩ := hz'
      have p := place_ok b
      refine ⟨(c154 ts fs x y z hl hm (fl_ok a) p.1 p.2.1 p.2.2).un, ?_⟩
      rw [rP, if_neg (by rw [h]; decide), hz]
  exact c_of Tryz.f127 (gsB (fun i => if i.beq 3 then [.nil 6 4] else []) (fzB (mkB (sp127 ts fs x y z) 127 [] noLa))) (by kernel_rfl) (by kernel_rfl) (by kernel_rfl) (by kernel_rfl) key (by kernel_rfl)
def sp61 (ts : List Ty) (fs : List Fl) (x y z : Int) : Nat → List AV → Option AV
  | 127, _ => some (.tup [.sl 4 ((rP ts fs x y z).map encEx), .i (chkP ts fs x y z)])
  | 128, [.sl _ rows] => some (.sl 1 ((rows.map decE).map encI))
  | 121, [.sl _ rows] => some (.i (sSum (rows.map decI)))
  | 129, [.sl _ rows, _] => some (.agg (nthR rows (rows.length - 1)))
  | n, w => spF n w
def rTot (ts : List Ty) (fs : List Fl) (x y z : Int) : Int := if chkP ts fs x y z != 0 then 0 else sSum (fs.map (expF ts x y z))
def rPar (ts : List Ty) (fs : List Fl) (x y z : Int) : List Int := if chkP ts fs x y z != 0 then [] else fs.map (expF ts x y z)
theorem c61 (ts : List Ty) (fs : List Fl) (x y z : Int) (hl : ts.length ≤ 1000) (hm : fs.length ≤ 1000) (hS : ∀ t, t ∈ ts → ShortTy t) (hF : ∀ f, f ∈ fs → f.n.length ≤ 1000 ∧ f.y.length ≤ 1000 ∧ f.tr.length ≤ 1000) : PCall Tryz.prog G0 61 [.sl 13 (ts.map encTy), .sl 3 (fs.map encFl), .agg [.i x, .i y, .i z]] (.tup [.i (rTot ts fs x y z), .i (chkP ts fs x y z)]) := by
  have key :
   PCall Tryz.prog G0 127 [AV.sl 13 (List.map encTy ts), AV.sl 3 (List.map encFl fs), AV.agg [AV.i x, AV.i y, AV.i z]] (AV.tup [AV.sl 4 (List.map encEx (rP ts fs x y z)), AV.i (chkP ts fs x y z)]) ∧ ((chkP ts fs x y z != 0) = true →
   AV.tup [AV.i 0, AV.i (chkP ts fs x y z)] = AV.tup [AV.i (rTot ts fs x y z), AV.i (chkP ts fs x y z)]) ∧ ((chkP ts fs x y z != 0) = false → PCall Tryz.prog G0 128 [AV.sl 4 (List.map encEx (rP ts fs x y z))] (AV.sl 1 (List.map encI
   (List.map decE (List.map encEx (rP ts fs x y z))))) ∧ PCall Tryz.prog G0 121 [AV.sl 1 (List.map encI (List.map decE (List.map encEx (rP ts fs x y z))))] (AV.i (sSum (List.map decI (List.map encI (List.map decE (List.map encEx (rP
   ts fs x y z))))))) ∧ AV.tup [AV.i (sSum (List.map decI (List.map encI (List.map decE (List.map encEx (rP ts fs x y z)))))), AV.i 0] = AV.tup [AV.i (rTot ts fs x y z), AV.i (chkP ts fs x y z)]) := by
    refine ⟨c127 ts fs x y z hl hm hS hF, fun h => ?_, fun h => ?_⟩
    · rw [rTot, if_pos h]
    · have hz := bne_f h
      have eP : rP ts fs x y z = fs.map (mkEx ts x y z) := if_neg (by rw [h]; decide)
      rw [eP, mapE, map_dec decI_enc, map_e]
      have k := (c128 (fs.map (mkEx ts x y z)) (by rw [List.length_map]; omega)).un
      rw [mapE, map_e] at k
      refine ⟨k, c121 _ (by rw [List.length_map]; omega), ?_⟩
      rw [rTot, if_neg (by rw [h]; decide), hz]
  exact c_of Tryz.f61 (fzB (mkB (sp61 ts fs x y z) 61 [] noLa)) (by kernel_rfl) (by kernel_rfl) (by kernel_rfl) (by kernel_rfl) key (by kernel_rfl)
theorem c64 (ts : List Ty) (fs : List Fl) (x y z : Int) (hl : ts.length ≤ 1000) (hm : fs.length ≤ 1000) (hS : ∀ t, t ∈ ts → ShortTy t) (hF : ∀ f, f ∈ fs → f.n.length ≤ 1000 ∧ f.y.length ≤ 1000 ∧ f.tr.length ≤ 1000) : PCall Tryz.prog G0 64 [.sl 13 (ts.map encTy), .sl 3 (fs.map encFl), .agg [.i x, .i y, .i z]] (.tup [.sl 1 ((rPar ts fs x y z).map encI), .i (chkP ts fs x y z)]) := by
  have key :
   PCall Tryz.prog G0 127 [AV.sl 13 (List.map encTy ts), AV.sl 3 (List.map encFl fs), AV.agg [AV.i x, AV.i y, AV.i z]] (AV.tup [AV.sl 4 (List.map encEx (rP ts fs x y z)), AV.i (chkP ts fs x y z)]) ∧ ((chkP ts fs x y z != 0) = true →
   AV.tup [AV.sl 1 [], AV.i (chkP ts fs x y z)] = AV.tup [AV.sl 1 (List.map encI (rPar ts fs x y z)), AV.i (chkP ts fs x y z)]) ∧ ((chkP ts fs x y z != 0) = false → PCall Tryz.prog G0 128 [AV.sl 4 (List.map encEx (rP ts fs x y z))]
   (AV.sl 1 (List.map encI (List.map decE (List.map encEx (rP ts fs x y z))))) ∧ AV.tup [AV.sl 1 (List.map encI (List.map decE (List.map encEx (rP ts fs x y z)))), AV.i 0] = AV.tup [AV.sl 1 (List.map encI (rPar ts fs x y z)), AV.i
   (chkP ts fs x y z)]) := by
    refine ⟨c127 ts fs x y z hl hm hS hF, fun h => ?_, fun h => ?_⟩
    · rw [rPar, if_pos h]
      rfl
    · have hz := bne_f h
      have eP : rP ts fs x y z = fs.map (mkEx ts x y z) := if_neg (by rw [h]; decide)
      rw [eP, mapE, map_e]
      have k := (c128 (fs.map (mkEx ts x y z)) (by rw [List.length_map]; omega)).un
      rw [mapE, map_e] at k
      refine ⟨k, ?_⟩
      rw [rPar, if_neg (by rw [h]; decide), hz]
  exact c_of Tryz.f64 (gsB (fun i => if i.beq 3 then [.nil 6 1] else []) (fzB (mkB (sp61 ts fs x y z) 64 [] noLa))) (by kernel_rfl) (by kernel_rfl) (by kernel_rfl) (by kernel_rfl) key (by kernel_rfl)
def sCmp (a b : Int) : Int := if decide (a < b) then -1 else if decide (a > b) then 1 else 0
def sp159 : Nat → List AV → Option AV
  | 172, [.int _ _] => some (.bool false)
  | 159, [.int _ a, .int _ b] => some (.i (sCmp a b))
  | 130, [.agg a, .agg b] => some (.i (sCmp (decE a) (decE b)))
  | n, w => spF n w
theorem c172 (a : Int)  : PCall Tryz.prog G0 172 [.i a] (.bool false) := by
  have key :
   AV.bool (a != a) = AV.bool false ∧ AV.bool false = AV.bool false := by
    rw [bne_self_eq_false]
    exact ⟨rfl, rfl⟩
  exact c_of Tryz.f172 (mkB spF 172 [(1, 2, rdF)] noLa) (by kernel_rfl) (by kernel_rfl) (by kernel_rfl) (by kernel_rfl) key (by kernel_rfl)
def cl159 : Operand → Bool
  | .tmp t => t.beq 11 || t.beq 13
  | _ => false
theorem c159 (a b : Int)  : PCall Tryz.prog G0 159 [.i a, .i b] (.i (sCmp a b)) := by
  have key :
   PCall Tryz.prog G0 172 [AV.i a] (AV.bool false) ∧ PCall Tryz.prog G0 172 [AV.i b] (AV.bool false) ∧ (decide (a < b) = true → AV.i (-1) = AV.i (sCmp a b)) ∧ (decide (a < b) = false → (decide (a > b) = true → AV.i 1 = AV.i (sCmp a
   b)) ∧ (decide (a > b) = false → AV.i 0 = AV.i (sCmp a b))) := by
    refine ⟨c172 a, c172 b, fun h => ?_, fun h => ⟨fun h2 => ?_, fun h2 => ?_⟩⟩
    · rw [sCmp, if_pos h]
    · rw [sCmp, if_neg (by rw [h]; decide), if_pos h2]
    · rw [sCmp, if_neg (by rw [h]; decide), if_neg (by rw [h2]; decide)]
  exact c_of Tryz.f159 ({ mkB sp159 159 [] noLa with cl := cl159 }) (by kernel_rfl) (by kernel_rfl) (by kernel_rfl) (by kernel_rfl) key (by kernel_rfl)
theorem c130 (a b : Ex)  : PCall Tryz.prog G0 130 [.agg (encEx a), .agg (encEx b)] (.i (sCmp a.e b.e)) := by
  have key :
   PCall Tryz.prog G0 159 [AV.i a.e, AV.i b.e] (AV.i (sCmp a.e b.e)) ∧ AV.i (sCmp a.e b.e) = AV.i (sCmp a.e b.e) := by
    exact ⟨c159 _ _, rfl⟩
  exact c_of Tryz.f130 (fzB (mkB sp159 130 [] noLa)) (by kernel_rfl) (by kernel_rfl) (by kernel_rfl) (by kernel_rfl) key (by kernel_rfl)
def bsI (e : Nat → Int) : Nat → Nat
  | 0 => 0
  | i + 1 => if decide (e (i + 1) > e (bsI e i)) then i + 1 else bsI e i
theorem bsI_le (e : Nat → Int) : ∀ i, bsI e i ≤ i
  | 0 => Nat.le_refl _
  | i + 1 => by
    have := bsI_le e i
    simp only [bsI]
    split <;> omega
theorem bsI_congr {e f : Nat → Int} : ∀ {i : Nat}, (∀ k, k ≤ i → e k = f k) → bsI e i = bsI f i
  | 0, _ => rfl
  | i + 1, h => by
    simp only [bsI]
    rw [bsI_congr (i := i) (fun k hk => h k (by omega)), h _ (Nat.le_refl _), h (bsI f i) (by have := bsI_le f i; omega)]
theorem cmp_pos (a b : Int) : decide (sCmp a b > 0) = decide (a > b) := by
  unfold sCmp
  by_cases h : a < b
  · rw [if_pos (decide_eq_true h), decide_eq_false (show ¬ a > b by omega)]
    rfl
  · rw [if_neg (by rw [decide_eq_false h]; decide)]
    by_cases h2 : a > b
    · rw [if_pos (decide_eq_true h2), decide_eq_true h2]
      rfl
    · rw [if_neg (by rw [decide_eq_false h2]; decide), decide_eq_false h2]
      rfl
def la129 (l : List Ex) : LA := {
  pre := [.reno 4 2, .reno 5 1, .keep [0, 1, 4, 5, 6] [1, 2], .bound 3], post := [.keep [0, 1, 4, 5, 6] [1, 2], .bound 3]
  Gh := Nat
  st := fun i => ⟨[(0, .sl 4 (l.map encEx)), (1, .fn (.func 130) [] []), (4, .ptr 2 0), (5, .ptr 1 0), (6, .i ((i : Int) + 1))], [(1, .box (encEx (l.getD (bsI (fun k => (l.getD k default).e) i) default))), (2, .box [.str [], .str [], .ex (.slice none 0 0), .i 0])], 3⟩
  ok := fun i => i + 1 ≤ l.length
  ms := fun i => l.length - i }
theorem c129 (l : List Ex) (h1 : 1 ≤ l.length) (hl : l.length ≤ 1000) : PCall Tryz.prog G0 129 [.sl 4 (l.map encEx), .fn (.func 130) [] []] (.agg (encEx (l.getD (bsI (fun k => (l.getD k default).e) (l.length - 1)) default))) := by
  have key :
   AV.bool (decide ((↑(List.map encEx l).length : Int) < 1)) = AV.bool false ∧ (false = true → False) ∧ (false = false → (0 : Int) ≤ 0 ∧ (0 : Int) < (↑(List.map encEx l).length : Int) ∧ AV.agg (nthR (List.map encEx l) 0) = AV.agg
   (encEx (l.getD (Int.toNat (0 : Int)) default)) ∧ (∃ (g : Nat), g + 1 ≤ l.length ∧ AS.mk [(0, AV.sl 4 (List.map encEx l)), (1, AV.fn (Fn.func 130) [] []), (4, AV.ptr 2 0), (5, AV.ptr 1 0), (6, AV.i 1)] [(1, ABlk.box (encEx (l.getD
   (Int.toNat (0 : Int)) default))), (2, ABlk.box [AV.str [], AV.str [], AV.ex (Value.slice none 0 0), AV.i 0])] 3 = AS.mk [(0, AV.sl 4 (List.map encEx l)), (1, AV.fn (Fn.func 130) [] []), (4, AV.ptr 2 0), (5, AV.ptr 1 0), (6, AV.i
   ((↑g : Int) + 1))] [(1, ABlk.box (encEx (l.getD (bsI (fun (k : Nat) => (l.getD k default).e) g) default))), (2, ABlk.box [AV.str [], AV.str [], AV.ex (Value.slice none 0 0), AV.i 0])] 3) ∧ ∀ (g : Nat), g + 1 ≤ l.length → (decide
   ((↑g : Int) + 1 < (↑(List.map encEx l).length : Int)) = true → (0 : Int) ≤ (↑g : Int) + 1 ∧ (↑g : Int) + 1 < (↑(List.map encEx l).length : Int) ∧ AV.agg (nthR (List.map encEx l) ((↑g : Int) + 1).toNat) = AV.agg (encEx (l.getD ((↑g
   : Int) + 1).toNat default)) ∧ PCall Tryz.prog G0 130 [AV.agg (encEx (l.getD ((↑g : Int) + 1).toNat default)), AV.agg (encEx (l.getD (bsI (fun (k : Nat) => (l.getD k default).e) g) default))] (AV.i (sCmp (decE (encEx (l.getD ((↑g :
   Int) + 1).toNat default))) (decE (encEx (l.getD (bsI (fun (k : Nat) => (l.getD k default).e) g) default))))) ∧ (decide (sCmp (decE (encEx (l.getD ((↑g : Int) + 1).toNat default))) (decE (List.take (TI.mk (TK.struct [(0, 168, 3),
   (3, 3, 1)]) 4 64 true [AV.str [], AV.str [], AV.ex (Value.slice none 0 0), AV.i 0] true).size (List.drop 0 (encEx (l.getD (bsI (fun (k : Nat) => (l.getD k default).e) g) default))))) > 0) = true → (0 : Int) ≤ (↑g : Int) + 1 ∧ (↑g :
   Int) + 1 < (↑(List.map encEx l).length : Int) ∧ AV.agg (nthR (List.map encEx l) ((↑g : Int) + 1).toNat) = AV.agg (encEx (l.getD ((↑g : Int) + 1).toNat default)) ∧ In64 ((↑g : Int) + 1 + 1) ∧ ∃ (g' : Nat), g' + 1 ≤ l.length ∧
   l.length - g' < l.length - g ∧ AS.mk [(0, AV.sl 4 (List.map encEx l)), (1, AV.fn (Fn.func 130) [] []), (4, AV.ptr 2 0), (5, AV.ptr 1 0), (6, AV.i ((↑g : Int) + 1 + 1))] [(1, ABlk.box (encEx (l.getD ((↑g : Int) + 1).toNat
   default))), (2, ABlk.box [AV.str [], AV.str [], AV.ex (Value.slice none 0 0), AV.i 0])] 3 = AS.mk [(0, AV.sl 4 (List.map encEx l)), (1, AV.fn (Fn.func 130) [] []), (4, AV.ptr 2 0), (5, AV.ptr 1 0), (6, AV.i ((↑g' : Int) + 1))] [(1,
   ABlk.box (encEx (l.getD (bsI (fun (k : Nat) => (l.getD k default).e) g') default))), (2, ABlk.box [AV.str [], AV.str [], AV.ex (Value.slice none 0 0), AV.i 0])] 3) ∧ (decide (sCmp (decE (encEx (l.getD ((↑g : Int) + 1).toNat
   default))) (decE (List.take (TI.mk (TK.struct [(0, 168, 3), (3, 3, 1)]) 4 64 true [AV.str [], AV.str [], AV.ex (Value.slice none 0 0), AV.i 0] true).size (List.drop 0 (encEx (l.getD (bsI (fun (k : Nat) => (l.getD k default).e) g)
   default))))) > 0) = false → In64 ((↑g : Int) + 1 + 1) ∧ ∃ (g' : Nat), g' + 1 ≤ l.length ∧ l.length - g' < l.length - g ∧ AS.mk [(0, AV.sl 4 (List.map encEx l)), (1, AV.fn (Fn.func 130) [] []), (4, AV.ptr 2 0), (5, AV.ptr 1 0), (6,
   AV.i ((↑g : Int) + 1 + 1))] [(1, ABlk.box (encEx (l.getD (bsI (fun (k : Nat) => (l.getD k default).e) g) default))), (2, ABlk.box [AV.str [], AV.str [], AV.ex (Value.slice none 0 0), AV.i 0])] 3 = AS.mk [(0, AV.sl 4 (List.map encEx
   l)), (1, AV.fn (Fn.func 130) [] []), (4, AV.ptr 2 0), (5, AV.ptr 1 0), (6, AV.i ((↑g' : Int) + 1))] [(1, ABlk.box (encEx (l.getD (bsI (fun (k : Nat) => (l.getD k default).e) g') default))), (2, ABlk.box [AV.str [], AV.str [], AV.ex
   (Value.slice none 0 0), AV.i 0])] 3)) ∧ (decide ((↑g : Int) + 1 < (↑(List.map encEx l).length : Int)) = false → AV.agg (encEx (l.getD (bsI (fun (k : Nat) => (l.getD k default).e) g) default)) = AV.agg (encEx (l.getD (bsI (fun (k :
   Nat) => (l.getD k default).e) (l.length - 1)) default)))) := by
    have hlm : (List.map encEx l).length = l.length := List.length_map _
    refine ⟨by rw [decide_eq_false (by omega)], fun h => Bool.noConfusion h, fun _ => ⟨by omega, by omega, congrArg AV.agg (row_at encEx (by omega)), ⟨0, by omega, rfl⟩, fun g hg => ⟨fun hd => ?_, fun hd => ?_⟩⟩⟩
    · have hlt : g + 1 < l.length := by have := of_decide_eq_true hd; omega
      have eg : ((g : Int) + 1).toNat = g + 1 := by omega
      rw [eg]
      have hrow : nthR (List.map encEx l) (g + 1) = encEx (l.getD (g + 1) default) := row_at encEx hlt
      refine ⟨by omega, by omega, congrArg AV.agg hrow, c130 _ _, fun h => ?_, fun h => ?_⟩
      · have h : decide (sCmp (l.getD (g + 1) default).e (l.getD (bsI (fun k => (l.getD k default).e) g) default).e > 0) = true := h
        rw [cmp_pos] at h
        refine ⟨by omega, by omega, congrArg AV.agg hrow, by unfold In64; omega, g + 1, by omega, by omega, ?_⟩
        rw [show bsI (fun k => (l.getD k default).e) (g + 1) = g + 1 from if_pos h]
        rfl
      · have h : decide (sCmp (l.getD (g + 1) default).e (l.getD (bsI (fun k => (l.getD k default).e) g) default).e > 0) = false := h
        rw [cmp_pos] at h
        refine ⟨by unfold In64; omega, g + 1, by omega, by omega, ?_⟩
        rw [show bsI (fun k => (l.getD k default).e) (g + 1) = bsI (fun k => (l.getD k default).e) g from if_neg (by rw [h]; decide)]
        rfl
    · have := of_decide_eq_false hd
      rw [show g = l.length - 1 by omega]
  exact c_of Tryz.f129 (fzB (mkB sp159 129 [(1, 2, rdF), (3, 2, rdL 4 encEx l 4 true), (7, 4, rdL 4 encEx l 4 true), (8, 3, rdL 4 encEx l 4 true)] (fun i => if i.beq 0 then some (la129 l) else none))) (by kernel_rfl) (by kernel_rfl) (by kernel_rfl) (by kernel_rfl) key (by kernel_rfl)
def chkL (ts : List Ty) (fs : List Fl) (x y z : Int) : Int := sFirst [chkP ts fs x y z, sWhen (if chkP ts fs x y z == 0 then ((rP ts fs x y z).length : Int) == 0 else false) 12]
def louN (ts : List Ty) (fs : List Fl) (x y z : Int) : List UInt8 := (fs.getD (bsI (fun k => expF ts x y z (fs.getD k default)) (fs.length - 1)) default).n
def rLou (ts : List Ty) (fs : List Fl) (x y z : Int) : List UInt8 := if chkL ts fs x y z != 0 then [] else louN ts fs x y z
def sp65 (ts : List Ty) (fs : List Fl) (x y z : Int) : Nat → List AV → Option AV
  | 129, [.sl _ rows, _] => some (.agg (encEx (mkEx ts x y z (fs.getD (bsI (fun k => expF ts x y z (fs.getD k default)) (fs.length - 1)) default))))
  | n, w => sp61 ts fs x y z n w
theorem c65 (ts : List Ty) (fs : List Fl) (x y z : Int) (hl : ts.length ≤ 1000) (hm : fs.length ≤ 1000) (hS : ∀ t, t ∈ ts → ShortTy t) (hF : ∀ f, f ∈ fs → f.n.length ≤ 1000 ∧ f.y.length ≤ 1000 ∧ f.tr.length ≤ 1000) : PCall Tryz.prog G0 65 [.sl 13 (ts.map encTy), .sl 3 (fs.map encFl), .agg [.i x, .i y, .i z]] (.tup [.str (rLou ts fs x y z), .i (chkL ts fs x y z)]) := by
  have key :
   PCall Tryz.prog G0 127 [AV.sl 13 (List.map encTy ts), AV.sl 3 (List.map encFl fs), AV.agg [AV.i x, AV.i y, AV.i z]] (AV.tup [AV.sl 4 (List.map encEx (rP ts fs x y z)), AV.i (chkP ts fs x y z)]) ∧ ((chkP ts fs x y z == 0) = true →
   (chkP ts fs x y z == 0) = true) ∧ ((chkP ts fs x y z == 0) = true → (chkP ts fs x y z == 0) = true) ∧ ((chkP ts fs x y z == 0) = true → (chkP ts fs x y z == 0) = true) ∧ PCall Tryz.prog G0 92 [AV.bool (if (chkP ts fs x y z == 0) =
   true then (↑(List.map encEx (rP ts fs x y z)).length : Int) == 0 else false), AV.i 12] (AV.i (sWhen (if (chkP ts fs x y z == 0) = true then (↑(List.map encEx (rP ts fs x y z)).length : Int) == 0 else false) (12 : Int))) ∧ PCall
   Tryz.prog G0 87 [AV.sl 1 [[AV.i (chkP ts fs x y z)], [AV.i (sWhen (if (chkP ts fs x y z == 0) = true then (↑(List.map encEx (rP ts fs x y z)).length : Int) == 0 else false) (12 : Int))]]] (AV.i (sFirst [hdI [AV.i (chkP ts fs x y
   z)], hdI [AV.i (sWhen (if (chkP ts fs x y z == 0) = true then (↑(List.map encEx (rP ts fs x y z)).length : Int) == 0 else false) (12 : Int))]])) ∧ ((sFirst [hdI [AV.i (chkP ts fs x y z)], hdI [AV.i (sWhen (if (chkP ts fs x y z ==
   0) = true then (↑(List.map encEx (rP ts fs x y z)).length : Int) == 0 else false) (12 : Int))]] != 0) = true → AV.tup [AV.str [], AV.i (sFirst [hdI [AV.i (chkP ts fs x y z)], hdI [AV.i (sWhen (if (chkP ts fs x y z == 0) = true then
   (↑(List.map encEx (rP ts fs x y z)).length : Int) == 0 else false) (12 : Int))]])] = AV.tup [AV.str (rLou ts fs x y z), AV.i (chkL ts fs x y z)]) ∧ ((sFirst [hdI [AV.i (chkP ts fs x y z)], hdI [AV.i (sWhen (if (chkP ts fs x y z ==
   0) = true then (↑(List.map encEx (rP ts fs x y z)).length : Int) == 0 else false) (12 : Int))]] != 0) = false → PCall Tryz.prog G0 129 [AV.sl 4 (List.map encEx (rP ts fs x y z)), AV.fn (Fn.func 130) [] []] (AV.agg [AV.str (mkEx ts
   x y z (fs.getD (bsI (fun (k : Nat) => expF ts x y z (fs.getD k default)) (fs.length - 1)) default)).f.n, AV.str (mkEx ts x y z (fs.getD (bsI (fun (k : Nat) => expF ts x y z (fs.getD k default)) (fs.length - 1)) default)).f.y, AV.sl
   5 (List.map encFx (mkEx ts x y z (fs.getD (bsI (fun (k : Nat) => expF ts x y z (fs.getD k default)) (fs.length - 1)) default)).f.tr), AV.i (expF ts x y z (fs.getD (bsI (fun (k : Nat) => expF ts x y z (fs.getD k default)) (fs.length
   - 1)) default))]) ∧ AV.tup [AV.str (mkEx ts x y z (fs.getD (bsI (fun (k : Nat) => expF ts x y z (fs.getD k default)) (fs.length - 1)) default)).f.n, AV.i 0] = AV.tup [AV.str (rLou ts fs x y z), AV.i (chkL ts fs x y z)]) := by
    rw [List.length_map]
    refine ⟨c127 ts fs x y z hl hm hS hF, fun h => h, fun h => h, fun h => h, c92 _ _, c87 [_, _] (by simp), fun h => ?_, fun h => ?_⟩
    · have h : (chkL ts fs x y z != 0) = true := h
      show AV.tup [AV.str [], AV.i (chkL ts fs x y z)] = _
      rw [rLou, if_pos h]
    · have h : (chkL ts fs x y z != 0) = false := h
      have hz := bne_f h
      have hz' := hz
      unfold chkL at hz'
      rw [first_zero, first_zero] at hz'
      obtain ⟨a, b, _⟩ := hz'
      have b := when_z (by decide) b
      rw [if_pos (by rw [a]; rfl)] at b
      have eP : rP ts fs x y z = fs.map (mkEx ts x y z) := if_neg (by rw [a]; decide)
      rw [eP, List.length_map] at b
      have hn : fs.length ≠ 0 := fun e => by rw [e] at b; cases b
      rw [eP]
      refine ⟨?_, ?_⟩
      · have k := c129 (fs.map (mkEx ts x y z)) (by rw [List.length_map]; omega) (by rw [List.length_map]; omega)
        have e1 : ∀ k, k < fs.length → (fs.map (mkEx ts x y z)).getD k default = mkEx ts x y z (fs.getD k default) := fun k hk => by
          rw [List.getD_eq_getElem?_getD, List.getD_eq_getElem?_getD, List.getElem?_map, List.getElem?_eq_getElem hk]
          rfl
        have e2 : bsI (fun k => ((fs.map (mkEx ts x y z)).getD k default).e) ((fs.map (mkEx ts x y z)).length - 1) = bsI (fun k => expF ts x y z (fs.getD k default)) (fs.length - 1) := by
          rw [List.length_map]
          exact bsI_congr fun k hk => by rw [e1 k (by omega)]; rfl
        have e3 := bsI_le (fun k => expF ts x y z (fs.getD k default)) (fs.length - 1)
        rw [e2, e1 _ (by omega)] at k
        exact k
      · rw [rLou, if_neg (by rw [h]; decide), hz]
        rfl
  exact c_of Tryz.f65 (fzB (mkB (sp65 ts fs x y z) 65 [] noLa)) (by kernel_rfl) (by kernel_rfl) (by kernel_rfl) (by kernel_rfl) key (by kernel_rfl)
def sp68 (x y z : Int) : Nat → List AV → Option AV
  | 36, [.agg c, .sl _ rows, _, _] => some (.i (expo (decTy c) (decTr rows) x y z))
  | n, w => spF n w
def la68 (ts : List Ty) (fs : List Fl) (x y z : Int) : LA := {
  pre := [.own 7 3 1, .reno 7 1, .keep [0, 1, 5, 7, 8] [1], .bound 2], post := [.reno 7 1, .keep [0, 1, 5, 7, 8] [1], .bound 2]
  Gh := Nat
  st := fun i => ⟨[(0, .sl 13 (ts.map encTy)), (1, .sl 3 (fs.map encFl)), (5, .elt 3 [[.i x, .i y, .i z]] 0 0), (7, .own 1 (((fs.take i).map (expF ts x y z)).map encI).length), (8, .i i)], [(1, .buf 3 1 (((fs.take i).map (expF ts x y z)).map encI))], 2⟩
  ok := fun i => i ≤ fs.length
  ms := fun i => fs.length - i }
theorem c68 (ts : List Ty) (fs : List Fl) (x y z : Int) (hl : ts.length ≤ 1000) (hm : fs.length ≤ 1000) (hF : ∀ f, f ∈ fs → FlOK ts f) (hx : -100000 ≤ x ∧ x ≤ 100000) (hy : -100000 ≤ y ∧ y ≤ 100000) (hz : 0 ≤ z ∧ z ≤ 20000) : PCall Tryz.prog G0 68 [.sl 13 (ts.map encTy), .sl 3 (fs.map encFl), .agg [.i x, .i y, .i z]] (.fresh 3 1 ((fs.map (expF ts x y z)).map encI)) := by
  have key :
   (∃ (g : Nat), g ≤ fs.length ∧ AS.mk [(0, AV.sl 13 (List.map encTy ts)), (1, AV.sl 3 (List.map encFl fs)), (5, AV.elt 3 [[AV.i x, AV.i y, AV.i z]] 0 0), (7, AV.own 1 0), (8, AV.i 0)] [(1, ABlk.buf 3 1 [])] 2 = AS.mk [(0, AV.sl 13
   (List.map encTy ts)), (1, AV.sl 3 (List.map encFl fs)), (5, AV.elt 3 [[AV.i x, AV.i y, AV.i z]] 0 0), (7, AV.own 1 (List.map encI (List.map (expF ts x y z) (List.take g fs))).length), (8, AV.i (↑g : Int))] [(1, ABlk.buf 3 1
   (List.map encI (List.map (expF ts x y z) (List.take g fs))))] 2) ∧ ∀ (g : Nat), g ≤ fs.length → (decide ((↑g : Int) < (↑(List.map encFl fs).length : Int)) = true → (0 : Int) ≤ (↑g : Int) ∧ (↑g : Int) < (↑(List.map encFl fs).length
   : Int) ∧ (0 : Int) ≤ fiI (pR (List.map encTy ts) (fs.getD (↑g : Int).toNat default).y) (List.map encTy ts).length ∧ fiI (pR (List.map encTy ts) (fs.getD (↑g : Int).toNat default).y) (List.map encTy ts).length < (↑(List.map encTy
   ts).length : Int) ∧ (0 : Int) ≤ (↑g : Int) ∧ (↑g : Int) < (↑(List.map encFl fs).length : Int) ∧ (List.map encI (List.map (expF ts x y z) (List.take g fs))).length + 1 ≤ 9223372036854775807 ∧ ((List.map encI (List.map (expF ts x y
   z) (List.take g fs))).length + 1) * 8 ≤ 140737488355328 ∧ nth (nthR (List.map encFl fs) (↑g : Int).toNat) 1 = AV.str (fs.getD (↑g : Int).toNat default).y ∧ PCall Tryz.prog G0 131 [AV.sl 13 (List.map encTy ts), AV.str (fs.getD (↑g :
   Int).toNat default).y] (AV.i (fiI (pR (List.map encTy ts) (fs.getD (↑g : Int).toNat default).y) (List.map encTy ts).length)) ∧ AV.agg (nthR (List.map encTy ts) (fiI (pR (List.map encTy ts) (fs.getD (↑g : Int).toNat default).y)
   (List.map encTy ts).length).toNat) = AV.agg (encTy (ts.getD (fiI (pR (List.map encTy ts) (fs.getD (↑g : Int).toNat default).y) (List.map encTy ts).length).toNat default)) ∧ nth (nthR (List.map encFl fs) (↑g : Int).toNat) 2 = AV.sl
   5 (List.map encFx (fs.getD (↑g : Int).toNat default).tr) ∧ PCall Tryz.prog G0 36 [AV.agg (encTy (ts.getD (fiI (pR (List.map encTy ts) (fs.getD (↑g : Int).toNat default).y) (List.map encTy ts).length).toNat default)), AV.sl 5
   (List.map encFx (fs.getD (↑g : Int).toNat default).tr), AV.agg [AV.i 0, AV.i 100000000], AV.agg [AV.i x, AV.i y, AV.i z]] (AV.i (expo (decTy (encTy (ts.getD (fiI (pR (List.map encTy ts) (fs.getD (↑g : Int).toNat default).y)
   (List.map encTy ts).length).toNat default))) (decTr (List.map encFx (fs.getD (↑g : Int).toNat default).tr)) x y z)) ∧ In64 ((↑g : Int) + 1) ∧ ∃ (g' : Nat), g' ≤ fs.length ∧ fs.length - g' < fs.length - g ∧ AS.mk [(0, AV.sl 13
   (List.map encTy ts)), (1, AV.sl 3 (List.map encFl fs)), (5, AV.elt 3 [[AV.i x, AV.i y, AV.i z]] 0 0), (7, AV.own 1 ((List.map encI (List.map (expF ts x y z) (List.take g fs))).length + 1)), (8, AV.i ((↑g : Int) + 1))] [(1, ABlk.buf
   3 1 (List.map encI (List.map (expF ts x y z) (List.take g fs)) ++ [[AV.i (expo (decTy (encTy (ts.getD (fiI (pR (List.map encTy ts) (fs.getD (↑g : Int).toNat default).y) (List.map encTy ts).length).toNat default))) (decTr (List.map
   encFx (fs.getD (↑g : Int).toNat default).tr)) x y z)]]))] 2 = AS.mk [(0, AV.sl 13 (List.map encTy ts)), (1, AV.sl 3 (List.map encFl fs)), (5, AV.elt 3 [[AV.i x, AV.i y, AV.i z]] 0 0), (7, AV.own 1 (List.map encI (List.map (expF ts
   x y z) (List.take g' fs))).length), (8, AV.i (↑g' : Int))] [(1, ABlk.buf 3 1 (List.map encI (List.map (expF ts x y z) (List.take g' fs))))] 2) ∧ (decide ((↑g : Int) < (↑(List.map encFl fs).length : Int)) = false → AV.fresh 3 1
   (List.map encI (List.map (expF ts x y z) (List.take g fs))) = AV.fresh 3 1 (List.map encI (List.map (expF ts x y z) fs))) := by
    have hlm : (List.map encTy ts).length = ts.length := List.length_map _
    have hfm : (List.map encFl fs).length = fs.length := List.length_map _
    have hfi : ∀ s, fiI (pR (List.map encTy ts) s) (List.map encTy ts).length = fiI (pT ts s) ts.length := fun s => by
      rw [hlm]
      exact fiI_congr fun j hj => pR_ty hj
    simp only [decTy_enc, decTr_enc, hfi, Int.toNat_natCast]
    refine ⟨⟨0, by omega, rfl⟩, fun g hg => ⟨fun hd => ?_, fun hd => ?_⟩⟩
    · rw [hfm] at hd
      have hlt := lt_of_dec hd
      have hO := hF _ (getD_mem hlt)
      have h1 := hO.i
      have hI : fiI (pT ts (fs.getD g default).y) ts.length = (fiN (pT ts (fs.getD g default).y) ts.length : Nat) := if_neg (by omega)
      have h131 := c131 ts (fs.getD g default).y hl
      rw [hI] at h131 ⊢
      simp only [Int.toNat_natCast]
      have hrow : nthR (List.map encFl fs) g = encFl (fs.getD g default) := row_at encFl hlt
      have h2 := take_succ_map encI (expF ts x y z) hlt
      have h7 : (List.map encI (List.map (expF ts x y z) (List.take g fs))).length = g := by rw [List.length_map, List.length_map, List.length_take]; omega
      have h8 : (List.map encI (List.map (expF ts x y z) (List.take (g + 1) fs))).length = g + 1 := by rw [List.length_map, List.length_map, List.length_take]; omega
      refine ⟨by omega, by omega, by omega, by omega, by omega, by omega, by omega, by omega, by rw [hrow]; rfl, h131, congrArg AV.agg (row_at encTy h1), by rw [hrow]; rfl, c36x hO.t hO.o hO.s hx hy hz, by unfold In64; omega, g + 1, by omega, by omega, ?_⟩
      rw [h8, ← h2, h7]
      rfl
    · rw [hfm] at hd
      rw [ge_of_dec hd hg, List.take_length]
  exact c_of Tryz.f68 (fzB (mkB (sp68 x y z) 68 [(5, 7, rdL 3 encFl fs 1 false), (5, 10, rdL 13 encTy ts 13 true), (5, 15, rdL 3 encFl fs 1 false)] (fun i => if i.beq 0 then some (la68 ts fs x y z) else none))) (by kernel_rfl) (by kernel_rfl) (by kernel_rfl) (by kernel_rfl) key (by kernel_rfl)
def sp67 (l : List Int) : Nat → List AV → Option AV
  | 68, _ => some (.sl 1 (l.map encI))
  | n, w => spF n w
def la67 (l : List Int) : LA := {
  pre := [.keep [7, 8, 9] [], .bound 1], post := [.keep [7, 8, 9] [], .bound 1]
  Gh := Nat
  st := fun i => ⟨[(7, .sl 1 (l.map encI)), (8, .i (sumW l i)), (9, .i i)], [], 1⟩
  ok := fun i => i ≤ l.length
  ms := fun i => l.length - i }
theorem c67 (ts : List Ty) (fs : List Fl) (x y z : Int) (hl : ts.length ≤ 1000) (hm : fs.length ≤ 1000) (hF : ∀ f, f ∈ fs → FlOK ts f) (hx : -100000 ≤ x ∧ x ≤ 100000) (hy : -100000 ≤ y ∧ y ≤ 100000) (hz : 0 ≤ z ∧ z ≤ 20000) : PCall Tryz.prog G0 67 [.sl 13 (ts.map encTy), .sl 3 (fs.map encFl), .agg [.i x, .i y, .i z]] (.i (sSum (fs.map (expF ts x y z)))) := by
  have key :
   PCall Tryz.prog G0 68 [AV.sl 13 (List.map encTy ts), AV.sl 3 (List.map encFl fs), AV.agg [AV.i x, AV.i y, AV.i z]] (AV.sl 1 (List.map encI (List.map (expF ts x y z) fs))) ∧ (∃ (g : Nat), g ≤ (List.map (expF ts x y z) fs).length ∧
   AS.mk [(7, AV.sl 1 (List.map encI (List.map (expF ts x y z) fs))), (8, AV.i 0), (9, AV.i 0)] [] 1 = AS.mk [(7, AV.sl 1 (List.map encI (List.map (expF ts x y z) fs))), (8, AV.i (sumW (List.map (expF ts x y z) fs) g)), (9, AV.i (↑g :
   Int))] [] 1) ∧ ∀ (g : Nat), g ≤ (List.map (expF ts x y z) fs).length → (decide ((↑g : Int) < (↑(List.map encI (List.map (expF ts x y z) fs)).length : Int)) = true → (0 : Int) ≤ (↑g : Int) ∧ (↑g : Int) < (↑(List.map encI (List.map
   (expF ts x y z) fs)).length : Int) ∧ nth (nthR (List.map encI (List.map (expF ts x y z) fs)) (↑g : Int).toNat) 0 = AV.i (cI (List.map encI (List.map (expF ts x y z) fs)) (↑g : Int).toNat) ∧ In64 ((↑g : Int) + 1) ∧ ∃ (g' : Nat), g'
   ≤ (List.map (expF ts x y z) fs).length ∧ (List.map (expF ts x y z) fs).length - g' < (List.map (expF ts x y z) fs).length - g ∧ AS.mk [(7, AV.sl 1 (List.map encI (List.map (expF ts x y z) fs))), (8, AV.i (IntKind.i64.wrap (sumW
   (List.map (expF ts x y z) fs) g + cI (List.map encI (List.map (expF ts x y z) fs)) (↑g : Int).toNat))), (9, AV.i ((↑g : Int) + 1))] [] 1 = AS.mk [(7, AV.sl 1 (List.map encI (List.map (expF ts x y z) fs))), (8, AV.i (sumW (List.map
   (expF ts x y z) fs) g')), (9, AV.i (↑g' : Int))] [] 1) ∧ (decide ((↑g : Int) < (↑(List.map encI (List.map (expF ts x y z) fs)).length : Int)) = false → AV.i (sumW (List.map (expF ts x y z) fs) g) = AV.i (sSum (List.map (expF ts x y
   z) fs))) := by
    have hlm : (List.map encI (List.map (expF ts x y z) fs)).length = (List.map (expF ts x y z) fs).length := List.length_map _
    have hlf : (List.map (expF ts x y z) fs).length = fs.length := List.length_map _
    refine ⟨(c68 ts fs x y z hl hm hF hx hy hz).un, ⟨0, by omega, rfl⟩, fun g hg => ⟨fun hd => ?_, fun hd => ?_⟩⟩
    · rw [hlm] at hd
      have hlt := lt_of_dec hd
      refine ⟨by omega, by omega, cI_at hlt, by unfold In64; omega, g + 1, by omega, by omega, ?_⟩
      rw [cI_map]
      rfl
    · rw [hlm] at hd
      rw [ge_of_dec hd hg]
      rfl
  exact c_of Tryz.f67 (wrapAt 6 5 (fzB (mkB (sp67 (fs.map (expF ts x y z))) 67 [(6, 4, rdJ)] (fun i => if i.beq 0 then some (la67 (fs.map (expF ts x y z))) else none)))) (by kernel_rfl) (by kernel_rfl) (by kernel_rfl) (by kernel_rfl) key (by kernel_rfl)
def bsJ (e : Nat → Int) : Nat → Nat
  | 0 => 0
  | i + 1 => if decide (e i > e (bsJ e i)) then i else bsJ e i
theorem bsJ_lt (e : Nat → Int) : ∀ i, i ≠ 0 → bsJ e i < i
  | 0, h => absurd rfl h
  | i + 1, _ => by
    simp only [bsJ]
    by_cases h : i = 0
    · subst h
      simp [bsJ]
    · have := bsJ_lt e i h
      split <;> omega
theorem bsJ_I (e : Nat → Int) : ∀ i, bsJ e (i + 1) = bsI e i
  | 0 => by simp [bsJ, bsI]
  | i + 1 => by
    have h := bsJ_I e i
    show (if decide (e (i + 1) > e (bsJ e (i + 1))) then i + 1 else bsJ e (i + 1)) = _
    rw [h]
    rfl
def la69 (fs : List Fl) (l : List Int) : LA := {
  pre := [.keep [1, 8, 9, 10] [], .bound 1], post := [.keep [1, 8, 9, 10] [], .bound 1]
  Gh := Nat
  st := fun i => ⟨[(1, .sl 3 (fs.map encFl)), (8, .sl 1 (l.map encI)), (9, .i (bsJ (fun k => l.getD k default) i : Nat)), (10, .i i)], [], 1⟩
  ok := fun i => i ≤ l.length
  ms := fun i => l.length - i }
theorem c69 (ts : List Ty) (fs : List Fl) (x y z : Int) (hl : ts.length ≤ 1000) (hm : fs.length ≤ 1000) (hF : ∀ f, f ∈ fs → FlOK ts f) (hx : -100000 ≤ x ∧ x ≤ 100000) (hy : -100000 ≤ y ∧ y ≤ 100000) (hz : 0 ≤ z ∧ z ≤ 20000) : PCall Tryz.prog G0 69 [.sl 13 (ts.map encTy), .sl 3 (fs.map encFl), .agg [.i x, .i y, .i z]] (.tup [.str (if ((fs.length : Int) == 0) then [] else louN ts fs x y z), .i (if ((fs.length : Int) == 0) then 12 else 0)]) := by
  have key :
   (((↑(List.map encFl fs).length : Int) == 0) = true → AV.tup [AV.str [], AV.i 12] = AV.tup [AV.str (if ((↑fs.length : Int) == 0) = true then [] else louN ts fs x y z), AV.i (if ((↑fs.length : Int) == 0) = true then (12 : Int) else
   (0 : Int))]) ∧ (((↑(List.map encFl fs).length : Int) == 0) = false → PCall Tryz.prog G0 68 [AV.sl 13 (List.map encTy ts), AV.sl 3 (List.map encFl fs), AV.agg [AV.i x, AV.i y, AV.i z]] (AV.sl 1 (List.map encI (List.map (expF ts x y
   z) fs))) ∧ (∃ (g : Nat), g ≤ (List.map (expF ts x y z) fs).length ∧ AS.mk [(1, AV.sl 3 (List.map encFl fs)), (8, AV.sl 1 (List.map encI (List.map (expF ts x y z) fs))), (9, AV.i 0), (10, AV.i 0)] [] 1 = AS.mk [(1, AV.sl 3 (List.map
   encFl fs)), (8, AV.sl 1 (List.map encI (List.map (expF ts x y z) fs))), (9, AV.i (↑(bsJ (fun (k : Nat) => (List.map (expF ts x y z) fs).getD k default) g) : Int)), (10, AV.i (↑g : Int))] [] 1) ∧ ∀ (g : Nat), g ≤ (List.map (expF ts
   x y z) fs).length → (decide ((↑g : Int) < (↑(List.map encI (List.map (expF ts x y z) fs)).length : Int)) = true → (0 : Int) ≤ (↑g : Int) ∧ (↑g : Int) < (↑(List.map encI (List.map (expF ts x y z) fs)).length : Int) ∧ (0 : Int) ≤
   (↑(bsJ (fun (k : Nat) => (List.map (expF ts x y z) fs).getD k default) g) : Int) ∧ (↑(bsJ (fun (k : Nat) => (List.map (expF ts x y z) fs).getD k default) g) : Int) < (↑(List.map encI (List.map (expF ts x y z) fs)).length : Int) ∧
   nth (nthR (List.map encI (List.map (expF ts x y z) fs)) (↑g : Int).toNat) 0 = AV.i (cI (List.map encI (List.map (expF ts x y z) fs)) (↑g : Int).toNat) ∧ nth (nthR (List.map encI (List.map (expF ts x y z) fs)) (↑(bsJ (fun (k : Nat)
   => (List.map (expF ts x y z) fs).getD k default) g) : Int).toNat) 0 = AV.i (cI (List.map encI (List.map (expF ts x y z) fs)) (↑(bsJ (fun (k : Nat) => (List.map (expF ts x y z) fs).getD k default) g) : Int).toNat) ∧ (decide (cI
   (List.map encI (List.map (expF ts x y z) fs)) (↑g : Int).toNat > cI (List.map encI (List.map (expF ts x y z) fs)) (↑(bsJ (fun (k : Nat) => (List.map (expF ts x y z) fs).getD k default) g) : Int).toNat) = true → In64 ((↑g : Int) +
   1) ∧ ∃ (g' : Nat), g' ≤ (List.map (expF ts x y z) fs).length ∧ (List.map (expF ts x y z) fs).length - g' < (List.map (expF ts x y z) fs).length - g ∧ AS.mk [(1, AV.sl 3 (List.map encFl fs)), (8, AV.sl 1 (List.map encI (List.map
   (expF ts x y z) fs))), (9, AV.i (↑g : Int)), (10, AV.i ((↑g : Int) + 1))] [] 1 = AS.mk [(1, AV.sl 3 (List.map encFl fs)), (8, AV.sl 1 (List.map encI (List.map (expF ts x y z) fs))), (9, AV.i (↑(bsJ (fun (k : Nat) => (List.map (expF
   ts x y z) fs).getD k default) g') : Int)), (10, AV.i (↑g' : Int))] [] 1) ∧ (decide (cI (List.map encI (List.map (expF ts x y z) fs)) (↑g : Int).toNat > cI (List.map encI (List.map (expF ts x y z) fs)) (↑(bsJ (fun (k : Nat) =>
   (List.map (expF ts x y z) fs).getD k default) g) : Int).toNat) = false → In64 ((↑g : Int) + 1) ∧ ∃ (g' : Nat), g' ≤ (List.map (expF ts x y z) fs).length ∧ (List.map (expF ts x y z) fs).length - g' < (List.map (expF ts x y z)
   fs).length - g ∧ AS.mk [(1, AV.sl 3 (List.map encFl fs)), (8, AV.sl 1 (List.map encI (List.map (expF ts x y z) fs))), (9, AV.i (↑(bsJ (fun (k : Nat) => (List.map (expF ts x y z) fs).getD k default) g) : Int)), (10, AV.i ((↑g : Int)
   + 1))] [] 1 = AS.mk [(1, AV.sl 3 (List.map encFl fs)), (8, AV.sl 1 (List.map encI (List.map (expF ts x y z) fs))), (9, AV.i (↑(bsJ (fun (k : Nat) => (List.map (expF ts x y z) fs).getD k default) g') : Int)), (10, AV.i (↑g' : Int))]
   [] 1)) ∧ (decide ((↑g : Int) < (↑(List.map encI (List.map (expF ts x y z) fs)).length : Int)) = false → (0 : Int) ≤ (↑(bsJ (fun (k : Nat) => (List.map (expF ts x y z) fs).getD k default) g) : Int) ∧ (↑(bsJ (fun (k : Nat) =>
   (List.map (expF ts x y z) fs).getD k default) g) : Int) < (↑(List.map encFl fs).length : Int) ∧ nth (nthR (List.map encFl fs) (↑(bsJ (fun (k : Nat) => (List.map (expF ts x y z) fs).getD k default) g) : Int).toNat) 0 = AV.str
   (fs.getD (↑(bsJ (fun (k : Nat) => (List.map (expF ts x y z) fs).getD k default) g) : Int).toNat default).n ∧ AV.tup [AV.str (fs.getD (↑(bsJ (fun (k : Nat) => (List.map (expF ts x y z) fs).getD k default) g) : Int).toNat default).n,
   AV.i 0] = AV.tup [AV.str (if ((↑fs.length : Int) == 0) = true then [] else louN ts fs x y z), AV.i (if ((↑fs.length : Int) == 0) = true then (12 : Int) else (0 : Int))])) := by
    have hfm : (List.map encFl fs).length = fs.length := List.length_map _
    have hlm : (List.map encI (List.map (expF ts x y z) fs)).length = fs.length := by rw [List.length_map, List.length_map]
    have hlf : (List.map (expF ts x y z) fs).length = fs.length := List.length_map _
    rw [hfm]
    refine ⟨fun h => ?_, fun h => ?_⟩
    · rw [if_pos h, if_pos h]
    · have hn : fs.length ≠ 0 := fun e => by rw [e] at h; cases h
      have h0 : ∀ g, g ≤ fs.length → bsJ (fun k => (List.map (expF ts x y z) fs).getD k default) g < fs.length := fun g hg => by
        by_cases e : g = 0
        · subst e
          exact Nat.pos_of_ne_zero hn
        · have := bsJ_lt (fun k => (List.map (expF ts x y z) fs).getD k default) g (by omega)
          omega
      simp only [Int.toNat_natCast]
      refine ⟨(c68 ts fs x y z hl hm hF hx hy hz).un, ⟨0, by omega, rfl⟩, fun g hg => ⟨fun hd => ?_, fun hd => ?_⟩⟩
      · rw [hlm] at hd
        have hlt := lt_of_dec hd
        have h1 := h0 g (by omega)
        refine ⟨by omega, by omega, by omega, by omega, cI_at (by omega), cI_at (by omega), fun hx => ?_, fun hx => ?_⟩
        · simp only [cI_map] at hx
          refine ⟨by unfold In64; omega, g + 1, by omega, by omega, ?_⟩
          rw [show bsJ (fun k => (List.map (expF ts x y z) fs).getD k default) (g + 1) = g from if_pos hx]
          rfl
        · simp only [cI_map] at hx
          refine ⟨by unfold In64; omega, g + 1, by omega, by omega, ?_⟩
          rw [show bsJ (fun k => (List.map (expF ts x y z) fs).getD k default) (g + 1) = bsJ (fun k => (List.map (expF ts x y z) fs).getD k default) g from if_neg (by rw [hx]; decide)]
          rfl
      · rw [hlm] at hd
        have e := ge_of_dec hd (by omega)
        subst e
        have h1 := h0 fs.length (Nat.le_refl _)
        have e1 : bsJ (fun k => (List.map (expF ts x y z) fs).getD k default) fs.length = bsI (fun k => expF ts x y z (fs.getD k default)) (fs.length - 1) := by
          obtain ⟨m, hm⟩ := Nat.exists_eq_succ_of_ne_zero hn
          rw [hm, bsJ_I]
          exact bsI_congr fun k hk => by
            rw [List.getD_eq_getElem?_getD, List.getD_eq_getElem?_getD, List.getElem?_map, List.getElem?_eq_getElem (show k < fs.length by omega)]
            rfl
        refine ⟨by omega, by omega, by rw [row_at encFl h1]; rfl, ?_⟩
        rw [if_neg (by rw [h]; decide), if_neg (by rw [h]; decide), e1]
        rfl
  exact c_of Tryz.f69 (fzB (mkB (sp67 (fs.map (expF ts x y z))) 69 [(7, 3, rdJ), (7, 7, rdJ), (9, 4, rdL 3 encFl fs 1 false)] (fun i => if i.beq 0 then some (la69 fs (fs.map (expF ts x y z))) else none))) (by kernel_rfl) (by kernel_rfl) (by kernel_rfl) (by kernel_rfl) key (by kernel_rfl)
end Go.Proofs.YtjhjmncjidbieaaGreatDoor
-- ENC encFl 3 [AV.str X.n, AV.str X.y, AV.sl 5 (List.map encFx X.tr)]
namespace Go.Proofs.YtjhjmncjidbieaaGreatDoor
open Go Go.Av Go.RowKit
theorem bne_beq {a : Int} (h : (a == 0) = false) : (a != 0) = true := by
  rw [bne, h]
  rfl
def louR (ts : List Ty) (fs : List Fl) (x y z : Int) : List UInt8 := if ((fs.length : Int) == 0) then [] else louN ts fs x y z
def louE (fs : List Fl) : Int := if ((fs.length : Int) == 0) then 12 else 0
theorem sf_of {ts : List Ty} {fs : List Fl} (h : sSF ts fs = true) : ts.length ≤ 9 ∧ fs.length ≤ 17 ∧ (∀ t, t ∈ ts → ShortTy t) ∧ ∀ f, f ∈ fs → f.n.length ≤ 1000 ∧ f.y.length ≤ 1000 ∧ f.tr.length ≤ 1000 := by
  unfold sSF at h
  simp only [Bool.and_eq_true] at h
  obtain ⟨h1, h2, h3⟩ := h
  have hsz : ts.length ≤ 9 ∧ fs.length ≤ 17 := by
    unfold szOK at h3
    by_cases a : (ts.length : Int) ≤ 4 <;> by_cases b : (ts.length : Int) = 9 <;> by_cases c : (fs.length : Int) ≤ 4 <;> by_cases d : (fs.length : Int) = 17 <;> simp [a, b, c, d] at h3 <;> omega
  refine ⟨hsz.1, hsz.2, fun t ht => ?_, fun f hf => ?_⟩
  · obtain ⟨i, hi, e⟩ := List.mem_iff_getElem.1 ht
    have := List.all_eq_true.1 h1 i (List.mem_range.2 hi)
    rw [List.getD_eq_getElem?_getD, List.getElem?_eq_getElem hi, e] at this
    exact short_of this
  · obtain ⟨i, hi, e⟩ := List.mem_iff_getElem.1 hf
    have h := List.all_eq_true.1 h2 i (List.mem_range.2 hi)
    rw [List.getD_eq_getElem?_getD, List.getElem?_eq_getElem hi, e] at h
    have h : shFl f = true := h
    unfold shFl at h
    by_cases a : f.tr.length ≤ 17
    · by_cases b : (f.n.length : Int) > 40
      · simp [a, b] at h
      · by_cases c : (f.y.length : Int) > 40
        · simp [a, b, c] at h
        · omega
    · simp [a] at h
theorem rPar_len (ts : List Ty) (fs : List Fl) (x y z : Int) : (rPar ts fs x y z).length ≤ fs.length := by
  unfold rPar
  split
  · simp
  · rw [List.length_map]
    exact Nat.le_refl _
theorem good_eq {ts : List Ty} {fs : List Fl} {x y z : Int} (hz : chkP ts fs x y z = 0) : rTot ts fs x y z = sSum (fs.map (expF ts x y z)) ∧ rPar ts fs x y z = fs.map (expF ts x y z) ∧ chkL ts fs x y z = louE fs ∧ rLou ts fs x y z = louR ts fs x y z := by
  have e1 : rP ts fs x y z = fs.map (mkEx ts x y z) := if_neg (by rw [hz]; decide)
  have e2 : chkL ts fs x y z = louE fs := by
    unfold chkL louE
    rw [e1, hz, List.length_map]
    cases (fs.length : Int) == 0 <;> rfl
  refine ⟨if_neg (by rw [hz]; decide), if_neg (by rw [hz]; decide), e2, ?_⟩
  unfold rLou louR
  rw [e2]
  unfold louE
  cases (fs.length : Int) == 0 <;> rfl
theorem bad_eq {ts : List Ty} {fs : List Fl} {x y z : Int} (h : (chkP ts fs x y z != 0) = true) : rTot ts fs x y z = 0 ∧ rPar ts fs x y z = [] ∧ chkL ts fs x y z = chkP ts fs x y z ∧ rLou ts fs x y z = [] := by
  have e2 : chkL ts fs x y z = chkP ts fs x y z := by
    unfold chkL
    have h1 := bne_t h
    generalize chkP ts fs x y z = q at h1 ⊢
    simp [sFirst, h1]
  exact ⟨if_pos h, if_pos h, e2, if_pos (by rw [e2]; exact h)⟩
def sp9 (ts : List Ty) (fs : List Fl) (x y z : Int) : Nat → List AV → Option AV
  | 13, _ => some (.bool true)
  | 60, _ => some (.bool (sSF ts fs))
  | 62, [.sl _ rows] => some (.sl 13 rows)
  | 63, [.sl _ rows] => some (.sl 3 rows)
  | 61, _ => some (.tup [.i (rTot ts fs x y z), .i (chkP ts fs x y z)])
  | 64, _ => some (.tup [.sl 1 ((rPar ts fs x y z).map encI), .i (chkP ts fs x y z)])
  | 65, _ => some (.tup [.str (rLou ts fs x y z), .i (chkL ts fs x y z)])
  | 66, _ => some (.i (chkG ts fs))
  | 35, _ => some (.i (sPlace x y z))
  | 67, _ => some (.i (sSum (fs.map (expF ts x y z))))
  | 68, _ => some (.sl 1 ((fs.map (expF ts x y z)).map encI))
  | 69, _ => some (.tup [.str (louR ts fs x y z), .i (louE fs)])
  | 70, _ => some (.i (chkF ts fs))
  | 54, _ => some (.bool true)
  | n, w => spR n w
def b9 (ts : List Ty) (fs : List Fl) (x y z : Int) : List (Nat × AV) := [(0, .sl 13 (ts.map encTy)), (1, .sl 3 (fs.map encFl)), (5, .elt 3 [[.i x, .i y, .i z]] 0 0), (6, .bool false)]
def w9 (ts : List Ty) (fs : List Fl) (x y z : Int) : List (Nat × AV) := [(7, .i (rTot ts fs x y z)), (8, .i (chkP ts fs x y z)), (9, .sl 1 ((rPar ts fs x y z).map encI)), (10, .i (chkP ts fs x y z)), (11, .str (rLou ts fs x y z)), (12, .i (chkL ts fs x y z)), (13, .i (sFirst [chkG ts fs, sPlace x y z]))]
def y9 (a b : Int) (s : List UInt8) : List (Nat × AV) := [(14, .i a), (15, .i b), (16, .str s)]
def m9 (ts : List Ty) (fs : List Fl) (x y z : Int) : List (Option (List GS × AS)) :=
  let B := b9 ts fs x y z
  let W := w9 ts fs x y z
  let e := sFirst [chkG ts fs, sPlace x y z]
  [md [] B, md [] (B ++ [(21, .bool false)]), md [] B, md [] (B ++ W.take 2), md [] (B ++ W.take 4), md [] (B ++ W.take 6), md [] (B ++ W), md [] (B ++ W ++ y9 e 0 []),
   md [.nil 17 1] (B ++ W ++ y9 e 0 [] ++ [(17, .sl 1 [])]),
   md [] (B ++ W ++ y9 e 0 [] ++ [(17, .sl 1 []), (59, .bool (e == 0))]),
   md [] (B ++ W ++ y9 (chkL ts fs x y z) (rTot ts fs x y z) (rLou ts fs x y z) ++ [(17, .sl 1 ((rPar ts fs x y z).map encI))])]
def f9 (ts : List Ty) (fs : List Fl) (x y z : Int) : List (Option (List GS × AS)) := [md [] (b9 ts fs x y z), md [] (b9 ts fs x y z ++ [(21, .bool true)])]
def cl9 : Operand → Bool
  | .tmp t => t.beq 21
  | _ => false
def rds9 : List (Nat × Nat × (List AV → Option AV)) := [(12, 8, rdT), (12, 12, rdT), (12, 17, rdT), (12, 27, rdT), (12, 32, rdT), (12, 37, rdT)]
def B9 (ts : List Ty) (fs : List Fl) (x y z : Int) (r : List (Nat × Nat × (List AV → Option AV))) : BA := { noSym 1 (noSym 12 (fzB (mkB (sp9 ts fs x y z) 9 (r ++ rds9) noLa))) with cl := cl9 }
theorem c9_0 (ts : List Ty) (fs : List Fl) (x y z : Int) (hA : PCall Tryz.prog G0 13 [] (.bool true)) (hl : ts.length ≤ maxLen) (hm : fs.length ≤ maxLen) (hst : ∀ t, t ∈ ts → t.st.length ≤ maxLen) (h0 : (!sSF ts fs) = true) : PCall Tryz.prog G0 9 [.sl 13 (ts.map encTy), .sl 3 (fs.map encFl), .agg [.i x, .i y, .i z]] (.bool true) := by
  have key :
   AS.mk [(0, AV.sl 13 (List.map encTy ts)), (1, AV.sl 3 (List.map encFl fs)), (5, AV.elt 3 [[AV.i x, AV.i y, AV.i z]] 0 0), (6, AV.bool false)] [] 1 = AS.mk [(0, AV.sl 13 (List.map encTy ts)), (1, AV.sl 3 (List.map encFl fs)), (5,
   AV.elt 3 [[AV.i x, AV.i y, AV.i z]] 0 0), (6, AV.bool false)] [] 1 ∧ (PCall Tryz.prog G0 60 [AV.sl 13 (List.map encTy ts), AV.sl 3 (List.map encFl fs)] (AV.bool (sSF ts fs)) ∧ (AV.bool !sSF ts fs) = AV.bool true ∧ AS.mk [(0, AV.sl
   13 (List.map encTy ts)), (1, AV.sl 3 (List.map encFl fs)), (5, AV.elt 3 [[AV.i x, AV.i y, AV.i z]] 0 0), (6, AV.bool false), (21, AV.bool true)] [] 1 = AS.mk [(0, AV.sl 13 (List.map encTy ts)), (1, AV.sl 3 (List.map encFl fs)), (5,
   AV.elt 3 [[AV.i x, AV.i y, AV.i z]] 0 0), (6, AV.bool false), (21, AV.bool true)] [] 1) ∧ PCall Tryz.prog G0 13 [] (AV.bool true) ∧ AV.bool true = AV.bool true := by
    exact ⟨rfl, ⟨c60 ts fs hl hm hst, congrArg AV.bool h0, rfl⟩, hA, rfl⟩
  exact c_ofG Tryz.f9 (B9 ts fs x y z [(1, 3, rdT)]) (f9 ts fs x y z) (by kernel_rfl) (by kernel_rfl) (by kernel_rfl) (by kernel_rfl) key (by kernel_rfl)
theorem c9_ok (ts : List Ty) (fs : List Fl) (x y z : Int) (hA : PCall Tryz.prog G0 13 [] (.bool true)) (hl : ts.length ≤ maxLen) (hm : fs.length ≤ maxLen) (hst : ∀ t, t ∈ ts → t.st.length ≤ maxLen) (h0 : (!sSF ts fs) = false) : PCall Tryz.prog G0 9 [.sl 13 (ts.map encTy), .sl 3 (fs.map encFl), .agg [.i x, .i y, .i z]] (.bool true) := by
  have key :
   AS.mk [(0, AV.sl 13 (List.map encTy ts)), (1, AV.sl 3 (List.map encFl fs)), (5, AV.elt 3 [[AV.i x, AV.i y, AV.i z]] 0 0), (6, AV.bool false)] [] 1 = AS.mk [(0, AV.sl 13 (List.map encTy ts)), (1, AV.sl 3 (List.map encFl fs)), (5,
   AV.elt 3 [[AV.i x, AV.i y, AV.i z]] 0 0), (6, AV.bool false)] [] 1 ∧ (PCall Tryz.prog G0 60 [AV.sl 13 (List.map encTy ts), AV.sl 3 (List.map encFl fs)] (AV.bool (sSF ts fs)) ∧ (AV.bool !sSF ts fs) = AV.bool false ∧ AS.mk [(0, AV.sl
   13 (List.map encTy ts)), (1, AV.sl 3 (List.map encFl fs)), (5, AV.elt 3 [[AV.i x, AV.i y, AV.i z]] 0 0), (6, AV.bool false), (21, AV.bool false)] [] 1 = AS.mk [(0, AV.sl 13 (List.map encTy ts)), (1, AV.sl 3 (List.map encFl fs)),
   (5, AV.elt 3 [[AV.i x, AV.i y, AV.i z]] 0 0), (6, AV.bool false), (21, AV.bool false)] [] 1) ∧ AS.mk [(0, AV.sl 13 (List.map encTy ts)), (1, AV.sl 3 (List.map encFl fs)), (5, AV.elt 3 [[AV.i x, AV.i y, AV.i z]] 0 0), (6, AV.bool
   false)] [] 1 = AS.mk [(0, AV.sl 13 (List.map encTy ts)), (1, AV.sl 3 (List.map encFl fs)), (5, AV.elt 3 [[AV.i x, AV.i y, AV.i z]] 0 0), (6, AV.bool false)] [] 1 ∧ (PCall Tryz.prog G0 62 [AV.sl 13 (List.map encTy ts)] (AV.sl 13
   (List.map encTy ts)) ∧ PCall Tryz.prog G0 63 [AV.sl 3 (List.map encFl fs)] (AV.sl 3 (List.map encFl fs)) ∧ PCall Tryz.prog G0 61 [AV.sl 13 (List.map encTy ts), AV.sl 3 (List.map encFl fs), AV.agg [AV.i x, AV.i y, AV.i z]] (AV.tup
   [AV.i (rTot ts fs x y z), AV.i (chkP ts fs x y z)]) ∧ AS.mk [(0, AV.sl 13 (List.map encTy ts)), (1, AV.sl 3 (List.map encFl fs)), (5, AV.elt 3 [[AV.i x, AV.i y, AV.i z]] 0 0), (6, AV.bool false), (7, AV.i (rTot ts fs x y z)), (8,
   AV.i (chkP ts fs x y z))] [] 1 = AS.mk [(0, AV.sl 13 (List.map encTy ts)), (1, AV.sl 3 (List.map encFl fs)), (5, AV.elt 3 [[AV.i x, AV.i y, AV.i z]] 0 0), (6, AV.bool false), (7, AV.i (rTot ts fs x y z)), (8, AV.i (chkP ts fs x y
   z))] [] 1) ∧ (PCall Tryz.prog G0 62 [AV.sl 13 (List.map encTy ts)] (AV.sl 13 (List.map encTy ts)) ∧ PCall Tryz.prog G0 63 [AV.sl 3 (List.map encFl fs)] (AV.sl 3 (List.map encFl fs)) ∧ PCall Tryz.prog G0 64 [AV.sl 13 (List.map encTy
   ts), AV.sl 3 (List.map encFl fs), AV.agg [AV.i x, AV.i y, AV.i z]] (AV.tup [AV.sl 1 (List.map encI (rPar ts fs x y z)), AV.i (chkP ts fs x y z)]) ∧ AS.mk [(0, AV.sl 13 (List.map encTy ts)), (1, AV.sl 3 (List.map encFl fs)), (5,
   AV.elt 3 [[AV.i x, AV.i y, AV.i z]] 0 0), (6, AV.bool false), (7, AV.i (rTot ts fs x y z)), (8, AV.i (chkP ts fs x y z)), (9, AV.sl 1 (List.map encI (rPar ts fs x y z))), (10, AV.i (chkP ts fs x y z))] [] 1 = AS.mk [(0, AV.sl 13
   (List.map encTy ts)), (1, AV.sl 3 (List.map encFl fs)), (5, AV.elt 3 [[AV.i x, AV.i y, AV.i z]] 0 0), (6, AV.bool false), (7, AV.i (rTot ts fs x y z)), (8, AV.i (chkP ts fs x y z)), (9, AV.sl 1 (List.map encI (rPar ts fs x y z))),
   (10, AV.i (chkP ts fs x y z))] [] 1) ∧ (PCall Tryz.prog G0 62 [AV.sl 13 (List.map encTy ts)] (AV.sl 13 (List.map encTy ts)) ∧ PCall Tryz.prog G0 63 [AV.sl 3 (List.map encFl fs)] (AV.sl 3 (List.map encFl fs)) ∧ PCall Tryz.prog G0 65
   [AV.sl 13 (List.map encTy ts), AV.sl 3 (List.map encFl fs), AV.agg [AV.i x, AV.i y, AV.i z]] (AV.tup [AV.str (rLou ts fs x y z), AV.i (chkL ts fs x y z)]) ∧ AS.mk [(0, AV.sl 13 (List.map encTy ts)), (1, AV.sl 3 (List.map encFl
   fs)), (5, AV.elt 3 [[AV.i x, AV.i y, AV.i z]] 0 0), (6, AV.bool false), (7, AV.i (rTot ts fs x y z)), (8, AV.i (chkP ts fs x y z)), (9, AV.sl 1 (List.map encI (rPar ts fs x y z))), (10, AV.i (chkP ts fs x y z)), (11, AV.str (rLou
   ts fs x y z)), (12, AV.i (chkL ts fs x y z))] [] 1 = AS.mk [(0, AV.sl 13 (List.map encTy ts)), (1, AV.sl 3 (List.map encFl fs)), (5, AV.elt 3 [[AV.i x, AV.i y, AV.i z]] 0 0), (6, AV.bool false), (7, AV.i (rTot ts fs x y z)), (8,
   AV.i (chkP ts fs x y z)), (9, AV.sl 1 (List.map encI (rPar ts fs x y z))), (10, AV.i (chkP ts fs x y z)), (11, AV.str (rLou ts fs x y z)), (12, AV.i (chkL ts fs x y z))] [] 1) ∧ (PCall Tryz.prog G0 66 [AV.sl 13 (List.map encTy ts),
   AV.sl 3 (List.map encFl fs)] (AV.i (chkG ts fs)) ∧ PCall Tryz.prog G0 35 [AV.agg [AV.i x, AV.i y, AV.i z]] (AV.i (sPlace x y z)) ∧ PCall Tryz.prog G0 16 [AV.sl 1 [[AV.i (chkG ts fs)], [AV.i (sPlace x y z)]]] (AV.i (sFirst [hdI
   [AV.i (chkG ts fs)], hdI [AV.i (sPlace x y z)]])) ∧ AS.mk [(0, AV.sl 13 (List.map encTy ts)), (1, AV.sl 3 (List.map encFl fs)), (5, AV.elt 3 [[AV.i x, AV.i y, AV.i z]] 0 0), (6, AV.bool false), (7, AV.i (rTot ts fs x y z)), (8,
   AV.i (chkP ts fs x y z)), (9, AV.sl 1 (List.map encI (rPar ts fs x y z))), (10, AV.i (chkP ts fs x y z)), (11, AV.str (rLou ts fs x y z)), (12, AV.i (chkL ts fs x y z)), (13, AV.i (sFirst [hdI [AV.i (chkG ts fs)], hdI [AV.i (sPlace
   x y z)]]))] [] 1 = AS.mk [(0, AV.sl 13 (List.map encTy ts)), (1, AV.sl 3 (List.map encFl fs)), (5, AV.elt 3 [[AV.i x, AV.i y, AV.i z]] 0 0), (6, AV.bool false), (7, AV.i (rTot ts fs x y z)), (8, AV.i (chkP ts fs x y z)), (9, AV.sl
   1 (List.map encI (rPar ts fs x y z))), (10, AV.i (chkP ts fs x y z)), (11, AV.str (rLou ts fs x y z)), (12, AV.i (chkL ts fs x y z)), (13, AV.i (sFirst [chkG ts fs, sPlace x y z]))] [] 1) ∧ AS.mk [(0, AV.sl 13 (List.map encTy ts)),
   (1, AV.sl 3 (List.map encFl fs)), (5, AV.elt 3 [[AV.i x, AV.i y, AV.i z]] 0 0), (6, AV.bool false), (7, AV.i (rTot ts fs x y z)), (8, AV.i (chkP ts fs x y z)), (9, AV.sl 1 (List.map encI (rPar ts fs x y z))), (10, AV.i (chkP ts fs
   x y z)), (11, AV.str (rLou ts fs x y z)), (12, AV.i (chkL ts fs x y z)), (13, AV.i (sFirst [chkG ts fs, sPlace x y z])), (14, AV.i (sFirst [chkG ts fs, sPlace x y z])), (15, AV.i 0), (16, AV.str [])] [] 1 = AS.mk [(0, AV.sl 13
   (List.map encTy ts)), (1, AV.sl 3 (List.map encFl fs)), (5, AV.elt 3 [[AV.i x, AV.i y, AV.i z]] 0 0), (6, AV.bool false), (7, AV.i (rTot ts fs x y z)), (8, AV.i (chkP ts fs x y z)), (9, AV.sl 1 (List.map encI (rPar ts fs x y z))),
   (10, AV.i (chkP ts fs x y z)), (11, AV.str (rLou ts fs x y z)), (12, AV.i (chkL ts fs x y z)), (13, AV.i (sFirst [chkG ts fs, sPlace x y z])), (14, AV.i (sFirst [chkG ts fs, sPlace x y z])), (15, AV.i 0), (16, AV.str [])] [] 1 ∧
   AS.mk [(0, AV.sl 13 (List.map encTy ts)), (1, AV.sl 3 (List.map encFl fs)), (5, AV.elt 3 [[AV.i x, AV.i y, AV.i z]] 0 0), (6, AV.bool false), (7, AV.i (rTot ts fs x y z)), (8, AV.i (chkP ts fs x y z)), (9, AV.sl 1 (List.map encI
   (rPar ts fs x y z))), (10, AV.i (chkP ts fs x y z)), (11, AV.str (rLou ts fs x y z)), (12, AV.i (chkL ts fs x y z)), (13, AV.i (sFirst [chkG ts fs, sPlace x y z])), (14, AV.i (sFirst [chkG ts fs, sPlace x y z])), (15, AV.i 0), (16,
   AV.str []), (17, AV.sl 1 [])] [] 1 = AS.mk [(0, AV.sl 13 (List.map encTy ts)), (1, AV.sl 3 (List.map encFl fs)), (5, AV.elt 3 [[AV.i x, AV.i y, AV.i z]] 0 0), (6, AV.bool false), (7, AV.i (rTot ts fs x y z)), (8, AV.i (chkP ts fs x
   y z)), (9, AV.sl 1 (List.map encI (rPar ts fs x y z))), (10, AV.i (chkP ts fs x y z)), (11, AV.str (rLou ts fs x y z)), (12, AV.i (chkL ts fs x y z)), (13, AV.i (sFirst [chkG ts fs, sPlace x y z])), (14, AV.i (sFirst [chkG ts fs,
   sPlace x y z])), (15, AV.i 0), (16, AV.str []), (17, AV.sl 1 [])] [] 1 ∧ AS.mk [(0, AV.sl 13 (List.map encTy ts)), (1, AV.sl 3 (List.map encFl fs)), (5, AV.elt 3 [[AV.i x, AV.i y, AV.i z]] 0 0), (6, AV.bool false), (7, AV.i (rTot
   ts fs x y z)), (8, AV.i (chkP ts fs x y z)), (9, AV.sl 1 (List.map encI (rPar ts fs x y z))), (10, AV.i (chkP ts fs x y z)), (11, AV.str (rLou ts fs x y z)), (12, AV.i (chkL ts fs x y z)), (13, AV.i (sFirst [chkG ts fs, sPlace x y
   z])), (14, AV.i (sFirst [chkG ts fs, sPlace x y z])), (15, AV.i 0), (16, AV.str []), (17, AV.sl 1 []), (59, AV.bool (sFirst [chkG ts fs, sPlace x y z] == 0))] [] 1 = AS.mk [(0, AV.sl 13 (List.map encTy ts)), (1, AV.sl 3 (List.map
   encFl fs)), (5, AV.elt 3 [[AV.i x, AV.i y, AV.i z]] 0 0), (6, AV.bool false), (7, AV.i (rTot ts fs x y z)), (8, AV.i (chkP ts fs x y z)), (9, AV.sl 1 (List.map encI (rPar ts fs x y z))), (10, AV.i (chkP ts fs x y z)), (11, AV.str
   (rLou ts fs x y z)), (12, AV.i (chkL ts fs x y z)), (13, AV.i (sFirst [chkG ts fs, sPlace x y z])), (14, AV.i (sFirst [chkG ts fs, sPlace x y z])), (15, AV.i 0), (16, AV.str []), (17, AV.sl 1 []), (59, AV.bool (sFirst [chkG ts fs,
   sPlace x y z] == 0))] [] 1 ∧ (((sFirst [chkG ts fs, sPlace x y z] == 0) = true → PCall Tryz.prog G0 67 [AV.sl 13 (List.map encTy ts), AV.sl 3 (List.map encFl fs), AV.agg [AV.i x, AV.i y, AV.i z]] (AV.i (sSum (List.map (expF ts x y
   z) fs))) ∧ PCall Tryz.prog G0 68 [AV.sl 13 (List.map encTy ts), AV.sl 3 (List.map encFl fs), AV.agg [AV.i x, AV.i y, AV.i z]] (AV.sl 1 (List.map encI (List.map (expF ts x y z) fs))) ∧ PCall Tryz.prog G0 69 [AV.sl 13 (List.map encTy
   ts), AV.sl 3 (List.map encFl fs), AV.agg [AV.i x, AV.i y, AV.i z]] (AV.tup [AV.str (louR ts fs x y z), AV.i (louE fs)]) ∧ AS.mk [(0, AV.sl 13 (List.map encTy ts)), (1, AV.sl 3 (List.map encFl fs)), (5, AV.elt 3 [[AV.i x, AV.i y,
   AV.i z]] 0 0), (6, AV.bool false), (7, AV.i (rTot ts fs x y z)), (8, AV.i (chkP ts fs x y z)), (9, AV.sl 1 (List.map encI (rPar ts fs x y z))), (10, AV.i (chkP ts fs x y z)), (11, AV.str (rLou ts fs x y z)), (12, AV.i (chkL ts fs x
   y z)), (13, AV.i (sFirst [chkG ts fs, sPlace x y z])), (14, AV.i (louE fs)), (15, AV.i (sSum (List.map (expF ts x y z) fs))), (16, AV.str (louR ts fs x y z)), (17, AV.sl 1 (List.map encI (List.map (expF ts x y z) fs)))] [] 1 =
   AS.mk [(0, AV.sl 13 (List.map encTy ts)), (1, AV.sl 3 (List.map encFl fs)), (5, AV.elt 3 [[AV.i x, AV.i y, AV.i z]] 0 0), (6, AV.bool false), (7, AV.i (rTot ts fs x y z)), (8, AV.i (chkP ts fs x y z)), (9, AV.sl 1 (List.map encI
   (rPar ts fs x y z))), (10, AV.i (chkP ts fs x y z)), (11, AV.str (rLou ts fs x y z)), (12, AV.i (chkL ts fs x y z)), (13, AV.i (sFirst [chkG ts fs, sPlace x y z])), (14, AV.i (chkL ts fs x y z)), (15, AV.i (rTot ts fs x y z)), (16,
   AV.str (rLou ts fs x y z)), (17, AV.sl 1 (List.map encI (rPar ts fs x y z)))] [] 1) ∧ ((sFirst [chkG ts fs, sPlace x y z] == 0) = false → AS.mk [(0, AV.sl 13 (List.map encTy ts)), (1, AV.sl 3 (List.map encFl fs)), (5, AV.elt 3
   [[AV.i x, AV.i y, AV.i z]] 0 0), (6, AV.bool false), (7, AV.i (rTot ts fs x y z)), (8, AV.i (chkP ts fs x y z)), (9, AV.sl 1 (List.map encI (rPar ts fs x y z))), (10, AV.i (chkP ts fs x y z)), (11, AV.str (rLou ts fs x y z)), (12,
   AV.i (chkL ts fs x y z)), (13, AV.i (sFirst [chkG ts fs, sPlace x y z])), (14, AV.i (sFirst [chkG ts fs, sPlace x y z])), (15, AV.i 0), (16, AV.str []), (17, AV.sl 1 [])] [] 1 = AS.mk [(0, AV.sl 13 (List.map encTy ts)), (1, AV.sl 3
   (List.map encFl fs)), (5, AV.elt 3 [[AV.i x, AV.i y, AV.i z]] 0 0), (6, AV.bool false), (7, AV.i (rTot ts fs x y z)), (8, AV.i (chkP ts fs x y z)), (9, AV.sl 1 (List.map encI (rPar ts fs x y z))), (10, AV.i (chkP ts fs x y z)),
   (11, AV.str (rLou ts fs x y z)), (12, AV.i (chkL ts fs x y z)), (13, AV.i (sFirst [chkG ts fs, sPlace x y z])), (14, AV.i (chkL ts fs x y z)), (15, AV.i (rTot ts fs x y z)), (16, AV.str (rLou ts fs x y z)), (17, AV.sl 1 (List.map
   encI (rPar ts fs x y z)))] [] 1)) ∧ PCall Tryz.prog G0 62 [AV.sl 13 (List.map encTy ts)] (AV.sl 13 (List.map encTy ts)) ∧ PCall Tryz.prog G0 63 [AV.sl 3 (List.map encFl fs)] (AV.sl 3 (List.map encFl fs)) ∧ PCall Tryz.prog G0 70
   [AV.sl 13 (List.map encTy ts), AV.sl 3 (List.map encFl fs)] (AV.i (chkF ts fs)) ∧ PCall Tryz.prog G0 66 [AV.sl 13 (List.map encTy ts), AV.sl 3 (List.map encFl fs)] (AV.i (chkG ts fs)) ∧ AV.bool (chkF ts fs == chkG ts fs) = AV.bool
   true ∧ AV.bool (rTot ts fs x y z == rTot ts fs x y z) = AV.bool true ∧ AV.bool (chkP ts fs x y z == sFirst [chkG ts fs, sPlace x y z]) = AV.bool true ∧ PCall Tryz.prog G0 54 [AV.sl 1 (List.map encI (rPar ts fs x y z)), AV.sl 1
   (List.map encI (rPar ts fs x y z))] (AV.bool true) ∧ AV.bool (chkP ts fs x y z == sFirst [chkG ts fs, sPlace x y z]) = AV.bool true ∧ AV.bool (rLou ts fs x y z == rLou ts fs x y z) = AV.bool true ∧ AV.bool (chkL ts fs x y z == chkL
   ts fs x y z) = AV.bool true ∧ PCall Tryz.prog G0 13 [] (AV.bool true) ∧ AV.bool true = AV.bool true := by
    have hs : sSF ts fs = true := by simpa using h0
    obtain ⟨n1, n2, hS, hF⟩ := sf_of hs
    have k62 := (c62 ts (by omega) hS).un
    have k63 := (c63 fs (by omega) (fun f hf => (hF f hf).2.2)).un
    have k61 := c61 ts fs x y z (by omega) (by omega) hS hF
    have k64 := c64 ts fs x y z (by omega) (by omega) hS hF
    have k65 := c65 ts fs x y z (by omega) (by omega) hS hF
    have k66 := c66 ts fs (by omega) (by omega) hS hF
    have k70 := c70 ts fs (by omega) (by omega) hS hF
    have k54 := c54 (rPar ts fs x y z) (rPar ts fs x y z) (by have := rPar_len ts fs x y z; omega)
    rw [beq_self_eq_true] at k54
    have eP : sFirst [chkG ts fs, sPlace x y z] = chkP ts fs x y z := by rw [← chkF_eq]; rfl
    refine ⟨rfl, ⟨c60 ts fs hl hm hst, congrArg AV.bool h0, rfl⟩, rfl, ⟨k62, k63, k61, rfl⟩, ⟨k62, k63, k64, rfl⟩, ⟨k62, k63, k65, rfl⟩, ⟨k66, c35 x y z, c16 [_, _] (by simp), rfl⟩, rfl, rfl, rfl, ⟨fun h => ?_, fun h => ?_⟩, k62, k63, k70, k66, by rw [chkF_eq, beq_self_eq_true], by rw [beq_self_eq_true], by rw [eP, beq_self_eq_true], k54, by rw [eP, beq_self_eq_true], by rw [beq_self_eq_true], by rw [beq_self_eq_true], hA, rfl⟩
    · rw [eP] at h
      have hz : chkP ts fs x y z = 0 := by simpa using h
      have hz' := hz
      unfold chkP at hz'
      rw [first_zero, first_zero] at hz'
      obtain ⟨a, b, _⟩ := hz'
      have p := place_ok b
      have ok := fl_ok a
      obtain ⟨q1, q2, q3, q4⟩ := good_eq hz
      rw [q1, q2, q3, q4]
      exact ⟨c67 ts fs x y z (by omega) (by omega) ok p.1 p.2.1 p.2.2, (c68 ts fs x y z (by omega) (by omega) ok p.1 p.2.1 p.2.2).un, c69 ts fs x y z (by omega) (by omega) ok p.1 p.2.1 p.2.2, rfl⟩
    · rw [eP] at h ⊢
      obtain ⟨q1, q2, q3, q4⟩ := bad_eq (bne_beq h)
      rw [q1, q2, q3, q4]
      rfl
  exact c_ofG Tryz.f9 (B9 ts fs x y z [(1, 3, rdF)]) (m9 ts fs x y z) (by kernel_rfl) (by kernel_rfl) (by kernel_rfl) (by kernel_rfl) key (by kernel_rfl)
theorem c9 (ts : List Ty) (fs : List Fl) (x y z : Int) (hA : PCall Tryz.prog G0 13 [] (.bool true)) (hl : ts.length ≤ maxLen) (hm : fs.length ≤ maxLen) (hst : ∀ t, t ∈ ts → t.st.length ≤ maxLen) : PCall Tryz.prog G0 9 [.sl 13 (ts.map encTy), .sl 3 (fs.map encFl), .agg [.i x, .i y, .i z]] (.bool true) := by
  cases h0 : (!sSF ts fs) with
  | true => exact c9_0 ts fs x y z hA hl hm hst h0
  | false => exact c9_ok ts fs x y z hA hl hm hst h0
end Go.Proofs.YtjhjmncjidbieaaGreatDoor
namespace Go.Proofs.YtjhjmncjidbieaaGreatDoor
open Go Go.Av Go.RowKit
def aggOf : Option AV → Option (List AV)
  | some (.agg s) => some s
  | _ => none
def intOf : Option AV → Option Int
  | some (.int .i64 n) => some n
  | _ => none
theorem aggOf_ok {x : Option AV} {s : List AV} (h : aggOf x = some s) : x = some (.agg s) := by
  cases x with
  | none => cases h
  | some v => cases v <;> simp [aggOf] at h; rw [h]
theorem intOf_ok {x : Option AV} {n : Int} (h : intOf x = some n) : x = some (.i n) := by
  cases x with
  | none => cases h
  | some v => cases v <;> simp [intOf] at h; rename_i k m; cases k <;> simp at h; rw [h]
def stOf (rec : Nat → List AV → Option AV) (rows : List (List AV)) (a : Int) (i : Nat) : Option (List AV) := aggOf (rec 126 [.sl 5 rows, .i (a + i)])
def hrOf (rec : Nat → List AV → Option AV) (tc r : List AV) (s : List AV) : Option Int := intOf (rec 117 [.agg tc, .agg s, .agg r])
def sqH (rec : Nat → List AV → Option AV) (f : Nat) (cap : List AV) : Option (List (List AV)) :=
  match cap with
  | [.elt 2 [[.int .i64 a, .int .i64 b]] 0 0, .elt 13 [[c0, c1, c2, c3, c4, c5, c6, c7, c8, c9, c10, c11, c12]] 0 0, .elt 1 [[.sl 5 rows]] 0 0, .elt 3 [[.int .i64 rx, .int .i64 ry, .int .i64 rz]] 0 0] =>
    if Nat.beq f 144 && (decide (-1000000000 ≤ a) && (decide (b ≤ 1000000000) && (List.range (b - a).toNat).all fun i => match stOf rec rows a i with
        | some s => (hrOf rec [c0, c1, c2, c3, c4, c5, c6, c7, c8, c9, c10, c11, c12] [.i rx, .i ry, .i rz] s).isSome
        | none => false)) then
      some (hrL a (fun i => (hrOf rec [c0, c1, c2, c3, c4, c5, c6, c7, c8, c9, c10, c11, c12] [.i rx, .i ry, .i rz] ((stOf rec rows a i).getD [])).getD 0) (b - a).toNat)
    else none
  | _ => none
theorem sqH_ok (rec : Nat → List AV → Option AV) (hrec : ∀ f args r, rec f args = some r → PCall Tryz.prog G0 f args r) (f : Nat) (cap : List AV) (L : List (List AV)) (h : sqH rec f cap = some L) : PSeq Tryz.prog G0 f cap L := by
  unfold sqH at h
  split at h
  · rename_i a b c0 c1 c2 c3 c4 c5 c6 c7 c8 c9 c10 c11 c12 rows rx ry rz
    split at h
    · rename_i hb
      simp only [Bool.and_eq_true, decide_eq_true_eq, List.all_eq_true, List.mem_range] at hb
      obtain ⟨h1, h2, h3, h4⟩ := hb
      have := Nat.eq_of_beq_eq_true h1
      subst this
      cases h
      have key : ∀ i : Nat, i < (b - a).toNat → ∃ s n, stOf rec rows a i = some s ∧ hrOf rec [c0, c1, c2, c3, c4, c5, c6, c7, c8, c9, c10, c11, c12] [.i rx, .i ry, .i rz] s = some n := fun i hi => by
        have := h4 i hi
        split at this
        · rename_i s hs
          obtain ⟨n, hn⟩ := Option.isSome_iff_exists.1 this
          exact ⟨s, n, hs, hn⟩
        · cases this
      refine s144 a b c0 c1 c2 c3 c4 c5 c6 c7 c8 c9 c10 c11 c12 rows rx ry rz (fun i => (stOf rec rows a i).getD []) (fun s => (hrOf rec [c0, c1, c2, c3, c4, c5, c6, c7, c8, c9, c10, c11, c12] [.i rx, .i ry, .i rz] s).getD 0) h2 h3 (fun i hi => ?_) (fun i hi => ?_)
      · obtain ⟨s, n, hs, hn⟩ := key i hi
        rw [hs]
        exact hrec _ _ _ (aggOf_ok hs)
      · obtain ⟨s, n, hs, hn⟩ := key i hi
        simp only [hs, Option.getD_some, hn]
        exact hrec _ _ _ (intOf_ok hn)
    · cases h
  · cases h
end Go.Proofs.YtjhjmncjidbieaaGreatDoor
namespace Go.Proofs
open Go.Shelf
def Tryz.lays156_ren : Go.Shelf.Ren := ⟨fun | 156 => 161 | 165 => 173 | 166 => 174 | 169 => 175 | 240 => 182 | 241 => 183 | 276 => 190 | 277 => 191 | n => n, fun | 31 => 160 | 9 => 9 | 3 => 3 | 4 => 4 | 0 => 0 | 20 => 20 | 72 => 261 | 76 => 265 | 70 => 258 | 37 => 259 | 75 => 264 | 127 => 270 | 164 => 274 | 5 => 5 | 80 => 229 | n => n, fun | n => n⟩
theorem Tryz.lays156 : Go.Proofs.Lays.n156 Tryz.prog Tryz.lays156_ren := {
  mixed := by kernel_rfl
  f156 := Tryz.func161.trans (congrArg some (by kernel_rfl))
  f165 := Tryz.func173.trans (congrArg some (by kernel_rfl))
  f166 := Tryz.func174.trans (congrArg some (by kernel_rfl))
  f169 := Tryz.func175.trans (congrArg some (by kernel_rfl))
  f240 := Tryz.func182.trans (congrArg some (by kernel_rfl))
  f241 := Tryz.func183.trans (congrArg some (by kernel_rfl))
  f276 := Tryz.func190.trans (congrArg some (by kernel_rfl))
  f277 := Tryz.func191.trans (congrArg some (by kernel_rfl))
  t0 := Tryz.underlying0
  a0 := Tryz.isAgg0
  z0 := Tryz.sizeOf0
  v0 := Tryz.zeroValue0
  t3 := Tryz.underlying3
  a3 := Tryz.isAgg3
  z3 := Tryz.sizeOf3
  v3 := Tryz.zeroValue3
  t4 := Tryz.underlying4
  a4 := Tryz.isAgg4
  z4 := Tryz.sizeOf4
  v4 := Tryz.zeroValue4
  t9 := Tryz.underlying9
  a9 := Tryz.isAgg9
  z9 := Tryz.sizeOf9
  v9 := Tryz.zeroValue9
  t20 := Tryz.underlying20
  a20 := Tryz.isAgg20
  z20 := Tryz.sizeOf20
  v20 := Tryz.zeroValue20
  t31 := Tryz.underlying160
  a31 := Tryz.isAgg160
  z31 := Tryz.sizeOf160
  v31 := Tryz.zeroValue160
  t37 := Tryz.underlying259
  a37 := Tryz.isAgg259
  z37 := Tryz.sizeOf259
  v37 := Tryz.zeroValue259
  t70 := Tryz.underlying258
  a70 := Tryz.isAgg258
  z70 := Tryz.sizeOf258
  v70 := Tryz.zeroValue258
  t72 := Tryz.underlying261
  a72 := Tryz.isAgg261
  z72 := Tryz.sizeOf261
  v72 := Tryz.zeroValue261
  t75 := Tryz.underlying264
  a75 := Tryz.isAgg264
  z75 := Tryz.sizeOf264
  v75 := Tryz.zeroValue264
  t76 := Tryz.underlying265
  a76 := Tryz.isAgg265
  z76 := Tryz.sizeOf265
  v76 := Tryz.zeroValue265
  t127 := Tryz.underlying270
  a127 := Tryz.isAgg270
  z127 := Tryz.sizeOf270
  v127 := Tryz.zeroValue270
  t164 := Tryz.underlying274
  a164 := Tryz.isAgg274
  z164 := Tryz.sizeOf274
  v164 := Tryz.zeroValue274 }
theorem Tryz.Builder_Extra_156 : Builder.Extra Tryz.prog Tryz.lays156_ren := {
  sizeBuilder := by kernel_rfl
  liesBuilder := by kernel_rfl
  t5 := Tryz.underlying5
  a5 := Tryz.isAgg5
  z5 := Tryz.sizeOf5
  v5 := Tryz.zeroValue5
  infoByte := by kernel_rfl
  cellsByte := by kernel_rfl
  sizeByte := by kernel_rfl
  neB5 := by decide }
open Go.RowKit in
theorem Tryz.strings_Join_none (a : Option Addr) (c : Nat) (sep : ByteArray) (w : World) :
    Calls Tryz.prog 161 #[.slice a 0 c, .string sep] w fun e w' => e = .returned (.string ⟨#[]⟩) ∧ w' = w := Any.strings_Join_none Tryz.lays156 Tryz.Builder_Extra_156 a c sep w
open Go.RowKit in
theorem Tryz.strings_Join (bk o c : Nat) (xs : List ByteArray) (sep : ByteArray) (w : World) (hcells : ∀ (j : Nat) x, xs[j]? = some x → w.cell? ⟨bk, o + j, none⟩ = some (.string x)) (hbk : bk < w.heap.size) (hN : xs.length ≤ 140737488355328) (hcap : xs.length ≤ c) (hlen : (Lib.join (xs.map (·.data.toList)) sep.data.toList).length ≤ 140737488355328) :
    Calls Tryz.prog 161 #[.slice (some ⟨bk, o, none⟩) xs.length c, .string sep] w fun e w' => e = .returned (.string ⟨(Lib.join (xs.map (·.data.toList)) sep.data.toList).toArray⟩) ∧ Below w.heap.size w w' := Any.strings_Join Tryz.lays156 Tryz.Builder_Extra_156 bk o c xs sep w hcells hbk hN hcap hlen
def Tryz.laysM171_ren : Go.Shelf.Ren := ⟨fun | 171 => 163 | 243 => 176 | 246 => 184 | 283 => 192 | 284 => 193 | 285 => 194 | 286 => 195 | 129 => 201 | 317 => 200 | 318 => 202 | 319 => 203 | 320 => 204 | 337 => 206 | 338 => 207 | n => n, fun | 3 => 3 | 9 => 9 | 2 => 2 | 4 => 4 | 171 => 277 | 0 => 0 | 53 => 278 | 37 => 259 | 5 => 5 | 173 => 281 | 212 => 285 | 51 => 78 | 20 => 20 | 213 => 286 | 46 => 283 | 232 => 295 | 233 => 296 | n => n, fun | 17 => 4 | 18 => 7 | 19 => 8 | n => n⟩
theorem Tryz.laysM171 : Go.Proofs.LaysM.n171 Tryz.prog Tryz.laysM171_ren := {
  mixed := by kernel_rfl
  f129 := Tryz.func201.trans (congrArg some (by kernel_rfl))
  f171 := Tryz.func163.trans (congrArg some (by kernel_rfl))
  f243 := Tryz.func176.trans (congrArg some (by kernel_rfl))
  f246 := Tryz.func184.trans (congrArg some (by kernel_rfl))
  f283 := Tryz.func192.trans (congrArg some (by kernel_rfl))
  f284 := Tryz.func193.trans (congrArg some (by kernel_rfl))
  f285 := Tryz.func194.trans (congrArg some (by kernel_rfl))
  f286 := Tryz.func195.trans (congrArg some (by kernel_rfl))
  f317 := Tryz.func200.trans (congrArg some (by kernel_rfl))
  f318 := Tryz.func202.trans (congrArg some (by kernel_rfl))
  f319 := Tryz.func203.trans (congrArg some (by kernel_rfl))
  f320 := Tryz.func204.trans (congrArg some (by kernel_rfl))
  f337 := Tryz.func206.trans (congrArg some (by kernel_rfl))
  f338 := Tryz.func207.trans (congrArg some (by kernel_rfl))
  t0 := Tryz.underlying0
  a0 := Tryz.isAgg0
  z0 := Tryz.sizeOf0
  v0 := Tryz.zeroValue0
  t2 := Tryz.underlying2
  a2 := Tryz.isAgg2
  z2 := Tryz.sizeOf2
  v2 := Tryz.zeroValue2
  t3 := Tryz.underlying3
  a3 := Tryz.isAgg3
  z3 := Tryz.sizeOf3
  v3 := Tryz.zeroValue3
  t4 := Tryz.underlying4
  a4 := Tryz.isAgg4
  z4 := Tryz.sizeOf4
  v4 := Tryz.zeroValue4
  t5 := Tryz.underlying5
  a5 := Tryz.isAgg5
  z5 := Tryz.sizeOf5
  v5 := Tryz.zeroValue5
  t9 := Tryz.underlying9
  a9 := Tryz.isAgg9
  z9 := Tryz.sizeOf9
  v9 := Tryz.zeroValue9
  t20 := Tryz.underlying20
  a20 := Tryz.isAgg20
  z20 := Tryz.sizeOf20
  v20 := Tryz.zeroValue20
  t37 := Tryz.underlying259
  a37 := Tryz.isAgg259
  z37 := Tryz.sizeOf259
  v37 := Tryz.zeroValue259
  t46 := Tryz.underlying283
  a46 := Tryz.isAgg283
  z46 := Tryz.sizeOf283
  v46 := Tryz.zeroValue283
  t51 := Tryz.underlying78
  a51 := Tryz.isAgg78
  z51 := Tryz.sizeOf78
  v51 := Tryz.zeroValue78
  t53 := Tryz.underlying278
  a53 := Tryz.isAgg278
  z53 := Tryz.sizeOf278
  v53 := Tryz.zeroValue278
  t171 := Tryz.underlying277
  a171 := Tryz.isAgg277
  z171 := Tryz.sizeOf277
  v171 := Tryz.zeroValue277
  t173 := Tryz.underlying281
  a173 := Tryz.isAgg281
  z173 := Tryz.sizeOf281
  v173 := Tryz.zeroValue281
  t212 := Tryz.underlying285
  a212 := Tryz.isAgg285
  z212 := Tryz.sizeOf285
  v212 := Tryz.zeroValue285
  t213 := Tryz.underlying286
  a213 := Tryz.isAgg286
  z213 := Tryz.sizeOf286
  t232 := Tryz.underlying295
  a232 := Tryz.isAgg295
  z232 := Tryz.sizeOf295
  v232 := Tryz.zeroValue295
  t233 := Tryz.underlying296
  a233 := Tryz.isAgg296
  z233 := Tryz.sizeOf296
  v233 := Tryz.zeroValue296
  g17 := by kernel_rfl
  g18 := by kernel_rfl
  g19 := by kernel_rfl
  i0 := by kernel_rfl
  i2 := by kernel_rfl
  i3 := by kernel_rfl
  i4 := by kernel_rfl
  i5 := by kernel_rfl
  i9 := by kernel_rfl
  i20 := by kernel_rfl
  i37 := by kernel_rfl
  i46 := by kernel_rfl
  i51 := by kernel_rfl
  i53 := by kernel_rfl
  i171 := by kernel_rfl
  i173 := by kernel_rfl
  i212 := by kernel_rfl
  i232 := by kernel_rfl
  i233 := by kernel_rfl
  m17 := by kernel_rfl
  m18 := by kernel_rfl
  m19 := by kernel_rfl }
open Go.RowKit Go.Sort Go.Lib in
theorem Tryz.strconv_Itoa (n : Int) (h0 : -9223372036854775808 ≤ n) (h1 : n ≤ 9223372036854775807) (w : World) (htab : Lib.TabIs Tryz.prog w "internal/strconv.uint64pow10" .u64 Lib.pow10Tab) :
    Calls Tryz.prog 163 #[.int .i64 n] w fun e w' => e = .returned (.string ⟨(Lib.itoa n).toArray⟩) ∧ ∃ k os, w' = grow (w.drewN k) os := Any.strconv_Itoa Tryz.laysM171 n h0 h1 w htab
end Go.Proofs
namespace Go.Proofs.YtjhjmncjidbieaaGreatDoor
open Go Go.Av Go.RowKit
theorem rep_int {X : Nat → Prop} {w : World} {v : Value} {k : IntKind} {n : Int} (h : Rep X w v (.int k n)) : v = .int k n := by cases h; rfl
theorem rep_str {X : Nat → Prop} {w : World} {v : Value} {l : List UInt8} (h : Rep X w v (.str l)) : v = .string ⟨l.toArray⟩ := by cases h; rfl
theorem elt_cells {X : Nat → Prop} {w : World} {pv : Value} {k i0 j0 : Nat} {rows : List (List AV)} (h : Rep X w pv (.elt k rows i0 j0)) : ∃ b o, pv = .pointer (some ⟨b, o + i0 * k + j0, none⟩) ∧ ∃ cv : Nat → Nat → Value,
    (∀ i, i < rows.length → ∀ j, j < k → w.cell? ⟨b, o + i * k + j, none⟩ = some (cv i j)) ∧ ∀ i, i < rows.length → ∀ j, j < k → Rep X w (cv i j) (nth (nthR rows i) j) := by
  cases h with
  | elt b o k rows i0 j0 cv hb hX hi hk hc hr h1 => exact ⟨b, o, rfl, cv, hc, hr⟩
theorem glob_ints {X : Nat → Prop} {w : World} {g : Nat} {zs : List Int} {q : IntKind} (h : GlobOK X w g (zs.map fun z => AV.int q z)) : ∃ cs T z, w.heap[g]? = some (.cells cs T z) ∧ cs = (zs.map fun z => Value.int q z).toArray := by
  obtain ⟨h1, cs, T, z, h2, h3⟩ := h
  refine ⟨cs, T, z, h2, ?_⟩
  rw [List.length_map] at h3
  obtain ⟨b, o, hp, cv, hc, hr⟩ := elt_cells h1
  simp only [Value.pointer.injEq, Option.some.injEq, Addr.mk.injEq, Nat.zero_mul, Nat.add_zero] at hp
  obtain ⟨rfl, rfl, -⟩ := hp
  refine Array.ext (by simp [h3]) fun i hi1 hi2 => ?_
  have hik : i < zs.length := by omega
  have e1 := hc 0 (by simp) i (by simpa using hik)
  have e2 := hr 0 (by simp) i (by simpa using hik)
  have e3 : nth (nthR [zs.map fun z => AV.int q z] 0) i = .int q zs[i] := by
    simp [nthR, nth, List.getD_eq_getElem?_getD, hik]
  rw [e3] at e2
  have e4 := rep_int e2
  rw [e4] at e1
  simp only [Nat.zero_mul, Nat.add_zero, Nat.zero_add] at e1
  have e5 : w.cell? ⟨g, i, none⟩ = cs[i]? := by unfold World.cell?; simp [h2]
  rw [e5, Array.getElem?_eq_getElem hi1] at e1
  simp only [Option.some.injEq] at e1
  rw [e1]
  simp
theorem tab_of {w : World} {X : Nat → Prop} (h : GlobOK X w 4 (Lib.pow10Tab.map fun z => AV.int .u64 z)) : Lib.TabIs Tryz.prog w "internal/strconv.uint64pow10" .u64 Lib.pow10Tab := by
  obtain ⟨cs, T, z, h2, h3⟩ := glob_ints h
  unfold Lib.TabIs World.var?
  rw [show Tryz.prog.globalNamed "internal/strconv.uint64pow10" = some 4 by kernel_rfl]
  simp only [Option.bind_some, h2, h3]
theorem c163 (n : Int) (h : In64 n) : PCall Tryz.prog G0 163 [.i n] (.str (Lib.itoa n)) := by
  refine ⟨⟨Tryz.f163, bodyOf Tryz.f163, by kernel_rfl, by kernel_rfl, by kernel_rfl⟩, fun w X vs hX hG hz => ?_⟩
  obtain ⟨h1, h2⟩ := hz
  obtain ⟨v, rfl⟩ : ∃ v, vs = #[v] := by
    obtain ⟨l⟩ := vs
    match l, h1 with
    | [v], _ => exact ⟨v, rfl⟩
  have hv := rep_int (h2 0 v (.i n) rfl rfl)
  subst hv
  refine (Tryz.strconv_Itoa n h.1 h.2 w (tab_of (hG 4 _ (by kernel_rfl)))).mono fun e w' ⟨he, k, os, hw⟩ => ⟨_, he, ?_, .str _⟩
  subst hw
  exact ⟨rfl, rfl, rfl, by show w.heap.size ≤ (w.heap ++ os).size; simp, fun i hi => by
    show (w.heap ++ os)[i]? = _
    rw [Array.getElem?_append_left hi]⟩
theorem c161 (xs : List (List UInt8)) (sep : List UInt8) (hn : xs.length ≤ 140737488355328) (hl : (Lib.join xs sep).length ≤ 140737488355328) : PCall Tryz.prog G0 161 [.sl 1 (xs.map fun x => [.str x]), .str sep] (.str (Lib.join xs sep)) := by
  refine ⟨⟨Tryz.f161, bodyOf Tryz.f161, by kernel_rfl, by kernel_rfl, by kernel_rfl⟩, fun w X vs hX hG hz => ?_⟩
  obtain ⟨h1, h2⟩ := hz
  obtain ⟨v, s, rfl⟩ : ∃ v s, vs = #[v, s] := by
    obtain ⟨l⟩ := vs
    match l, h1 with
    | [v, s], _ => exact ⟨v, s, rfl⟩
  have hs := rep_str (h2 1 s (.str sep) rfl rfl)
  subst hs
  have hv := h2 0 v _ rfl rfl
  clear h1 h2
  generalize hr : (xs.map fun x => [AV.str x]) = rows at hv
  have hlen : rows.length = xs.length := by rw [← hr]; simp
  cases hv with
  | slE a cap =>
    have : xs = [] := by simpa using hr
    subst this
    exact (Tryz.strings_Join_none a cap _ w).mono fun e w' ⟨he, hw⟩ => ⟨_, he, by rw [hw]; exact Below.refl _ _, .str _⟩
  | sl b o cap k rows cv hb hX2 hcap hmax hk hc hrr h1 =>
    have key := Tryz.strings_Join b o cap (xs.map fun x => ⟨x.toArray⟩) ⟨sep.toArray⟩ w (fun j x hx => ?_) hb (by simpa using hn) (by simp; omega) (by
      rw [List.map_map, show ((fun x : ByteArray => x.data.toList) ∘ fun x : List UInt8 => (⟨x.toArray⟩ : ByteArray)) = id by funext x; simp, List.map_id]
      exact hl)
    · rw [List.map_map, show ((fun x : ByteArray => x.data.toList) ∘ fun x : List UInt8 => (⟨x.toArray⟩ : ByteArray)) = id by funext x; simp, List.map_id] at key
      rw [List.length_map] at key
      rw [hlen]
      exact key.mono fun e w' ⟨he, hw⟩ => ⟨_, he, hw, .str _⟩
    · obtain ⟨y, hy, rfl⟩ : ∃ y, xs[j]? = some y ∧ (⟨y.toArray⟩ : ByteArray) = x := by
        rw [List.getElem?_map] at hx
        simpa using hx
      have hj : j < xs.length := (List.getElem?_eq_some_iff.1 hy).1
      have e1 := hc j (by omega) 0 (by omega)
      have e2 := hrr j (by omega) 0 (by omega)
      have e3 : nth (nthR rows j) 0 = .str y := by
        rw [← hr]
        simp [nthR, nth, List.getD_eq_getElem?_getD, hy]
      rw [e3] at e2
      rw [rep_str e2] at e1
      simpa using e1
end Go.Proofs.YtjhjmncjidbieaaGreatDoor
namespace Go.Proofs.YtjhjmncjidbieaaGreatDoor
open Go Go.Av Go.RowKit
def ddF : Nat → Nat → List UInt8
  | 0, u => [UInt8.ofNat (48 + u)]
  | k + 1, u => if u < 10 then [UInt8.ofNat (48 + u)] else ddF k (u / 10) ++ [UInt8.ofNat (48 + u % 10)]
theorem ddF_eq : ∀ (k u : Nat), u < 10 ^ (k + 1) → ddF k u = Lib.decDigits u
  | 0, u, h => by
    rw [Lib.decDigits, dif_pos (by simpa using h)]
    rfl
  | k + 1, u, h => by
    rw [Lib.decDigits, ddF]
    by_cases h10 : u < 10
    · rw [if_pos h10, dif_pos h10]
    · rw [if_neg h10, dif_neg h10, ddF_eq k (u / 10) (by rw [Nat.pow_succ] at h; omega)]
def strsOf : List (List AV) → Option (List (List UInt8))
  | [] => some []
  | [.str x] :: l => match strsOf l with
    | some m => some (x :: m)
    | none => none
  | _ => none
theorem strsOf_ok : ∀ {rows : List (List AV)} {xs : List (List UInt8)}, strsOf rows = some xs → rows = xs.map fun x => [.str x]
  | [], xs, h => by cases h; rfl
  | row :: l, xs, h => by
    unfold strsOf at h
    split at h
    · rename_i h1; cases h1
    · rename_i x m h1
      cases h1
      split at h
      · rename_i m hm
        cases h
        rw [strsOf_ok hm]
        rfl
      · cases h
    · cases h
def libO (f : Nat) : List AV → Option AV
  | [.int .i64 n] => if Nat.beq f 163 && (decide (0 ≤ n) && decide (n < 1000000000)) then some (.str (ddF 9 n.toNat)) else none
  | [.sl 1 rows, .str sep] => if Nat.beq f 161 then match strsOf rows with
      | some xs => if decide (xs.length ≤ 1000) && decide ((Lib.join xs sep).length ≤ 1000000) then some (.str (Lib.join xs sep)) else none
      | none => none
    else none
  | _ => none
theorem libO_ok (f : Nat) (a : List AV) (r : AV) (h : libO f a = some r) : PCall Tryz.prog G0 f a r := by
  unfold libO at h
  split at h
  · rename_i n
    split at h
    · rename_i hb
      simp only [Bool.and_eq_true, decide_eq_true_eq] at hb
      obtain ⟨h1, h2, h3⟩ := hb
      have := Nat.eq_of_beq_eq_true h1
      subst this
      cases h
      have := c163 n (by unfold In64; omega)
      rw [Lib.itoa, if_neg (by omega), ← ddF_eq 9 n.toNat (by omega)] at this
      exact this
    · cases h
  · rename_i rows sep
    split at h
    · rename_i h1
      have := Nat.eq_of_beq_eq_true h1
      subst this
      split at h
      · rename_i xs hxs
        split at h
        · rename_i hb
          simp only [Bool.and_eq_true, decide_eq_true_eq] at hb
          cases h
          rw [strsOf_ok hxs]
          exact c161 xs sep (by omega) (by omega)
        · cases h
      · cases h
    · cases h
  · cases h
def orcL (l : List Mem) (f : Nat) (a : List AV) : Option AV := match libO f a with
  | some r => some r
  | none => orcM l f a
theorem orcL_ok {l : List Mem} (hl : KnownM Tryz.prog G0 l) (f : Nat) (a : List AV) (r : AV) (h : orcL l f a = some r) : PCall Tryz.prog G0 f a r := by
  unfold orcL at h
  split at h
  · rename_i r' hr
    cases h
    exact libO_ok f a _ hr
  · exact orcM_ok hl f a r h
theorem ftok : FTOK Tryz.prog F0 := by unfold FTOK; kernel_rfl
theorem run_c {l : List Mem} (hl : KnownM Tryz.prog G0 l) {f : Nat} {a : List AV} {r : AV} (h : callM Tryz.prog T0 G0 F0 (orcL l) sqH 10000 60 f a = some r) : PCall Tryz.prog G0 f a r :=
  callM_ok tok mix ftok (orcL_ok hl) sqH_ok _ _ _ _ h
end Go.Proofs.YtjhjmncjidbieaaGreatDoor
namespace Go.Proofs.YtjhjmncjidbieaaGreatDoor
open Go Go.Av Go.RowKit
def awv0 : List (List AV) := [[.i 5, .i 0, .i 0, .i 0, .i 10], [.i 9, .i 8, .i 0, .i 0, .i 20]]
def awv1 : List (List AV) := [[.i 10, .sl 1 [[.i 1000], [.i 400]]], [.i 20, .sl 1 [[.i 2000], [.i 600]]]]
def awv2 : List AV := [.sl 5 awv0, .i 6]
def awv3 : List (List AV) := [[.i 1000], [.i 1000], [.i 1000], [.i 1000], [.i 500], [.i 500], [.i 500], [.i 500]]
def awv4 : List AV := [.sl 1 awv3]
def awv5 : List (List AV) := [[.i 100, .i 0, .i 0, .i 0, .i 100], [.i 103, .i 10, .i 0, .i 50, .i 80], [.i 104, .i 10, .i 5, .i 50, .i 80]]
def awv6 : List AV := [.str [111, 110, 101], .str [106, 101, 116], .sl 5 awv0]
def awv7 : List AV := [.str [116, 119, 111], .str [106, 101, 116], .sl 5 awv0]
def awv8 : List AV := [.str [111, 110, 101], .str [106, 101, 116], .sl 5 awv0, .i 2700]
def awv9 : List AV := [.str [116, 119, 111], .str [106, 101, 116], .sl 5 awv0, .i 2700]
def awv10 : List AV := [.str [106, 101, 116], .sl 1 [[.i 600], [.i 400]], .i 1000, .i 1000, .i 1000, .i 1000, .i 500, .i 500, .i 500, .i 500, .i 500, .sl 1 [[.i 0], [.i 100]], .sl 2 awv1]
def awv11 : List (List AV) := [awv10]
def awv12 : List (List AV) := [awv6, awv7]
def awv13 : List AV := [.agg awv10]
def awv14 : List AV := [.sl 13 awv11]
def awv15 : List (List AV) := [awv14]
def awv16 : List AV := [.agg awv10, .i 30, .i 0]
def awv17 : List AV := [.agg awv10, .i 15, .i 99]
def awv18 : List AV := [.agg awv10, .i 15, .i 100]
def awv19 : List (List AV) := [awv8, awv9]
def awv20 : List AV := [.agg awv10, .sl 5 awv0, .agg [.i 6, .i 8], .agg [.i 4, .i 2, .i 0]]
def awv21 : List AV := [.agg awv10, .sl 5 awv0, .agg [.i 0, .i 100000000], .agg [.i 4, .i 2, .i 0]]
def awv22 : List AV := [.sl 13 awv11, .sl 3 awv12, .agg [.i 4, .i 2, .i 0]]
def awM0 : List Mem := []
theorem awK0 : KnownM Tryz.prog G0 awM0 := KnownM.nil
theorem awc1 : PCall Tryz.prog G0 122 ([.str [106, 101, 116]]) (.bool true) := run_c awK0 (by kernel_rfl)
def awM1 : List Mem := ⟨122, [.str [106, 101, 116]], .bool true⟩ :: awM0
theorem awK1 : KnownM Tryz.prog G0 awM1 := KnownM.cons awc1 awK0
theorem awc2 : PCall Tryz.prog G0 123 ([.i 2, .i 8]) (.i 0) := run_c awK1 (by kernel_rfl)
def awM2 : List Mem := ⟨123, [.i 2, .i 8], .i 0⟩ :: awM1
theorem awK2 : KnownM Tryz.prog G0 awM2 := KnownM.cons awc2 awK1
theorem awc3 : PCall Tryz.prog G0 124 ([.sl 1 [[.i 600], [.i 400]], .i 1000]) (.i 0) := run_c awK2 (by kernel_rfl)
def awM3 : List Mem := ⟨124, [.sl 1 [[.i 600], [.i 400]], .i 1000], .i 0⟩ :: awM2
theorem awK3 : KnownM Tryz.prog G0 awM3 := KnownM.cons awc3 awK2
theorem awc4 : PCall Tryz.prog G0 87 ([.sl 1 [[.i 0], [.i 0], [.i 0], [.i 0]]]) (.i 0) := run_c awK3 (by kernel_rfl)
def awM4 : List Mem := ⟨87, [.sl 1 [[.i 0], [.i 0], [.i 0], [.i 0]]], .i 0⟩ :: awM3
theorem awK4 : KnownM Tryz.prog G0 awM4 := KnownM.cons awc4 awK3
theorem awc5 : PCall Tryz.prog G0 87 ([.sl 1 [[.i 0], [.i 0], [.i 0], [.i 0], [.i 0], [.i 0], [.i 0], [.i 0]]]) (.i 0) := run_c awK4 (by kernel_rfl)
def awM5 : List Mem := ⟨87, [.sl 1 [[.i 0], [.i 0], [.i 0], [.i 0], [.i 0], [.i 0], [.i 0], [.i 0]]], .i 0⟩ :: awM4
theorem awK5 : KnownM Tryz.prog G0 awM5 := KnownM.cons awc5 awK4
theorem awc6 : PCall Tryz.prog G0 124 ([.sl 1 awv3, .i 2000]) (.i 0) := run_c awK5 (by kernel_rfl)
def awM6 : List Mem := ⟨124, [.sl 1 awv3, .i 2000], .i 0⟩ :: awM5
theorem awK6 : KnownM Tryz.prog G0 awM6 := KnownM.cons awc6 awK5
theorem awc7 : PCall Tryz.prog G0 124 ([.sl 1 [[.i 0], [.i 100]], .i 100000000000]) (.i 0) := run_c awK6 (by kernel_rfl)
def awM7 : List Mem := ⟨124, [.sl 1 [[.i 0], [.i 100]], .i 100000000000], .i 0⟩ :: awM6
theorem awK7 : KnownM Tryz.prog G0 awM7 := KnownM.cons awc7 awK6
theorem awc8 : PCall Tryz.prog G0 123 ([.i 2, .i 6]) (.i 0) := run_c awK7 (by kernel_rfl)
def awM8 : List Mem := ⟨123, [.i 2, .i 6], .i 0⟩ :: awM7
theorem awK8 : KnownM Tryz.prog G0 awM8 := KnownM.cons awc8 awK7
theorem awc9 : PCall Tryz.prog G0 124 ([.sl 1 [[.i 1000], [.i 400]], .i 100000000]) (.i 0) := run_c awK8 (by kernel_rfl)
def awM9 : List Mem := ⟨124, [.sl 1 [[.i 1000], [.i 400]], .i 100000000], .i 0⟩ :: awM8
theorem awK9 : KnownM Tryz.prog G0 awM9 := KnownM.cons awc9 awK8
theorem awc10 : PCall Tryz.prog G0 124 ([.sl 1 [[.i 2000], [.i 600]], .i 100000000]) (.i 0) := run_c awK9 (by kernel_rfl)
def awM10 : List Mem := ⟨124, [.sl 1 [[.i 2000], [.i 600]], .i 100000000], .i 0⟩ :: awM9
theorem awK10 : KnownM Tryz.prog G0 awM10 := KnownM.cons awc10 awK9
theorem awc11 : PCall Tryz.prog G0 125 (awv13) (.i 0) := run_c awK10 (by kernel_rfl)
def awM11 : List Mem := ⟨125, awv13, .i 0⟩ :: awM10
theorem awK11 : KnownM Tryz.prog G0 awM11 := KnownM.cons awc11 awK10
theorem awc12 : PCall Tryz.prog G0 53 (awv13) (.i 0) := run_c awK11 (by kernel_rfl)
def awM12 : List Mem := ⟨53, awv13, .i 0⟩ :: awM11
theorem awK12 : KnownM Tryz.prog G0 awM12 := KnownM.cons awc12 awK11
theorem awc13 : PCall Tryz.prog G0 87 ([.sl 1 [[.i 0], [.i 0], [.i 0]]]) (.i 0) := run_c awK12 (by kernel_rfl)
def awM13 : List Mem := ⟨87, [.sl 1 [[.i 0], [.i 0], [.i 0]]], .i 0⟩ :: awM12
theorem awK13 : KnownM Tryz.prog G0 awM13 := KnownM.cons awc13 awK12
theorem awc14 : PCall Tryz.prog G0 114 (awv17) (.i 1500) := run_c awK13 (by kernel_rfl)
def awM14 : List Mem := ⟨114, awv17, .i 1500⟩ :: awM13
theorem awK14 : KnownM Tryz.prog G0 awM14 := KnownM.cons awc14 awK13
theorem awc15 : PCall Tryz.prog G0 40 (awv17) (.tup [.i 1500, .i 0]) := run_c awK14 (by kernel_rfl)
def awM15 : List Mem := ⟨40, awv17, .tup [.i 1500, .i 0]⟩ :: awM14
theorem awK15 : KnownM Tryz.prog G0 awM15 := KnownM.cons awc15 awK14
theorem awc16 : PCall Tryz.prog G0 114 (awv18) (.i 500) := run_c awK15 (by kernel_rfl)
def awM16 : List Mem := ⟨114, awv18, .i 500⟩ :: awM15
theorem awK16 : KnownM Tryz.prog G0 awM16 := KnownM.cons awc16 awK15
theorem awc17 : PCall Tryz.prog G0 40 (awv18) (.tup [.i 500, .i 0]) := run_c awK16 (by kernel_rfl)
def awM17 : List Mem := ⟨40, awv18, .tup [.i 500, .i 0]⟩ :: awM16
theorem awK17 : KnownM Tryz.prog G0 awM17 := KnownM.cons awc17 awK16
theorem awc18 : PCall Tryz.prog G0 114 (awv16) (.i 2000) := run_c awK17 (by kernel_rfl)
def awM18 : List Mem := ⟨114, awv16, .i 2000⟩ :: awM17
theorem awK18 : KnownM Tryz.prog G0 awM18 := KnownM.cons awc18 awK17
theorem awc19 : PCall Tryz.prog G0 40 (awv16) (.tup [.i 2000, .i 0]) := run_c awK18 (by kernel_rfl)
def awM19 : List Mem := ⟨40, awv16, .tup [.i 2000, .i 0]⟩ :: awM18
theorem awK19 : KnownM Tryz.prog G0 awM19 := KnownM.cons awc19 awK18
theorem awc20 : PCall Tryz.prog G0 104 ([.agg [.i 0, .i 0, .i 0]]) (.i 0) := run_c awK19 (by kernel_rfl)
def awM20 : List Mem := ⟨104, [.agg [.i 0, .i 0, .i 0]], .i 0⟩ :: awM19
theorem awK20 : KnownM Tryz.prog G0 awM20 := KnownM.cons awc20 awK19
theorem awc21 : PCall Tryz.prog G0 134 ([.agg [.i 5, .i 0, .i 0, .i 0, .i 10]]) (.i 0) := run_c awK20 (by kernel_rfl)
def awM21 : List Mem := ⟨134, [.agg [.i 5, .i 0, .i 0, .i 0, .i 10]], .i 0⟩ :: awM20
theorem awK21 : KnownM Tryz.prog G0 awM21 := KnownM.cons awc21 awK20
theorem awc22 : PCall Tryz.prog G0 104 ([.agg [.i 8, .i 0, .i 0]]) (.i 0) := run_c awK21 (by kernel_rfl)
def awM22 : List Mem := ⟨104, [.agg [.i 8, .i 0, .i 0]], .i 0⟩ :: awM21
theorem awK22 : KnownM Tryz.prog G0 awM22 := KnownM.cons awc22 awK21
theorem awc23 : PCall Tryz.prog G0 134 ([.agg [.i 9, .i 8, .i 0, .i 0, .i 20]]) (.i 0) := run_c awK22 (by kernel_rfl)
def awM23 : List Mem := ⟨134, [.agg [.i 9, .i 8, .i 0, .i 0, .i 20]], .i 0⟩ :: awM22
theorem awK23 : KnownM Tryz.prog G0 awM23 := KnownM.cons awc23 awK22
theorem awc24 : PCall Tryz.prog G0 76 ([.sl 5 awv0]) (.i 0) := run_c awK23 (by kernel_rfl)
def awM24 : List Mem := ⟨76, [.sl 5 awv0], .i 0⟩ :: awM23
theorem awK24 : KnownM Tryz.prog G0 awM24 := KnownM.cons awc24 awK23
theorem awc25 : PCall Tryz.prog G0 126 (awv2) (.agg [.i 2, .i 0, .i 0, .i 8, .i 0, .i 12]) := run_c awK24 (by kernel_rfl)
def awM25 : List Mem := ⟨126, awv2, .agg [.i 2, .i 0, .i 0, .i 8, .i 0, .i 12]⟩ :: awM24
theorem awK25 : KnownM Tryz.prog G0 awM25 := KnownM.cons awc25 awK24
theorem awc26 : PCall Tryz.prog G0 56 (awv2) (.tup [.agg [.i 2, .i 0, .i 0, .i 8, .i 0, .i 12], .i 0]) := run_c awK25 (by kernel_rfl)
def awM26 : List Mem := ⟨56, awv2, .tup [.agg [.i 2, .i 0, .i 0, .i 8, .i 0, .i 12], .i 0]⟩ :: awM25
theorem awK26 : KnownM Tryz.prog G0 awM26 := KnownM.cons awc26 awK25
theorem awc27 : PCall Tryz.prog G0 104 ([.agg [.i 4, .i 2, .i 0]]) (.i 0) := run_c awK26 (by kernel_rfl)
def awM27 : List Mem := ⟨104, [.agg [.i 4, .i 2, .i 0]], .i 0⟩ :: awM26
theorem awK27 : KnownM Tryz.prog G0 awM27 := KnownM.cons awc27 awK26
theorem awc28 : PCall Tryz.prog G0 99 (awv21) (.i 0) := run_c awK27 (by kernel_rfl)
def awM28 : List Mem := ⟨99, awv21, .i 0⟩ :: awM27
theorem awK28 : KnownM Tryz.prog G0 awM28 := KnownM.cons awc28 awK27
theorem awc29 : PCall Tryz.prog G0 126 ([.sl 5 awv0, .i 5]) (.agg [.i 0, .i 0, .i 0, .i 8, .i 0, .i 10]) := run_c awK28 (by kernel_rfl)
def awM29 : List Mem := ⟨126, [.sl 5 awv0, .i 5], .agg [.i 0, .i 0, .i 0, .i 8, .i 0, .i 10]⟩ :: awM28
theorem awK29 : KnownM Tryz.prog G0 awM29 := KnownM.cons awc29 awK28
theorem awc30 : PCall Tryz.prog G0 116 ([.agg [.i 8, .i 0], .agg [.i 4, .i 2]]) (.i 0) := run_c awK29 (by kernel_rfl)
def awM30 : List Mem := ⟨116, [.agg [.i 8, .i 0], .agg [.i 4, .i 2]], .i 0⟩ :: awM29
theorem awK30 : KnownM Tryz.prog G0 awM30 := KnownM.cons awc30 awK29
theorem awc31 : PCall Tryz.prog G0 114 ([.agg awv10, .i 10, .i 20]) (.i 1000) := run_c awK30 (by kernel_rfl)
def awM31 : List Mem := ⟨114, [.agg awv10, .i 10, .i 20], .i 1000⟩ :: awM30
theorem awK31 : KnownM Tryz.prog G0 awM31 := KnownM.cons awc31 awK30
theorem awc32 : PCall Tryz.prog G0 117 ([.agg awv10, .agg [.i 0, .i 0, .i 0, .i 8, .i 0, .i 10], .agg [.i 4, .i 2, .i 0]]) (.i 500) := run_c awK31 (by kernel_rfl)
def awM32 : List Mem := ⟨117, [.agg awv10, .agg [.i 0, .i 0, .i 0, .i 8, .i 0, .i 10], .agg [.i 4, .i 2, .i 0]], .i 500⟩ :: awM31
theorem awK32 : KnownM Tryz.prog G0 awM32 := KnownM.cons awc32 awK31
theorem awc33 : PCall Tryz.prog G0 116 ([.agg [.i 8, .i 0], .agg [.i 2, .i 2]]) (.i 1) := run_c awK32 (by kernel_rfl)
def awM33 : List Mem := ⟨116, [.agg [.i 8, .i 0], .agg [.i 2, .i 2]], .i 1⟩ :: awM32
theorem awK33 : KnownM Tryz.prog G0 awM33 := KnownM.cons awc33 awK32
theorem awc34 : PCall Tryz.prog G0 114 ([.agg awv10, .i 12, .i 8]) (.i 1200) := run_c awK33 (by kernel_rfl)
def awM34 : List Mem := ⟨114, [.agg awv10, .i 12, .i 8], .i 1200⟩ :: awM33
theorem awK34 : KnownM Tryz.prog G0 awM34 := KnownM.cons awc34 awK33
theorem awc35 : PCall Tryz.prog G0 117 ([.agg awv10, .agg [.i 2, .i 0, .i 0, .i 8, .i 0, .i 12], .agg [.i 4, .i 2, .i 0]]) (.i 600) := run_c awK34 (by kernel_rfl)
def awM35 : List Mem := ⟨117, [.agg awv10, .agg [.i 2, .i 0, .i 0, .i 8, .i 0, .i 12], .agg [.i 4, .i 2, .i 0]], .i 600⟩ :: awM34
theorem awK35 : KnownM Tryz.prog G0 awM35 := KnownM.cons awc35 awK34
theorem awc36 : PCall Tryz.prog G0 126 ([.sl 5 awv0, .i 7]) (.agg [.i 4, .i 0, .i 0, .i 8, .i 0, .i 15]) := run_c awK35 (by kernel_rfl)
def awM36 : List Mem := ⟨126, [.sl 5 awv0, .i 7], .agg [.i 4, .i 0, .i 0, .i 8, .i 0, .i 15]⟩ :: awM35
theorem awK36 : KnownM Tryz.prog G0 awM36 := KnownM.cons awc36 awK35
theorem awc37 : PCall Tryz.prog G0 116 ([.agg [.i 8, .i 0], .agg [.i 0, .i 2]]) (.i 2) := run_c awK36 (by kernel_rfl)
def awM37 : List Mem := ⟨116, [.agg [.i 8, .i 0], .agg [.i 0, .i 2]], .i 2⟩ :: awM36
theorem awK37 : KnownM Tryz.prog G0 awM37 := KnownM.cons awc37 awK36
theorem awc38 : PCall Tryz.prog G0 114 ([.agg awv10, .i 15, .i 4]) (.i 1500) := run_c awK37 (by kernel_rfl)
def awM38 : List Mem := ⟨114, [.agg awv10, .i 15, .i 4], .i 1500⟩ :: awM37
theorem awK38 : KnownM Tryz.prog G0 awM38 := KnownM.cons awc38 awK37
theorem awc39 : PCall Tryz.prog G0 117 ([.agg awv10, .agg [.i 4, .i 0, .i 0, .i 8, .i 0, .i 15], .agg [.i 4, .i 2, .i 0]]) (.i 750) := run_c awK38 (by kernel_rfl)
def awM39 : List Mem := ⟨117, [.agg awv10, .agg [.i 4, .i 0, .i 0, .i 8, .i 0, .i 15], .agg [.i 4, .i 2, .i 0]], .i 750⟩ :: awM38
theorem awK39 : KnownM Tryz.prog G0 awM39 := KnownM.cons awc39 awK38
theorem awc40 : PCall Tryz.prog G0 126 ([.sl 5 awv0, .i 8]) (.agg [.i 6, .i 0, .i 0, .i 8, .i 0, .i 17]) := run_c awK39 (by kernel_rfl)
def awM40 : List Mem := ⟨126, [.sl 5 awv0, .i 8], .agg [.i 6, .i 0, .i 0, .i 8, .i 0, .i 17]⟩ :: awM39
theorem awK40 : KnownM Tryz.prog G0 awM40 := KnownM.cons awc40 awK39
theorem awc41 : PCall Tryz.prog G0 116 ([.agg [.i 8, .i 0], .agg [.i (-2), .i 2]]) (.i 3) := run_c awK40 (by kernel_rfl)
def awM41 : List Mem := ⟨116, [.agg [.i 8, .i 0], .agg [.i (-2), .i 2]], .i 3⟩ :: awM40
theorem awK41 : KnownM Tryz.prog G0 awM41 := KnownM.cons awc41 awK40
theorem awc42 : PCall Tryz.prog G0 114 ([.agg awv10, .i 17, .i 8]) (.i 1700) := run_c awK41 (by kernel_rfl)
def awM42 : List Mem := ⟨114, [.agg awv10, .i 17, .i 8], .i 1700⟩ :: awM41
theorem awK42 : KnownM Tryz.prog G0 awM42 := KnownM.cons awc42 awK41
theorem awc43 : PCall Tryz.prog G0 117 ([.agg awv10, .agg [.i 6, .i 0, .i 0, .i 8, .i 0, .i 17], .agg [.i 4, .i 2, .i 0]]) (.i 850) := run_c awK42 (by kernel_rfl)
def awM43 : List Mem := ⟨117, [.agg awv10, .agg [.i 6, .i 0, .i 0, .i 8, .i 0, .i 17], .agg [.i 4, .i 2, .i 0]], .i 850⟩ :: awM42
theorem awK43 : KnownM Tryz.prog G0 awM43 := KnownM.cons awc43 awK42
theorem awc44 : PCall Tryz.prog G0 100 (awv21) (.i 2700) := run_c awK43 (by kernel_rfl)
def awM44 : List Mem := ⟨100, awv21, .i 2700⟩ :: awM43
theorem awK44 : KnownM Tryz.prog G0 awM44 := KnownM.cons awc44 awK43
theorem awc45 : PCall Tryz.prog G0 27 (awv21) (.tup [.i 2700, .i 0]) := run_c awK44 (by kernel_rfl)
def awM45 : List Mem := ⟨27, awv21, .tup [.i 2700, .i 0]⟩ :: awM44
theorem awK45 : KnownM Tryz.prog G0 awM45 := KnownM.cons awc45 awK44
theorem awc46 : PCall Tryz.prog G0 99 (awv20) (.i 0) := run_c awK45 (by kernel_rfl)
def awM46 : List Mem := ⟨99, awv20, .i 0⟩ :: awM45
theorem awK46 : KnownM Tryz.prog G0 awM46 := KnownM.cons awc46 awK45
theorem awc47 : PCall Tryz.prog G0 100 (awv20) (.i 1350) := run_c awK46 (by kernel_rfl)
def awM47 : List Mem := ⟨100, awv20, .i 1350⟩ :: awM46
theorem awK47 : KnownM Tryz.prog G0 awM47 := KnownM.cons awc47 awK46
theorem awc48 : PCall Tryz.prog G0 27 (awv20) (.tup [.i 1350, .i 0]) := run_c awK47 (by kernel_rfl)
def awM48 : List Mem := ⟨27, awv20, .tup [.i 1350, .i 0]⟩ :: awM47
theorem awK48 : KnownM Tryz.prog G0 awM48 := KnownM.cons awc48 awK47
theorem awc49 : PCall Tryz.prog G0 30 (awv21) (.tup [.i 850, .i 8, .i 0]) := run_c awK48 (by kernel_rfl)
def awM49 : List Mem := ⟨30, awv21, .tup [.i 850, .i 8, .i 0]⟩ :: awM48
theorem awK49 : KnownM Tryz.prog G0 awM49 := KnownM.cons awc49 awK48
theorem awc50 : PCall Tryz.prog G0 146 (awv4) (.i 500) := run_c awK49 (by kernel_rfl)
def awM50 : List Mem := ⟨146, awv4, .i 500⟩ :: awM49
theorem awK50 : KnownM Tryz.prog G0 awM50 := KnownM.cons awc50 awK49
theorem awc51 : PCall Tryz.prog G0 114 ([.agg awv10, .i 20, .i 4]) (.i 2000) := run_c awK50 (by kernel_rfl)
def awM51 : List Mem := ⟨114, [.agg awv10, .i 20, .i 4], .i 2000⟩ :: awM50
theorem awK51 : KnownM Tryz.prog G0 awM51 := KnownM.cons awc51 awK50
theorem awc52 : PCall Tryz.prog G0 147 (awv4) (.i 1000) := run_c awK51 (by kernel_rfl)
def awM52 : List Mem := ⟨147, awv4, .i 1000⟩ :: awM51
theorem awK52 : KnownM Tryz.prog G0 awM52 := KnownM.cons awc52 awK51
theorem awc53 : PCall Tryz.prog G0 105 ([.agg awv10, .agg [.i 5, .i 0, .i 0, .i 0, .i 10], .agg [.i 9, .i 8, .i 0, .i 0, .i 20], .agg [.i 4, .i 2, .i 0]]) (.agg [.i 1000, .i 8000]) := run_c awK52 (by kernel_rfl)
def awM53 : List Mem := ⟨105, [.agg awv10, .agg [.i 5, .i 0, .i 0, .i 0, .i 10], .agg [.i 9, .i 8, .i 0, .i 0, .i 20], .agg [.i 4, .i 2, .i 0]], .agg [.i 1000, .i 8000]⟩ :: awM52
theorem awK53 : KnownM Tryz.prog G0 awM53 := KnownM.cons awc53 awK52
theorem awc54 : PCall Tryz.prog G0 31 ([.agg awv10, .sl 5 awv0, .agg [.i 4, .i 2, .i 0]]) (.tup [.agg [.i 1000, .i 8000], .i 0]) := run_c awK53 (by kernel_rfl)
def awM54 : List Mem := ⟨31, [.agg awv10, .sl 5 awv0, .agg [.i 4, .i 2, .i 0]], .tup [.agg [.i 1000, .i 8000], .i 0]⟩ :: awM53
theorem awK54 : KnownM Tryz.prog G0 awM54 := KnownM.cons awc54 awK53
theorem awc55 : PCall Tryz.prog G0 43 ([.agg awv10, .i 101]) (.tup [.sl 1 [[.i 61], [.i 40]], .i 0]) := run_c awK54 (by kernel_rfl)
def awM55 : List Mem := ⟨43, [.agg awv10, .i 101], .tup [.sl 1 [[.i 61], [.i 40]], .i 0]⟩ :: awM54
theorem awK55 : KnownM Tryz.prog G0 awM55 := KnownM.cons awc55 awK54
theorem awc56 : PCall Tryz.prog G0 39 ([.sl 5 awv0, .i 2]) (.tup [.sl 5 awv0, .i 0]) := run_c awK55 (by kernel_rfl)
def awM56 : List Mem := ⟨39, [.sl 5 awv0, .i 2], .tup [.sl 5 awv0, .i 0]⟩ :: awM55
theorem awK56 : KnownM Tryz.prog G0 awM56 := KnownM.cons awc56 awK55
theorem awc57 : PCall Tryz.prog G0 39 ([.sl 5 awv0, .i 1]) (.tup [.ex (.slice none 0 0), .i 16]) := run_c awK56 (by kernel_rfl)
def awM57 : List Mem := ⟨39, [.sl 5 awv0, .i 1], .tup [.ex (.slice none 0 0), .i 16]⟩ :: awM56
theorem awK57 : KnownM Tryz.prog G0 awM57 := KnownM.cons awc57 awK56
theorem awc58 : PCall Tryz.prog G0 54 ([.sl 1 [[.i 61], [.i 40]], .sl 1 [[.i 61], [.i 40]]]) (.bool true) := run_c awK57 (by kernel_rfl)
def awM58 : List Mem := ⟨54, [.sl 1 [[.i 61], [.i 40]], .sl 1 [[.i 61], [.i 40]]], .bool true⟩ :: awM57
theorem awK58 : KnownM Tryz.prog G0 awM58 := KnownM.cons awc58 awK57
theorem awc59 : PCall Tryz.prog G0 115 ([.agg [.i 1, .i 0]]) (.i 0) := run_c awK58 (by kernel_rfl)
def awM59 : List Mem := ⟨115, [.agg [.i 1, .i 0]], .i 0⟩ :: awM58
theorem awK59 : KnownM Tryz.prog G0 awM59 := KnownM.cons awc59 awK58
theorem awc60 : PCall Tryz.prog G0 115 ([.agg [.i 3, .i 1]]) (.i 0) := run_c awK59 (by kernel_rfl)
def awM60 : List Mem := ⟨115, [.agg [.i 3, .i 1]], .i 0⟩ :: awM59
theorem awK60 : KnownM Tryz.prog G0 awM60 := KnownM.cons awc60 awK59
theorem awc61 : PCall Tryz.prog G0 116 ([.agg [.i 1, .i 0], .agg [.i 3, .i 1]]) (.i 0) := run_c awK60 (by kernel_rfl)
def awM61 : List Mem := ⟨116, [.agg [.i 1, .i 0], .agg [.i 3, .i 1]], .i 0⟩ :: awM60
theorem awK61 : KnownM Tryz.prog G0 awM61 := KnownM.cons awc61 awK60
theorem awc62 : PCall Tryz.prog G0 41 ([.agg [.i 1, .i 0], .agg [.i 3, .i 1]]) (.tup [.i 0, .i 0]) := run_c awK61 (by kernel_rfl)
def awM62 : List Mem := ⟨41, [.agg [.i 1, .i 0], .agg [.i 3, .i 1]], .tup [.i 0, .i 0]⟩ :: awM61
theorem awK62 : KnownM Tryz.prog G0 awM62 := KnownM.cons awc62 awK61
theorem awc63 : PCall Tryz.prog G0 115 ([.agg [.i 2, .i 2]]) (.i 0) := run_c awK62 (by kernel_rfl)
def awM63 : List Mem := ⟨115, [.agg [.i 2, .i 2]], .i 0⟩ :: awM62
theorem awK63 : KnownM Tryz.prog G0 awM63 := KnownM.cons awc63 awK62
theorem awc64 : PCall Tryz.prog G0 116 ([.agg [.i 1, .i 0], .agg [.i 2, .i 2]]) (.i 1) := run_c awK63 (by kernel_rfl)
def awM64 : List Mem := ⟨116, [.agg [.i 1, .i 0], .agg [.i 2, .i 2]], .i 1⟩ :: awM63
theorem awK64 : KnownM Tryz.prog G0 awM64 := KnownM.cons awc64 awK63
theorem awc65 : PCall Tryz.prog G0 41 ([.agg [.i 1, .i 0], .agg [.i 2, .i 2]]) (.tup [.i 1, .i 0]) := run_c awK64 (by kernel_rfl)
def awM65 : List Mem := ⟨41, [.agg [.i 1, .i 0], .agg [.i 2, .i 2]], .tup [.i 1, .i 0]⟩ :: awM64
theorem awK65 : KnownM Tryz.prog G0 awM65 := KnownM.cons awc65 awK64
theorem awc66 : PCall Tryz.prog G0 115 ([.agg [.i 0, .i 5]]) (.i 0) := run_c awK65 (by kernel_rfl)
def awM66 : List Mem := ⟨115, [.agg [.i 0, .i 5]], .i 0⟩ :: awM65
theorem awK66 : KnownM Tryz.prog G0 awM66 := KnownM.cons awc66 awK65
theorem awc67 : PCall Tryz.prog G0 116 ([.agg [.i 1, .i 0], .agg [.i 0, .i 5]]) (.i 2) := run_c awK66 (by kernel_rfl)
def awM67 : List Mem := ⟨116, [.agg [.i 1, .i 0], .agg [.i 0, .i 5]], .i 2⟩ :: awM66
theorem awK67 : KnownM Tryz.prog G0 awM67 := KnownM.cons awc67 awK66
theorem awc68 : PCall Tryz.prog G0 41 ([.agg [.i 1, .i 0], .agg [.i 0, .i 5]]) (.tup [.i 2, .i 0]) := run_c awK67 (by kernel_rfl)
def awM68 : List Mem := ⟨41, [.agg [.i 1, .i 0], .agg [.i 0, .i 5]], .tup [.i 2, .i 0]⟩ :: awM67
theorem awK68 : KnownM Tryz.prog G0 awM68 := KnownM.cons awc68 awK67
theorem awc69 : PCall Tryz.prog G0 115 ([.agg [.i (-2), .i 2]]) (.i 0) := run_c awK68 (by kernel_rfl)
def awM69 : List Mem := ⟨115, [.agg [.i (-2), .i 2]], .i 0⟩ :: awM68
theorem awK69 : KnownM Tryz.prog G0 awM69 := KnownM.cons awc69 awK68
theorem awc70 : PCall Tryz.prog G0 116 ([.agg [.i 1, .i 0], .agg [.i (-2), .i 2]]) (.i 3) := run_c awK69 (by kernel_rfl)
def awM70 : List Mem := ⟨116, [.agg [.i 1, .i 0], .agg [.i (-2), .i 2]], .i 3⟩ :: awM69
theorem awK70 : KnownM Tryz.prog G0 awM70 := KnownM.cons awc70 awK69
theorem awc71 : PCall Tryz.prog G0 41 ([.agg [.i 1, .i 0], .agg [.i (-2), .i 2]]) (.tup [.i 3, .i 0]) := run_c awK70 (by kernel_rfl)
def awM71 : List Mem := ⟨41, [.agg [.i 1, .i 0], .agg [.i (-2), .i 2]], .tup [.i 3, .i 0]⟩ :: awM70
theorem awK71 : KnownM Tryz.prog G0 awM71 := KnownM.cons awc71 awK70
theorem awc72 : PCall Tryz.prog G0 115 ([.agg [.i (-3), .i 0]]) (.i 0) := run_c awK71 (by kernel_rfl)
def awM72 : List Mem := ⟨115, [.agg [.i (-3), .i 0]], .i 0⟩ :: awM71
theorem awK72 : KnownM Tryz.prog G0 awM72 := KnownM.cons awc72 awK71
theorem awc73 : PCall Tryz.prog G0 116 ([.agg [.i 1, .i 0], .agg [.i (-3), .i 0]]) (.i 4) := run_c awK72 (by kernel_rfl)
def awM73 : List Mem := ⟨116, [.agg [.i 1, .i 0], .agg [.i (-3), .i 0]], .i 4⟩ :: awM72
theorem awK73 : KnownM Tryz.prog G0 awM73 := KnownM.cons awc73 awK72
theorem awc74 : PCall Tryz.prog G0 41 ([.agg [.i 1, .i 0], .agg [.i (-3), .i 0]]) (.tup [.i 4, .i 0]) := run_c awK73 (by kernel_rfl)
def awM74 : List Mem := ⟨41, [.agg [.i 1, .i 0], .agg [.i (-3), .i 0]], .tup [.i 4, .i 0]⟩ :: awM73
theorem awK74 : KnownM Tryz.prog G0 awM74 := KnownM.cons awc74 awK73
theorem awc75 : PCall Tryz.prog G0 115 ([.agg [.i (-1), .i (-1)]]) (.i 0) := run_c awK74 (by kernel_rfl)
def awM75 : List Mem := ⟨115, [.agg [.i (-1), .i (-1)]], .i 0⟩ :: awM74
theorem awK75 : KnownM Tryz.prog G0 awM75 := KnownM.cons awc75 awK74
theorem awc76 : PCall Tryz.prog G0 116 ([.agg [.i 1, .i 0], .agg [.i (-1), .i (-1)]]) (.i 5) := run_c awK75 (by kernel_rfl)
def awM76 : List Mem := ⟨116, [.agg [.i 1, .i 0], .agg [.i (-1), .i (-1)]], .i 5⟩ :: awM75
theorem awK76 : KnownM Tryz.prog G0 awM76 := KnownM.cons awc76 awK75
theorem awc77 : PCall Tryz.prog G0 41 ([.agg [.i 1, .i 0], .agg [.i (-1), .i (-1)]]) (.tup [.i 5, .i 0]) := run_c awK76 (by kernel_rfl)
def awM77 : List Mem := ⟨41, [.agg [.i 1, .i 0], .agg [.i (-1), .i (-1)]], .tup [.i 5, .i 0]⟩ :: awM76
theorem awK77 : KnownM Tryz.prog G0 awM77 := KnownM.cons awc77 awK76
theorem awc78 : PCall Tryz.prog G0 115 ([.agg [.i 0, .i (-4)]]) (.i 0) := run_c awK77 (by kernel_rfl)
def awM78 : List Mem := ⟨115, [.agg [.i 0, .i (-4)]], .i 0⟩ :: awM77
theorem awK78 : KnownM Tryz.prog G0 awM78 := KnownM.cons awc78 awK77
theorem awc79 : PCall Tryz.prog G0 116 ([.agg [.i 1, .i 0], .agg [.i 0, .i (-4)]]) (.i 6) := run_c awK78 (by kernel_rfl)
def awM79 : List Mem := ⟨116, [.agg [.i 1, .i 0], .agg [.i 0, .i (-4)]], .i 6⟩ :: awM78
theorem awK79 : KnownM Tryz.prog G0 awM79 := KnownM.cons awc79 awK78
theorem awc80 : PCall Tryz.prog G0 41 ([.agg [.i 1, .i 0], .agg [.i 0, .i (-4)]]) (.tup [.i 6, .i 0]) := run_c awK79 (by kernel_rfl)
def awM80 : List Mem := ⟨41, [.agg [.i 1, .i 0], .agg [.i 0, .i (-4)]], .tup [.i 6, .i 0]⟩ :: awM79
theorem awK80 : KnownM Tryz.prog G0 awM80 := KnownM.cons awc80 awK79
theorem awc81 : PCall Tryz.prog G0 115 ([.agg [.i 2, .i (-2)]]) (.i 0) := run_c awK80 (by kernel_rfl)
def awM81 : List Mem := ⟨115, [.agg [.i 2, .i (-2)]], .i 0⟩ :: awM80
theorem awK81 : KnownM Tryz.prog G0 awM81 := KnownM.cons awc81 awK80
theorem awc82 : PCall Tryz.prog G0 116 ([.agg [.i 1, .i 0], .agg [.i 2, .i (-2)]]) (.i 7) := run_c awK81 (by kernel_rfl)
def awM82 : List Mem := ⟨116, [.agg [.i 1, .i 0], .agg [.i 2, .i (-2)]], .i 7⟩ :: awM81
theorem awK82 : KnownM Tryz.prog G0 awM82 := KnownM.cons awc82 awK81
theorem awc83 : PCall Tryz.prog G0 41 ([.agg [.i 1, .i 0], .agg [.i 2, .i (-2)]]) (.tup [.i 7, .i 0]) := run_c awK82 (by kernel_rfl)
def awM83 : List Mem := ⟨41, [.agg [.i 1, .i 0], .agg [.i 2, .i (-2)]], .tup [.i 7, .i 0]⟩ :: awM82
theorem awK83 : KnownM Tryz.prog G0 awM83 := KnownM.cons awc83 awK82
theorem awc84 : PCall Tryz.prog G0 88 ([.sl 2 [[.i 0, .i 0], [.i 10, .i 0], [.i 10, .i 5]]]) (.i 0) := run_c awK83 (by kernel_rfl)
def awM84 : List Mem := ⟨88, [.sl 2 [[.i 0, .i 0], [.i 10, .i 0], [.i 10, .i 5]]], .i 0⟩ :: awM83
theorem awK84 : KnownM Tryz.prog G0 awM84 := KnownM.cons awc84 awK83
theorem awc85 : PCall Tryz.prog G0 22 ([.sl 3 [[.i 0, .i 0, .i 100], [.i 10, .i 50, .i 80]]]) (.i 0) := run_c awK84 (by kernel_rfl)
def awM85 : List Mem := ⟨22, [.sl 3 [[.i 0, .i 0, .i 100], [.i 10, .i 50, .i 80]]], .i 0⟩ :: awM84
theorem awK85 : KnownM Tryz.prog G0 awM85 := KnownM.cons awc85 awK84
theorem awc86 : PCall Tryz.prog G0 90 ([.sl 3 [[.i 0, .i 0, .i 100], [.i 10, .i 50, .i 80]], .i 0]) (.agg [.i 0, .i 0, .i 100]) := run_c awK85 (by kernel_rfl)
def awM86 : List Mem := ⟨90, [.sl 3 [[.i 0, .i 0, .i 100], [.i 10, .i 50, .i 80]], .i 0], .agg [.i 0, .i 0, .i 100]⟩ :: awM85
theorem awK86 : KnownM Tryz.prog G0 awM86 := KnownM.cons awc86 awK85
theorem awc87 : PCall Tryz.prog G0 90 ([.sl 3 [[.i 0, .i 0, .i 100], [.i 10, .i 50, .i 80]], .i 10]) (.agg [.i 10, .i 50, .i 80]) := run_c awK86 (by kernel_rfl)
def awM87 : List Mem := ⟨90, [.sl 3 [[.i 0, .i 0, .i 100], [.i 10, .i 50, .i 80]], .i 10], .agg [.i 10, .i 50, .i 80]⟩ :: awM86
theorem awK87 : KnownM Tryz.prog G0 awM87 := KnownM.cons awc87 awK86
theorem awc88 : PCall Tryz.prog G0 90 ([.sl 3 [[.i 0, .i 0, .i 100], [.i 10, .i 50, .i 80]], .i 15]) (.agg [.i 10, .i 50, .i 80]) := run_c awK87 (by kernel_rfl)
def awM88 : List Mem := ⟨90, [.sl 3 [[.i 0, .i 0, .i 100], [.i 10, .i 50, .i 80]], .i 15], .agg [.i 10, .i 50, .i 80]⟩ :: awM87
theorem awK88 : KnownM Tryz.prog G0 awM88 := KnownM.cons awc88 awK87
theorem awc89 : PCall Tryz.prog G0 134 ([.agg [.i 100, .i 0, .i 0, .i 0, .i 100]]) (.i 0) := run_c awK88 (by kernel_rfl)
def awM89 : List Mem := ⟨134, [.agg [.i 100, .i 0, .i 0, .i 0, .i 100]], .i 0⟩ :: awM88
theorem awK89 : KnownM Tryz.prog G0 awM89 := KnownM.cons awc89 awK88
theorem awc90 : PCall Tryz.prog G0 104 ([.agg [.i 10, .i 0, .i 50]]) (.i 0) := run_c awK89 (by kernel_rfl)
def awM90 : List Mem := ⟨104, [.agg [.i 10, .i 0, .i 50]], .i 0⟩ :: awM89
theorem awK90 : KnownM Tryz.prog G0 awM90 := KnownM.cons awc90 awK89
theorem awc91 : PCall Tryz.prog G0 134 ([.agg [.i 103, .i 10, .i 0, .i 50, .i 80]]) (.i 0) := run_c awK90 (by kernel_rfl)
def awM91 : List Mem := ⟨134, [.agg [.i 103, .i 10, .i 0, .i 50, .i 80]], .i 0⟩ :: awM90
theorem awK91 : KnownM Tryz.prog G0 awM91 := KnownM.cons awc91 awK90
theorem awc92 : PCall Tryz.prog G0 104 ([.agg [.i 10, .i 5, .i 50]]) (.i 0) := run_c awK91 (by kernel_rfl)
def awM92 : List Mem := ⟨104, [.agg [.i 10, .i 5, .i 50]], .i 0⟩ :: awM91
theorem awK92 : KnownM Tryz.prog G0 awM92 := KnownM.cons awc92 awK91
theorem awc93 : PCall Tryz.prog G0 134 ([.agg [.i 104, .i 10, .i 5, .i 50, .i 80]]) (.i 0) := run_c awK92 (by kernel_rfl)
def awM93 : List Mem := ⟨134, [.agg [.i 104, .i 10, .i 5, .i 50, .i 80]], .i 0⟩ :: awM92
theorem awK93 : KnownM Tryz.prog G0 awM93 := KnownM.cons awc93 awK92
theorem awc94 : PCall Tryz.prog G0 76 ([.sl 5 awv5]) (.i 0) := run_c awK93 (by kernel_rfl)
def awM94 : List Mem := ⟨76, [.sl 5 awv5], .i 0⟩ :: awM93
theorem awK94 : KnownM Tryz.prog G0 awM94 := KnownM.cons awc94 awK93
theorem awc95 : PCall Tryz.prog G0 14 ([.sl 2 [[.i 0, .i 0], [.i 10, .i 0], [.i 10, .i 5]], .sl 3 [[.i 0, .i 0, .i 100], [.i 10, .i 50, .i 80]], .i 4, .i 100]) (.tup [.sl 5 awv5, .i 0]) := run_c awK94 (by kernel_rfl)
def awM95 : List Mem := ⟨14, [.sl 2 [[.i 0, .i 0], [.i 10, .i 0], [.i 10, .i 5]], .sl 3 [[.i 0, .i 0, .i 100], [.i 10, .i 50, .i 80]], .i 4, .i 100], .tup [.sl 5 awv5, .i 0]⟩ :: awM94
theorem awK95 : KnownM Tryz.prog G0 awM95 := KnownM.cons awc95 awK94
theorem awc96 : PCall Tryz.prog G0 122 ([.str [111, 110, 101]]) (.bool true) := run_c awK95 (by kernel_rfl)
def awM96 : List Mem := ⟨122, [.str [111, 110, 101]], .bool true⟩ :: awM95
theorem awK96 : KnownM Tryz.prog G0 awM96 := KnownM.cons awc96 awK95
theorem awc97 : PCall Tryz.prog G0 122 ([.str [116, 119, 111]]) (.bool true) := run_c awK96 (by kernel_rfl)
def awM97 : List Mem := ⟨122, [.str [116, 119, 111]], .bool true⟩ :: awM96
theorem awK97 : KnownM Tryz.prog G0 awM97 := KnownM.cons awc97 awK96
theorem awc98 : PCall Tryz.prog G0 70 ([.sl 13 awv11, .sl 3 awv12]) (.i 0) := run_c awK97 (by kernel_rfl)
def awM98 : List Mem := ⟨70, [.sl 13 awv11, .sl 3 awv12], .i 0⟩ :: awM97
theorem awK98 : KnownM Tryz.prog G0 awM98 := KnownM.cons awc98 awK97
theorem awc99 : PCall Tryz.prog G0 100 ([.agg awv10, .sl 5 awv0, .agg [.i 5, .i 9], .agg [.i 4, .i 2, .i 0]]) (.i 2700) := run_c awK98 (by kernel_rfl)
def awM99 : List Mem := ⟨100, [.agg awv10, .sl 5 awv0, .agg [.i 5, .i 9], .agg [.i 4, .i 2, .i 0]], .i 2700⟩ :: awM98
theorem awK99 : KnownM Tryz.prog G0 awM99 := KnownM.cons awc99 awK98
theorem awc100 : PCall Tryz.prog G0 155 ([.agg awv6, .elt 1 awv15 0 0, .elt 3 [[.i 4, .i 2, .i 0]] 0 0]) (.agg awv8) := run_c awK99 (by kernel_rfl)
def awM100 : List Mem := ⟨155, [.agg awv6, .elt 1 awv15 0 0, .elt 3 [[.i 4, .i 2, .i 0]] 0 0], .agg awv8⟩ :: awM99
theorem awK100 : KnownM Tryz.prog G0 awM100 := KnownM.cons awc100 awK99
theorem awc101 : PCall Tryz.prog G0 155 ([.agg awv7, .elt 1 awv15 0 0, .elt 3 [[.i 4, .i 2, .i 0]] 0 0]) (.agg awv9) := run_c awK100 (by kernel_rfl)
def awM101 : List Mem := ⟨155, [.agg awv7, .elt 1 awv15 0 0, .elt 3 [[.i 4, .i 2, .i 0]] 0 0], .agg awv9⟩ :: awM100
theorem awK101 : KnownM Tryz.prog G0 awM101 := KnownM.cons awc101 awK100
theorem awc102 : PCall Tryz.prog G0 127 (awv22) (.tup [.sl 4 awv19, .i 0]) := run_c awK101 (by kernel_rfl)
def awM102 : List Mem := ⟨127, awv22, .tup [.sl 4 awv19, .i 0]⟩ :: awM101
theorem awK102 : KnownM Tryz.prog G0 awM102 := KnownM.cons awc102 awK101
theorem awc103 : PCall Tryz.prog G0 128 ([.sl 4 awv19]) (.sl 1 [[.i 2700], [.i 2700]]) := run_c awK102 (by kernel_rfl)
def awM103 : List Mem := ⟨128, [.sl 4 awv19], .sl 1 [[.i 2700], [.i 2700]]⟩ :: awM102
theorem awK103 : KnownM Tryz.prog G0 awM103 := KnownM.cons awc103 awK102
theorem awc104 : PCall Tryz.prog G0 61 (awv22) (.tup [.i 5400, .i 0]) := run_c awK103 (by kernel_rfl)
def awM104 : List Mem := ⟨61, awv22, .tup [.i 5400, .i 0]⟩ :: awM103
theorem awK104 : KnownM Tryz.prog G0 awM104 := KnownM.cons awc104 awK103
theorem awc105 : PCall Tryz.prog G0 130 ([.agg awv9, .agg awv8]) (.i 0) := run_c awK104 (by kernel_rfl)
def awM105 : List Mem := ⟨130, [.agg awv9, .agg awv8], .i 0⟩ :: awM104
theorem awK105 : KnownM Tryz.prog G0 awM105 := KnownM.cons awc105 awK104
theorem awc106 : PCall Tryz.prog G0 65 (awv22) (.tup [.str [111, 110, 101], .i 0]) := run_c awK105 (by kernel_rfl)
def awM106 : List Mem := ⟨65, awv22, .tup [.str [111, 110, 101], .i 0]⟩ :: awM105
theorem awK106 : KnownM Tryz.prog G0 awM106 := KnownM.cons awc106 awK105
theorem awc107 : PCall Tryz.prog G0 135 ([.str [116, 121, 112, 101, 32, 106, 101, 116], .sl 1 [[.i 500]]]) (.str [116, 121, 112, 101, 32, 106, 101, 116, 32, 53, 48, 48, 10]) := run_c awK106 (by kernel_rfl)
def awM107 : List Mem := ⟨135, [.str [116, 121, 112, 101, 32, 106, 101, 116], .sl 1 [[.i 500]]], .str [116, 121, 112, 101, 32, 106, 101, 116, 32, 53, 48, 48, 10]⟩ :: awM106
theorem awK107 : KnownM Tryz.prog G0 awM107 := KnownM.cons awc107 awK106
theorem awc108 : PCall Tryz.prog G0 135 ([.str [115, 104, 97, 114, 101, 115], .sl 1 [[.i 600], [.i 400]]]) (.str [115, 104, 97, 114, 101, 115, 32, 54, 48, 48, 32, 52, 48, 48, 10]) := run_c awK107 (by kernel_rfl)
def awM108 : List Mem := ⟨135, [.str [115, 104, 97, 114, 101, 115], .sl 1 [[.i 600], [.i 400]]], .str [115, 104, 97, 114, 101, 115, 32, 54, 48, 48, 32, 52, 48, 48, 10]⟩ :: awM107
theorem awK108 : KnownM Tryz.prog G0 awM108 := KnownM.cons awc108 awK107
theorem awc109 : PCall Tryz.prog G0 135 ([.str [100, 105, 114, 101, 99, 116], .sl 1 awv3]) (.str [100, 105, 114, 101, 99, 116, 32, 49, 48, 48, 48, 32, 49, 48, 48, 48, 32, 49, 48, 48, 48, 32, 49, 48, 48, 48, 32, 53, 48, 48, 32, 53, 48, 48, 32, 53, 48, 48, 32, 53, 48, 48, 10]) := run_c awK108 (by kernel_rfl)
def awM109 : List Mem := ⟨135, [.str [100, 105, 114, 101, 99, 116], .sl 1 awv3], .str [100, 105, 114, 101, 99, 116, 32, 49, 48, 48, 48, 32, 49, 48, 48, 48, 32, 49, 48, 48, 48, 32, 49, 48, 48, 48, 32, 53, 48, 48, 32, 53, 48, 48, 32, 53, 48, 48, 32, 53, 48, 48, 10]⟩ :: awM108
theorem awK109 : KnownM Tryz.prog G0 awM109 := KnownM.cons awc109 awK108
theorem awc110 : PCall Tryz.prog G0 135 ([.str [115, 113, 117, 97, 114, 101, 115], .sl 1 [[.i 0], [.i 100]]]) (.str [115, 113, 117, 97, 114, 101, 115, 32, 48, 32, 49, 48, 48, 10]) := run_c awK109 (by kernel_rfl)
def awM110 : List Mem := ⟨135, [.str [115, 113, 117, 97, 114, 101, 115], .sl 1 [[.i 0], [.i 100]]], .str [115, 113, 117, 97, 114, 101, 115, 32, 48, 32, 49, 48, 48, 10]⟩ :: awM109
theorem awK110 : KnownM Tryz.prog G0 awM110 := KnownM.cons awc110 awK109
theorem awc111 : PCall Tryz.prog G0 135 ([.str [112, 111, 119, 101, 114], .sl 1 [[.i 10], [.i 1000], [.i 400]]]) (.str [112, 111, 119, 101, 114, 32, 49, 48, 32, 49, 48, 48, 48, 32, 52, 48, 48, 10]) := run_c awK110 (by kernel_rfl)
def awM111 : List Mem := ⟨135, [.str [112, 111, 119, 101, 114], .sl 1 [[.i 10], [.i 1000], [.i 400]]], .str [112, 111, 119, 101, 114, 32, 49, 48, 32, 49, 48, 48, 48, 32, 52, 48, 48, 10]⟩ :: awM110
theorem awK111 : KnownM Tryz.prog G0 awM111 := KnownM.cons awc111 awK110
theorem awc112 : PCall Tryz.prog G0 135 ([.str [112, 111, 119, 101, 114], .sl 1 [[.i 20], [.i 2000], [.i 600]]]) (.str [112, 111, 119, 101, 114, 32, 50, 48, 32, 50, 48, 48, 48, 32, 54, 48, 48, 10]) := run_c awK111 (by kernel_rfl)
def awM112 : List Mem := ⟨135, [.str [112, 111, 119, 101, 114], .sl 1 [[.i 20], [.i 2000], [.i 600]]], .str [112, 111, 119, 101, 114, 32, 50, 48, 32, 50, 48, 48, 48, 32, 54, 48, 48, 10]⟩ :: awM111
theorem awK112 : KnownM Tryz.prog G0 awM112 := KnownM.cons awc112 awK111
theorem awc113 : PCall Tryz.prog G0 77 (awv13) (.tup [.str [116, 121, 112, 101, 32, 106, 101, 116, 32, 53, 48, 48, 10, 115, 104, 97, 114, 101, 115, 32, 54, 48, 48, 32, 52, 48, 48, 10, 100, 105, 114, 101, 99, 116, 32, 49, 48, 48, 48, 32, 49, 48, 48, 48, 32, 49, 48, 48, 48, 32, 49, 48, 48, 48, 32, 53, 48, 48, 32, 53, 48, 48, 32, 53, 48, 48, 32, 53, 48, 48, 10, 115, 113, 117, 97, 114, 101, 115, 32, 48, 32, 49, 48, 48, 10, 112, 111, 119, 101, 114, 32, 49, 48, 32, 49, 48, 48, 48, 32, 52, 48, 48, 10, 112, 111, 119, 101, 114, 32, 50, 48, 32, 50, 48, 48, 48, 32, 54, 48, 48, 10], .i 0]) := run_c awK112 (by kernel_rfl)
def awM113 : List Mem := ⟨77, awv13, .tup [.str [116, 121, 112, 101, 32, 106, 101, 116, 32, 53, 48, 48, 10, 115, 104, 97, 114, 101, 115, 32, 54, 48, 48, 32, 52, 48, 48, 10, 100, 105, 114, 101, 99, 116, 32, 49, 48, 48, 48, 32, 49, 48, 48, 48, 32, 49, 48, 48, 48, 32, 49, 48, 48, 48, 32, 53, 48, 48, 32, 53, 48, 48, 32, 53, 48, 48, 32, 53, 48, 48, 10, 115, 113, 117, 97, 114, 101, 115, 32, 48, 32, 49, 48, 48, 10, 112, 111, 119, 101, 114, 32, 49, 48, 32, 49, 48, 48, 48, 32, 52, 48, 48, 10, 112, 111, 119, 101, 114, 32, 50, 48, 32, 50, 48, 48, 48, 32, 54, 48, 48, 10], .i 0]⟩ :: awM112
theorem awK113 : KnownM Tryz.prog G0 awM113 := KnownM.cons awc113 awK112
theorem awc114 : PCall Tryz.prog G0 56 ([.sl 5 awv0, .i 9]) (.tup [.agg [.i 0, .i 0, .i 0, .i 0, .i 0, .i 0], .i 7]) := run_c awK113 (by kernel_rfl)
def awM114 : List Mem := ⟨56, [.sl 5 awv0, .i 9], .tup [.agg [.i 0, .i 0, .i 0, .i 0, .i 0, .i 0], .i 7]⟩ :: awM113
theorem awK114 : KnownM Tryz.prog G0 awM114 := KnownM.cons awc114 awK113
theorem awc115 : PCall Tryz.prog G0 13 ([]) (.bool true) := run_c awK114 (by kernel_rfl)
end Go.Proofs.YtjhjmncjidbieaaGreatDoor
namespace Go.Proofs.YtjhjmncjidbieaaGreatDoor
open Go Go.Av Go.RowKit Go.ChangeShapes Go.WideShapes
theorem hA : PCall Tryz.prog G0 13 [] (.bool true) := awc115
theorem laidOut : laidOutB Tryz.prog = true := by kernel_rfl
theorem own : ownKnob Tryz.prog.godebug = none := by kernel_rfl
def laid5 : List (String × DataW Unit) := Rows.sourcePathsRow.laid
theorem door_met (os : Os) (args : Array Value) : laidMetH Tryz.prog laid5 ((World.doorLaid Tryz.prog 400 os).forCall (fun _ _ => 0) ⟨#[], args, []⟩).memory :=
  laidMetH_of_parts3 (fuel := 8) (laidMet_of_run' 8 (by kernel_rfl) (by kernel_rfl)) (by kernel_rfl) (by kernel_rfl)
theorem globs {W : World} (h : laidMetH Tryz.prog laid5 W) : ∀ g cells, lk g G0 = some cells → GlobOK NoX W g cells := by
  rw [MakeChecks.laidMetH_plain _ _ _ (by kernel_rfl)] at h
  obtain ⟨ps, hl, _⟩ := h
  have m0 := laid_glob (T := T0) tok (n := 8) (name := "flyover/flyoverlaw02.turned") (d := Rows.laid_flyover_flyoverlaw02_turned) (g := 0) (t := 165) (cells := nthR (G0.map (·.2)) 0) (by kernel_rfl) (by kernel_rfl) (by kernel_rfl) (by kernel_rfl) (by kernel_rfl) (by simp [nthR, G0]) (laid := laid5) (ps := ps) (by simp [laid5, Rows.sourcePathsRow]) hl
  have m1 := laid_glob (T := T0) tok (n := 8) (name := "flyover/source.words") (d := Rows.laid_flyover_source_words) (g := 1) (t := 219) (cells := nthR (G0.map (·.2)) 1) (by kernel_rfl) (by kernel_rfl) (by kernel_rfl) (by kernel_rfl) (by kernel_rfl) (by simp [nthR, G0]) (laid := laid5) (ps := ps) (by simp [laid5, Rows.sourcePathsRow]) hl
  have m4 := laid_glob (T := T0) tok (n := 8) (name := "internal/strconv.uint64pow10") (d := Rows.laid_internal_strconv_uint64pow10) (g := 4) (t := 285) (cells := nthR (G0.map (·.2)) 2) (by kernel_rfl) (by kernel_rfl) (by kernel_rfl) (by kernel_rfl) (by kernel_rfl) (by simp [nthR, G0]) (laid := laid5) (ps := ps) (by simp [laid5, Rows.sourcePathsRow]) hl
  intro g cells hg
  obtain ⟨u, hu, e1⟩ := lk_mem hg
  subst e1
  simp only [G0, List.mem_cons, List.not_mem_nil, or_false, Prod.mk.injEq] at hu
  rcases hu with ⟨rfl, rfl⟩ | ⟨rfl, rfl⟩ | ⟨rfl, rfl⟩
  · exact m0
  · exact m1
  · exact m4
theorem wf64 {x : Int} (h : (Lit.int .i64 x).wf = true) : In64 x := by
  simp only [Lit.wf, Bool.and_eq_true, decide_eq_true_eq] at h
  exact h
end Go.Proofs.YtjhjmncjidbieaaGreatDoor
namespace Go.Proofs.YtjhjmncjidbieaaGreatDoor
open Go Go.Av Go.RowKit Go.ChangeShapes Go.WideShapes
theorem int_of {n : Nat} {r : List AV} (hn : shapeT T0 n 3 = [.int .i64]) (hp : plainT T0 n 3 = true) (h : ASh T0 n 3 r) : ∃ x : Int, r = encI x ∧ In64 x := by
  have := ash_shape n 3 r hp h
  rw [hn] at this
  obtain ⟨_, _, rfl, ⟨x, rfl, hx⟩, rfl⟩ := this
  exact ⟨x, rfl, wf64 hx⟩
theorem sg_of {n m : Nat} {r : List AV} (hn : shapeT T0 n 117 = [.int .i64, .sl m 3 1]) (hp : plainT T0 n 117 = true) (hm : shapeT T0 m 3 = [.int .i64]) (hq : plainT T0 m 3 = true) (h : ASh T0 n 117 r) : ∃ s : Sg, r = encSg s ∧ True := by
  have := ash_shape n 117 r hp h
  rw [hn] at this
  obtain ⟨_, _, rfl, ⟨x, rfl, _⟩, _, _, rfl, ⟨rows, rfl, _, hr⟩, rfl⟩ := this
  obtain ⟨e, rfl, _⟩ := rows_enc (enc := encI) (Q := In64) (fun r hm' => int_of hm hq (hr r hm'))
  exact ⟨⟨x, e⟩, rfl, trivial⟩
end Go.Proofs.YtjhjmncjidbieaaGreatDoor
namespace Go.Proofs.YtjhjmncjidbieaaGreatDoor
open Go Go.Av Go.RowKit Go.ChangeShapes Go.WideShapes
theorem fx_of {n : Nat} {r : List AV} (hn : shapeT T0 n 110 = [.int .i64, .int .i64, .int .i64, .int .i64, .int .i64]) (hp : plainT T0 n 110 = true) (h : ASh T0 n 110 r) : ∃ x : Fx, r = encFx x ∧ True := by
  have := ash_shape n 110 r hp h
  rw [hn] at this
  obtain ⟨_, _, rfl, ⟨a, rfl, _⟩, _, _, rfl, ⟨b, rfl, _⟩, _, _, rfl, ⟨c, rfl, _⟩, _, _, rfl, ⟨d, rfl, _⟩, _, _, rfl, ⟨e, rfl, _⟩, rfl⟩ := this
  exact ⟨⟨a, b, c, d, e⟩, rfl, trivial⟩
end Go.Proofs.YtjhjmncjidbieaaGreatDoor
