/-
  The cheapest set and the bound of the sum: the source's, the reference's bound. The cheapest set: the reference's. Complaints, the reference's: those that are counted, tied and due. HomeWorks returns true. No condition but the theorems' own.
-/
import Derived.Test.YtfoeefaamjknpaaGreatDoorPD
import Derived.Test.YtfoeefaamjknpaaGreatDoorAvD
namespace Go.Proofs.YtfoeefaamjknpaaGreatDoor
open Go Go.Av Go.RowKit
def chE (h : Hm) (l : List Ms) (t : Int) : Int := sFirst [fMs h l, fEn t]
def cW (h : Hm) (l : List Ms) (o : Option Nat) : AV := .tup [.sl 1 ((chO h l o).s.map encI), .i (chO h l o).c, .i (if o.isSome = true then 0 else 18)]
def c42V (h : Hm) (l : List Ms) (t : Int) : AV := if (chE h l t != 0) = true then .tup [.sl 1 [], .i 0, .i (chE h l t)] else cW h l (bst h l t)
def sp42 (h : Hm) (l : List Ms) (t : Int) : Nat → List AV → Option AV
  | 39, _ => some (.i (fMs h l))
  | 122, _ => some (.tup [.agg (encCh (chO h l (bst h l t))), .bool (bst h l t).isSome])
  | n, z => spW n z
theorem none_of {α : Type} {o : Option α} (h : (!o.isSome) = true) : o = none := by cases o <;> simp_all
theorem c42 (h : Hm) (l : List Ms) (t : Int) (hm : h.nm.length ≤ 1000000) (hw : h.ws.length ≤ 1000) (hl : l.length ≤ 1000) (hn : ∀ x, x ∈ l → x.nm.length ≤ 1000) : PCall Tryz.prog G0 42 [.agg (encHm h), .sl 19 (l.map encMs), .i t] (c42V h l t) := by
  have key :
   PCall Tryz.prog G0 39 [AV.agg (encHm h), AV.sl 19 (List.map encMs l)] (AV.i (fMs h l)) ∧ PCall Tryz.prog G0 105 [AV.i t] (AV.i (sWithin t (0 : Int) (10000000000000 : Int))) ∧ PCall Tryz.prog G0 104 [AV.sl 1 [[AV.i (fMs h l)], [AV.i
   (sWithin t (0 : Int) (10000000000000 : Int))]]] (AV.i (sFirst [hdI [AV.i (fMs h l)], hdI [AV.i (sWithin t (0 : Int) (10000000000000 : Int))]])) ∧ ((sFirst [hdI [AV.i (fMs h l)], hdI [AV.i (sWithin t (0 : Int) (10000000000000 :
   Int))]] != 0) = true → AV.tup [AV.sl 1 [], AV.i 0, AV.i (sFirst [hdI [AV.i (fMs h l)], hdI [AV.i (sWithin t (0 : Int) (10000000000000 : Int))]])] = c42V h l t) ∧ ((sFirst [hdI [AV.i (fMs h l)], hdI [AV.i (sWithin t (0 : Int)
   (10000000000000 : Int))]] != 0) = false → PCall Tryz.prog G0 122 [AV.agg (encHm h), AV.sl 19 (List.map encMs l), AV.i t] (AV.tup [AV.agg (encCh (chO h l (bst h l t))), AV.bool (bst h l t).isSome]) ∧ ((!(bst h l t).isSome) = true →
   AV.tup [AV.sl 1 [], AV.i 0, AV.i 18] = c42V h l t) ∧ ((!(bst h l t).isSome) = false → AV.tup [AV.sl 1 (List.map encI (chO h l (bst h l t)).s), AV.i (chO h l (bst h l t)).c, AV.i 0] = c42V h l t)) := by
    refine ⟨(c39 h l hm hw hl hn), (c105 _), (c104 [_, _] (by simp)), fun h1 => ?_, fun h1 => ?_⟩
    · exact (if_pos h1).symm
    · have hz : chE h l t = 0 := bne_f h1
      have hz2 := hz
      unfold chE at hz2
      rw [first_zero] at hz2
      refine ⟨(c122 h l t hz2.1), fun h2 => ?_, fun h2 => ?_⟩
      · have e : c42V h l t = cW h l (bst h l t) := if_neg (by rw [hz]; decide)
        rw [e, none_of h2]
        rfl
      · have e : c42V h l t = cW h l (bst h l t) := if_neg (by rw [hz]; decide)
        rw [e]
        unfold cW
        rw [show (bst h l t).isSome = true by simpa using h2]
        rfl
  exact c_of Tryz.f42 (gsB (fun i => if i.beq 3 then [.nil 6 1] else if i.beq 6 then [.nil 6 1] else []) (fzB (mkB (sp42 h l t) 42 [] noLa))) (by kernel_rfl) (by kernel_rfl) (by kernel_rfl) (by kernel_rfl) key (by kernel_rfl)
def wcN (w : Wn) (l : List Ms) (i : Int) : Nat → Wn
  | 0 => w
  | k + 1 => if ((l.getD k default).w == i) = true then wiM (wcN w l i k) (l.getD k default) else wcN w l i k
def bdN (p : Int) (w : Wn) (l : List Ms) (i : Int) : Nat → Int
  | 0 => p * inHw w
  | k + 1 => if ((l.getD k default).w == i) = true then minI (bdN p w l i k) ((l.getD k default).c + p * inHw (wiM w (l.getD k default))) else bdN p w l i k
theorem wi_wc (w : Wn) (l : List Ms) (i : Int) (m : Ms) : ∀ k, wiM (wcN w l i k) m = wiM w m
  | 0 => rfl
  | k + 1 => by
    rw [wcN]
    split
    · exact wi_wc w l i m k
    · exact wi_wc w l i m k
theorem mulp_bd {p x : Int} (hp : 0 ≤ p ∧ p ≤ 100000) (hx : 0 ≤ x ∧ x ≤ 800000000) : 0 ≤ p * x ∧ p * x ≤ 80000000000000 := mul_bd hp.1 hp.2 hx.1 hx.2
theorem bdN_bd {p : Int} {w : Wn} {l : List Ms} {n : Nat} (i : Int) (hp : 0 ≤ p ∧ p ≤ 100000) (hw : WnOK w) (hl : ∀ i, i < l.length → MsOK n (l.getD i default)) : ∀ k, k ≤ l.length → 0 ≤ bdN p w l i k ∧ bdN p w l i k ≤ 80000000000000
  | 0, _ => mulp_bd hp (inHw_bd hw).2
  | k + 1, hk => by
    have h1 := bdN_bd i hp hw hl k (by omega)
    have h2 := (hl k (by omega)).c0
    have h3 := mulp_bd hp (inHw_bd (wiM_ok hw (hl k (by omega)))).2
    rw [bdN]
    split
    · unfold minI
      split <;> omega
    · exact h1
def bdS (h : Hm) (l : List Ms) (t p : Int) : Nat → Int
  | 0 => (0 - p) * t
  | i + 1 => bdS h l t p i + bdN p (h.ws.getD i default) l i l.length
theorem bdS_bd {h : Hm} {l : List Ms} {t p : Int} {n : Nat} (hp : 0 ≤ p ∧ p ≤ 100000) (ht : 0 ≤ t ∧ t ≤ 10000000000000) (hw : WsOK h.ws) (hl : ∀ i, i < l.length → MsOK n (l.getD i default)) : ∀ k, k ≤ h.ws.length → -1000000000000000000 ≤ bdS h l t p k ∧ bdS h l t p k ≤ 80000000000000 * k
  | 0, _ => by
    have := mul_bd hp.1 hp.2 ht.1 ht.2
    rw [bdS, Int.zero_sub, Int.neg_mul]
    omega
  | k + 1, hk => by
    have h1 := bdS_bd hp ht hw hl k (by omega)
    have h2 := bdN_bd (k : Int) hp (hw k (by omega)) hl l.length (Nat.le_refl _)
    rw [bdS]
    omega
def bdE (h : Hm) (l : List Ms) (t p : Int) : Int := sFirst [fMs h l, fEn t, sWithin p 0 100000]
def bdV (h : Hm) (l : List Ms) (t p : Int) : Int := if (bdE h l t p != 0) = true then 0 else bdS h l t p h.ws.length
def la43 (h : Hm) (l : List Ms) (t p : Int) (b : Nat) : Option LA :=
  let sl (i : Nat) : List (Nat × AV) := [(1, .sl 19 (l.map encMs)), (3, .i p), (4, .elt 3 [encHm h] 0 0), (11, .i (bdS h l t p i)), (34, .sl 25 (h.ws.map encWn)), (35, .i (h.ws.map encWn).length), (36, .i i)]
  if b.beq 0 then some {
    pre := [.keep [1, 3, 4, 11, 34, 35, 36] [], .bound 1], post := [.keep [1, 3, 4, 11, 34, 35, 36] [], .bound 1]
    Gh := Nat
    st := fun i => ⟨sl i, [], 1⟩
    ok := fun i => i ≤ h.ws.length
    ms := fun i => h.ws.length - i }
  else some {
    pre := [.reno 13 1, .keep [1, 3, 4, 11, 34, 35, 36, 12, 13, 14, 46, 47, 48] [1], .bound 2], post := [.keep [1, 3, 4, 11, 34, 35, 36, 12, 13, 14, 46, 47, 48] [1], .bound 2]
    Gh := Nat × Nat
    st := fun q => ⟨sl q.1 ++ [(12, .i q.1), (13, .ptr 1 0), (14, .i (bdN p (h.ws.getD q.1 default) l q.1 q.2)), (46, .sl 19 (l.map encMs)), (47, .i (l.map encMs).length), (48, .i q.2)], [(1, .box (encWn (wcN (h.ws.getD q.1 default) l q.1 q.2)))], 2⟩
    ok := fun q => q.1 < h.ws.length ∧ q.2 ≤ l.length
    rel := some fun q0 q => q.1 = q0.1
    ms := fun q => l.length - q.2 }
def sp43 (h : Hm) (l : List Ms) : Nat → List AV → Option AV
  | 39, _ => some (.i (fMs h l))
  | n, z => spI2 n z
theorem c43 (h : Hm) (l : List Ms) (t p : Int) (hm : h.nm.length ≤ 1000000) (hw : h.ws.length ≤ 1000) (hl : l.length ≤ 1000) (hn : ∀ x, x ∈ l → x.nm.length ≤ 1000) : PCall Tryz.prog G0 43 [.agg (encHm h), .sl 19 (l.map encMs), .i t, .i p] (.tup [.i (bdV h l t p), .i (bdE h l t p)]) := by
  have key :
   PCall Tryz.prog G0 39 [AV.agg (encHm h), AV.sl 19 (List.map encMs l)] (AV.i (fMs h l)) ∧ PCall Tryz.prog G0 105 [AV.i t] (AV.i (sWithin t (0 : Int) (10000000000000 : Int))) ∧ PCall Tryz.prog G0 118 [AV.i p, AV.i 0, AV.i 100000]
   (AV.i (sWithin p (0 : Int) (100000 : Int))) ∧ PCall Tryz.prog G0 104 [AV.sl 1 [[AV.i (fMs h l)], [AV.i (sWithin t (0 : Int) (10000000000000 : Int))], [AV.i (sWithin p (0 : Int) (100000 : Int))]]] (AV.i (sFirst [hdI [AV.i (fMs h
   l)], hdI [AV.i (sWithin t (0 : Int) (10000000000000 : Int))], hdI [AV.i (sWithin p (0 : Int) (100000 : Int))]])) ∧ ((sFirst [hdI [AV.i (fMs h l)], hdI [AV.i (sWithin t (0 : Int) (10000000000000 : Int))], hdI [AV.i (sWithin p (0 :
   Int) (100000 : Int))]] != 0) = true → AV.tup [AV.i 0, AV.i (sFirst [hdI [AV.i (fMs h l)], hdI [AV.i (sWithin t (0 : Int) (10000000000000 : Int))], hdI [AV.i (sWithin p (0 : Int) (100000 : Int))]])] = AV.tup [AV.i (bdV h l t p),
   AV.i (bdE h l t p)]) ∧ ((sFirst [hdI [AV.i (fMs h l)], hdI [AV.i (sWithin t (0 : Int) (10000000000000 : Int))], hdI [AV.i (sWithin p (0 : Int) (100000 : Int))]] != 0) = false → In64 ((0 : Int) - p) ∧ In64 (((0 : Int) - p) * t) ∧ (∃
   (g : Nat), g ≤ h.ws.length ∧ AS.mk [(1, AV.sl 19 (List.map encMs l)), (3, AV.i p), (4, AV.elt 3 [(encHm h)] 0 0), (11, AV.i (((0 : Int) - p) * t)), (34, AV.sl 25 (List.map encWn h.ws)), (35, AV.i (↑(List.map encWn h.ws).length :
   Int)), (36, AV.i 0)] [] 1 = AS.mk [(1, AV.sl 19 (List.map encMs l)), (3, AV.i p), (4, AV.elt 3 [(encHm h)] 0 0), (11, AV.i (bdS h l t p g)), (34, AV.sl 25 (List.map encWn h.ws)), (35, AV.i (↑(List.map encWn h.ws).length : Int)),
   (36, AV.i (↑g : Int))] [] 1) ∧ ∀ (g : Nat), g ≤ h.ws.length → (decide ((↑g : Int) < (↑(List.map encWn h.ws).length : Int)) = true → (0 : Int) ≤ (↑g : Int) ∧ (↑g : Int) < (↑(List.map encWn h.ws).length : Int) ∧ AV.agg (nthR
   (List.map encWn h.ws) (↑g : Int).toNat) = AV.agg (encWn (h.ws.getD (↑g : Int).toNat default)) ∧ In64 (p * inHw ((h.ws.getD (↑g : Int).toNat default))) ∧ PCall Tryz.prog G0 123 [AV.agg (encWn (h.ws.getD (↑g : Int).toNat default))]
   (AV.agg [AV.i (inLw ((h.ws.getD (↑g : Int).toNat default))), AV.i (inHw ((h.ws.getD (↑g : Int).toNat default)))]) ∧ ∃ (g0 : Nat × Nat), (g0.fst < h.ws.length ∧ g0.snd ≤ l.length) ∧ g0.fst = g0.fst ∧ AS.mk [(1, AV.sl 19 (List.map
   encMs l)), (3, AV.i p), (4, AV.elt 3 [(encHm h)] 0 0), (11, AV.i (bdS h l t p g)), (34, AV.sl 25 (List.map encWn h.ws)), (35, AV.i (↑(List.map encWn h.ws).length : Int)), (36, AV.i (↑g : Int)), (12, AV.i (↑g : Int)), (13, AV.ptr 1
   0), (14, AV.i (p * inHw ((h.ws.getD (↑g : Int).toNat default)))), (46, AV.sl 19 (List.map encMs l)), (47, AV.i (↑(List.map encMs l).length : Int)), (48, AV.i 0)] [(1, ABlk.box (encWn (h.ws.getD (↑g : Int).toNat default)))] 2 =
   AS.mk [(1, AV.sl 19 (List.map encMs l)), (3, AV.i p), (4, AV.elt 3 [(encHm h)] 0 0), (11, AV.i (bdS h l t p g0.fst)), (34, AV.sl 25 (List.map encWn h.ws)), (35, AV.i (↑(List.map encWn h.ws).length : Int)), (36, AV.i (↑g0.fst :
   Int)), (12, AV.i (↑g0.fst : Int)), (13, AV.ptr 1 0), (14, AV.i (bdN p (h.ws.getD g0.fst default) l (↑g0.fst : Int) g0.snd)), (46, AV.sl 19 (List.map encMs l)), (47, AV.i (↑(List.map encMs l).length : Int)), (48, AV.i (↑g0.snd :
   Int))] [(1, ABlk.box (encWn (wcN (h.ws.getD g0.fst default) l (↑g0.fst : Int) g0.snd)))] 2 ∧ ∀ (g_1 : Nat × Nat), g_1.fst < h.ws.length ∧ g_1.snd ≤ l.length → g_1.fst = g0.fst → (decide ((↑g_1.snd : Int) < (↑(List.map encMs
   l).length : Int)) = true → (0 : Int) ≤ (↑g_1.snd : Int) ∧ (↑g_1.snd : Int) < (↑(List.map encMs l).length : Int) ∧ AV.agg (nthR (List.map encMs l) (↑g_1.snd : Int).toNat) = AV.agg (encMs (l.getD (↑g_1.snd : Int).toNat default)) ∧
   (((l.getD (↑g_1.snd : Int).toNat default).w == (↑g_1.fst : Int)) = true → In64 (p * inHw (wiM (wcN (h.ws.getD g_1.fst default) l (↑g_1.fst : Int) g_1.snd) (l.getD (↑g_1.snd : Int).toNat default))) ∧ In64 ((l.getD (↑g_1.snd :
   Int).toNat default).c + p * inHw (wiM (wcN (h.ws.getD g_1.fst default) l (↑g_1.fst : Int) g_1.snd) (l.getD (↑g_1.snd : Int).toNat default))) ∧ PCall Tryz.prog G0 123 [AV.agg [AV.i (wcN (h.ws.getD g_1.fst default) l (↑g_1.fst : Int)
   g_1.snd).o0, AV.i (wcN (h.ws.getD g_1.fst default) l (↑g_1.fst : Int) g_1.snd).o1, AV.i (wcN (h.ws.getD g_1.fst default) l (↑g_1.fst : Int) g_1.snd).o2, AV.i (wcN (h.ws.getD g_1.fst default) l (↑g_1.fst : Int) g_1.snd).o3, AV.i
   (wcN (h.ws.getD g_1.fst default) l (↑g_1.fst : Int) g_1.snd).o4, AV.i (wcN (h.ws.getD g_1.fst default) l (↑g_1.fst : Int) g_1.snd).o5, AV.i (wcN (h.ws.getD g_1.fst default) l (↑g_1.fst : Int) g_1.snd).o6, AV.i (wcN (h.ws.getD
   g_1.fst default) l (↑g_1.fst : Int) g_1.snd).o7, AV.i (wcN (h.ws.getD g_1.fst default) l (↑g_1.fst : Int) g_1.snd).ar, AV.i (l.getD (↑g_1.snd : Int).toNat default).p0, AV.i (l.getD (↑g_1.snd : Int).toNat default).p1, AV.i (l.getD
   (↑g_1.snd : Int).toNat default).p2, AV.i (l.getD (↑g_1.snd : Int).toNat default).p3, AV.i (l.getD (↑g_1.snd : Int).toNat default).p4, AV.i (l.getD (↑g_1.snd : Int).toNat default).p5, AV.i (l.getD (↑g_1.snd : Int).toNat default).p6,
   AV.i (l.getD (↑g_1.snd : Int).toNat default).p7, AV.i (l.getD (↑g_1.snd : Int).toNat default).p8, AV.i (l.getD (↑g_1.snd : Int).toNat default).p9, AV.i (l.getD (↑g_1.snd : Int).toNat default).p10, AV.i (l.getD (↑g_1.snd :
   Int).toNat default).p11, AV.i (l.getD (↑g_1.snd : Int).toNat default).p12, AV.i (l.getD (↑g_1.snd : Int).toNat default).p13, AV.i (l.getD (↑g_1.snd : Int).toNat default).p14, AV.i (l.getD (↑g_1.snd : Int).toNat default).p15]]
   (AV.agg [AV.i (inLw (wiM (wcN (h.ws.getD g_1.fst default) l (↑g_1.fst : Int) g_1.snd) (l.getD (↑g_1.snd : Int).toNat default))), AV.i (inHw (wiM (wcN (h.ws.getD g_1.fst default) l (↑g_1.fst : Int) g_1.snd) (l.getD (↑g_1.snd :
   Int).toNat default)))]) ∧ In64 ((↑g_1.snd : Int) + 1) ∧ ∃ (g' : Nat × Nat), (g'.fst < h.ws.length ∧ g'.snd ≤ l.length) ∧ g'.fst = g0.fst ∧ l.length - g'.snd < l.length - g_1.snd ∧ AS.mk [(1, AV.sl 19 (List.map encMs l)), (3, AV.i
   p), (4, AV.elt 3 [(encHm h)] 0 0), (11, AV.i (bdS h l t p g_1.fst)), (34, AV.sl 25 (List.map encWn h.ws)), (35, AV.i (↑(List.map encWn h.ws).length : Int)), (36, AV.i (↑g_1.fst : Int)), (12, AV.i (↑g_1.fst : Int)), (13, AV.ptr 1
   0), (14, AV.i (minI (bdN p (h.ws.getD g_1.fst default) l (↑g_1.fst : Int) g_1.snd) ((l.getD (↑g_1.snd : Int).toNat default).c + p * inHw (wiM (wcN (h.ws.getD g_1.fst default) l (↑g_1.fst : Int) g_1.snd) (l.getD (↑g_1.snd :
   Int).toNat default))))), (46, AV.sl 19 (List.map encMs l)), (47, AV.i (↑(List.map encMs l).length : Int)), (48, AV.i ((↑g_1.snd : Int) + 1))] [(1, ABlk.box [AV.i (wcN (h.ws.getD g_1.fst default) l (↑g_1.fst : Int) g_1.snd).o0, AV.i
   (wcN (h.ws.getD g_1.fst default) l (↑g_1.fst : Int) g_1.snd).o1, AV.i (wcN (h.ws.getD g_1.fst default) l (↑g_1.fst : Int) g_1.snd).o2, AV.i (wcN (h.ws.getD g_1.fst default) l (↑g_1.fst : Int) g_1.snd).o3, AV.i (wcN (h.ws.getD
   g_1.fst default) l (↑g_1.fst : Int) g_1.snd).o4, AV.i (wcN (h.ws.getD g_1.fst default) l (↑g_1.fst : Int) g_1.snd).o5, AV.i (wcN (h.ws.getD g_1.fst default) l (↑g_1.fst : Int) g_1.snd).o6, AV.i (wcN (h.ws.getD g_1.fst default) l
   (↑g_1.fst : Int) g_1.snd).o7, AV.i (wcN (h.ws.getD g_1.fst default) l (↑g_1.fst : Int) g_1.snd).ar, AV.i (l.getD (↑g_1.snd : Int).toNat default).p0, AV.i (l.getD (↑g_1.snd : Int).toNat default).p1, AV.i (l.getD (↑g_1.snd :
   Int).toNat default).p2, AV.i (l.getD (↑g_1.snd : Int).toNat default).p3, AV.i (l.getD (↑g_1.snd : Int).toNat default).p4, AV.i (l.getD (↑g_1.snd : Int).toNat default).p5, AV.i (l.getD (↑g_1.snd : Int).toNat default).p6, AV.i
   (l.getD (↑g_1.snd : Int).toNat default).p7, AV.i (l.getD (↑g_1.snd : Int).toNat default).p8, AV.i (l.getD (↑g_1.snd : Int).toNat default).p9, AV.i (l.getD (↑g_1.snd : Int).toNat default).p10, AV.i (l.getD (↑g_1.snd : Int).toNat
   default).p11, AV.i (l.getD (↑g_1.snd : Int).toNat default).p12, AV.i (l.getD (↑g_1.snd : Int).toNat default).p13, AV.i (l.getD (↑g_1.snd : Int).toNat default).p14, AV.i (l.getD (↑g_1.snd : Int).toNat default).p15])] 2 = AS.mk [(1,
   AV.sl 19 (List.map encMs l)), (3, AV.i p), (4, AV.elt 3 [(encHm h)] 0 0), (11, AV.i (bdS h l t p g'.fst)), (34, AV.sl 25 (List.map encWn h.ws)), (35, AV.i (↑(List.map encWn h.ws).length : Int)), (36, AV.i (↑g'.fst : Int)), (12,
   AV.i (↑g'.fst : Int)), (13, AV.ptr 1 0), (14, AV.i (bdN p (h.ws.getD g'.fst default) l (↑g'.fst : Int) g'.snd)), (46, AV.sl 19 (List.map encMs l)), (47, AV.i (↑(List.map encMs l).length : Int)), (48, AV.i (↑g'.snd : Int))] [(1,
   ABlk.box (encWn (wcN (h.ws.getD g'.fst default) l (↑g'.fst : Int) g'.snd)))] 2) ∧ (((l.getD (↑g_1.snd : Int).toNat default).w == (↑g_1.fst : Int)) = false → In64 ((↑g_1.snd : Int) + 1) ∧ ∃ (g' : Nat × Nat), (g'.fst < h.ws.length ∧
   g'.snd ≤ l.length) ∧ g'.fst = g0.fst ∧ l.length - g'.snd < l.length - g_1.snd ∧ AS.mk [(1, AV.sl 19 (List.map encMs l)), (3, AV.i p), (4, AV.elt 3 [(encHm h)] 0 0), (11, AV.i (bdS h l t p g_1.fst)), (34, AV.sl 25 (List.map encWn
   h.ws)), (35, AV.i (↑(List.map encWn h.ws).length : Int)), (36, AV.i (↑g_1.fst : Int)), (12, AV.i (↑g_1.fst : Int)), (13, AV.ptr 1 0), (14, AV.i (bdN p (h.ws.getD g_1.fst default) l (↑g_1.fst : Int) g_1.snd)), (46, AV.sl 19
   (List.map encMs l)), (47, AV.i (↑(List.map encMs l).length : Int)), (48, AV.i ((↑g_1.snd : Int) + 1))] [(1, ABlk.box (encWn (wcN (h.ws.getD g_1.fst default) l (↑g_1.fst : Int) g_1.snd)))] 2 = AS.mk [(1, AV.sl 19 (List.map encMs
   l)), (3, AV.i p), (4, AV.elt 3 [(encHm h)] 0 0), (11, AV.i (bdS h l t p g'.fst)), (34, AV.sl 25 (List.map encWn h.ws)), (35, AV.i (↑(List.map encWn h.ws).length : Int)), (36, AV.i (↑g'.fst : Int)), (12, AV.i (↑g'.fst : Int)), (13,
   AV.ptr 1 0), (14, AV.i (bdN p (h.ws.getD g'.fst default) l (↑g'.fst : Int) g'.snd)), (46, AV.sl 19 (List.map encMs l)), (47, AV.i (↑(List.map encMs l).length : Int)), (48, AV.i (↑g'.snd : Int))] [(1, ABlk.box (encWn (wcN (h.ws.getD
   g'.fst default) l (↑g'.fst : Int) g'.snd)))] 2)) ∧ (decide ((↑g_1.snd : Int) < (↑(List.map encMs l).length : Int)) = false → In64 (bdS h l t p g_1.fst + bdN p (h.ws.getD g_1.fst default) l (↑g_1.fst : Int) g_1.snd) ∧ In64
   ((↑g_1.fst : Int) + 1) ∧ ∃ (g' : Nat), g' ≤ h.ws.length ∧ h.ws.length - g' < h.ws.length - g ∧ AS.mk [(1, AV.sl 19 (List.map encMs l)), (3, AV.i p), (4, AV.elt 3 [(encHm h)] 0 0), (11, AV.i (bdS h l t p g_1.fst + bdN p (h.ws.getD
   g_1.fst default) l (↑g_1.fst : Int) g_1.snd)), (34, AV.sl 25 (List.map encWn h.ws)), (35, AV.i (↑(List.map encWn h.ws).length : Int)), (36, AV.i ((↑g_1.fst : Int) + 1))] [] 1 = AS.mk [(1, AV.sl 19 (List.map encMs l)), (3, AV.i p),
   (4, AV.elt 3 [(encHm h)] 0 0), (11, AV.i (bdS h l t p g')), (34, AV.sl 25 (List.map encWn h.ws)), (35, AV.i (↑(List.map encWn h.ws).length : Int)), (36, AV.i (↑g' : Int))] [] 1)) ∧ (decide ((↑g : Int) < (↑(List.map encWn
   h.ws).length : Int)) = false → AV.tup [AV.i (bdS h l t p g), AV.i 0] = AV.tup [AV.i (bdV h l t p), AV.i (bdE h l t p)])) := by
    have hlm : (List.map encMs l).length = l.length := List.length_map _
    have hwm : (List.map encWn h.ws).length = h.ws.length := List.length_map _
    have : (List.map encWn h.ws).length = h.ws.length := by simp only [List.length_map]
    have : (List.map encMs l).length = l.length := by simp only [List.length_map]
    refine ⟨(c39 h l hm hw hl hn), (c105 _), (c118 _ _ _), (c104 [_, _, _] (by simp)), fun h1 => ?_, fun h1 => ?_⟩
    · rw [show bdV h l t p = 0 from if_pos h1]
      rfl
    · have hz : bdE h l t p = 0 := bne_f h1
      have hz2 := hz
      unfold bdE at hz2
      rw [first_zero, first_zero, first_zero] at hz2
      obtain ⟨q1, q2, q3, _⟩ := hz2
      have q2 := within_zero.1 q2
      have q3 := within_zero.1 q3
      obtain ⟨y1, y2, y3⟩ := ms_z q1
      obtain ⟨z1, z2, z3, z4, z5, z6⟩ := hm_z y1
      have s0 := mul_bd q3.1 q3.2 q2.1 q2.2
      have s1 : (0 - p) * t = -(p * t) := by rw [Int.zero_sub, Int.neg_mul]
      refine ⟨(by unfold In64; omega), (by unfold In64; omega), ⟨⟨0, by omega, rfl⟩, fun g hg => ⟨fun hd => ?_, fun hd => ?_⟩⟩⟩
      · have hlt : g < h.ws.length := by have h9 := of_decide_eq_true hd; have h8 := hg; (try simp only [List.length_map] at h8 h9); omega
        have hwg := z6 g hlt
        have hb1 := bdS_bd q3 q2 z6 y3 g (by omega)
        have hb2 := mulp_bd q3 (inHw_bd hwg).2
        have hb7 := bdN_bd (g : Int) q3 hwg y3 l.length (Nat.le_refl _)
        try rw [show (↑g : Int).toNat = g from Int.toNat_natCast g]
        refine ⟨(by omega), (by omega), congrArg AV.agg (row_at encWn hlt), (by unfold In64; omega), (c123 _ hwg), ⟨(g, 0), ⟨by (try dsimp only); omega, by (try dsimp only); omega⟩, rfl, rfl, fun g_1 hok2 hr2 => ?_⟩⟩
        · obtain ⟨i2, j2⟩ := g_1
          dsimp only at hok2 hr2 ⊢
          obtain ⟨hi2, hg2⟩ := hok2
          have hr3 : g = i2 := hr2.symm
          subst hr3
          refine ⟨fun hd2 => ?_, fun hd2 => ?_⟩
          · have hlt2 : j2 < l.length := by have h9 := of_decide_eq_true hd2; have h8 := hg2; (try simp only [List.length_map] at h8 h9); omega
            try rw [show (↑g : Int).toNat = g from Int.toNat_natCast g]
            have hb3 := bdN_bd (g : Int) q3 hwg y3 j2 (by omega)
            have hb4 := (y3 j2 (by omega)).c0
            have hb5 := mulp_bd q3 (inHw_bd (wiM_ok hwg (y3 j2 (by omega)))).2
            have hb6 := hb5
            rw [← wi_wc (h.ws.getD g default) l (g : Int) (l.getD j2 default) j2] at hb6
            try rw [show (↑j2 : Int).toNat = j2 from Int.toNat_natCast j2]
            refine ⟨(by omega), (by omega), congrArg AV.agg (row_at encMs hlt2), fun h2 => ⟨(by unfold In64; omega), (by unfold In64; omega), ((by have e := c123 (wiM (wcN (h.ws.getD g default) l (g : Int) j2) (l.getD j2 default)) (by rw [wi_wc]; exact wiM_ok hwg (y3 j2 (by omega))); exact e)), (by unfold In64; omega), ⟨(g, j2 + 1), ⟨by (try dsimp only); omega, by (try dsimp only); omega⟩, rfl, (by (try dsimp only); omega), ?_⟩⟩, fun h2 => ⟨(by unfold In64; omega), ⟨(g, j2 + 1), ⟨by (try dsimp only); omega, by (try dsimp only); omega⟩, rfl, (by (try dsimp only); omega), ?_⟩⟩⟩
            · dsimp only
              have e1 : bdN p (h.ws.getD g default) l g (j2 + 1) = minI (bdN p (h.ws.getD g default) l g j2) ((l.getD j2 default).c + p * inHw (wiM (wcN (h.ws.getD g default) l g j2) (l.getD j2 default))) := (if_pos h2).trans (by rw [wi_wc])
              have e2 : wcN (h.ws.getD g default) l g (j2 + 1) = wiM (wcN (h.ws.getD g default) l g j2) (l.getD j2 default) := if_pos h2
              rw [e1, e2]
              rfl
            · dsimp only
              have e1 : bdN p (h.ws.getD g default) l g (j2 + 1) = bdN p (h.ws.getD g default) l g j2 := if_neg (by rw [h2]; decide)
              have e2 : wcN (h.ws.getD g default) l g (j2 + 1) = wcN (h.ws.getD g default) l g j2 := if_neg (by rw [h2]; decide)
              rw [e1, e2]
              rfl
          · have hge2 : j2 = l.length := by have h9 := of_decide_eq_false hd2; have h8 := hg2; (try simp only [List.length_map] at h8 h9); omega
            subst hge2
            exact ⟨(by unfold In64; omega), (by unfold In64; omega), ⟨g + 1, by omega, by omega, rfl⟩⟩
      · have hge : g = h.ws.length := by have h9 := of_decide_eq_false hd; have h8 := hg; (try simp only [List.length_map] at h8 h9); omega
        subst hge
        rw [show bdV h l t p = bdS h l t p h.ws.length from if_neg (by rw [hz]; decide), hz]
  exact c_of Tryz.f43 (fzB (mkB (sp43 h l) 43 [(7, 2, rdL 25 encWn h.ws 25 true), (11, 1, rdL 19 encMs l 19 true)] (la43 h l t p))) (by kernel_rfl) (by kernel_rfl) (by kernel_rfl) (by kernel_rfl) key (by kernel_rfl)
end Go.Proofs.YtfoeefaamjknpaaGreatDoor
namespace Go.Proofs.YtfoeefaamjknpaaGreatDoor
open Go Go.Av Go.RowKit
theorem ok_e (l : List Ms) (b : Nat) : okM l b = (fSet l (bsM l b) == 0) := by
  unfold okM
  rw [hd_encI]
theorem bsM_e (l : List Ms) (b : Nat) : bsM l b = bitsM b l.length := by
  unfold bsM
  rw [List.length_map]
def rcB (x y : Ch) : Bool := if decide (x.c < y.c) = true then true else if (x.c == y.c) = true then if decide (x.u < y.u) = true then true else if (x.u == y.u) = true then lx x.s y.s else false else false
theorem cmI_c (x y : Int) : (x < y ∧ cmI x y = -1) ∨ (x = y ∧ cmI x y = 0) ∨ (y < x ∧ cmI x y = 1) := by
  unfold cmI
  by_cases h : x < y
  · exact .inl ⟨h, if_pos (decide_eq_true h)⟩
  · by_cases h2 : y < x
    · exact .inr (.inr ⟨h2, by rw [if_neg (by simpa using h), if_pos (decide_eq_true h2)]⟩)
    · exact .inr (.inl ⟨by omega, by rw [if_neg (by simpa using h), if_neg (by simpa using h2)]⟩)
theorem cmC_r (x y : Ch) : decide (cmC x y < 0) = rcB x y := by
  unfold cmC rcB
  rcases cmI_c x.c y.c with ⟨h, e⟩ | ⟨h, e⟩ | ⟨h, e⟩
  · rw [e, if_pos (decide_eq_true h)]
    rfl
  · rw [e, if_neg (by simp [h]), if_pos (by simp [h])]
    rcases cmI_c x.u y.u with ⟨h2, e2⟩ | ⟨h2, e2⟩ | ⟨h2, e2⟩
    · rw [e2, if_pos (decide_eq_true h2)]
      rfl
    · rw [e2, if_neg (by simp [h2]), if_pos (by simp [h2])]
      have hl := (cmL_lx x.s y.s).1
      have e3 : sFirst [0, 0, cmL x.s y.s] = cmL x.s y.s := by simp [sFirst]; exact fun h => h.symm
      rw [e3]
      cases q : lx x.s y.s with
      | true => exact decide_eq_true (hl.2 q)
      | false => exact decide_eq_false (fun hh => by rw [hl.1 hh] at q; cases q)
    · rw [e2, if_neg (by simp; omega), if_neg (by simp; omega)]
      rfl
  · rw [e, if_neg (by simp; omega), if_neg (by simp; omega)]
    rfl
end Go.Proofs.YtfoeefaamjknpaaGreatDoor
namespace Go.Proofs.YtfoeefaamjknpaaGreatDoor
open Go Go.Av Go.RowKit
def le2 (x y : Ch) : Prop := x.c < y.c ∨ (x.c = y.c ∧ x.u ≤ y.u)
theorem le2_rfl (x : Ch) : le2 x x := .inr ⟨rfl, Int.le_refl _⟩
theorem le2_tr {x y z : Ch} (h : le2 x y) (h2 : le2 y z) : le2 x z := by
  unfold le2 at *
  omega
theorem rc_t {x y : Ch} (h : rcB x y = true) : le2 x y := by
  unfold rcB at h
  unfold le2
  split at h
  · rename_i h1
    exact .inl (of_decide_eq_true h1)
  · split at h
    · rename_i h2
      have h2 := eq_of_beq h2
      split at h
      · rename_i h3
        have := of_decide_eq_true h3
        exact .inr ⟨h2, by omega⟩
      · split at h
        · rename_i h4
          exact .inr ⟨h2, Int.le_of_eq (eq_of_beq h4)⟩
        · cases h
    · cases h
theorem rc_f {x y : Ch} (h : rcB x y = false) : le2 y x := by
  unfold rcB at h
  unfold le2
  split at h
  · cases h
  · rename_i h1
    rw [decide_eq_true_eq] at h1
    split at h
    · rename_i h2
      have h2 := eq_of_beq h2
      split at h
      · cases h
      · rename_i h3
        rw [decide_eq_true_eq] at h3
        exact .inr ⟨h2.symm, by omega⟩
    · rename_i h2
      have : x.c ≠ y.c := fun e => h2 (by rw [e]; exact beq_self_eq_true _)
      exact .inl (by omega)
theorem tb_t {h : Hm} {l : List Ms} {t : Int} {o : Option Nat} {b : Nat} (e : taB h l t o b = true) : afU h l (bsM l b) ≤ t ∧ ∀ a, o = some a → le2 (chM h l (bsM l b)) (chM h l (bsM l a)) := by
  unfold taB at e
  split at e
  · rename_i h1
    refine ⟨of_decide_eq_true h1, fun a ha => ?_⟩
    subst ha
    rw [if_neg (show ¬ (!(some a).isSome) = true from Bool.false_ne_true), cmC_r] at e
    exact rc_t e
  · cases e
theorem tb_f {h : Hm} {l : List Ms} {t : Int} {o : Option Nat} {b : Nat} (hu : afU h l (bsM l b) ≤ t) (e : taB h l t o b = false) : ∃ a, o = some a ∧ le2 (chM h l (bsM l a)) (chM h l (bsM l b)) := by
  unfold taB at e
  rw [if_pos (decide_eq_true hu)] at e
  cases o with
  | none => exact absurd e.symm Bool.false_ne_true
  | some a =>
    rw [if_neg (show ¬ (!(some a).isSome) = true from Bool.false_ne_true), cmC_r] at e
    exact ⟨a, rfl, rc_f e⟩
theorem fold_min {h : Hm} {l : List Ms} {t : Int} : ∀ (xs : List Nat) (o : Option Nat), (∀ b, b ∈ xs → afU h l (bsM l b) ≤ t → ∃ a, xs.foldl (stB h l t) o = some a ∧ le2 (chM h l (bsM l a)) (chM h l (bsM l b))) ∧ (∀ b, o = some b → ∃ a, xs.foldl (stB h l t) o = some a ∧ le2 (chM h l (bsM l a)) (chM h l (bsM l b)))
  | [], _ => ⟨fun b hb => absurd hb List.not_mem_nil, fun b hb => ⟨b, hb, le2_rfl _⟩⟩
  | x :: xs, o => by
    obtain ⟨i1, i2⟩ := fold_min (h := h) (l := l) (t := t) xs (stB h l t o x)
    rw [List.foldl_cons]
    cases q : taB h l t o x with
    | true =>
      have e : stB h l t o x = some x := if_pos q
      obtain ⟨_, t2⟩ := tb_t q
      refine ⟨fun b hb hu => ?_, fun b hb => ?_⟩
      · rcases List.mem_cons.1 hb with rfl | hb
        · exact i2 _ e
        · exact i1 b hb hu
      · obtain ⟨a, e1, e2⟩ := i2 x e
        exact ⟨a, e1, le2_tr e2 (t2 b hb)⟩
    | false =>
      have e : stB h l t o x = o := if_neg (by rw [q]; decide)
      refine ⟨fun b hb hu => ?_, fun b hb => i2 b (by rw [e]; exact hb)⟩
      rcases List.mem_cons.1 hb with rfl | hb
      · obtain ⟨a, ha, e2⟩ := tb_f hu q
        obtain ⟨c, e3, e4⟩ := i2 a (by rw [e]; exact ha)
        exact ⟨c, e3, le2_tr e4 e2⟩
      · exact i1 b hb hu
theorem fold_u {h : Hm} {l : List Ms} {t : Int} : ∀ (xs : List Nat) (o : Option Nat), (∀ a, o = some a → afU h l (bsM l a) ≤ t) → ∀ a, xs.foldl (stB h l t) o = some a → afU h l (bsM l a) ≤ t
  | [], _, ho, a, e => ho a e
  | x :: xs, o, ho, a, e => by
    refine fold_u xs (stB h l t o x) (fun b hb => ?_) a e
    unfold stB at hb
    split at hb
    · rename_i h1
      injection hb with hb
      rw [← hb]
      exact (tb_t h1).1
    · exact ho b hb
theorem fold_mem {h : Hm} {l : List Ms} {t : Int} : ∀ (xs : List Nat) (o : Option Nat) (a : Nat), xs.foldl (stB h l t) o = some a → a ∈ xs ∨ o = some a
  | [], _, _, e => .inr e
  | x :: xs, o, a, e => by
    rcases fold_mem xs (stB h l t o x) a e with h1 | h1
    · exact .inl (List.mem_cons_of_mem _ h1)
    · unfold stB at h1
      split at h1
      · injection h1 with h1
        exact .inl (by rw [h1]; exact List.mem_cons_self ..)
      · exact .inr h1
theorem bst_some {h : Hm} {l : List Ms} {t : Int} {a : Nat} (e : bst h l t = some a) : a ∈ msk l ∧ fSet l (bsM l a) = 0 ∧ afU h l (bsM l a) ≤ t := by
  have h1 : a ∈ msk l := by
    rcases fold_mem (msk l) none a e with h1 | h1
    · exact h1
    · cases h1
  exact ⟨h1, msk_z h1, fold_u (msk l) none (fun _ h => by cases h) a e⟩
theorem bst_min {h : Hm} {l : List Ms} {t : Int} {b : Nat} (hb : b ∈ msk l) (hu : afU h l (bsM l b) ≤ t) : ∃ a, bst h l t = some a ∧ le2 (chM h l (bsM l a)) (chM h l (bsM l b)) := (fold_min (msk l) none).1 b hb hu
theorem mem_msk {l : List Ms} {b : Nat} (hb : b < pwN l.length) (hz : fSet l (bsM l b) = 0) : b ∈ msk l := by
  unfold msk
  rw [List.mem_filter, List.mem_range, List.length_map, ok_e, hz]
  exact ⟨hb, rfl⟩
theorem bst_mono {h : Hm} {l : List Ms} {t t' : Int} {a : Nat} (e : bst h l t = some a) (ht : t ≤ t') : ∃ a', bst h l t' = some a' ∧ costN l (bsM l a') ≤ costN l (bsM l a) := by
  obtain ⟨h1, h2, h3⟩ := bst_some e
  obtain ⟨a', e1, e2⟩ := bst_min (h := h) (t := t') h1 (by omega)
  refine ⟨a', e1, ?_⟩
  have e3 : costN l (bsM l a') < costN l (bsM l a) ∨ (costN l (bsM l a') = costN l (bsM l a) ∧ _) := e2
  omega
def cw (l : List Ms) (g : List Int) : Nat → Nat → Int
  | 0, _ => 0
  | k + 1, i => if (msI l (g.getD k default)).w.toNat = i then (msI l (g.getD k default)).c else cw l g k i
def cwS (l : List Ms) (g : List Int) (k : Nat) : Nat → Int
  | 0 => 0
  | n + 1 => cwS l g k n + cw l g k n
theorem cw_zero {l : List Ms} {g : List Int} {i : Nat} : ∀ k, (∀ j, j < k → (msI l (g.getD j default)).w.toNat ≠ i) → cw l g k i = 0
  | 0, _ => rfl
  | k + 1, h => by
    rw [cw, if_neg (h k (by omega))]
    exact cw_zero k fun j hj => h j (by omega)
theorem cwS_0 (l : List Ms) (g : List Int) : ∀ n, cwS l g 0 n = 0
  | 0 => rfl
  | n + 1 => by rw [cwS, cwS_0 l g n]; rfl
theorem cwS_step {l : List Ms} {g : List Int} {k : Nat} (hz : cw l g k (msI l (g.getD k default)).w.toNat = 0) : ∀ n, cwS l g (k + 1) n = cwS l g k n + if (msI l (g.getD k default)).w.toNat < n then (msI l (g.getD k default)).c else 0
  | 0 => by rw [cwS, cwS, if_neg (by omega)]; rfl
  | n + 1 => by
    rw [cwS, cwS, cwS_step hz n, cw]
    by_cases e : (msI l (g.getD k default)).w.toNat = n
    · rw [if_pos e, if_neg (by omega), if_pos (by omega), ← e, hz]
    · rw [if_neg e]
      by_cases e2 : (msI l (g.getD k default)).w.toNat < n
      · rw [if_pos e2, if_pos (by omega)]
        omega
      · rw [if_neg e2, if_neg (by omega)]
        omega
theorem aft_same {ws : List Wn} {l : List Ms} {g : List Int} {i : Nat} : ∀ k, (∀ j, j < k → (msI l (g.getD j default)).w.toNat ≠ i) → (aftN ws l g k).getD i default = ws.getD i default
  | 0, _ => rfl
  | k + 1, h => by
    rw [aftN, List.getD_eq_getElem?_getD, List.getElem?_set_ne (h k (by omega)), ← List.getD_eq_getElem?_getD]
    exact aft_same k fun j hj => h j (by omega)
theorem bdN_0 {p : Int} {w : Wn} {l : List Ms} {i : Int} : ∀ k, bdN p w l i k ≤ p * inHw w
  | 0 => Int.le_refl _
  | k + 1 => by
    have := bdN_0 (p := p) (w := w) (l := l) (i := i) k
    rw [bdN]
    unfold minI
    split
    · split <;> omega
    · exact this
theorem bdN_1 {p : Int} {w : Wn} {l : List Ms} {i : Int} {j : Nat} (e : (l.getD j default).w = i) : ∀ k, j < k → bdN p w l i k ≤ (l.getD j default).c + p * inHw (wiM w (l.getD j default))
  | 0, h => absurd h (by omega)
  | k + 1, h => by
    rw [bdN]
    by_cases e2 : j = k
    · subst e2
      rw [if_pos (by rw [e]; exact beq_self_eq_true _)]
      unfold minI
      split <;> omega
    · have := bdN_1 (p := p) (w := w) e k (by omega)
      unfold minI
      split
      · split <;> omega
      · exact this
theorem cf_ne {l : List Ms} {g : List Int} {j : Nat} (hj : j < g.length) (h : cfI l g j = false) : ∀ i, i < j → (msI l (g.getD i default)).w ≠ (msI l (g.getD j default)).w := fun i hi e => by
  have h2 : cfI l g j = true := by
    unfold cfI
    rw [List.any_eq_true]
    refine ⟨g.getD i default, ?_, by rw [e]; exact beq_self_eq_true _⟩
    rw [List.mem_take_iff_getElem]
    exact ⟨i, by omega, by rw [List.getD_eq_getElem?_getD, List.getElem?_eq_getElem (by omega)]; rfl⟩
  rw [h] at h2
  cases h2
theorem bd_le {h : Hm} {l : List Ms} {g : List Int} {t p : Int} (q1 : fMs h l = 0) (q2 : fSet l g = 0) (hp : 0 ≤ p) (hu : afU h l g ≤ t) : bdS h l t p h.ws.length ≤ costN l g := by
  obtain ⟨y1, y2, y3⟩ := ms_z q1
  obtain ⟨x0, x2⟩ := set_z q2
  obtain ⟨x1, _⟩ := ix_z x0
  have hw : ∀ j, j < g.length → 0 ≤ (msI l (g.getD j default)).w ∧ (msI l (g.getD j default)).w < h.ws.length := fun j hj => (y3 (g.getD j default).toNat (by have := x1 j hj; omega)).w0
  have hne : ∀ j, j < g.length → ∀ i, i < j → (msI l (g.getD i default)).w.toNat ≠ (msI l (g.getD j default)).w.toNat := fun j hj i hi e => cf_ne hj (x2 j hj) i hi (by have := hw i (by omega); have := hw j hj; omega)
  have hc : ∀ k, k ≤ g.length → cwS l g k h.ws.length = csN l g k := by
    intro k
    induction k with
    | zero => intro _; exact cwS_0 l g _
    | succ k ih =>
      intro hk
      have := hw k (by omega)
      rw [cwS_step (cw_zero k fun j hj => hne k (by omega) j hj), if_pos (by omega), ih (by omega), csN]
  have hb : ∀ k, k ≤ g.length → ∀ i, i < h.ws.length → bdN p (h.ws.getD i default) l i l.length ≤ cw l g k i + p * inHw ((aftN h.ws l g k).getD i default) := by
    intro k
    induction k with
    | zero =>
      intro _ i _
      rw [cw, aftN]
      have := bdN_0 (p := p) (w := h.ws.getD i default) (l := l) (i := i) l.length
      omega
    | succ k ih =>
      intro hk i hi
      have h0 := hw k (by omega)
      have h1 := x1 k (by omega)
      by_cases e : (msI l (g.getD k default)).w.toNat = i
      · have hs := aft_same (ws := h.ws) (i := i) k fun j hj => by rw [← e]; exact hne k (by omega) j hj
        rw [cw, if_pos e, aftN, e, List.getD_eq_getElem?_getD (l := (aftN h.ws l g k).set _ _), List.getElem?_set_self (by rw [aft_len]; exact hi), Option.getD_some, hs]
        exact bdN_1 (j := (g.getD k default).toNat) (show (msI l (g.getD k default)).w = (i : Int) by omega) l.length (by omega)
      · rw [cw, if_neg e, aftN, List.getD_eq_getElem?_getD (l := (aftN h.ws l g k).set _ _), List.getElem?_set_ne e, ← List.getD_eq_getElem?_getD]
        exact ih (by omega) i hi
  have hs : ∀ n, n ≤ h.ws.length → bdS h l t p n ≤ (0 - p) * t + cwS l g g.length n + p * inH (aft h.ws l g) n := by
    intro n
    induction n with
    | zero =>
      intro _
      rw [bdS, cwS, inH]
      omega
    | succ n ih =>
      intro hn
      have h1 := ih (by omega)
      have h2 := hb g.length (Nat.le_refl _) n (by omega)
      have h3 : inH (aft h.ws l g) (n + 1) = inH (aft h.ws l g) n + inHw ((aftN h.ws l g g.length).getD n default) := rfl
      rw [bdS, cwS, h3, Int.mul_add]
      omega
  have h1 := hs h.ws.length (Nat.le_refl _)
  rw [hc g.length (Nat.le_refl _)] at h1
  have h2 : p * inH (aft h.ws l g) h.ws.length ≤ p * t := Int.mul_le_mul_of_nonneg_left hu hp
  have h3 : (0 - p) * t = -(p * t) := by rw [Int.zero_sub, Int.neg_mul]
  unfold costN
  omega
end Go.Proofs.YtfoeefaamjknpaaGreatDoor
namespace Go.Proofs.YtfoeefaamjknpaaGreatDoor
open Go Go.Av Go.RowKit
end Go.Proofs.YtfoeefaamjknpaaGreatDoor
namespace Go.Proofs.YtfoeefaamjknpaaGreatDoor
open Go Go.Av Go.RowKit
def wS (h : Hm) (l : List Ms) (t : Int) : List Int := if (chE h l t != 0) = true then [] else (chO h l (bst h l t)).s
def wC (h : Hm) (l : List Ms) (t : Int) : Int := if (chE h l t != 0) = true then 0 else (chO h l (bst h l t)).c
def wE (h : Hm) (l : List Ms) (t : Int) : Int := if (chE h l t != 0) = true then chE h l t else if (bst h l t).isSome = true then 0 else 18
theorem c42V_e (h : Hm) (l : List Ms) (t : Int) : c42V h l t = .tup [.sl 1 ((wS h l t).map encI), .i (wC h l t), .i (wE h l t)] := by
  unfold c42V wS wC wE
  split
  · rfl
  · rfl
theorem wS_len (h : Hm) (l : List Ms) (t : Int) : (wS h l t).length ≤ l.length := by
  unfold wS
  split
  · exact Nat.zero_le _
  · exact ch_len h l _
structure K4 (h : Hm) (l : List Ms) : Prop where
  ko : h.nm.length ≤ 40
  kw : h.ws.length ≤ 9
  kl : l.length ≤ 9
  kn : ∀ y, y ∈ l → y.nm.length ≤ 1000
def m4a (h : Hm) (l : List Ms) (t p : Int) : List (Nat × AV) := [(1, .sl 19 (l.map encMs)), (3, .elt 3 [encHm h] 0 0), (5, .elt 2 [[.i t, .i p]] 0 0), (7, .sl 1 ((wS h l t).map encI)), (8, .i (wC h l t)), (9, .i (wE h l t)), (10, .i (bdV h l t p)), (11, .i (bdE h l t p)), (13, .i (bdE h l t p))]
def m4 (h : Hm) (l : List Ms) (t p : Int) : List (Option (List GS × AS × Prop)) :=
  [none, none, none, none, none, none, none, none,
   mdB [.nil 14 1] (K4 h l) (m4a h l t p ++ [(12, .i (chE h l t)), (14, .sl 1 []), (15, .i 0), (16, .i 0)]) [] 1, none,
   mdB [] (K4 h l) (m4a h l t p ++ [(12, .i (wE h l t)), (14, .sl 1 ((wS h l t).map encI)), (15, .i (wC h l t)), (16, .i 0)]) [] 1, none,
   mdB [] (K4 h l) (m4a h l t p ++ [(12, .i (wE h l t)), (14, .sl 1 ((wS h l t).map encI)), (15, .i (wC h l t)), (16, .i (bdV h l t p))]) [] 1, none]
end Go.Proofs.YtfoeefaamjknpaaGreatDoor
