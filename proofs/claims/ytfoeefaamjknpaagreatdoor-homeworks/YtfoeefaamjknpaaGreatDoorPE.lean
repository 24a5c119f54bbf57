/-
  The cheapest set and the bound of the sum: the source's, the reference's bound. The cheapest set: the reference's. Complaints, the reference's: those that are counted, tied and due. HomeWorks returns true. No condition but the theorems' own.
-/
import Derived.Test.YtfoeefaamjknpaaGreatDoorPD
import Derived.Test.YtfoeefaamjknpaaGreatDoorAvD
namespace Go.Proofs.YtfoeefaamjknpaaGreatDoor
open Go Go.Av Go.RowKit
def chE (h : Hm) (l : List Ms) (t : Int) : Int := sFirst [fMs h l, fEn t]
def cW (h : Hm) (l : List Ms) (o : Option Nat) : AV := .tup [.sl 1 ((chO h l o).s.map encI), .i (chO h l o).c, .i (if o.isSome = true then 0 else 18)]
def c42V (h : Hm) (l : List Ms) (t : Int) : AV := if (chE h l t != 0) = true then .tup [.sl 1 [], .i 0, .i (chE h l t)] else cW h l (bst h l t)
def sp42 (h : Hm) (l : List Ms) (t : Int) : Nat → List AV → Option AV
  | 39, _ => some (.i (fMs h l))
  | 122, _ => some (.tup [.agg (encCh (chO h l (bst h l t))), .bool (bst h l t).isSome])
  | n, z => spW n z
theorem none_of {α : Type} {o : Option α} (h : (!o.isSome) = true) : o = none := by cases o <;> simp_all
theorem c42 (h : Hm) (l : List Ms) (t : Int) (hm : h.nm.length ≤ 1000000) (hw : h.ws.length ≤ 1000) (hl : l.length ≤ 1000) (hn : ∀ x, x ∈ l → x.nm.length ≤ 1000) : PCall Tryz.prog G0 42 [.agg (encHm h), .sl 19 (l.map encMs), .i t] (c42V h l t) := by
  have key :
   PCall Tryz.prog G0 39 [AV.agg (encHm h), AV.sl 19 (List.map encMs l)] (AV.i (fMs h l)) ∧ PCall Tryz.prog G0 105 [AV.i t] (AV.i (sWithin t (0 : Int) (10000000000000 : Int))) ∧ PCall Tryz.prog G0 104 [AV.sl 1 [[AV.i (fMs h l)], [AV.i
   (sWithin t (0 : Int) (10000000000000 : Int))]]] (AV.i (sFirst [hdI [AV.i (fMs h l)], hdI [AV.i (sWithin t (0 : Int) (10000000000000 : Int))]])) ∧ ((sFirst [hdI [AV.i (fMs h l)], hdI [AV.i (sWithin t (0 : Int) (10000000000000 :
   Int))]] != 0) = true → AV.tup [AV.sl 1 [], AV.i 0, AV.i (sFirst [hdI [AV.i (fMs h l)], hdI [AV.i (sWithin t (0 : Int) (10000000000000 : Int))]])] = c42V h l t) ∧ ((sFirst [hdI [AV.i (fMs h l)], hdI [AV.i (sWithin t (0 : Int)
   (10000000000000 : Int))]] != 0) = false → PCall Tryz.prog G0 122 [AV.agg (encHm h), AV.sl 19 (List.map encMs l), AV.i t] (AV.tup [AV.agg (encCh (chO h l (bst h l t))), AV.bool (bst h l t).isSome]) ∧ ((!(bst h l t).isSome) = true →
   AV.tup [AV.sl 1 [], AV.i 0, AV.i 18] = c42V h l t) ∧ ((!(bst h l t).isSome) = false → AV.tup [AV.sl 1 (List.map encI (chO h l (bst h l t)).s), AV.i (chO h l (bst h l t)).c, AV.i 0] = c42V h l t)) := by
    refine ⟨(c39 h l hm hw hl hn), (c105 _), (c104 [_, _] (by simp)), fun h1 => ?_, fun h1 => ?_⟩
    · exact (if_pos h1).symm
    · have hz : chE h l t = 0 := bne_f h1
      have hz2 := hz
      unfold chE at hz2
      rw [first_zero] at hz2
      refine ⟨(c122 h l t hz2.1), fun h2 => ?_, fun h2 => ?_⟩
      · have e : c42V h l t = cW h l (bst h l t) := if_neg (by rw [hz]; decide)
        rw [e, none_of h2]
        rfl
      · have e : c42V h l t = cW h l (bst h l t) := if_neg (by rw [hz]; decide)
        rw [e]
        unfold cW
        rw [show (bst h l t).isSome = true by simpa using h2]
        rfl
  exact c_of Tryz.f42 (gsB (fun i => if i.beq 3 then [.nil 6 1] else if i.beq 6 then [.nil 6 1] else []) (fzB (mkB (sp42 h l t) 42 [] noLa))) (by kernel_rfl) (by kernel_rfl) (by kernel_rfl) (by kernel_rfl) key (by kernel_rfl)
def wcN (w : Wn) (l : List Ms) (i : Int) : Nat → Wn
  | 0 => w
  | k + 1 => if ((l.getD k default).w == i) = true then wiM (wcN w l i k) (l.getD k default) else wcN w l i k
def bdN (p : Int) (w : Wn) (l : List Ms) (i : Int) : Nat → Int
  | 0 => p * inHw w
  | k + 1 => if ((l.getD k default).w == i) = true then minI (bdN p w l i k) ((l.getD k default).c + p * inHw (wiM w (l.getD k default))) else bdN p w l i k
theorem wi_wc (w : Wn) (l : List Ms) (i : Int) (m : Ms) : ∀ k, wiM (wcN w l i k) m = wiM w m
  | 0 => rfl
  | k + 1 => by
    rw [wcN]
    split
    · exact wi_wc w l i m k
    · exact wi_wc w l i m k
theorem mulp_bd {p x : Int} (hp : 0 ≤ p ∧ p ≤ 100000) (hx : 0 ≤ x ∧ x ≤ 800000000) : 0 ≤ p * x ∧ p * x ≤ 80000000000000 := mul_bd hp.1 hp.2 hx.1 hx.2
theorem bdN_bd {p : Int} {w : Wn} {l : List Ms} {n : Nat} (i : Int) (hp : 0 ≤ p ∧ p ≤ 100000) (hw : WnOK w) (hl : ∀ i, i < l.length → MsOK n (l.getD i default)) : ∀ k, k ≤ l.length → 0 ≤ bdN p w l i k ∧ bdN p w l i k ≤ 80000000000000
  | 0, _ => mulp_bd hp (inHw_bd hw).2
  | k + 1, hk => by
    have h1 := bdN_bd i hp hw hl k (by omega)
    have h2 := (hl k (by omega)).c0
    have h3 := mulp_bd hp (inHw_bd (wiM_ok hw (hl k (by omega)))).2
    rw [bdN]
    split
    · unfold minI
      split <;> omega
    · exact h1
def bdS (h : Hm) (l : List Ms) (t p : Int) : Nat → Int
  | 0 => (0 - p) * t
  | i + 1 => bdS h l t p i + bdN p (h.ws.getD i default) l i l.length
theorem bdS_bd {h : Hm} {l : List Ms} {t p : Int} {n : Nat} (hp : 0 ≤ p ∧ p ≤ 100000) (ht : 0 ≤ t ∧ t ≤ 10000000000000) (hw : WsOK h.ws) (hl : ∀ i, i < l.length → MsOK n (l.getD i default)) : ∀ k, k ≤ h.ws.length → -1000000000000000000 ≤ bdS h l t p k ∧ bdS h l t p k ≤ 80000000000000 * k
  | 0, _ => by
    have := mul_bd hp.1 hp.2 ht.1 ht.2
    rw [bdS, Int.zero_sub, Int.neg_mul]
    omega
  | k + 1, hk => by
    have h1 := bdS_bd hp ht hw hl k (by omega)
    have h2 := bdN_bd (k : Int) hp (hw k (by omega)) hl l.length (Nat.le_refl _)
    rw [bdS]
    omega
def bdE (h : Hm) (l : List Ms) (t p : Int) : Int := sFirst [fMs h l, fEn t, sWithin p 0 100000]
def bdV (h : Hm) (l : List Ms) (t p : Int) : Int := if (bdE h l t p != 0) = true then 0 else bdS h l t p h.ws.length
def la43 (h : Hm) (l : List Ms) (t p : Int) (b : Nat) : Option LA :=
  let sl (i : Nat) : List (Nat × AV) := [(1, .sl 19 (l.map encMs)), (3, .i p), (4, .elt 3 [encHm h] 0 0), (11, .i (bdS h l t p i)), (34, .sl 25 (h.ws.map encWn)), (35, .i (h.ws.map encWn).length), (36, .i i)]
  if b.beq 0 then some {
    pre := [.keep [1, 3, 4, 11, 34, 35, 36] [], .bound 1], post := [.keep [1, 3, 4, 11, 34, 35, 36] [], .bound 1]
    Gh := Nat
    st := fun i => ⟨sl i, [], 1⟩
    ok := fun i => i ≤ h.ws.length
    ms := fun i => h.ws.length - i }
  else some {
    pre := [.reno 13 1, .keep [1, 3, 4, 11, 34, 35, 36, 12, 13, 14, 46, 47, 48] [1], .bound 2], post := [.keep [1, 3, 4, 11, 34, 35, 36, 12, 13, 14, 46, 47, 48] [1], .bound 2]
    Gh := Nat × Nat
    st := fun q => ⟨sl q.1 ++ [(12, .i q.1), (13, .ptr 1 0), (14, .i (bdN p (h.ws.getD q.1 default) l q.1 q.2)), (46, .sl 19 (l.map encMs)), (47, .i (l.map encMs).length), (48, .i q.2)], [(1, .box (encWn (wcN (h.ws.getD q.1 default) l q.1 q.2)))], 2⟩
    ok := fun q => q.1 < h.ws.length ∧ q.2 ≤ l.length
    rel := some fun q0 q => q.1 = q0.1
    ms := fun q => l.length - q.2 }
def sp43 (h : Hm) (l : List Ms) : Nat → List AV → Option AV
  | 39, _ => some (.i (fMs h l))
  | n, z => spI2 n z
theorem c43 (h : Hm) (l : List Ms) (t p : Int) (hm : h.nm.length ≤ 1000000) (hw : h.ws.length ≤ 1000) (hl : l.length ≤ 1000) (hn : ∀ x, x ∈ l → x.nm.length ≤ 1000) : PCall Tryz.prog G0 43 [.agg (encHm h), .sl 19 (l.map encMs), .i t, .i p] (.tup [.i (bdV h l t p), .i (bdE h l t p)]) := by
  have key :
   PCall Tryz.prog G0 39 [AV.agg (encHm h), AV.sl 19 (List.map encMs l)] (AV.i (fMs h l)) ∧ PCall Tryz.prog G0 105 [AV.i t] (AV.i (sWithin t (0 : Int) (10000000000000 : Int))) ∧ PCall Tryz.prog G0 118 [AV.i p, AV.i 0, AV.i 100000]
   (AV.i (sWithin p (0 : Int) (100000 : Int))) ∧ PCall Tryz.prog G0 104 [AV.sl 1 [[AV.i (fMs h l)], [AV.i (sWithin t (0 : Int) (10000000000000 : Int))], [AV.i (sWithin p (0 : Int) (100000 : Int))]]] (AV.i (sFirst [hdI [AV.i (fMs h
   l)], hdI [AV.i (sWithin t (0 : Int) (10000000000000 : Int))], hdI [AV.i (sWithin p (0 : Int) (100000 : Int))]])) ∧ ((sFirst [hdI [AV.i (fMs h l)], hdI [AV.i (sWithin t (0 : Int) (10000000000000 : Int))], hdI [AV.i (sWithin p (0 :
   Int) (100000 : Int))]] != 0) = true → AV.tup [AV.i 0, AV.i (sFirst [hdI [AV.i (fMs h l)], hdI [AV.i (sWithin t (0 : Int) (10000000000000 : Int))], hdI [AV.i (sWithin p (0 : Int) (100000 : Int))]])] = AV.tup [AV.i (bdV h l t p),
   AV.i (bdE h l t p)]) ∧ ((sFirst [hdI [AV.i (fMs h l)], hdI [AV.i (sWithin t (0 : Int) (10000000000000 : Int))], hdI [AV.i (sWithin p (0 : Int) (100000 : Int))]] != 0) = false → In64 ((0 : Int) - p) ∧ In64 (((0 : Int) - p) * t) ∧ (∃
   (g : Nat), g ≤ h.ws.length ∧ AS.mk [(1, AV.sl 19 (List.map encMs l)), (3, AV.i p), (4, AV.elt 3 [(encHm h)] 0 0), (11, AV.i (((0 : Int) - p) * t)), (34, AV.sl 25 (List.map encWn h.ws)), (35, AV.i (↑(List.map encWn h.ws).length :
   Int)), (36, AV.i 0)] [] 1 = AS.mk [(1, AV.sl 19 (List.map encMs l)), (3, AV.i p), (4, AV.elt 3 [(encHm h)] 0 0), (11, AV.i (bdS h l t p g)), (34, AV.sl 25 (List.map encWn h.ws)), (35, AV.i (↑(List.map encWn h.ws).length : Int)),
   (36, AV.i (↑g : Int))] [] 1) ∧ ∀ (g : Nat), g ≤ h.ws.length → (decide ((↑g : Int) < (↑(List.map encWn h.ws).length : Int)) = true → (0 : Int) ≤ (↑g : Int) ∧ (↑g : Int) < (↑(List.map encWn h.ws).length : Int) ∧ AV.agg (nthR
   (List.map encWn h.ws) (↑g : Int).toNat) = AV.agg (encWn (h.ws.getD (↑g : Int).toNat default)) ∧ In64 (p * inHw ((h.ws.getD (↑g : Int).toNat default))) ∧ PCall Tryz.prog G0 123 [AV.agg (encWn (h.ws.getD (↑g : Int).toNat default))]
   (AV.agg [AV.i (inLw ((h.ws.getD (↑g : Int).toNat default))), AV.i (inHw ((h.ws.getD (↑g : Int).toNat default)))]) ∧ ∃ (g0 : Nat × Nat), (g0.fst < h.ws.length ∧ g0.snd ≤ l.length) ∧ g0.fst = g0.fst ∧ AS.mk [(1, AV.sl 19 (List.map
   encMs l)), (3, AV.i p), (4, AV.elt 3 [(encHm h)] 0 0), (11, AV.i (bdS h l t p g)), (34, AV.sl 25 (List.map encWn h.ws)), (35, AV.i (↑(List.map encWn h.ws).length : Int)), (36, AV.i (↑g : Int)), (12, AV.i (↑g : Int)), (13, AV.ptr 1
   0), (14, AV.i (p * inHw ((h.ws.getD (↑g : Int).toNat default)))), (46, AV.sl 19 (List.map encMs l)), (47, AV.i (↑(List.map encMs l).length : Int)), (48, AV.i 0)] [(1, ABlk.box (encWn (h.ws.getD (↑g : Int).toNat default)))] 2 =
   AS.mk [(1, AV.sl 19 (List.map encMs l)), (3, AV.i p), (4, AV.elt 3 [(encHm h)] 0 0), (11, AV.i (bdS h l t p g0.fst)), (34, AV.sl 25 (List.map encWn h.ws)), (35, AV.i (↑(List.map encWn h.ws).length : Int)), (36, AV.i (↑g0.fst :
   Int)), (12, AV.i (↑g0.fst : Int)), (13, AV.ptr 1 0), (14, AV.i (bdN p (h.ws.getD g0.fst default) l (↑g0.fst : Int) g0.snd)), (46, AV.sl 19 (List.map encMs l)), (47, AV.i (↑(List.map encMs l).length : Int)), (48, AV.i (↑g0.snd :
   Int))] [(1, ABlk.box (encWn (wcN (h.ws.getD g0.fst default) l (↑g0.fst : Int) g0.snd)))] 2 ∧ ∀ (g_1 : Nat × Nat), g_1.fst < h.ws.length ∧ g_1.snd ≤ l.length → g_1.fst = g0.fst → (decide ((↑g_1.snd : Int) < (↑(List.map encMs
   l).length : Int)) = true → (0 : Int) ≤ (↑g_1.snd : Int) ∧ (↑g_1.snd : Int) < (↑(List.map encMs l).length : Int) ∧ AV.agg (nthR (List.map encMs l) (↑g_1.snd : Int).toNat) = AV.agg (encMs (l.getD (↑g_1.snd : Int).toNat default)) ∧
   (((l.getD (↑g_1.snd : Int).toNat default).w == (↑g_1.fst : Int)) = true → In64 (p * inHw (wiM (wcN (h.ws.getD g_1.fst default) l (↑g_1.fst : Int) g_1.snd) (l.getD (↑g_1.snd : Int).toNat default))) ∧ In64 ((l.getD (↑g_1.snd :
   Int).toNat default).c + p * inHw (wiM (wcN (h.ws.getD g_1.fst default) l (↑g_1.fst : Int) g_1.snd) (l.getD (↑g_1.snd : Int).toNat default))) ∧ PCall Tryz.prog G0 123 [AV.agg [AV.i (wcN (h.ws.getD g_1.fst default) l (↑g_1.fst : Int)
   g_1.snd).o0, AV.i (wcN (h.ws.getD g_1.fst default) l (↑g_1.fst : Int) g_1.snd).o1, AV.i (wcN (h.ws.getD g_1.fst default) l (↑g_1.fst : Int) g_1.snd).o2, AV.i (wcN (h.ws.getD g_1.fst default) l (↑g_1.fst : Int) g_1.snd).o3, AV.i
   (wcN (h.ws.getD g_1.fst default) l (↑g_1.fst : Int) g_1.snd).o4, AV.i (wcN (h.ws.getD g_1.fst default) l (↑g_1.fst : Int) g_1.snd).o5, AV.i (wcN (h.ws.getD g_1.fst default) l (↑g_1.fst : Int) g_1.snd).o6, AV.i (wcN (h.ws.getD
   g_1.fst default) l (↑g_1.fst : Int) g_1.snd).o7, AV.i (wcN (h.ws.getD g_1.fst default) l (↑g_1.fst : Int) g_1.snd).ar, AV.i (l.getD (↑g_1.snd : Int).toNat default).p0, AV.i (l.getD (↑g_1.snd : Int).toNat default).p1, AV.i (l.getD
   (↑g_1.snd : Int).toNat default).p2, AV.i (l.getD (↑g_1.snd : Int).toNat default).p3, AV.i (l.getD (↑g_1.snd : Int).toNat default).p4, AV.i (l.getD (↑g_1.snd : Int).toNat default).p5, AV.i (l.getD (↑g_1.snd : Int).toNat default).p6,
   AV.i (l.getD (↑g_1.snd : Int).toNat default).p7, AV.i (l.getD (↑g_1.snd : Int).toNat default).p8, AV.i (l.getD (↑g_1.snd : Int).toNat default).p9, AV.i (l.getD (↑g_1.snd : Int).toNat default).p10, AV.i (l.getD (↑g_1.snd :
   Int).toNat default).p11, AV.i (l.getD (↑g_1.snd : Int).toNat default).p12, AV.i (l.getD (↑g_1.snd : Int).toNat default).p13, AV.i (l.getD (↑g_1.snd : Int).toNat default).p14, AV.i (l.getD (↑g_1.snd : Int).toNat default).p15]]
   (AV.agg [AV.i (inLw (wiM (wcN (h.ws.getD g_1.fst default) l (↑g_1.fst : Int) g_1.snd) (l.getD (↑g_1.snd : Int).toNat default))), AV.i (inHw (wiM (wcN (h.ws.getD g_1.fst default) l (↑g_1.fst : Int) g_1.snd) (l.getD (↑g_1.snd :
   Int).toNat default)))]) ∧ In64 ((↑g_1.snd : Int) + 1) ∧ ∃ (g' : Nat × Nat), (g'.fst < h.ws.length ∧ g'.snd ≤ l.length) ∧ g'.fst = g0.fst ∧ l.length - g'.snd < l.length - g_1.snd ∧ AS.mk [(1, AV.sl 19 (List.map encMs l)), (3, AV.i
   p), (4, AV.elt 3 [(encHm h)] 0 0), (11, AV.i (bdS h l t p g_1.fst)), (34, AV.sl 25 (List.map encWn h.ws)), (35, AV.i (↑(List.map encWn h.ws).length : Int)), (36, AV.i (↑g_1.fst : Int)), (12, AV.i (↑g_1.fst : Int)), (13, AV.ptr 1
   0), (14, AV.i (minI (bdN p (h.ws.getD g_1.fst default) l (↑g_1.fst : Int) g_1.snd) ((l.getD (↑g_1.snd : Int).toNat default).c + p * inHw (wiM (wcN (h.ws.getD g_1.fst default) l (↑g_1.fst : Int) g_1.snd) (l.getD (↑g_1.snd :
   Int).toNat default))))), (46, AV.sl 19 (List.map encMs l)), (47, AV.i (↑(List.map encMs l).length : Int)), (48, AV.i ((↑g_1.snd : Int) + 1))] [(1, ABlk.box [AV.i (wcN (h.ws.getD g_1.fst default) l (↑g_1.fst : Int) g_1.snd).o0, AV.i
   (wcN (h.ws.getD g_1.fst default) l (↑g_1.fst : Int) g_1.snd).o1, AV.i (wcN (h.ws.getD g_1.fst default) l (↑g_1.fst : Int) g_1.snd).o2, AV.i (wcN (h.ws.getD g_1.fst default) l (↑g_1.fst : Int) g_1.snd).o3, AV.i (wcN (h.ws.getD
   g_1.fst default) l (↑g_1.fst : Int) g_1.snd).o4, AV.i (wcN (h.ws.getD g_1.fst default) l (↑g_1.fst : Int) g_1.snd).o5, AV.i (wcN (h.ws.getD g_1.fst default) l (↑g_1.fst : Int) g_1.snd).o6, AV.i (wcN (h.ws.getD g_1.fst default) l
   (↑g_1.fst : Int) g_1.snd).o7, AV.i (wcN (h.ws.getD g_1.fst default) l (↑g_1.fst : Int) g_1.snd).ar, AV.i (l.getD (↑g_1.snd : Int).toNat default).p0, AV.i (l.getD (↑g_1.snd : Int).toNat default).p1, AV.i (l.getD (↑g_1.snd :
   Int).toNat default).p2, AV.i (l.getD (↑g_1.snd : Int).toNat default).p3, AV.i (l.getD (↑g_1.snd : Int).toNat default).p4, AV.i (l.getD (↑g_1.snd : Int).toNat default).p5, AV.i (l.getD (↑g_1.snd : Int).toNat default).p6, AV.i
   (l.getD (↑g_1.snd : Int).toNat default).p7, AV.i (l.getD (↑g_1.snd : Int).toNat default).p8, AV.i (l.getD (↑g_1.snd : Int).toNat default).p9, AV.i (l.getD (↑g_1.snd : Int).toNat default).p10, AV.i (l.getD (↑g_1.snd : Int).toNat
   default).p11, AV.i (l.getD (↑g_1.snd : Int).toNat default).p12, AV.i (l.getD (↑g_1.snd : Int).toNat default).p13, AV.i (l.getD (↑g_1.snd : Int).toNat default).p14, AV.i (l.getD (↑g_1.snd : Int).toNat default).p15])] 2 = AS.mk [(1,
   AV.sl 19 (List.map encMs l)), (3, AV.i p), (4, AV.elt 3 [(encHm h)] 0 0), (11, AV.i (bdS h l t p g'.fst)), (34, AV.sl 25 (List.map encWn h.ws)), (35, AV.i (↑(List.map encWn h.ws).length : Int)), (36, AV.i (↑g'.fst : Int)), (12,
   AV.i (↑g'.fst : Int)), (13, AV.ptr 1 0), (14, AV.i (bdN p (h.ws.getD g'.fst default) l (↑g'.fst : Int) g'.snd)), (46, AV.sl 19 (List.map encMs l)), (47, AV.i (↑(List.map encMs l).length : Int)), (48, AV.i (↑g'.snd : Int))] [(1,
   ABlk.box (encWn (wcN (h.ws.getD g'.fst default) l (↑g'.fst : Int) g'.snd)))] 2) ∧ (((l.getD (↑g_1.snd : Int).toNat default).w == (↑g_1.fst : Int)) = false → In64 ((↑g_1.snd : Int) + 1) ∧ ∃ (g' : Nat × Nat), (g'.fst < h.ws.length ∧
   g'.snd ≤ l.length) ∧ g'.fst = g0.fst ∧ l.length - g'.snd < l.length - g_1.snd ∧ AS.mk [(1, AV.sl 19 (List.map encMs l)), (3, AV.i p), (4, AV.elt 3 [(encHm h)] 0 0), (11, AV.i (bdS h l t p g_1.fst)), (34, AV.sl 25 (List.map encWn
   h.ws)), (35, AV.i (↑(List.map encWn h.ws).length : Int)), (36, AV.i (↑g_1.fst : Int)), (12, AV.i (↑g_1.fst : Int)), (13, AV.ptr 1 0), (14, AV.i (bdN p (h.ws.getD g_1.fst default) l (↑g_1.fst : Int) g_1.snd)), (46, AV.sl 19
   (List.map encMs l)), (47, AV.i (↑(List.map encMs l).length : Int)), (48, AV.i ((↑g_1.snd : Int) + 1))] [(1, ABlk.box (encWn (wcN (h.ws.getD g_1.fst default) l (↑g_1.fst : Int) g_1.snd)))] 2 = AS.mk [(1, AV.sl 19 (List.map encMs
   l)), (3, AV.i p), (4, AV.elt 3 [(encHm h)] 0 0), (11, AV.i (bdS h l t p g'.fst)), (34, AV.sl 25 (List.map encWn h.ws)), (35, AV.i (↑(List.map encWn h.ws).length : Int)), (36, AV.i (↑g'.fst : Int)), (12, AV.i (↑g'.fst : Int)), (13,
   AV.ptr 1 0), (14, AV.i (bdN p (h.ws.getD g'.fst default) l (↑g'.fst : Int) g'.snd)), (46, AV.sl 19 (List.map encMs l)), (47, AV.i (↑(List.map encMs l).length : Int)), (48, AV.i (↑g'.snd : Int))] [(1, ABlk.box (encWn (wcN (h.ws.getD
   g'.fst default) l (↑g'.fst : Int) g'.snd)))] 2)) ∧ (decide ((↑g_1.snd : Int) < (↑(List.map encMs l).length : Int)) = false → In64 (bdS h l t p g_1.fst + bdN p (h.ws.getD g_1.fst default) l (↑g_1.fst : Int) g_1.snd) ∧ In64
   ((↑g_1.fst : Int) + 1) ∧ ∃ (g' : Nat), g' ≤ h.ws.length ∧ h.ws.length - g' < h.ws.length - g ∧ AS.mk [(1, AV.sl 19 (List.map encMs l)), (3, AV.i p), (4, AV.elt 3 [(encHm h)] 0 0), (11, AV.i (bdS h l t p g_1.fst + bdN p (h.ws.getD
   g_1.fst default) l (↑g_1.fst : Int) g_1.snd)), (34, AV.sl 25 (List.map encWn h.ws)), (35, AV.i (↑(List.map encWn h.ws).length : Int)), (36, AV.i ((↑g_1.fst : Int) + 1))] [] 1 = AS.mk [(1, AV.sl 19 (List.map encMs l)), (3, AV.i p),
   (4, AV.elt 3 [(encHm h)] 0 0), (11, AV.i (bdS h l t p g')), (34, AV.sl 25 (List.map encWn h.ws)), (35, AV.i (↑(List.map encWn h.ws).length : Int)), (36, AV.i (↑g' : Int))] [] 1)) ∧ (decide ((↑g : Int) < (↑(List.map encWn
   h.ws).length : Int)) = false → AV.tup [AV.i (bdS h l t p g), AV.i 0] = AV.tup [AV.i (bdV h l t p), AV.i (bdE h l t p)])) := by
    have hlm : (List.map encMs l).length = l.length := List.length_map _
    have hwm : (List.map encWn h.ws).length = h.ws.length := List.length_map _
    have : (List.map encWn h.ws).length = h.ws.length := by simp only [List.length_map]
    have : (List.map encMs l).length = l.length := by simp only [List.length_map]
    refine ⟨(c39 h l hm hw hl hn), (c105 _), (c118 _ _ _), (c104 [_, _, _] (by simp)), fun h1 => ?_, fun h1 => ?_⟩
    · rw [show bdV h l t p = 0 from if_pos h1]
      rfl
    · have hz : bdE h l t p = 0 := bne_f h1
      have hz2 := hz
      unfold bdE at hz2
      rw [first_zero, first_zero, first_zero] at hz2
      obtain ⟨q1, q2, q3, _⟩ := hz2
      have q2 := within_zero.1 q2
      have q3 := within_zero.1 q3
      obtain ⟨y1, y2, y3⟩ := ms_z q1
      obtain ⟨z1, z2, z3, z4, z5, z6⟩ := hm_z y1
      have s0 := mul_bd q3.1 q3.2 q2.1 q2.2
      have s1 : (0 - p) * t = -(p * t) := by rw [Int.zero_sub, Int.neg_mul]
      refine ⟨(by unfold In64; omega), (by unfold In64; omega), ⟨⟨0, by omega, rfl⟩, fun g hg => ⟨fun hd => ?_, fun hd => ?_⟩⟩⟩
      · have hlt : g < h.ws.length := by have h9 := of_decide_eq_true hd; have h8 := hg; (try simp only [List.length_map] at h8 h9); omega
        have hwg := z6 g hlt
        have hb1 := bdS_bd q3 q2 z6 y3 g (by omega)
        have hb2 := mulp_bd q3 (inHw_bd hwg).2
        have hb7 := bdN_bd (g : Int) q3 hwg y3 l.length (Nat.le_refl _)
        try rw [show (↑g : Int).toNat = g from Int.toNat_natCast g]
        refine ⟨(by omega), (by omega), congrArg AV.agg (row_at encWn hlt), (by unfold In64; omega), (c123 _ hwg), ⟨(g, 0), ⟨by (try dsimp only); omega, by (try dsimp only); omega⟩, rfl, rfl, fun g_1 hok2 hr2 => ?_⟩⟩
        · obtain ⟨i2, j2⟩ := g_1
          dsimp only at hok2 hr2 ⊢
          obtain ⟨hi2, hg2⟩ := hok2
          have hr3 : g = i2 := hr2.symm
          subst hr3
          refine ⟨fun hd2 => ?_, fun hd2 => ?_⟩
          · have hlt2 : j2 < l.length := by have h9 := of_decide_eq_true hd2; have h8 := hg2; (try simp only [List.length_map] at h8 h9); omega
            try rw [show (↑g : Int).toNat = g from Int.toNat_natCast g]
            have hb3 := bdN_bd (g : Int) q3 hwg y3 j2 (by omega)
            have hb4 := (y3 j2 (by omega)).c0
            have hb5 := mulp_bd q3 (inHw_bd (wiM_ok hwg (y3 j2 (by omega)))).2
            have hb6 := hb5
            rw [← wi_wc (h.ws.getD g default) l (g : Int) (l.getD j2 default) j2] at hb6
            try rw [show (↑j2 : Int).toNat = j2 from Int.toNat_natCast j2]
            refine ⟨(by omega), (by omega), congrArg AV.agg (row_at encMs hlt2), fun h2 => ⟨(by unfold In64; omega), (by unfold In64; omega), ((by have e := c123 (wiM (wcN (h.ws.getD g default) l (g : Int) j2) (l.getD j2 default)) (by rw [wi_wc]; exact wiM_ok hwg (y3 j2 (by omega))); exact e)), (by unfold In64; omega), ⟨(g, j2 + 1), ⟨by (try dsimp only); omega, by (try dsimp only); omega⟩, rfl, (by (try dsimp only); omega), ?_⟩⟩, fun h2 => ⟨(by unfold In64; omega), ⟨(g, j2 + 1), ⟨by (try dsimp only); omega, by (try dsimp only); omega⟩, rfl, (by (try dsimp only); omega), ?_⟩⟩⟩
            · dsimp only
              have e1 : bdN p (h.ws.getD g default) l g (j2 + 1) = minI (bdN p (h.ws.getD g default) l g j2) ((l.getD j2 default).c + p * inHw (wiM (wcN (h.ws.getD g default) l g j2) (l.getD j2 default))) := (if_pos h2).trans (by rw [wi_wc])
              have e2 : wcN (h.ws.getD g default) l g (j2 + 1) = wiM (wcN (h.ws.getD g default) l g j2) (l.getD j2 default) := if_pos h2
              rw [e1, e2]
              rfl
            · dsimp only
              have e1 : bdN p (h.ws.getD g default) l g (j2 + 1) = bdN p (h.ws.getD g default) l g j2 := if_neg (by rw [h2]; decide)
              have e2 : wcN (h.ws.getD g default) l g (j2 + 1) = wcN (h.ws.getD g default) l g j2 := if_neg (by rw [h2]; decide)
              rw [e1, e2]
              rfl
          · have hge2 : j2 = l.length := by have h9 := of_decide_eq_false hd2; have h8 := hg2; (try simp only [List.length_map] at h8 h9); omega
            subst hge2
            exact ⟨(by unfold In64; omega), (by unfold In64; omega), ⟨g + 1, by omega, by omega, rfl⟩⟩
      · have hge : g = h.ws.length := by have h9 := of_decide_eq_false hd; have h8 := hg; (try simp only [List.length_map] at h8 h9); omega
        subst hge
        rw [show bdV h l t p = bdS h l t p h.ws.length from if_neg (by rw [hz]; decide), hz]
  exact c_of Tryz.f43 (fzB (mkB (sp43 h l) 43 [(7, 2, rdL 25 encWn h.ws 25 true), (11, 1, rdL 19 encMs l 19 true)] (la43 h l t p))) (by kernel_rfl) (by kernel_rfl) (by kernel_rfl) (by kernel_rfl) key (by kernel_rfl)
def la46 (h : Hm) (l : List Ms) (t p : Int) (b : Nat) : Option LA :=
  let sl (i : Nat) : List (Nat × AV) := [(1, .sl 19 (l.map encMs)), (3, .i p), (4, .elt 3 [encHm h] 0 0), (9, .i (bdS h l t p i)), (10, .i i)]
  if b.beq 0 then some {
    pre := [.keep [1, 3, 4, 9, 10] [], .bound 1], post := [.keep [1, 3, 4, 9, 10] [], .bound 1]
    Gh := Nat
    st := fun i => ⟨sl i, [], 1⟩
    ok := fun i => i ≤ h.ws.length
    ms := fun i => h.ws.length - i }
  else some {
    pre := [.keep [1, 3, 4, 9, 10, 11, 12] [], .bound 1], post := [.keep [1, 3, 4, 9, 10, 11, 12] [], .bound 1]
    Gh := Nat × Nat
    st := fun q => ⟨sl q.1 ++ [(11, .i (bdN p (h.ws.getD q.1 default) l q.1 q.2)), (12, .i q.2)], [], 1⟩
    ok := fun q => q.1 < h.ws.length ∧ q.2 ≤ l.length
    rel := some fun q0 q => q.1 = q0.1
    ms := fun q => l.length - q.2 }
theorem c46 (h : Hm) (l : List Ms) (t p : Int) (q1 : fMs h l = 0) (ht : 0 ≤ t ∧ t ≤ 10000000000000) (hp : 0 ≤ p ∧ p ≤ 100000) : PCall Tryz.prog G0 46 [.agg (encHm h), .sl 19 (l.map encMs), .i t, .i p] (.i (bdS h l t p h.ws.length)) := by
  have key :
   In64 (p * t) ∧ In64 ((0 : Int) - p * t) ∧ (∃ (g : Nat), g ≤ h.ws.length ∧ AS.mk [(1, AV.sl 19 (List.map encMs l)), (3, AV.i p), (4, AV.elt 3 [(encHm h)] 0 0), (9, AV.i ((0 : Int) - p * t)), (10, AV.i 0)] [] 1 = AS.mk [(1, AV.sl 19
   (List.map encMs l)), (3, AV.i p), (4, AV.elt 3 [(encHm h)] 0 0), (9, AV.i (bdS h l t p g)), (10, AV.i (↑g : Int))] [] 1) ∧ ∀ (g : Nat), g ≤ h.ws.length → (decide ((↑g : Int) < (↑(List.map encWn h.ws).length : Int)) = true → (0 :
   Int) ≤ (↑g : Int) ∧ (↑g : Int) < (↑(List.map encWn h.ws).length : Int) ∧ In64 (p * inHw ((h.ws.getD (↑g : Int).toNat default))) ∧ AV.agg (nthR (List.map encWn h.ws) (↑g : Int).toNat) = AV.agg (encWn (h.ws.getD (↑g : Int).toNat
   default)) ∧ PCall Tryz.prog G0 113 [AV.agg (encWn (h.ws.getD (↑g : Int).toNat default))] (AV.agg [AV.i (inLw ((h.ws.getD (↑g : Int).toNat default))), AV.i (inHw ((h.ws.getD (↑g : Int).toNat default)))]) ∧ ∃ (g0 : Nat × Nat),
   (g0.fst < h.ws.length ∧ g0.snd ≤ l.length) ∧ g0.fst = g0.fst ∧ AS.mk [(1, AV.sl 19 (List.map encMs l)), (3, AV.i p), (4, AV.elt 3 [(encHm h)] 0 0), (9, AV.i (bdS h l t p g)), (10, AV.i (↑g : Int)), (11, AV.i (p * inHw ((h.ws.getD
   (↑g : Int).toNat default)))), (12, AV.i 0)] [] 1 = AS.mk [(1, AV.sl 19 (List.map encMs l)), (3, AV.i p), (4, AV.elt 3 [(encHm h)] 0 0), (9, AV.i (bdS h l t p g0.fst)), (10, AV.i (↑g0.fst : Int)), (11, AV.i (bdN p (h.ws.getD g0.fst
   default) l (↑g0.fst : Int) g0.snd)), (12, AV.i (↑g0.snd : Int))] [] 1 ∧ ∀ (g_1 : Nat × Nat), g_1.fst < h.ws.length ∧ g_1.snd ≤ l.length → g_1.fst = g0.fst → (decide ((↑g_1.snd : Int) < (↑(List.map encMs l).length : Int)) = true →
   (0 : Int) ≤ (↑g_1.snd : Int) ∧ (↑g_1.snd : Int) < (↑(List.map encMs l).length : Int) ∧ nth (nthR (List.map encMs l) (↑g_1.snd : Int).toNat) 1 = AV.i (l.getD (↑g_1.snd : Int).toNat default).w ∧ (((l.getD (↑g_1.snd : Int).toNat
   default).w == (↑g_1.fst : Int)) = true → (0 : Int) ≤ (↑g_1.fst : Int) ∧ (↑g_1.fst : Int) < (↑(List.map encWn h.ws).length : Int) ∧ AV.agg (nthR (List.map encWn h.ws) (↑g_1.fst : Int).toNat) = AV.agg (encWn (h.ws.getD (↑g_1.fst :
   Int).toNat default)) ∧ (0 : Int) ≤ (↑g_1.snd : Int) ∧ (↑g_1.snd : Int) < (↑(List.map encMs l).length : Int) ∧ AV.agg (List.take 16 (List.drop 3 (nthR (List.map encMs l) (↑g_1.snd : Int).toNat))) = AV.agg (encPm (l.getD (↑g_1.snd :
   Int).toNat default)) ∧ (0 : Int) ≤ (↑g_1.snd : Int) ∧ (↑g_1.snd : Int) < (↑(List.map encMs l).length : Int) ∧ In64 (p * inHw (wiM (h.ws.getD (↑g_1.fst : Int).toNat default) (l.getD (↑g_1.snd : Int).toNat default))) ∧ In64 ((l.getD
   (↑g_1.snd : Int).toNat default).c + p * inHw (wiM (h.ws.getD (↑g_1.fst : Int).toNat default) (l.getD (↑g_1.snd : Int).toNat default))) ∧ nth (nthR (List.map encMs l) (↑g_1.snd : Int).toNat) 2 = AV.i (l.getD (↑g_1.snd : Int).toNat
   default).c ∧ PCall Tryz.prog G0 113 [AV.agg [AV.i (h.ws.getD (↑g_1.fst : Int).toNat default).o0, AV.i (h.ws.getD (↑g_1.fst : Int).toNat default).o1, AV.i (h.ws.getD (↑g_1.fst : Int).toNat default).o2, AV.i (h.ws.getD (↑g_1.fst :
   Int).toNat default).o3, AV.i (h.ws.getD (↑g_1.fst : Int).toNat default).o4, AV.i (h.ws.getD (↑g_1.fst : Int).toNat default).o5, AV.i (h.ws.getD (↑g_1.fst : Int).toNat default).o6, AV.i (h.ws.getD (↑g_1.fst : Int).toNat default).o7,
   AV.i (h.ws.getD (↑g_1.fst : Int).toNat default).ar, AV.i (l.getD (↑g_1.snd : Int).toNat default).p0, AV.i (l.getD (↑g_1.snd : Int).toNat default).p1, AV.i (l.getD (↑g_1.snd : Int).toNat default).p2, AV.i (l.getD (↑g_1.snd :
   Int).toNat default).p3, AV.i (l.getD (↑g_1.snd : Int).toNat default).p4, AV.i (l.getD (↑g_1.snd : Int).toNat default).p5, AV.i (l.getD (↑g_1.snd : Int).toNat default).p6, AV.i (l.getD (↑g_1.snd : Int).toNat default).p7, AV.i
   (l.getD (↑g_1.snd : Int).toNat default).p8, AV.i (l.getD (↑g_1.snd : Int).toNat default).p9, AV.i (l.getD (↑g_1.snd : Int).toNat default).p10, AV.i (l.getD (↑g_1.snd : Int).toNat default).p11, AV.i (l.getD (↑g_1.snd : Int).toNat
   default).p12, AV.i (l.getD (↑g_1.snd : Int).toNat default).p13, AV.i (l.getD (↑g_1.snd : Int).toNat default).p14, AV.i (l.getD (↑g_1.snd : Int).toNat default).p15]] (AV.agg [AV.i (inLw (wiM (h.ws.getD (↑g_1.fst : Int).toNat
   default) (l.getD (↑g_1.snd : Int).toNat default))), AV.i (inHw (wiM (h.ws.getD (↑g_1.fst : Int).toNat default) (l.getD (↑g_1.snd : Int).toNat default)))]) ∧ In64 ((↑g_1.snd : Int) + 1) ∧ ∃ (g' : Nat × Nat), (g'.fst < h.ws.length ∧
   g'.snd ≤ l.length) ∧ g'.fst = g0.fst ∧ l.length - g'.snd < l.length - g_1.snd ∧ AS.mk [(1, AV.sl 19 (List.map encMs l)), (3, AV.i p), (4, AV.elt 3 [(encHm h)] 0 0), (9, AV.i (bdS h l t p g_1.fst)), (10, AV.i (↑g_1.fst : Int)), (11,
   AV.i (minI (bdN p (h.ws.getD g_1.fst default) l (↑g_1.fst : Int) g_1.snd) ((l.getD (↑g_1.snd : Int).toNat default).c + p * inHw (wiM (h.ws.getD (↑g_1.fst : Int).toNat default) (l.getD (↑g_1.snd : Int).toNat default))))), (12, AV.i
   ((↑g_1.snd : Int) + 1))] [] 1 = AS.mk [(1, AV.sl 19 (List.map encMs l)), (3, AV.i p), (4, AV.elt 3 [(encHm h)] 0 0), (9, AV.i (bdS h l t p g'.fst)), (10, AV.i (↑g'.fst : Int)), (11, AV.i (bdN p (h.ws.getD g'.fst default) l (↑g'.fst
   : Int) g'.snd)), (12, AV.i (↑g'.snd : Int))] [] 1) ∧ (((l.getD (↑g_1.snd : Int).toNat default).w == (↑g_1.fst : Int)) = false → In64 ((↑g_1.snd : Int) + 1) ∧ ∃ (g' : Nat × Nat), (g'.fst < h.ws.length ∧ g'.snd ≤ l.length) ∧ g'.fst =
   g0.fst ∧ l.length - g'.snd < l.length - g_1.snd ∧ AS.mk [(1, AV.sl 19 (List.map encMs l)), (3, AV.i p), (4, AV.elt 3 [(encHm h)] 0 0), (9, AV.i (bdS h l t p g_1.fst)), (10, AV.i (↑g_1.fst : Int)), (11, AV.i (bdN p (h.ws.getD
   g_1.fst default) l (↑g_1.fst : Int) g_1.snd)), (12, AV.i ((↑g_1.snd : Int) + 1))] [] 1 = AS.mk [(1, AV.sl 19 (List.map encMs l)), (3, AV.i p), (4, AV.elt 3 [(encHm h)] 0 0), (9, AV.i (bdS h l t p g'.fst)), (10, AV.i (↑g'.fst :
   Int)), (11, AV.i (bdN p (h.ws.getD g'.fst default) l (↑g'.fst : Int) g'.snd)), (12, AV.i (↑g'.snd : Int))] [] 1)) ∧ (decide ((↑g_1.snd : Int) < (↑(List.map encMs l).length : Int)) = false → In64 (bdS h l t p g_1.fst + bdN p
   (h.ws.getD g_1.fst default) l (↑g_1.fst : Int) g_1.snd) ∧ In64 ((↑g_1.fst : Int) + 1) ∧ ∃ (g' : Nat), g' ≤ h.ws.length ∧ h.ws.length - g' < h.ws.length - g ∧ AS.mk [(1, AV.sl 19 (List.map encMs l)), (3, AV.i p), (4, AV.elt 3
   [(encHm h)] 0 0), (9, AV.i (bdS h l t p g_1.fst + bdN p (h.ws.getD g_1.fst default) l (↑g_1.fst : Int) g_1.snd)), (10, AV.i ((↑g_1.fst : Int) + 1))] [] 1 = AS.mk [(1, AV.sl 19 (List.map encMs l)), (3, AV.i p), (4, AV.elt 3 [(encHm
   h)] 0 0), (9, AV.i (bdS h l t p g')), (10, AV.i (↑g' : Int))] [] 1)) ∧ (decide ((↑g : Int) < (↑(List.map encWn h.ws).length : Int)) = false → AV.i (bdS h l t p g) = AV.i (bdS h l t p h.ws.length)) := by
    have hlm : (List.map encMs l).length = l.length := List.length_map _
    have hwm : (List.map encWn h.ws).length = h.ws.length := List.length_map _
    obtain ⟨y1, y2, y3⟩ := ms_z q1
    obtain ⟨z1, z2, z3, z4, z5, z6⟩ := hm_z y1
    have s0 := mul_bd hp.1 hp.2 ht.1 ht.2
    have hs0 : 0 - p * t = bdS h l t p 0 := by show 0 - p * t = (0 - p) * t; rw [Int.zero_sub, Int.zero_sub, Int.neg_mul]
    have : (List.map encWn h.ws).length = h.ws.length := by simp only [List.length_map]
    have : (List.map encMs l).length = l.length := by simp only [List.length_map]
    refine ⟨(by unfold In64; omega), (by unfold In64; omega), ⟨⟨0, by omega, (by rw [hs0]; first | rfl | done)⟩, fun g hg => ⟨fun hd => ?_, fun hd => ?_⟩⟩⟩
    · have hlt : g < h.ws.length := by have h9 := of_decide_eq_true hd; have h8 := hg; (try simp only [List.length_map] at h8 h9); omega
      have hwg := z6 g hlt
      have hb1 := bdS_bd hp ht z6 y3 g (by omega)
      have hb2 := mulp_bd hp (inHw_bd hwg).2
      have hb7 := bdN_bd (g : Int) hp hwg y3 l.length (Nat.le_refl _)
      try rw [show (↑g : Int).toNat = g from Int.toNat_natCast g]
      refine ⟨(by omega), (by omega), (by unfold In64; omega), congrArg AV.agg (row_at encWn hlt), (c113 _ hwg), ⟨(g, 0), ⟨by (try dsimp only); omega, by (try dsimp only); omega⟩, rfl, rfl, fun g_1 hok2 hr2 => ?_⟩⟩
      · obtain ⟨i2, j2⟩ := g_1
        dsimp only at hok2 hr2 ⊢
        obtain ⟨hi2, hg2⟩ := hok2
        have hr3 : g = i2 := hr2.symm
        subst hr3
        refine ⟨fun hd2 => ?_, fun hd2 => ?_⟩
        · have hlt2 : j2 < l.length := by have h9 := of_decide_eq_true hd2; have h8 := hg2; (try simp only [List.length_map] at h8 h9); omega
          try rw [show (↑g : Int).toNat = g from Int.toNat_natCast g]
          have hb3 := bdN_bd (g : Int) hp hwg y3 j2 (by omega)
          have hb4 := (y3 j2 (by omega)).c0
          have hb5 := mulp_bd hp (inHw_bd (wiM_ok hwg (y3 j2 (by omega)))).2
          try rw [show (↑j2 : Int).toNat = j2 from Int.toNat_natCast j2]
          refine ⟨(by omega), (by omega), congrArg (fun r => nth r 1) (row_at encMs hlt2), fun h1 => ⟨(by omega), (by omega), congrArg AV.agg (row_at encWn hlt), (by omega), (by omega), (congrArg (fun r => AV.agg (List.take 16 (List.drop 3 r))) (row_at encMs (by omega))), (by omega), (by omega), (by unfold In64; omega), (by unfold In64; omega), congrArg (fun r => nth r 2) (row_at encMs hlt2), (c113 _ (wiM_ok hwg (y3 j2 (by omega)))), (by unfold In64; omega), ⟨(g, j2 + 1), ⟨by (try dsimp only); omega, by (try dsimp only); omega⟩, rfl, (by (try dsimp only); omega), ?_⟩⟩, fun h1 => ⟨(by unfold In64; omega), ⟨(g, j2 + 1), ⟨by (try dsimp only); omega, by (try dsimp only); omega⟩, rfl, (by (try dsimp only); omega), ?_⟩⟩⟩
          · dsimp only
            have e1 : bdN p (h.ws.getD g default) l g (j2 + 1) = minI (bdN p (h.ws.getD g default) l g j2) ((l.getD j2 default).c + p * inHw (wiM (h.ws.getD g default) (l.getD j2 default))) := if_pos h1
            rw [e1]
            rfl
          · dsimp only
            have e1 : bdN p (h.ws.getD g default) l g (j2 + 1) = bdN p (h.ws.getD g default) l g j2 := if_neg (by rw [h1]; decide)
            rw [e1]
            rfl
        · have hge2 : j2 = l.length := by have h9 := of_decide_eq_false hd2; have h8 := hg2; (try simp only [List.length_map] at h8 h9); omega
          subst hge2
          exact ⟨(by unfold In64; omega), (by unfold In64; omega), ⟨g + 1, by omega, by omega, rfl⟩⟩
    · have hge : g = h.ws.length := by have h9 := of_decide_eq_false hd; have h8 := hg; (try simp only [List.length_map] at h8 h9); omega
      subst hge
      rfl
  exact c_of Tryz.f46 (fzB (mkB spI2 46 [(5, 5, rdL 25 encWn h.ws 25 true), (9, 4, rdL 19 encMs l 1 false), (10, 4, rdL 25 encWn h.ws 25 true), (11, 4, rdL 19 encMs l 16 true), (12, 5, rdL 19 encMs l 1 false)] (la46 h l t p))) (by kernel_rfl) (by kernel_rfl) (by kernel_rfl) (by kernel_rfl) key (by kernel_rfl)
theorem c44 (p : Int)  : PCall Tryz.prog G0 44 [.i p] (.i (sWithin p 0 100000)) := by
  have key :
   PCall Tryz.prog G0 81 [AV.i p, AV.i 0, AV.i 100000] (AV.i (sWithin p (0 : Int) (100000 : Int))) ∧ AV.i (sWithin p (0 : Int) (100000 : Int)) = AV.i (sWithin p (0 : Int) (100000 : Int)) := by
    exact ⟨(c81 _ _ _), rfl⟩
  exact c_of Tryz.f44 (mkB spW 44 [] noLa) (by kernel_rfl) (by kernel_rfl) (by kernel_rfl) (by kernel_rfl) key (by kernel_rfl)
end Go.Proofs.YtfoeefaamjknpaaGreatDoor
namespace Go.Proofs.YtfoeefaamjknpaaGreatDoor
open Go Go.Av Go.RowKit
def bsN (h : Hm) (l : List Ms) (t : Int) (k : Nat) : Option Nat := ((List.range k).filter (okM l)).foldl (stB h l t) none
theorem bsN_pos {h : Hm} {l : List Ms} {t : Int} {k : Nat} (e : okM l k = true) : bsN h l t (k + 1) = stB h l t (bsN h l t k) k := by
  unfold bsN
  rw [List.range_succ, List.filter_append, List.foldl_append]
  simp [e]
theorem bsN_neg {h : Hm} {l : List Ms} {t : Int} {k : Nat} (e : okM l k = false) : bsN h l t (k + 1) = bsN h l t k := by
  unfold bsN
  rw [List.range_succ, List.filter_append, List.foldl_append]
  simp [e]
theorem ok_e (l : List Ms) (b : Nat) : okM l b = (fSet l (bsM l b) == 0) := by
  unfold okM
  rw [hd_encI]
theorem bit_mod (m i : Nat) : ((((m / 2 ^ i : Nat) : Int)).tmod 2 == 1) = m.testBit i := by
  rw [Nat.testBit, Nat.and_comm, Nat.and_one_is_mod, Nat.shiftRight_eq_div_pow]
  have e : (((m / 2 ^ i : Nat) : Int)).tmod 2 = (((m / 2 ^ i) % 2 : Nat) : Int) := by
    rw [Int.tmod_eq_emod_of_nonneg (Int.natCast_nonneg _)]
    norm_cast
  rw [e]
  rcases Nat.mod_two_eq_zero_or_one (m / 2 ^ i) with h | h <;> rw [h] <;> rfl
theorem half (m i : Nat) : (((m / 2 ^ i : Nat) : Int)).tdiv 2 = ((m / 2 ^ (i + 1) : Nat) : Int) := by
  rw [Int.tdiv_eq_ediv_of_nonneg (Int.natCast_nonneg _), Nat.pow_succ, ← Nat.div_div_eq_div_mul]
  norm_cast
def sp45 (h : Hm) (l : List Ms) (t : Int) : Nat → List AV → Option AV
  | 31, [_, .sl _ r] => some (.i (fSet l (r.map hdI)))
  | 36, [_, _, .sl _ r, _] => some (.bool (decide (afU h l (r.map hdI) ≤ t)))
  | 124, [_, .sl _ r] => some (.i (costN l (r.map hdI)))
  | 35, [_, _, .sl _ r] => some (.agg (encHm (afH h l (r.map hdI))))
  | 29, [.agg [_, _, .sl _ rows]] => some (.agg [.i (inL (rows.map decWn) rows.length), .i (inH (rows.map decWn) rows.length)])
  | 125, [.sl _ a, .sl _ b] => some (.bool (lx (a.map hdI) (b.map hdI)))
  | n, z => spW n z
def la45 (h : Hm) (l : List Ms) (t : Int) (b : Nat) : Option LA :=
  if b.beq 0 then some {
    pre := [.nil 9 1, .keep [1, 2, 3, 9, 10, 11, 12] [], .bound 1], post := [.keep [1, 2, 3, 9, 10, 11, 12] [], .bound 1]
    Gh := Nat
    st := fun i => ⟨[(1, .sl 19 (l.map encMs)), (2, .i t), (3, .elt 3 [encHm h] 0 0), (9, .sl 1 []), (10, .bool false), (11, .i (pwN i : Nat)), (12, .i i)], [], 1⟩
    ok := fun i => i ≤ l.length
    ms := fun i => l.length - i }
  else if b.beq 2 then some {
    pre := [.keep [1, 2, 3, 9, 10, 11, 13] [], .bound 1], post := [.keep [1, 2, 3, 9, 10, 11, 13] [], .bound 1]
    Gh := Nat
    st := fun i => ⟨[(1, .sl 19 (l.map encMs)), (2, .i t), (3, .elt 3 [encHm h] 0 0), (9, .sl 1 ((chO h l (bsN h l t i)).s.map encI)), (10, .bool (bsN h l t i).isSome), (11, .i (pwN l.length : Nat)), (13, .i i)], [], 1⟩
    ok := fun i => i ≤ pwN l.length
    ms := fun i => pwN l.length - i }
  else some {
    pre := [.own 14 3 1, .reno 14 1, .keep [1, 2, 3, 9, 10, 11, 13, 14, 15, 16] [1], .bound 2], post := [.reno 14 1, .keep [1, 2, 3, 9, 10, 11, 13, 14, 15, 16] [1], .bound 2]
    Gh := Nat × Nat
    st := fun q => ⟨[(1, .sl 19 (l.map encMs)), (2, .i t), (3, .elt 3 [encHm h] 0 0), (9, .sl 1 ((chO h l (bsN h l t q.1)).s.map encI)), (10, .bool (bsN h l t q.1).isSome), (11, .i (pwN l.length : Nat)), (13, .i q.1), (14, .own 1 ((bitsM q.1 q.2).map encI).length), (15, .i (q.1 / 2 ^ q.2 : Nat)), (16, .i q.2)], [(1, .buf 3 1 ((bitsM q.1 q.2).map encI))], 2⟩
    ok := fun q => q.1 < pwN l.length ∧ q.2 ≤ l.length
    rel := some fun q0 q => q.1 = q0.1
    ms := fun q => l.length - q.2 }
theorem bsM_e (l : List Ms) (b : Nat) : bsM l b = bitsM b l.length := by
  unfold bsM
  rw [List.length_map]
theorem bst_e (h : Hm) (l : List Ms) (t : Int) : bst h l t = bsN h l t (pwN l.length) := by
  unfold bst bsN msk
  rw [List.length_map]
theorem fold_ok {h : Hm} {l : List Ms} {t : Int} : ∀ (xs : List Nat) (o : Option Nat), (∀ x, x ∈ xs → okM l x = true) → (∀ a, o = some a → okM l a = true) → ∀ a, xs.foldl (stB h l t) o = some a → okM l a = true
  | [], _, _, ho, a, e => ho a e
  | x :: xs, o, hx, ho, a, e => by
    refine fold_ok xs (stB h l t o x) (fun y hy => hx y (List.mem_cons_of_mem _ hy)) (fun b hb => ?_) a e
    unfold stB at hb
    split at hb
    · injection hb with hb
      rw [← hb]
      exact hx x (List.mem_cons_self ..)
    · exact ho b hb
theorem bs_ok {h : Hm} {l : List Ms} {t : Int} {k : Nat} (e : (bsN h l t k).isSome = true) : fSet l (chO h l (bsN h l t k)).s = 0 := by
  cases q : bsN h l t k with
  | none => rw [q] at e; cases e
  | some a => exact ok_z (fold_ok _ none (fun x hx => (List.mem_filter.1 hx).2) (fun a e => by cases e) a q)
theorem afH_ws (h : Hm) (l : List Ms) (g : List Int) : (afH h l g).ws = aft h.ws l g := rfl
theorem afU_e (h : Hm) (l : List Ms) (g : List Int) : inH ((List.map encWn (aft h.ws l g)).map decWn) (List.map encWn (aft h.ws l g)).length = afU h l g := by
  rw [ws_dec, List.length_map, show (aft h.ws l g).length = h.ws.length from aft_len h.ws l g g.length]
  rfl
theorem chO_c {h : Hm} {l : List Ms} {o : Option Nat} (e : o.isSome = true) : costN l (chO h l o).s = (chO h l o).c ∧ afU h l (chO h l o).s = (chO h l o).u := by
  cases o with
  | none => cases e
  | some a => exact ⟨rfl, rfl⟩
def rcB (x y : Ch) : Bool := if decide (x.c < y.c) = true then true else if (x.c == y.c) = true then if decide (x.u < y.u) = true then true else if (x.u == y.u) = true then lx x.s y.s else false else false
theorem cmI_c (x y : Int) : (x < y ∧ cmI x y = -1) ∨ (x = y ∧ cmI x y = 0) ∨ (y < x ∧ cmI x y = 1) := by
  unfold cmI
  by_cases h : x < y
  · exact .inl ⟨h, if_pos (decide_eq_true h)⟩
  · by_cases h2 : y < x
    · exact .inr (.inr ⟨h2, by rw [if_neg (by simpa using h), if_pos (decide_eq_true h2)]⟩)
    · exact .inr (.inl ⟨by omega, by rw [if_neg (by simpa using h), if_neg (by simpa using h2)]⟩)
theorem cmC_r (x y : Ch) : decide (cmC x y < 0) = rcB x y := by
  unfold cmC rcB
  rcases cmI_c x.c y.c with ⟨h, e⟩ | ⟨h, e⟩ | ⟨h, e⟩
  · rw [e, if_pos (decide_eq_true h)]
    rfl
  · rw [e, if_neg (by simp [h]), if_pos (by simp [h])]
    rcases cmI_c x.u y.u with ⟨h2, e2⟩ | ⟨h2, e2⟩ | ⟨h2, e2⟩
    · rw [e2, if_pos (decide_eq_true h2)]
      rfl
    · rw [e2, if_neg (by simp [h2]), if_pos (by simp [h2])]
      have hl := (cmL_lx x.s y.s).1
      have e3 : sFirst [0, 0, cmL x.s y.s] = cmL x.s y.s := by simp [sFirst]; exact fun h => h.symm
      rw [e3]
      cases q : lx x.s y.s with
      | true => exact decide_eq_true (hl.2 q)
      | false => exact decide_eq_false (fun hh => by rw [hl.1 hh] at q; cases q)
    · rw [e2, if_neg (by simp; omega), if_neg (by simp; omega)]
      rfl
  · rw [e, if_neg (by simp; omega), if_neg (by simp; omega)]
    rfl
theorem ta_none {h : Hm} {l : List Ms} {t : Int} {o : Option Nat} {b : Nat} (hu : decide (afU h l (bsM l b) ≤ t) = true) (ho : (!o.isSome) = true) : taB h l t o b = true := by
  unfold taB
  rw [if_pos hu, if_pos ho]
theorem ta_some {h : Hm} {l : List Ms} {t : Int} {o : Option Nat} {b : Nat} (hu : decide (afU h l (bsM l b) ≤ t) = true) (ho : (!o.isSome) = false) : taB h l t o b = rcB (chM h l (bsM l b)) (chO h l o) := by
  unfold taB
  rw [if_pos hu, if_neg (by rw [ho]; decide), cmC_r]
theorem skip_e {h : Hm} {l : List Ms} {t : Int} {b : Nat} (e : (if (fSet l (bsM l b) != 0) = true then true else !decide (afU h l (bsM l b) ≤ t)) = true) : bsN h l t (b + 1) = bsN h l t b := by
  cases q : okM l b with
  | false => exact bsN_neg q
  | true =>
    rw [bsN_pos q]
    rw [ok_e] at q
    rw [if_neg (by rw [eq_of_beq q]; decide)] at e
    have e2 : decide (afU h l (bsM l b) ≤ t) = false := by simpa using e
    exact if_neg (by unfold taB; rw [if_neg (by rw [e2]; decide)]; decide)
theorem keep_z {h : Hm} {l : List Ms} {t : Int} {b : Nat} (e : (if (fSet l (bsM l b) != 0) = true then true else !decide (afU h l (bsM l b) ≤ t)) = false) : fSet l (bsM l b) = 0 ∧ decide (afU h l (bsM l b) ≤ t) = true := by
  by_cases q : fSet l (bsM l b) = 0
  · rw [if_neg (by rw [q]; decide)] at e
    exact ⟨q, by simpa using e⟩
  · rw [if_pos (by simpa using q)] at e
    cases e
theorem take_e {h : Hm} {l : List Ms} {t : Int} {b : Nat} (q : fSet l (bsM l b) = 0) (e : taB h l t (bsN h l t b) b = true) : bsN h l t (b + 1) = some b := by
  rw [bsN_pos (by rw [ok_e, q]; rfl)]
  exact if_pos e
theorem stay_e {h : Hm} {l : List Ms} {t : Int} {b : Nat} (q : fSet l (bsM l b) = 0) (e : taB h l t (bsN h l t b) b = false) : bsN h l t (b + 1) = bsN h l t b := by
  rw [bsN_pos (by rw [ok_e, q]; rfl)]
  exact if_neg (by rw [e]; decide)
theorem p29 {h : Hm} {l : List Ms} {g : List Int} (q1 : fMs h l = 0) (q2 : fSet l g = 0) : PCall Tryz.prog G0 29 [.agg [.str h.nm, .i h.pe, .sl 25 (List.map encWn (aft h.ws l g))]] (.agg [.i (inL ((List.map encWn (aft h.ws l g)).map decWn) (List.map encWn (aft h.ws l g)).length), .i (inH ((List.map encWn (aft h.ws l g)).map decWn) (List.map encWn (aft h.ws l g)).length)]) := by
  obtain ⟨a1, a2, a3, a4⟩ := af_ok q1 q2
  rw [ws_dec, List.length_map]
  exact c29 (afH h l g) (show (aft h.ws l g).length ≤ 8 by omega) (show WsOK (aft h.ws l g) from a1)
theorem c45 (h : Hm) (l : List Ms) (t : Int) (q1 : fMs h l = 0) : PCall Tryz.prog G0 45 [.agg (encHm h), .sl 19 (l.map encMs), .i t] (cW h l (bst h l t)) := by
  have key :
   (∃ (g : Nat), g ≤ l.length ∧ AS.mk [(1, AV.sl 19 (List.map encMs l)), (2, AV.i t), (3, AV.elt 3 [(encHm h)] 0 0), (9, AV.sl 1 []), (10, AV.bool false), (11, AV.i 1), (12, AV.i 0)] [] 1 = AS.mk [(1, AV.sl 19 (List.map encMs l)), (2,
   AV.i t), (3, AV.elt 3 [(encHm h)] 0 0), (9, AV.sl 1 []), (10, AV.bool false), (11, AV.i (↑(pwN g) : Int)), (12, AV.i (↑g : Int))] [] 1) ∧ ∀ (g : Nat), g ≤ l.length → (decide ((↑g : Int) < (↑(List.map encMs l).length : Int)) = true
   → In64 ((2 : Int) * (↑(pwN g) : Int)) ∧ In64 ((↑g : Int) + 1) ∧ ∃ (g' : Nat), g' ≤ l.length ∧ l.length - g' < l.length - g ∧ AS.mk [(1, AV.sl 19 (List.map encMs l)), (2, AV.i t), (3, AV.elt 3 [(encHm h)] 0 0), (9, AV.sl 1 []), (10,
   AV.bool false), (11, AV.i ((2 : Int) * (↑(pwN g) : Int))), (12, AV.i ((↑g : Int) + 1))] [] 1 = AS.mk [(1, AV.sl 19 (List.map encMs l)), (2, AV.i t), (3, AV.elt 3 [(encHm h)] 0 0), (9, AV.sl 1 []), (10, AV.bool false), (11, AV.i
   (↑(pwN g') : Int)), (12, AV.i (↑g' : Int))] [] 1) ∧ (decide ((↑g : Int) < (↑(List.map encMs l).length : Int)) = false → (∃ (g_1 : Nat), g_1 ≤ pwN l.length ∧ AS.mk [(1, AV.sl 19 (List.map encMs l)), (2, AV.i t), (3, AV.elt 3 [(encHm
   h)] 0 0), (9, AV.sl 1 []), (10, AV.bool false), (11, AV.i (↑(pwN g) : Int)), (13, AV.i 0)] [] 1 = AS.mk [(1, AV.sl 19 (List.map encMs l)), (2, AV.i t), (3, AV.elt 3 [(encHm h)] 0 0), (9, AV.sl 1 (List.map encI (chO h l (bsN h l t
   g_1)).s)), (10, AV.bool (bsN h l t g_1).isSome), (11, AV.i (↑(pwN l.length) : Int)), (13, AV.i (↑g_1 : Int))] [] 1) ∧ ∀ (g : Nat), g ≤ pwN l.length → (decide ((↑g : Int) < (↑(pwN l.length) : Int)) = true → ∃ (g0 : Nat × Nat),
   (g0.fst < pwN l.length ∧ g0.snd ≤ l.length) ∧ g0.fst = g0.fst ∧ AS.mk [(1, AV.sl 19 (List.map encMs l)), (2, AV.i t), (3, AV.elt 3 [(encHm h)] 0 0), (9, AV.sl 1 (List.map encI (chO h l (bsN h l t g)).s)), (10, AV.bool (bsN h l t
   g).isSome), (11, AV.i (↑(pwN l.length) : Int)), (13, AV.i (↑g : Int)), (14, AV.own 1 0), (15, AV.i (↑g : Int)), (16, AV.i 0)] [(1, ABlk.buf 3 1 [])] 2 = AS.mk [(1, AV.sl 19 (List.map encMs l)), (2, AV.i t), (3, AV.elt 3 [(encHm h)]
   0 0), (9, AV.sl 1 (List.map encI (chO h l (bsN h l t g0.fst)).s)), (10, AV.bool (bsN h l t g0.fst).isSome), (11, AV.i (↑(pwN l.length) : Int)), (13, AV.i (↑g0.fst : Int)), (14, AV.own 1 (List.map encI (bitsM g0.fst
   g0.snd)).length), (15, AV.i (↑(g0.fst / 2 ^ g0.snd) : Int)), (16, AV.i (↑g0.snd : Int))] [(1, ABlk.buf 3 1 (List.map encI (bitsM g0.fst g0.snd)))] 2 ∧ ∀ (g_1 : Nat × Nat), g_1.fst < pwN l.length ∧ g_1.snd ≤ l.length → g_1.fst =
   g0.fst → (decide ((↑g_1.snd : Int) < (↑(List.map encMs l).length : Int)) = true → ¬(2 : Int) = (0 : Int) ∧ (((↑(g_1.fst / 2 ^ g_1.snd) : Int).tmod (2 : Int) == 1) = true → (List.map encI (bitsM g_1.fst g_1.snd)).length + 1 ≤
   9223372036854775807 ∧ ((List.map encI (bitsM g_1.fst g_1.snd)).length + 1) * 8 ≤ 140737488355328 ∧ ¬(2 : Int) = (0 : Int) ∧ In64 ((↑(g_1.fst / 2 ^ g_1.snd) : Int).tdiv 2) ∧ In64 ((↑g_1.snd : Int) + 1) ∧ ∃ (g' : Nat × Nat), (g'.fst
   < pwN l.length ∧ g'.snd ≤ l.length) ∧ g'.fst = g0.fst ∧ l.length - g'.snd < l.length - g_1.snd ∧ AS.mk [(1, AV.sl 19 (List.map encMs l)), (2, AV.i t), (3, AV.elt 3 [(encHm h)] 0 0), (9, AV.sl 1 (List.map encI (chO h l (bsN h l t
   g_1.fst)).s)), (10, AV.bool (bsN h l t g_1.fst).isSome), (11, AV.i (↑(pwN l.length) : Int)), (13, AV.i (↑g_1.fst : Int)), (14, AV.own 1 ((List.map encI (bitsM g_1.fst g_1.snd)).length + 1)), (15, AV.i ((↑(g_1.fst / 2 ^ g_1.snd) :
   Int).tdiv 2)), (16, AV.i ((↑g_1.snd : Int) + 1))] [(1, ABlk.buf 3 1 (List.map encI (bitsM g_1.fst g_1.snd) ++ [[AV.i (↑g_1.snd : Int)]]))] 2 = AS.mk [(1, AV.sl 19 (List.map encMs l)), (2, AV.i t), (3, AV.elt 3 [(encHm h)] 0 0), (9,
   AV.sl 1 (List.map encI (chO h l (bsN h l t g'.fst)).s)), (10, AV.bool (bsN h l t g'.fst).isSome), (11, AV.i (↑(pwN l.length) : Int)), (13, AV.i (↑g'.fst : Int)), (14, AV.own 1 (List.map encI (bitsM g'.fst g'.snd)).length), (15,
   AV.i (↑(g'.fst / 2 ^ g'.snd) : Int)), (16, AV.i (↑g'.snd : Int))] [(1, ABlk.buf 3 1 (List.map encI (bitsM g'.fst g'.snd)))] 2) ∧ (((↑(g_1.fst / 2 ^ g_1.snd) : Int).tmod (2 : Int) == 1) = false → ¬(2 : Int) = (0 : Int) ∧ In64
   ((↑(g_1.fst / 2 ^ g_1.snd) : Int).tdiv 2) ∧ In64 ((↑g_1.snd : Int) + 1) ∧ ∃ (g' : Nat × Nat), (g'.fst < pwN l.length ∧ g'.snd ≤ l.length) ∧ g'.fst = g0.fst ∧ l.length - g'.snd < l.length - g_1.snd ∧ AS.mk [(1, AV.sl 19 (List.map
   encMs l)), (2, AV.i t), (3, AV.elt 3 [(encHm h)] 0 0), (9, AV.sl 1 (List.map encI (chO h l (bsN h l t g_1.fst)).s)), (10, AV.bool (bsN h l t g_1.fst).isSome), (11, AV.i (↑(pwN l.length) : Int)), (13, AV.i (↑g_1.fst : Int)), (14,
   AV.own 1 (List.map encI (bitsM g_1.fst g_1.snd)).length), (15, AV.i ((↑(g_1.fst / 2 ^ g_1.snd) : Int).tdiv 2)), (16, AV.i ((↑g_1.snd : Int) + 1))] [(1, ABlk.buf 3 1 (List.map encI (bitsM g_1.fst g_1.snd)))] 2 = AS.mk [(1, AV.sl 19
   (List.map encMs l)), (2, AV.i t), (3, AV.elt 3 [(encHm h)] 0 0), (9, AV.sl 1 (List.map encI (chO h l (bsN h l t g'.fst)).s)), (10, AV.bool (bsN h l t g'.fst).isSome), (11, AV.i (↑(pwN l.length) : Int)), (13, AV.i (↑g'.fst : Int)),
   (14, AV.own 1 (List.map encI (bitsM g'.fst g'.snd)).length), (15, AV.i (↑(g'.fst / 2 ^ g'.snd) : Int)), (16, AV.i (↑g'.snd : Int))] [(1, ABlk.buf 3 1 (List.map encI (bitsM g'.fst g'.snd)))] 2)) ∧ (decide ((↑g_1.snd : Int) <
   (↑(List.map encMs l).length : Int)) = false → ((!fSet l (List.map hdI (List.map encI (bitsM g_1.fst g_1.snd))) != 0) = true → (!fSet l (List.map hdI (List.map encI (bitsM g_1.fst g_1.snd))) != 0) = true) ∧ ((!fSet l (List.map hdI
   (List.map encI (bitsM g_1.fst g_1.snd))) != 0) = true → (!fSet l (List.map hdI (List.map encI (bitsM g_1.fst g_1.snd))) != 0) = true) ∧ ((!fSet l (List.map hdI (List.map encI (bitsM g_1.fst g_1.snd))) != 0) = true → (!fSet l
   (List.map hdI (List.map encI (bitsM g_1.fst g_1.snd))) != 0) = true) ∧ ((!fSet l (List.map hdI (List.map encI (bitsM g_1.fst g_1.snd))) != 0) = true → (!fSet l (List.map hdI (List.map encI (bitsM g_1.fst g_1.snd))) != 0) = true) ∧
   ((!fSet l (List.map hdI (List.map encI (bitsM g_1.fst g_1.snd))) != 0) = true → (!fSet l (List.map hdI (List.map encI (bitsM g_1.fst g_1.snd))) != 0) = true) ∧ ((fSet l (List.map hdI (List.map encI (bitsM g_1.fst g_1.snd))) != 0) =
   false → (!fSet l (List.map hdI (List.map encI (bitsM g_1.fst g_1.snd))) != 0) = true) ∧ PCall Tryz.prog G0 31 [AV.sl 19 (List.map encMs l), AV.sl 1 (List.map encI (bitsM g_1.fst g_1.snd))] (AV.i (fSet l (List.map hdI (List.map encI
   (bitsM g_1.fst g_1.snd))))) ∧ impB (!fSet l (List.map hdI (List.map encI (bitsM g_1.fst g_1.snd))) != 0) (PCall Tryz.prog G0 36 [AV.agg (encHm h), AV.sl 19 (List.map encMs l), AV.sl 1 (List.map encI (bitsM g_1.fst g_1.snd)), AV.i
   t] (AV.bool (decide (afU h l (List.map hdI (List.map encI (bitsM g_1.fst g_1.snd))) ≤ t)))) ∧ ((if (fSet l (List.map hdI (List.map encI (bitsM g_1.fst g_1.snd))) != 0) = true then true else !decide (afU h l (List.map hdI (List.map
   encI (bitsM g_1.fst g_1.snd))) ≤ t)) = true → In64 ((↑g_1.fst : Int) + 1) ∧ ∃ (g' : Nat), g' ≤ pwN l.length ∧ pwN l.length - g' < pwN l.length - g ∧ AS.mk [(1, AV.sl 19 (List.map encMs l)), (2, AV.i t), (3, AV.elt 3 [(encHm h)] 0
   0), (9, AV.sl 1 (List.map encI (chO h l (bsN h l t g_1.fst)).s)), (10, AV.bool (bsN h l t g_1.fst).isSome), (11, AV.i (↑(pwN l.length) : Int)), (13, AV.i ((↑g_1.fst : Int) + 1))] [] 1 = AS.mk [(1, AV.sl 19 (List.map encMs l)), (2,
   AV.i t), (3, AV.elt 3 [(encHm h)] 0 0), (9, AV.sl 1 (List.map encI (chO h l (bsN h l t g')).s)), (10, AV.bool (bsN h l t g').isSome), (11, AV.i (↑(pwN l.length) : Int)), (13, AV.i (↑g' : Int))] [] 1) ∧ ((if (fSet l (List.map hdI
   (List.map encI (bitsM g_1.fst g_1.snd))) != 0) = true then true else !decide (afU h l (List.map hdI (List.map encI (bitsM g_1.fst g_1.snd))) ≤ t)) = false → ((!(bsN h l t g_1.fst).isSome) = true → In64 ((↑g_1.fst : Int) + 1) ∧ ∃
   (g' : Nat), g' ≤ pwN l.length ∧ pwN l.length - g' < pwN l.length - g ∧ AS.mk [(1, AV.sl 19 (List.map encMs l)), (2, AV.i t), (3, AV.elt 3 [(encHm h)] 0 0), (9, AV.sl 1 (List.map encI (bitsM g_1.fst g_1.snd))), (10, AV.bool true),
   (11, AV.i (↑(pwN l.length) : Int)), (13, AV.i ((↑g_1.fst : Int) + 1))] [] 1 = AS.mk [(1, AV.sl 19 (List.map encMs l)), (2, AV.i t), (3, AV.elt 3 [(encHm h)] 0 0), (9, AV.sl 1 (List.map encI (chO h l (bsN h l t g')).s)), (10,
   AV.bool (bsN h l t g').isSome), (11, AV.i (↑(pwN l.length) : Int)), (13, AV.i (↑g' : Int))] [] 1) ∧ ((!(bsN h l t g_1.fst).isSome) = false → PCall Tryz.prog G0 124 [AV.sl 19 (List.map encMs l), AV.sl 1 (List.map encI (bitsM g_1.fst
   g_1.snd))] (AV.i (costN l (List.map hdI (List.map encI (bitsM g_1.fst g_1.snd))))) ∧ PCall Tryz.prog G0 124 [AV.sl 19 (List.map encMs l), AV.sl 1 (List.map encI (chO h l (bsN h l t g_1.fst)).s)] (AV.i (costN l (List.map hdI
   (List.map encI (chO h l (bsN h l t g_1.fst)).s)))) ∧ PCall Tryz.prog G0 35 [AV.agg (encHm h), AV.sl 19 (List.map encMs l), AV.sl 1 (List.map encI (bitsM g_1.fst g_1.snd))] (AV.agg [AV.str h.nm, AV.i h.pe, AV.sl 25 (List.map encWn
   (aft h.ws l (List.map hdI (List.map encI (bitsM g_1.fst g_1.snd)))))]) ∧ PCall Tryz.prog G0 29 [AV.agg [AV.str h.nm, AV.i h.pe, AV.sl 25 (List.map encWn (aft h.ws l (List.map hdI (List.map encI (bitsM g_1.fst g_1.snd)))))]] (AV.agg
   [AV.i (inL (List.map decWn (List.map encWn (aft h.ws l (List.map hdI (List.map encI (bitsM g_1.fst g_1.snd)))))) (List.map encWn (aft h.ws l (List.map hdI (List.map encI (bitsM g_1.fst g_1.snd))))).length), AV.i (inH (List.map
   decWn (List.map encWn (aft h.ws l (List.map hdI (List.map encI (bitsM g_1.fst g_1.snd)))))) (List.map encWn (aft h.ws l (List.map hdI (List.map encI (bitsM g_1.fst g_1.snd))))).length)]) ∧ PCall Tryz.prog G0 35 [AV.agg (encHm h),
   AV.sl 19 (List.map encMs l), AV.sl 1 (List.map encI (chO h l (bsN h l t g_1.fst)).s)] (AV.agg [AV.str h.nm, AV.i h.pe, AV.sl 25 (List.map encWn (aft h.ws l (List.map hdI (List.map encI (chO h l (bsN h l t g_1.fst)).s))))]) ∧ PCall
   Tryz.prog G0 29 [AV.agg [AV.str h.nm, AV.i h.pe, AV.sl 25 (List.map encWn (aft h.ws l (List.map hdI (List.map encI (chO h l (bsN h l t g_1.fst)).s))))]] (AV.agg [AV.i (inL (List.map decWn (List.map encWn (aft h.ws l (List.map hdI
   (List.map encI (chO h l (bsN h l t g_1.fst)).s))))) (List.map encWn (aft h.ws l (List.map hdI (List.map encI (chO h l (bsN h l t g_1.fst)).s)))).length), AV.i (inH (List.map decWn (List.map encWn (aft h.ws l (List.map hdI (List.map
   encI (chO h l (bsN h l t g_1.fst)).s))))) (List.map encWn (aft h.ws l (List.map hdI (List.map encI (chO h l (bsN h l t g_1.fst)).s)))).length)]) ∧ ((!decide (costN l (List.map hdI (List.map encI (bitsM g_1.fst g_1.snd))) < costN l
   (List.map hdI (List.map encI (chO h l (bsN h l t g_1.fst)).s)))) = true → (!decide (costN l (List.map hdI (List.map encI (bitsM g_1.fst g_1.snd))) < costN l (List.map hdI (List.map encI (chO h l (bsN h l t g_1.fst)).s)))) = true) ∧
   ((!decide (costN l (List.map hdI (List.map encI (bitsM g_1.fst g_1.snd))) < costN l (List.map hdI (List.map encI (chO h l (bsN h l t g_1.fst)).s)))) = true → (!decide (costN l (List.map hdI (List.map encI (bitsM g_1.fst g_1.snd)))
   < costN l (List.map hdI (List.map encI (chO h l (bsN h l t g_1.fst)).s)))) = true) ∧ ((!decide (costN l (List.map hdI (List.map encI (bitsM g_1.fst g_1.snd))) < costN l (List.map hdI (List.map encI (chO h l (bsN h l t
   g_1.fst)).s)))) = true → (!decide (costN l (List.map hdI (List.map encI (bitsM g_1.fst g_1.snd))) < costN l (List.map hdI (List.map encI (chO h l (bsN h l t g_1.fst)).s)))) = true) ∧ ((!decide (costN l (List.map hdI (List.map encI
   (bitsM g_1.fst g_1.snd))) < costN l (List.map hdI (List.map encI (chO h l (bsN h l t g_1.fst)).s))) && costN l (List.map hdI (List.map encI (bitsM g_1.fst g_1.snd))) == costN l (List.map hdI (List.map encI (chO h l (bsN h l t
   g_1.fst)).s))) = true → (!decide (costN l (List.map hdI (List.map encI (bitsM g_1.fst g_1.snd))) < costN l (List.map hdI (List.map encI (chO h l (bsN h l t g_1.fst)).s))) && costN l (List.map hdI (List.map encI (bitsM g_1.fst
   g_1.snd))) == costN l (List.map hdI (List.map encI (chO h l (bsN h l t g_1.fst)).s))) = true) ∧ ((!decide (costN l (List.map hdI (List.map encI (bitsM g_1.fst g_1.snd))) < costN l (List.map hdI (List.map encI (chO h l (bsN h l t
   g_1.fst)).s))) && costN l (List.map hdI (List.map encI (bitsM g_1.fst g_1.snd))) == costN l (List.map hdI (List.map encI (chO h l (bsN h l t g_1.fst)).s))) = true → (!decide (costN l (List.map hdI (List.map encI (bitsM g_1.fst
   g_1.snd))) < costN l (List.map hdI (List.map encI (chO h l (bsN h l t g_1.fst)).s))) && costN l (List.map hdI (List.map encI (bitsM g_1.fst g_1.snd))) == costN l (List.map hdI (List.map encI (chO h l (bsN h l t g_1.fst)).s))) =
   true) ∧ ((!decide (costN l (List.map hdI (List.map encI (bitsM g_1.fst g_1.snd))) < costN l (List.map hdI (List.map encI (chO h l (bsN h l t g_1.fst)).s))) && costN l (List.map hdI (List.map encI (bitsM g_1.fst g_1.snd))) == costN
   l (List.map hdI (List.map encI (chO h l (bsN h l t g_1.fst)).s))) = true → (!decide (costN l (List.map hdI (List.map encI (bitsM g_1.fst g_1.snd))) < costN l (List.map hdI (List.map encI (chO h l (bsN h l t g_1.fst)).s))) && costN
   l (List.map hdI (List.map encI (bitsM g_1.fst g_1.snd))) == costN l (List.map hdI (List.map encI (chO h l (bsN h l t g_1.fst)).s))) = true) ∧ ((!decide (costN l (List.map hdI (List.map encI (bitsM g_1.fst g_1.snd))) < costN l
   (List.map hdI (List.map encI (chO h l (bsN h l t g_1.fst)).s))) && costN l (List.map hdI (List.map encI (bitsM g_1.fst g_1.snd))) == costN l (List.map hdI (List.map encI (chO h l (bsN h l t g_1.fst)).s)) && !decide (inH (List.map
   decWn (List.map encWn (afH h l (List.map hdI (List.map encI (bitsM g_1.fst g_1.snd)))).ws)) (List.map encWn (afH h l (List.map hdI (List.map encI (bitsM g_1.fst g_1.snd)))).ws).length < inH (List.map decWn (List.map encWn (afH h l
   (List.map hdI (List.map encI (chO h l (bsN h l t g_1.fst)).s))).ws)) (List.map encWn (afH h l (List.map hdI (List.map encI (chO h l (bsN h l t g_1.fst)).s))).ws).length)) = true → (!decide (costN l (List.map hdI (List.map encI
   (bitsM g_1.fst g_1.snd))) < costN l (List.map hdI (List.map encI (chO h l (bsN h l t g_1.fst)).s))) && costN l (List.map hdI (List.map encI (bitsM g_1.fst g_1.snd))) == costN l (List.map hdI (List.map encI (chO h l (bsN h l t
   g_1.fst)).s)) && !decide (inH (List.map decWn (List.map encWn (afH h l (List.map hdI (List.map encI (bitsM g_1.fst g_1.snd)))).ws)) (List.map encWn (afH h l (List.map hdI (List.map encI (bitsM g_1.fst g_1.snd)))).ws).length < inH
   (List.map decWn (List.map encWn (afH h l (List.map hdI (List.map encI (chO h l (bsN h l t g_1.fst)).s))).ws)) (List.map encWn (afH h l (List.map hdI (List.map encI (chO h l (bsN h l t g_1.fst)).s))).ws).length)) = true) ∧ ((!decide
   (costN l (List.map hdI (List.map encI (bitsM g_1.fst g_1.snd))) < costN l (List.map hdI (List.map encI (chO h l (bsN h l t g_1.fst)).s))) && costN l (List.map hdI (List.map encI (bitsM g_1.fst g_1.snd))) == costN l (List.map hdI
   (List.map encI (chO h l (bsN h l t g_1.fst)).s)) && !decide (inH (List.map decWn (List.map encWn (afH h l (List.map hdI (List.map encI (bitsM g_1.fst g_1.snd)))).ws)) (List.map encWn (afH h l (List.map hdI (List.map encI (bitsM
   g_1.fst g_1.snd)))).ws).length < inH (List.map decWn (List.map encWn (afH h l (List.map hdI (List.map encI (chO h l (bsN h l t g_1.fst)).s))).ws)) (List.map encWn (afH h l (List.map hdI (List.map encI (chO h l (bsN h l t
   g_1.fst)).s))).ws).length)) = true → (!decide (costN l (List.map hdI (List.map encI (bitsM g_1.fst g_1.snd))) < costN l (List.map hdI (List.map encI (chO h l (bsN h l t g_1.fst)).s))) && costN l (List.map hdI (List.map encI (bitsM
   g_1.fst g_1.snd))) == costN l (List.map hdI (List.map encI (chO h l (bsN h l t g_1.fst)).s)) && !decide (inH (List.map decWn (List.map encWn (afH h l (List.map hdI (List.map encI (bitsM g_1.fst g_1.snd)))).ws)) (List.map encWn (afH
   h l (List.map hdI (List.map encI (bitsM g_1.fst g_1.snd)))).ws).length < inH (List.map decWn (List.map encWn (afH h l (List.map hdI (List.map encI (chO h l (bsN h l t g_1.fst)).s))).ws)) (List.map encWn (afH h l (List.map hdI
   (List.map encI (chO h l (bsN h l t g_1.fst)).s))).ws).length)) = true) ∧ ((!decide (costN l (List.map hdI (List.map encI (bitsM g_1.fst g_1.snd))) < costN l (List.map hdI (List.map encI (chO h l (bsN h l t g_1.fst)).s))) && costN l
   (List.map hdI (List.map encI (bitsM g_1.fst g_1.snd))) == costN l (List.map hdI (List.map encI (chO h l (bsN h l t g_1.fst)).s)) && !decide (inH (List.map decWn (List.map encWn (afH h l (List.map hdI (List.map encI (bitsM g_1.fst
   g_1.snd)))).ws)) (List.map encWn (afH h l (List.map hdI (List.map encI (bitsM g_1.fst g_1.snd)))).ws).length < inH (List.map decWn (List.map encWn (afH h l (List.map hdI (List.map encI (chO h l (bsN h l t g_1.fst)).s))).ws))
   (List.map encWn (afH h l (List.map hdI (List.map encI (chO h l (bsN h l t g_1.fst)).s))).ws).length)) = true → (!decide (costN l (List.map hdI (List.map encI (bitsM g_1.fst g_1.snd))) < costN l (List.map hdI (List.map encI (chO h l
   (bsN h l t g_1.fst)).s))) && costN l (List.map hdI (List.map encI (bitsM g_1.fst g_1.snd))) == costN l (List.map hdI (List.map encI (chO h l (bsN h l t g_1.fst)).s)) && !decide (inH (List.map decWn (List.map encWn (afH h l
   (List.map hdI (List.map encI (bitsM g_1.fst g_1.snd)))).ws)) (List.map encWn (afH h l (List.map hdI (List.map encI (bitsM g_1.fst g_1.snd)))).ws).length < inH (List.map decWn (List.map encWn (afH h l (List.map hdI (List.map encI
   (chO h l (bsN h l t g_1.fst)).s))).ws)) (List.map encWn (afH h l (List.map hdI (List.map encI (chO h l (bsN h l t g_1.fst)).s))).ws).length)) = true) ∧ ((!decide (costN l (List.map hdI (List.map encI (bitsM g_1.fst g_1.snd))) <
   costN l (List.map hdI (List.map encI (chO h l (bsN h l t g_1.fst)).s))) && costN l (List.map hdI (List.map encI (bitsM g_1.fst g_1.snd))) == costN l (List.map hdI (List.map encI (chO h l (bsN h l t g_1.fst)).s)) && !decide (inH
   (List.map decWn (List.map encWn (afH h l (List.map hdI (List.map encI (bitsM g_1.fst g_1.snd)))).ws)) (List.map encWn (afH h l (List.map hdI (List.map encI (bitsM g_1.fst g_1.snd)))).ws).length < inH (List.map decWn (List.map encWn
   (afH h l (List.map hdI (List.map encI (chO h l (bsN h l t g_1.fst)).s))).ws)) (List.map encWn (afH h l (List.map hdI (List.map encI (chO h l (bsN h l t g_1.fst)).s))).ws).length) && inH (List.map decWn (List.map encWn (aft h.ws l
   (List.map hdI (List.map encI (bitsM g_1.fst g_1.snd)))))) (List.map encWn (aft h.ws l (List.map hdI (List.map encI (bitsM g_1.fst g_1.snd))))).length == inH (List.map decWn (List.map encWn (aft h.ws l (List.map hdI (List.map encI
   (chO h l (bsN h l t g_1.fst)).s))))) (List.map encWn (aft h.ws l (List.map hdI (List.map encI (chO h l (bsN h l t g_1.fst)).s)))).length) = true → (!decide (costN l (List.map hdI (List.map encI (bitsM g_1.fst g_1.snd))) < costN l
   (List.map hdI (List.map encI (chO h l (bsN h l t g_1.fst)).s))) && costN l (List.map hdI (List.map encI (bitsM g_1.fst g_1.snd))) == costN l (List.map hdI (List.map encI (chO h l (bsN h l t g_1.fst)).s)) && !decide (inH (List.map
   decWn (List.map encWn (afH h l (List.map hdI (List.map encI (bitsM g_1.fst g_1.snd)))).ws)) (List.map encWn (afH h l (List.map hdI (List.map encI (bitsM g_1.fst g_1.snd)))).ws).length < inH (List.map decWn (List.map encWn (afH h l
   (List.map hdI (List.map encI (chO h l (bsN h l t g_1.fst)).s))).ws)) (List.map encWn (afH h l (List.map hdI (List.map encI (chO h l (bsN h l t g_1.fst)).s))).ws).length) && inH (List.map decWn (List.map encWn (aft h.ws l (List.map
   hdI (List.map encI (bitsM g_1.fst g_1.snd)))))) (List.map encWn (aft h.ws l (List.map hdI (List.map encI (bitsM g_1.fst g_1.snd))))).length == inH (List.map decWn (List.map encWn (aft h.ws l (List.map hdI (List.map encI (chO h l
   (bsN h l t g_1.fst)).s))))) (List.map encWn (aft h.ws l (List.map hdI (List.map encI (chO h l (bsN h l t g_1.fst)).s)))).length) = true) ∧ ((!decide (costN l (List.map hdI (List.map encI (bitsM g_1.fst g_1.snd))) < costN l
   (List.map hdI (List.map encI (chO h l (bsN h l t g_1.fst)).s))) && costN l (List.map hdI (List.map encI (bitsM g_1.fst g_1.snd))) == costN l (List.map hdI (List.map encI (chO h l (bsN h l t g_1.fst)).s)) && !decide (inH (List.map
   decWn (List.map encWn (afH h l (List.map hdI (List.map encI (bitsM g_1.fst g_1.snd)))).ws)) (List.map encWn (afH h l (List.map hdI (List.map encI (bitsM g_1.fst g_1.snd)))).ws).length < inH (List.map decWn (List.map encWn (afH h l
   (List.map hdI (List.map encI (chO h l (bsN h l t g_1.fst)).s))).ws)) (List.map encWn (afH h l (List.map hdI (List.map encI (chO h l (bsN h l t g_1.fst)).s))).ws).length) && inH (List.map decWn (List.map encWn (aft h.ws l (List.map
   hdI (List.map encI (bitsM g_1.fst g_1.snd)))))) (List.map encWn (aft h.ws l (List.map hdI (List.map encI (bitsM g_1.fst g_1.snd))))).length == inH (List.map decWn (List.map encWn (aft h.ws l (List.map hdI (List.map encI (chO h l
   (bsN h l t g_1.fst)).s))))) (List.map encWn (aft h.ws l (List.map hdI (List.map encI (chO h l (bsN h l t g_1.fst)).s)))).length) = true → (!decide (costN l (List.map hdI (List.map encI (bitsM g_1.fst g_1.snd))) < costN l (List.map
   hdI (List.map encI (chO h l (bsN h l t g_1.fst)).s))) && costN l (List.map hdI (List.map encI (bitsM g_1.fst g_1.snd))) == costN l (List.map hdI (List.map encI (chO h l (bsN h l t g_1.fst)).s)) && !decide (inH (List.map decWn
   (List.map encWn (afH h l (List.map hdI (List.map encI (bitsM g_1.fst g_1.snd)))).ws)) (List.map encWn (afH h l (List.map hdI (List.map encI (bitsM g_1.fst g_1.snd)))).ws).length < inH (List.map decWn (List.map encWn (afH h l
   (List.map hdI (List.map encI (chO h l (bsN h l t g_1.fst)).s))).ws)) (List.map encWn (afH h l (List.map hdI (List.map encI (chO h l (bsN h l t g_1.fst)).s))).ws).length) && inH (List.map decWn (List.map encWn (aft h.ws l (List.map
   hdI (List.map encI (bitsM g_1.fst g_1.snd)))))) (List.map encWn (aft h.ws l (List.map hdI (List.map encI (bitsM g_1.fst g_1.snd))))).length == inH (List.map decWn (List.map encWn (aft h.ws l (List.map hdI (List.map encI (chO h l
   (bsN h l t g_1.fst)).s))))) (List.map encWn (aft h.ws l (List.map hdI (List.map encI (chO h l (bsN h l t g_1.fst)).s)))).length) = true) ∧ ((!decide (costN l (List.map hdI (List.map encI (bitsM g_1.fst g_1.snd))) < costN l
   (List.map hdI (List.map encI (chO h l (bsN h l t g_1.fst)).s))) && costN l (List.map hdI (List.map encI (bitsM g_1.fst g_1.snd))) == costN l (List.map hdI (List.map encI (chO h l (bsN h l t g_1.fst)).s)) && !decide (inH (List.map
   decWn (List.map encWn (afH h l (List.map hdI (List.map encI (bitsM g_1.fst g_1.snd)))).ws)) (List.map encWn (afH h l (List.map hdI (List.map encI (bitsM g_1.fst g_1.snd)))).ws).length < inH (List.map decWn (List.map encWn (afH h l
   (List.map hdI (List.map encI (chO h l (bsN h l t g_1.fst)).s))).ws)) (List.map encWn (afH h l (List.map hdI (List.map encI (chO h l (bsN h l t g_1.fst)).s))).ws).length)) = true → (!decide (costN l (List.map hdI (List.map encI
   (bitsM g_1.fst g_1.snd))) < costN l (List.map hdI (List.map encI (chO h l (bsN h l t g_1.fst)).s))) && costN l (List.map hdI (List.map encI (bitsM g_1.fst g_1.snd))) == costN l (List.map hdI (List.map encI (chO h l (bsN h l t
   g_1.fst)).s)) && !decide (inH (List.map decWn (List.map encWn (afH h l (List.map hdI (List.map encI (bitsM g_1.fst g_1.snd)))).ws)) (List.map encWn (afH h l (List.map hdI (List.map encI (bitsM g_1.fst g_1.snd)))).ws).length < inH
   (List.map decWn (List.map encWn (afH h l (List.map hdI (List.map encI (chO h l (bsN h l t g_1.fst)).s))).ws)) (List.map encWn (afH h l (List.map hdI (List.map encI (chO h l (bsN h l t g_1.fst)).s))).ws).length)) = true) ∧ ((!decide
   (costN l (List.map hdI (List.map encI (bitsM g_1.fst g_1.snd))) < costN l (List.map hdI (List.map encI (chO h l (bsN h l t g_1.fst)).s))) && costN l (List.map hdI (List.map encI (bitsM g_1.fst g_1.snd))) == costN l (List.map hdI
   (List.map encI (chO h l (bsN h l t g_1.fst)).s)) && !decide (inH (List.map decWn (List.map encWn (afH h l (List.map hdI (List.map encI (bitsM g_1.fst g_1.snd)))).ws)) (List.map encWn (afH h l (List.map hdI (List.map encI (bitsM
   g_1.fst g_1.snd)))).ws).length < inH (List.map decWn (List.map encWn (afH h l (List.map hdI (List.map encI (chO h l (bsN h l t g_1.fst)).s))).ws)) (List.map encWn (afH h l (List.map hdI (List.map encI (chO h l (bsN h l t
   g_1.fst)).s))).ws).length)) = true → (inH (List.map decWn (List.map encWn (aft h.ws l (List.map hdI (List.map encI (bitsM g_1.fst g_1.snd)))))) (List.map encWn (aft h.ws l (List.map hdI (List.map encI (bitsM g_1.fst
   g_1.snd))))).length == inH (List.map decWn (List.map encWn (aft h.ws l (List.map hdI (List.map encI (chO h l (bsN h l t g_1.fst)).s))))) (List.map encWn (aft h.ws l (List.map hdI (List.map encI (chO h l (bsN h l t
   g_1.fst)).s)))).length) = true → (!decide (costN l (List.map hdI (List.map encI (bitsM g_1.fst g_1.snd))) < costN l (List.map hdI (List.map encI (chO h l (bsN h l t g_1.fst)).s))) && costN l (List.map hdI (List.map encI (bitsM
   g_1.fst g_1.snd))) == costN l (List.map hdI (List.map encI (chO h l (bsN h l t g_1.fst)).s)) && !decide (inH (List.map decWn (List.map encWn (afH h l (List.map hdI (List.map encI (bitsM g_1.fst g_1.snd)))).ws)) (List.map encWn (afH
   h l (List.map hdI (List.map encI (bitsM g_1.fst g_1.snd)))).ws).length < inH (List.map decWn (List.map encWn (afH h l (List.map hdI (List.map encI (chO h l (bsN h l t g_1.fst)).s))).ws)) (List.map encWn (afH h l (List.map hdI
   (List.map encI (chO h l (bsN h l t g_1.fst)).s))).ws).length) && inH (List.map decWn (List.map encWn (aft h.ws l (List.map hdI (List.map encI (bitsM g_1.fst g_1.snd)))))) (List.map encWn (aft h.ws l (List.map hdI (List.map encI
   (bitsM g_1.fst g_1.snd))))).length == inH (List.map decWn (List.map encWn (aft h.ws l (List.map hdI (List.map encI (chO h l (bsN h l t g_1.fst)).s))))) (List.map encWn (aft h.ws l (List.map hdI (List.map encI (chO h l (bsN h l t
   g_1.fst)).s)))).length) = true) ∧ ((!decide (costN l (List.map hdI (List.map encI (bitsM g_1.fst g_1.snd))) < costN l (List.map hdI (List.map encI (chO h l (bsN h l t g_1.fst)).s))) && costN l (List.map hdI (List.map encI (bitsM
   g_1.fst g_1.snd))) == costN l (List.map hdI (List.map encI (chO h l (bsN h l t g_1.fst)).s))) = true → (!decide (costN l (List.map hdI (List.map encI (bitsM g_1.fst g_1.snd))) < costN l (List.map hdI (List.map encI (chO h l (bsN h
   l t g_1.fst)).s))) && costN l (List.map hdI (List.map encI (bitsM g_1.fst g_1.snd))) == costN l (List.map hdI (List.map encI (chO h l (bsN h l t g_1.fst)).s))) = true) ∧ ((!decide (costN l (List.map hdI (List.map encI (bitsM
   g_1.fst g_1.snd))) < costN l (List.map hdI (List.map encI (chO h l (bsN h l t g_1.fst)).s))) && costN l (List.map hdI (List.map encI (bitsM g_1.fst g_1.snd))) == costN l (List.map hdI (List.map encI (chO h l (bsN h l t
   g_1.fst)).s))) = true → decide (inH (List.map decWn (List.map encWn (afH h l (List.map hdI (List.map encI (bitsM g_1.fst g_1.snd)))).ws)) (List.map encWn (afH h l (List.map hdI (List.map encI (bitsM g_1.fst g_1.snd)))).ws).length <
   inH (List.map decWn (List.map encWn (afH h l (List.map hdI (List.map encI (chO h l (bsN h l t g_1.fst)).s))).ws)) (List.map encWn (afH h l (List.map hdI (List.map encI (chO h l (bsN h l t g_1.fst)).s))).ws).length) = false →
   (!decide (costN l (List.map hdI (List.map encI (bitsM g_1.fst g_1.snd))) < costN l (List.map hdI (List.map encI (chO h l (bsN h l t g_1.fst)).s))) && costN l (List.map hdI (List.map encI (bitsM g_1.fst g_1.snd))) == costN l
   (List.map hdI (List.map encI (chO h l (bsN h l t g_1.fst)).s)) && !decide (inH (List.map decWn (List.map encWn (afH h l (List.map hdI (List.map encI (bitsM g_1.fst g_1.snd)))).ws)) (List.map encWn (afH h l (List.map hdI (List.map
   encI (bitsM g_1.fst g_1.snd)))).ws).length < inH (List.map decWn (List.map encWn (afH h l (List.map hdI (List.map encI (chO h l (bsN h l t g_1.fst)).s))).ws)) (List.map encWn (afH h l (List.map hdI (List.map encI (chO h l (bsN h l
   t g_1.fst)).s))).ws).length)) = true) ∧ ((!decide (costN l (List.map hdI (List.map encI (bitsM g_1.fst g_1.snd))) < costN l (List.map hdI (List.map encI (chO h l (bsN h l t g_1.fst)).s)))) = true → (!decide (costN l (List.map hdI
   (List.map encI (bitsM g_1.fst g_1.snd))) < costN l (List.map hdI (List.map encI (chO h l (bsN h l t g_1.fst)).s)))) = true) ∧ ((!decide (costN l (List.map hdI (List.map encI (bitsM g_1.fst g_1.snd))) < costN l (List.map hdI
   (List.map encI (chO h l (bsN h l t g_1.fst)).s)))) = true → (costN l (List.map hdI (List.map encI (bitsM g_1.fst g_1.snd))) == costN l (List.map hdI (List.map encI (chO h l (bsN h l t g_1.fst)).s))) = true → (!decide (costN l
   (List.map hdI (List.map encI (bitsM g_1.fst g_1.snd))) < costN l (List.map hdI (List.map encI (chO h l (bsN h l t g_1.fst)).s))) && costN l (List.map hdI (List.map encI (bitsM g_1.fst g_1.snd))) == costN l (List.map hdI (List.map
   encI (chO h l (bsN h l t g_1.fst)).s))) = true) ∧ (decide (costN l (List.map hdI (List.map encI (bitsM g_1.fst g_1.snd))) < costN l (List.map hdI (List.map encI (chO h l (bsN h l t g_1.fst)).s))) = false → (!decide (costN l
   (List.map hdI (List.map encI (bitsM g_1.fst g_1.snd))) < costN l (List.map hdI (List.map encI (chO h l (bsN h l t g_1.fst)).s)))) = true) ∧ impB (!decide (costN l (List.map hdI (List.map encI (bitsM g_1.fst g_1.snd))) < costN l
   (List.map hdI (List.map encI (chO h l (bsN h l t g_1.fst)).s))) && costN l (List.map hdI (List.map encI (bitsM g_1.fst g_1.snd))) == costN l (List.map hdI (List.map encI (chO h l (bsN h l t g_1.fst)).s)) && !decide (inH (List.map
   decWn (List.map encWn (afH h l (List.map hdI (List.map encI (bitsM g_1.fst g_1.snd)))).ws)) (List.map encWn (afH h l (List.map hdI (List.map encI (bitsM g_1.fst g_1.snd)))).ws).length < inH (List.map decWn (List.map encWn (afH h l
   (List.map hdI (List.map encI (chO h l (bsN h l t g_1.fst)).s))).ws)) (List.map encWn (afH h l (List.map hdI (List.map encI (chO h l (bsN h l t g_1.fst)).s))).ws).length) && inH (List.map decWn (List.map encWn (aft h.ws l (List.map
   hdI (List.map encI (bitsM g_1.fst g_1.snd)))))) (List.map encWn (aft h.ws l (List.map hdI (List.map encI (bitsM g_1.fst g_1.snd))))).length == inH (List.map decWn (List.map encWn (aft h.ws l (List.map hdI (List.map encI (chO h l
   (bsN h l t g_1.fst)).s))))) (List.map encWn (aft h.ws l (List.map hdI (List.map encI (chO h l (bsN h l t g_1.fst)).s)))).length) (PCall Tryz.prog G0 125 [AV.sl 1 (List.map encI (bitsM g_1.fst g_1.snd)), AV.sl 1 (List.map encI (chO
   h l (bsN h l t g_1.fst)).s)] (AV.bool (lx (List.map hdI (List.map encI (bitsM g_1.fst g_1.snd))) (List.map hdI (List.map encI (chO h l (bsN h l t g_1.fst)).s))))) ∧ ((if decide (costN l (List.map hdI (List.map encI (bitsM g_1.fst
   g_1.snd))) < costN l (List.map hdI (List.map encI (chO h l (bsN h l t g_1.fst)).s))) = true then true else if (costN l (List.map hdI (List.map encI (bitsM g_1.fst g_1.snd))) == costN l (List.map hdI (List.map encI (chO h l (bsN h l
   t g_1.fst)).s))) = true then if decide (inH (List.map decWn (List.map encWn (afH h l (List.map hdI (List.map encI (bitsM g_1.fst g_1.snd)))).ws)) (List.map encWn (afH h l (List.map hdI (List.map encI (bitsM g_1.fst
   g_1.snd)))).ws).length < inH (List.map decWn (List.map encWn (afH h l (List.map hdI (List.map encI (chO h l (bsN h l t g_1.fst)).s))).ws)) (List.map encWn (afH h l (List.map hdI (List.map encI (chO h l (bsN h l t
   g_1.fst)).s))).ws).length) = true then true else if (inH (List.map decWn (List.map encWn (aft h.ws l (List.map hdI (List.map encI (bitsM g_1.fst g_1.snd)))))) (List.map encWn (aft h.ws l (List.map hdI (List.map encI (bitsM g_1.fst
   g_1.snd))))).length == inH (List.map decWn (List.map encWn (aft h.ws l (List.map hdI (List.map encI (chO h l (bsN h l t g_1.fst)).s))))) (List.map encWn (aft h.ws l (List.map hdI (List.map encI (chO h l (bsN h l t
   g_1.fst)).s)))).length) = true then lx (List.map hdI (List.map encI (bitsM g_1.fst g_1.snd))) (List.map hdI (List.map encI (chO h l (bsN h l t g_1.fst)).s)) else false else false) = true → In64 ((↑g_1.fst : Int) + 1) ∧ ∃ (g' :
   Nat), g' ≤ pwN l.length ∧ pwN l.length - g' < pwN l.length - g ∧ AS.mk [(1, AV.sl 19 (List.map encMs l)), (2, AV.i t), (3, AV.elt 3 [(encHm h)] 0 0), (9, AV.sl 1 (List.map encI (bitsM g_1.fst g_1.snd))), (10, AV.bool (bsN h l t
   g_1.fst).isSome), (11, AV.i (↑(pwN l.length) : Int)), (13, AV.i ((↑g_1.fst : Int) + 1))] [] 1 = AS.mk [(1, AV.sl 19 (List.map encMs l)), (2, AV.i t), (3, AV.elt 3 [(encHm h)] 0 0), (9, AV.sl 1 (List.map encI (chO h l (bsN h l t
   g')).s)), (10, AV.bool (bsN h l t g').isSome), (11, AV.i (↑(pwN l.length) : Int)), (13, AV.i (↑g' : Int))] [] 1) ∧ ((if decide (costN l (List.map hdI (List.map encI (bitsM g_1.fst g_1.snd))) < costN l (List.map hdI (List.map encI
   (chO h l (bsN h l t g_1.fst)).s))) = true then true else if (costN l (List.map hdI (List.map encI (bitsM g_1.fst g_1.snd))) == costN l (List.map hdI (List.map encI (chO h l (bsN h l t g_1.fst)).s))) = true then if decide (inH
   (List.map decWn (List.map encWn (afH h l (List.map hdI (List.map encI (bitsM g_1.fst g_1.snd)))).ws)) (List.map encWn (afH h l (List.map hdI (List.map encI (bitsM g_1.fst g_1.snd)))).ws).length < inH (List.map decWn (List.map encWn
   (afH h l (List.map hdI (List.map encI (chO h l (bsN h l t g_1.fst)).s))).ws)) (List.map encWn (afH h l (List.map hdI (List.map encI (chO h l (bsN h l t g_1.fst)).s))).ws).length) = true then true else if (inH (List.map decWn
   (List.map encWn (aft h.ws l (List.map hdI (List.map encI (bitsM g_1.fst g_1.snd)))))) (List.map encWn (aft h.ws l (List.map hdI (List.map encI (bitsM g_1.fst g_1.snd))))).length == inH (List.map decWn (List.map encWn (aft h.ws l
   (List.map hdI (List.map encI (chO h l (bsN h l t g_1.fst)).s))))) (List.map encWn (aft h.ws l (List.map hdI (List.map encI (chO h l (bsN h l t g_1.fst)).s)))).length) = true then lx (List.map hdI (List.map encI (bitsM g_1.fst
   g_1.snd))) (List.map hdI (List.map encI (chO h l (bsN h l t g_1.fst)).s)) else false else false) = false → In64 ((↑g_1.fst : Int) + 1) ∧ ∃ (g' : Nat), g' ≤ pwN l.length ∧ pwN l.length - g' < pwN l.length - g ∧ AS.mk [(1, AV.sl 19
   (List.map encMs l)), (2, AV.i t), (3, AV.elt 3 [(encHm h)] 0 0), (9, AV.sl 1 (List.map encI (chO h l (bsN h l t g_1.fst)).s)), (10, AV.bool (bsN h l t g_1.fst).isSome), (11, AV.i (↑(pwN l.length) : Int)), (13, AV.i ((↑g_1.fst :
   Int) + 1))] [] 1 = AS.mk [(1, AV.sl 19 (List.map encMs l)), (2, AV.i t), (3, AV.elt 3 [(encHm h)] 0 0), (9, AV.sl 1 (List.map encI (chO h l (bsN h l t g')).s)), (10, AV.bool (bsN h l t g').isSome), (11, AV.i (↑(pwN l.length) :
   Int)), (13, AV.i (↑g' : Int))] [] 1))))) ∧ (decide ((↑g : Int) < (↑(pwN l.length) : Int)) = false → ((!(bsN h l t g).isSome) = true → AV.tup [AV.sl 1 [], AV.i 0, AV.i 18] = AV.tup [AV.sl 1 (List.map encI (chO h l (bst h l t)).s),
   AV.i (chO h l (bst h l t)).c, AV.i (if (bst h l t).isSome = true then (0 : Int) else (18 : Int))]) ∧ ((!(bsN h l t g).isSome) = false → PCall Tryz.prog G0 124 [AV.sl 19 (List.map encMs l), AV.sl 1 (List.map encI (chO h l (bsN h l t
   g)).s)] (AV.i (costN l (List.map hdI (List.map encI (chO h l (bsN h l t g)).s)))) ∧ AV.tup [AV.sl 1 (List.map encI (chO h l (bsN h l t g)).s), AV.i (costN l (List.map hdI (List.map encI (chO h l (bsN h l t g)).s))), AV.i 0] =
   AV.tup [AV.sl 1 (List.map encI (chO h l (bst h l t)).s), AV.i (chO h l (bst h l t)).c, AV.i (if (bst h l t).isSome = true then (0 : Int) else (18 : Int))]))) := by
    obtain ⟨y1, y2, y3⟩ := ms_z q1
    have hlm : (List.map encMs l).length = l.length := List.length_map _
    have hpw : ∀ k, k ≤ l.length → pwN k ≤ 256 := fun k hk => Nat.le_trans (Nat.pow_le_pow_right (by decide) (show k ≤ 8 by omega)) (by decide)
    have : (List.map encMs l).length = l.length := by simp only [List.length_map]
    refine ⟨⟨0, by omega, rfl⟩, fun g hg => ⟨fun hd => ?_, fun hd => ?_⟩⟩
    · have hlt : g < l.length := by have h9 := of_decide_eq_true hd; have h8 := hg; (try simp only [List.length_map] at h8 h9); omega
      have hp1 := hpw g (by omega)
      refine ⟨(by unfold In64; omega), (by unfold In64; omega), ⟨g + 1, by omega, by omega, ?_⟩⟩
      · rw [show ((pwN (g + 1) : Nat) : Int) = 2 * ((pwN g : Nat) : Int) by unfold pwN; rw [Nat.pow_succ]; omega]
        rfl
    · have hge : g = l.length := by have h9 := of_decide_eq_false hd; have h8 := hg; (try simp only [List.length_map] at h8 h9); omega
      subst hge
      refine ⟨⟨0, by omega, rfl⟩, fun g hg2 => ⟨fun hd2 => ?_, fun hd2 => ?_⟩⟩
      · have hlt2 : g < pwN l.length := by have h9 := of_decide_eq_true hd2; have h8 := hg2; (try simp only [List.length_map] at h8 h9); omega
        have hbl2 := bits_len g l.length
        have hcb := bs_len l g
        have hcl0 := ch_len h l (bsN h l t g)
        have hp2 := hpw l.length (Nat.le_refl _)
        refine ⟨(g, 0), ⟨by (try dsimp only); omega, by (try dsimp only); omega⟩, rfl, (by dsimp only; rw [Nat.pow_zero, Nat.div_one]; rfl), fun g_1 hok3 hr3 => ?_⟩
        · obtain ⟨i2, j2⟩ := g_1
          dsimp only at hok3 hr3 ⊢
          obtain ⟨hi2, hg3⟩ := hok3
          have hr4 : g = i2 := hr3.symm
          subst hr4
          refine ⟨fun hd3 => ?_, fun hd3 => ?_⟩
          · have hlt3 : j2 < l.length := by have h9 := of_decide_eq_true hd3; have h8 := hg3; (try simp only [List.length_map] at h8 h9); omega
            try rw [show (↑g : Int).toNat = g from Int.toNat_natCast g]
            have hbl := bits_len g j2
            have hbm : (List.map encI (bitsM g j2)).length = (bitsM g j2).length := List.length_map _
            have hdv := Nat.div_le_self g (2 ^ j2)
            have hdv2 := half g j2
            have hdv4 := Int.natCast_nonneg (g / 2 ^ (j2 + 1))
            have hdv5 := Int.natCast_nonneg (g / 2 ^ j2)
            have hdv3 := Nat.div_le_self g (2 ^ (j2 + 1))
            refine ⟨(by decide), fun h1 => ⟨(by omega), (by omega), (by decide), (by unfold In64; omega), (by unfold In64; omega), ⟨(g, j2 + 1), ⟨by (try dsimp only); omega, by (try dsimp only); omega⟩, rfl, (by (try dsimp only); omega), ?_⟩⟩, fun h1 => ⟨(by decide), (by unfold In64; omega), (by unfold In64; omega), ⟨(g, j2 + 1), ⟨by (try dsimp only); omega, by (try dsimp only); omega⟩, rfl, (by (try dsimp only); omega), ?_⟩⟩⟩
            · dsimp only
              rw [half, show bitsM g (j2 + 1) = bitsM g j2 ++ [(j2 : Int)] from if_pos (by rw [← bit_mod]; exact h1), List.map_append, List.length_append]
              rfl
            · dsimp only
              rw [half, show bitsM g (j2 + 1) = bitsM g j2 from if_neg (by rw [← bit_mod, h1]; decide)]
              rfl
          · have hge3 : j2 = l.length := by have h9 := of_decide_eq_false hd3; have h8 := hg3; (try simp only [List.length_map] at h8 h9); omega
            subst hge3
            refine ⟨fun h => h, fun h => h, fun h => h, fun h => h, fun h => h, fun h => by first | exact h | (rw [h]; rfl) | simp_all, ((by rw [hd_encI]; exact c31 l _ (by omega))), impB_iff.2 fun hb => ((by have q : fSet l (bitsM g l.length) = 0 := (by rw [hd_encI] at hb; simpa using hb); rw [hd_encI]; exact c36 h l _ t q1 q (by omega))), fun h1 => ?_, fun h1 => ?_⟩
            · have hq := h1
              rw [hd_encI, ← bsM_e] at hq
              have hsk := skip_e hq
              refine ⟨(by unfold In64; omega), ⟨g + 1, by omega, by omega, ?_⟩⟩
              · first
                  | (rw [hsk]; rfl)
                  | (rw [hst]; rfl)
            · have hq := h1
              rw [hd_encI, ← bsM_e] at hq
              obtain ⟨hfs, hfu⟩ := keep_z hq
              refine ⟨fun h2 => ⟨(by unfold In64; omega), ⟨g + 1, by omega, by omega, ?_⟩⟩, fun h2 => ?_⟩
              · first
                  | (rw [htk, show (bsN h l t g).isSome = true by simpa using hso, ← bsM_e]; rfl)
                  | (rw [take_e hfs (ta_none hfu (by assumption)), ← bsM_e]; rfl)
              · have hso := h2
                refine ⟨((by rw [hd_encI, ← bsM_e]; exact c124 h.ws.length l _ y3 (ix_z (set_z hfs).1).1 (by omega))), ((by rw [hd_encI]; exact c124 h.ws.length l _ y3 (ix_z (set_z (bs_ok (by simpa using hso))).1).1 (by omega))), ((by rw [hd_encI, ← bsM_e]; exact c35 h l _ q1 hfs (by omega))), ((by rw [hd_encI, ← bsM_e]; exact p29 q1 hfs)), ((by rw [hd_encI]; exact c35 h l _ q1 (bs_ok (by simpa using hso)) (by omega))), ((by rw [hd_encI]; exact p29 q1 (bs_ok (by simpa using hso)))), fun h => h, fun h => h, fun h => h, fun h => h, fun h => h, fun h => h, fun h => h, fun h => h, fun h => h, fun h => h, fun h => h, fun h => h, fun h3 => fun h => by first | exact h | (rw [h]; rfl) | simp_all, fun h => h, fun h3 => fun h => by first | exact h | (rw [h]; rfl) | simp_all, fun h => h, fun h3 => fun h => by first | exact h | (rw [h]; rfl) | simp_all, fun h => by first | exact h | (rw [h]; rfl) | simp_all, impB_iff.2 fun hb => ((by rw [hd_encI, hd_encI]; exact c125 _ _ (by omega) (by omega))), fun h3 => ?_, fun h3 => ?_⟩
                · have hr5 := h3
                  simp only [hd_encI, afH_ws, afU_e, ← bsM_e] at hr5
                  rw [(chO_c (by simpa using hso)).1, (chO_c (by simpa using hso)).2] at hr5
                  have htk := take_e hfs ((ta_some hfu hso).trans hr5)
                  refine ⟨(by unfold In64; omega), ⟨g + 1, by omega, by omega, ?_⟩⟩
                  · first
                      | (rw [htk, show (bsN h l t g).isSome = true by simpa using hso, ← bsM_e]; rfl)
                      | (rw [take_e hfs (ta_none hfu (by assumption)), ← bsM_e]; rfl)
                · have hr5 := h3
                  simp only [hd_encI, afH_ws, afU_e, ← bsM_e] at hr5
                  rw [(chO_c (by simpa using hso)).1, (chO_c (by simpa using hso)).2] at hr5
                  have hst := stay_e hfs ((ta_some hfu hso).trans hr5)
                  refine ⟨(by unfold In64; omega), ⟨g + 1, by omega, by omega, ?_⟩⟩
                  · first
                      | (rw [hsk]; rfl)
                      | (rw [hst]; rfl)
      · have hge2 : g = pwN l.length := by have h9 := of_decide_eq_false hd2; have h8 := hg2; (try simp only [List.length_map] at h8 h9); omega
        subst hge2
        refine ⟨fun h1 => ?_, fun h1 => ?_⟩
        · show _ = cW h l (bst h l t)
          rw [bst_e, none_of h1]
          rfl
        · have hso := h1
          refine ⟨((by rw [hd_encI]; exact c124 h.ws.length l _ y3 (ix_z (set_z (bs_ok (by simpa using hso))).1).1 (Nat.le_trans (ch_len h l _) (by omega)))), ?_⟩
          · have hso : (bsN h l t (pwN l.length)).isSome = true := by simpa using h1
            rw [hd_encI, (chO_c hso).1, bst_e, if_pos hso]
  exact c_of Tryz.f45 ({ gsB (fun i => if i.beq 27 then [.nil 6 1] else []) (fzB (mkB (sp45 h l t) 45 [] (la45 h l t))) with bx := fun i => if i.beq 4 then [.frzo 14] else [] }) (by kernel_rfl) (by kernel_rfl) (by kernel_rfl) (by kernel_rfl) key (by kernel_rfl)
end Go.Proofs.YtfoeefaamjknpaaGreatDoor
namespace Go.Proofs.YtfoeefaamjknpaaGreatDoor
open Go Go.Av Go.RowKit
def la47 (l m : List Int) : LA := {
  pre := [.keep [0, 1, 5] [], .bound 1], post := [.keep [0, 1, 5] [], .bound 1]
  Gh := Nat
  st := fun i => ⟨[(0, .sl 1 (l.map encI)), (1, .sl 1 (m.map encI)), (5, .i i)], [], 1⟩
  ok := fun i => i ≤ l.length ∧ ∀ j, j < i → l.getD j default = m.getD j default
  ms := fun i => l.length - i }
theorem c47 (l m : List Int) (hl : l.length ≤ 1000) : PCall Tryz.prog G0 47 [.sl 1 (l.map encI), .sl 1 (m.map encI)] (.bool (l == m)) := by
  have key :
   (((↑(List.map encI l).length : Int) != (↑(List.map encI m).length : Int)) = true → AV.bool false = AV.bool (l == m)) ∧ (((↑(List.map encI l).length : Int) != (↑(List.map encI m).length : Int)) = false → (∃ (g : Nat), (g ≤ l.length
   ∧ ∀ (j : Nat), j < g → l.getD j default = m.getD j default) ∧ AS.mk [(0, AV.sl 1 (List.map encI l)), (1, AV.sl 1 (List.map encI m)), (5, AV.i 0)] [] 1 = AS.mk [(0, AV.sl 1 (List.map encI l)), (1, AV.sl 1 (List.map encI m)), (5,
   AV.i (↑g : Int))] [] 1) ∧ ∀ (g : Nat), (g ≤ l.length ∧ ∀ (j : Nat), j < g → l.getD j default = m.getD j default) → (decide ((↑g : Int) < (↑(List.map encI l).length : Int)) = true → (0 : Int) ≤ (↑g : Int) ∧ (↑g : Int) < (↑(List.map
   encI l).length : Int) ∧ (0 : Int) ≤ (↑g : Int) ∧ (↑g : Int) < (↑(List.map encI m).length : Int) ∧ nth (nthR (List.map encI l) (↑g : Int).toNat) 0 = AV.i (cI (List.map encI l) (↑g : Int).toNat) ∧ nth (nthR (List.map encI m) (↑g :
   Int).toNat) 0 = AV.i (cI (List.map encI m) (↑g : Int).toNat) ∧ ((cI (List.map encI l) (↑g : Int).toNat != cI (List.map encI m) (↑g : Int).toNat) = true → AV.bool false = AV.bool (l == m)) ∧ ((cI (List.map encI l) (↑g : Int).toNat
   != cI (List.map encI m) (↑g : Int).toNat) = false → In64 ((↑g : Int) + 1) ∧ ∃ (g' : Nat), (g' ≤ l.length ∧ ∀ (j : Nat), j < g' → l.getD j default = m.getD j default) ∧ l.length - g' < l.length - g ∧ AS.mk [(0, AV.sl 1 (List.map
   encI l)), (1, AV.sl 1 (List.map encI m)), (5, AV.i ((↑g : Int) + 1))] [] 1 = AS.mk [(0, AV.sl 1 (List.map encI l)), (1, AV.sl 1 (List.map encI m)), (5, AV.i (↑g' : Int))] [] 1)) ∧ (decide ((↑g : Int) < (↑(List.map encI l).length :
   Int)) = false → AV.bool true = AV.bool (l == m))) := by
    have hle : (List.map encI l).length = l.length := List.length_map _
    have hme : (List.map encI m).length = m.length := List.length_map _
    rw [hle, hme]
    refine ⟨fun h => ?_, fun h => ⟨⟨0, ⟨by omega, by intros; omega⟩, rfl⟩, fun g ⟨hg, ha⟩ => ⟨fun hd => ?_, fun hd => ?_⟩⟩⟩
    · have h1 : l ≠ m := fun e => by rw [e] at h; exact absurd h (by simp)
      rw [beq_false_of_ne h1]
    · have h1 : l.length = m.length := by have h2 : (l.length : Int) = (m.length : Int) := (by simpa using h); omega
      have hlt := lt_of_dec hd
      have c1 := cI_map l g
      have c2 := cI_map m g
      refine ⟨by omega, by omega, by omega, by omega, cI_at hlt, cI_at (by omega), fun e => ?_, fun e => ⟨by unfold In64; omega, g + 1, ⟨hlt, fun j hj => ?_⟩, by omega, rfl⟩⟩
      · have e : (cI (List.map encI l) g != cI (List.map encI m) g) = true := e
        rw [c1, c2] at e
        have h2 : l ≠ m := fun q => by rw [q] at e; exact absurd e (by simp)
        rw [beq_false_of_ne h2]
      · have e : (cI (List.map encI l) g != cI (List.map encI m) g) = false := e
        rw [c1, c2] at e
        by_cases q : j = g
        · rw [q]; simpa using e
        · exact ha j (by omega)
    · have h1 : l.length = m.length := by have h2 : (l.length : Int) = (m.length : Int) := (by simpa using h); omega
      have e := ge_of_dec hd hg
      subst e
      have : l = m := List.ext_getElem h1 fun i h2 h3 => by
        have := ha i h2
        rw [List.getD_eq_getElem?_getD, List.getD_eq_getElem?_getD, List.getElem?_eq_getElem h2, List.getElem?_eq_getElem h3] at this
        exact this
      rw [this, beq_self_eq_true]
  exact c_of Tryz.f47 (mkB spC 47 [(6, 3, rdJ), (6, 7, rdJ)] (fun j => if j.beq 0 then some (la47 l m) else none)) (by kernel_rfl) (by kernel_rfl) (by kernel_rfl) (by kernel_rfl) key (by kernel_rfl)
end Go.Proofs.YtfoeefaamjknpaaGreatDoor
namespace Go.Proofs.YtfoeefaamjknpaaGreatDoor
open Go Go.Av Go.RowKit
def wS (h : Hm) (l : List Ms) (t : Int) : List Int := if (chE h l t != 0) = true then [] else (chO h l (bst h l t)).s
def wC (h : Hm) (l : List Ms) (t : Int) : Int := if (chE h l t != 0) = true then 0 else (chO h l (bst h l t)).c
def wE (h : Hm) (l : List Ms) (t : Int) : Int := if (chE h l t != 0) = true then chE h l t else if (bst h l t).isSome = true then 0 else 18
theorem c42V_e (h : Hm) (l : List Ms) (t : Int) : c42V h l t = .tup [.sl 1 ((wS h l t).map encI), .i (wC h l t), .i (wE h l t)] := by
  unfold c42V wS wC wE
  split
  · rfl
  · rfl
theorem wS_len (h : Hm) (l : List Ms) (t : Int) : (wS h l t).length ≤ l.length := by
  unfold wS
  split
  · exact Nat.zero_le _
  · exact ch_len h l _
theorem first_nest (a b c : Int) : sFirst [sFirst [a, b], c] = sFirst [a, b, c] := by
  by_cases h : a = 0
  · by_cases h2 : b = 0
    · simp [sFirst, h, h2]
    · simp [sFirst, h, h2]
  · simp [sFirst, h]
def sp4 (h : Hm) (l : List Ms) (t p : Int) : Nat → List AV → Option AV
  | 16, _ => some (.bool true)
  | 14, _ => some (.bool (shH h))
  | 15, _ => some (.bool (shM l))
  | 18, [.agg c] => some (.agg c)
  | 22, [.sl _ rows] => some (.sl 19 rows)
  | 42, _ => some (.tup [.sl 1 ((wS h l t).map encI), .i (wC h l t), .i (wE h l t)])
  | 43, _ => some (.tup [.i (bdV h l t p), .i (bdE h l t p)])
  | 27, _ => some (.i (fMs h l))
  | 33, _ => some (.i (fEn t))
  | 32, [.sl _ rows] => some (.i (sFirst (rows.map hdI)))
  | 44, _ => some (.i (sWithin p 0 100000))
  | 45, _ => some (.tup [.sl 1 ((chO h l (bst h l t)).s.map encI), .i (chO h l (bst h l t)).c, .i (if (bst h l t).isSome = true then 0 else 18)])
  | 46, _ => some (.i (bdS h l t p h.ws.length))
  | 47, _ => some (.bool (wS h l t == wS h l t))
  | n, y => spW n y
structure K4 (h : Hm) (l : List Ms) : Prop where
  ko : h.nm.length ≤ 40
  kw : h.ws.length ≤ 9
  kl : l.length ≤ 9
  kn : ∀ y, y ∈ l → y.nm.length ≤ 1000
theorem guard4 {h : Hm} {l : List Ms} (q : (if (!shH h) = true then true else !shM l) = false) : K4 h l := by
  cases q1 : shH h with
  | false => rw [q1] at q; cases q
  | true =>
    cases q2 : shM l with
    | false => rw [q1, q2] at q; cases q
    | true =>
      have h1 := sh_hm q1
      have h2 := sh_ms q2
      exact ⟨h1.1, h1.2, h2.1, h2.2⟩
def m4a (h : Hm) (l : List Ms) (t p : Int) : List (Nat × AV) := [(1, .sl 19 (l.map encMs)), (3, .elt 3 [encHm h] 0 0), (5, .elt 2 [[.i t, .i p]] 0 0), (7, .sl 1 ((wS h l t).map encI)), (8, .i (wC h l t)), (9, .i (wE h l t)), (10, .i (bdV h l t p)), (11, .i (bdE h l t p)), (13, .i (bdE h l t p))]
def m4 (h : Hm) (l : List Ms) (t p : Int) : List (Option (List GS × AS × Prop)) :=
  [none, none, none, none, none, none, none, none,
   mdB [.nil 14 1] (K4 h l) (m4a h l t p ++ [(12, .i (chE h l t)), (14, .sl 1 []), (15, .i 0), (16, .i 0)]) [] 1, none,
   mdB [] (K4 h l) (m4a h l t p ++ [(12, .i (wE h l t)), (14, .sl 1 ((wS h l t).map encI)), (15, .i (wC h l t)), (16, .i 0)]) [] 1, none,
   mdB [] (K4 h l) (m4a h l t p ++ [(12, .i (wE h l t)), (14, .sl 1 ((wS h l t).map encI)), (15, .i (wC h l t)), (16, .i (bdV h l t p))]) [] 1, none]
theorem c4 (h : Hm) (l : List Ms) (t p : Int) (hA : PCall Tryz.prog G0 16 [] (.bool true)) (hl : l.length ≤ maxLen) : PCall Tryz.prog G0 4 [.agg (encHm h), .sl 19 (l.map encMs), .agg [.i t, .i p]] (.bool true) := by
  have key :
   ((!!shH h) = true → (!!shH h) = true) ∧ ((!!shH h) = true → (!!shH h) = true) ∧ ((!shH h) = false → (!!shH h) = true) ∧ PCall Tryz.prog G0 14 [AV.agg (encHm h)] (AV.bool (shH h)) ∧ impB (!!shH h) (PCall Tryz.prog G0 15 [AV.sl 19
   (List.map encMs l)] (AV.bool (shM l))) ∧ ((if (!shH h) = true then true else !shM l) = true → PCall Tryz.prog G0 16 [] (AV.bool true) ∧ AV.bool true = AV.bool true) ∧ ((if (!shH h) = true then true else !shM l) = false → (0 : Int)
   ≤ 0 ∧ (0 : Int) < (↑2 : Int) ∧ PCall Tryz.prog G0 18 [AV.agg (encHm h)] (AV.agg (encHm h)) ∧ PCall Tryz.prog G0 22 [AV.sl 19 (List.map encMs l)] (AV.sl 19 (List.map encMs l)) ∧ PCall Tryz.prog G0 42 [AV.agg (encHm h), AV.sl 19
   (List.map encMs l), AV.i t] (AV.tup [AV.sl 1 (List.map encI (wS h l t)), AV.i (wC h l t), AV.i (wE h l t)]) ∧ (0 : Int) ≤ 0 ∧ (0 : Int) < (↑2 : Int) ∧ (0 : Int) ≤ 1 ∧ (1 : Int) < (↑2 : Int) ∧ PCall Tryz.prog G0 18 [AV.agg (encHm
   h)] (AV.agg (encHm h)) ∧ PCall Tryz.prog G0 22 [AV.sl 19 (List.map encMs l)] (AV.sl 19 (List.map encMs l)) ∧ PCall Tryz.prog G0 43 [AV.agg (encHm h), AV.sl 19 (List.map encMs l), AV.i t, AV.i p] (AV.tup [AV.i (bdV h l t p), AV.i
   (bdE h l t p)]) ∧ (0 : Int) ≤ 0 ∧ (0 : Int) < (↑2 : Int) ∧ PCall Tryz.prog G0 27 [AV.agg (encHm h), AV.sl 19 (List.map encMs l)] (AV.i (fMs h l)) ∧ PCall Tryz.prog G0 33 [AV.i t] (AV.i (fEn t)) ∧ PCall Tryz.prog G0 32 [AV.sl 1
   [[AV.i (fMs h l)], [AV.i (fEn t)]]] (AV.i (sFirst [hdI [AV.i (fMs h l)], hdI [AV.i (fEn t)]])) ∧ (0 : Int) ≤ 1 ∧ (1 : Int) < (↑2 : Int) ∧ PCall Tryz.prog G0 44 [AV.i p] (AV.i (sWithin p (0 : Int) (100000 : Int))) ∧ PCall Tryz.prog
   G0 32 [AV.sl 1 [[AV.i (sFirst [hdI [AV.i (fMs h l)], hdI [AV.i (fEn t)]])], [AV.i (sWithin p (0 : Int) (100000 : Int))]]] (AV.i (sFirst [hdI [AV.i (sFirst [hdI [AV.i (fMs h l)], hdI [AV.i (fEn t)]])], hdI [AV.i (sWithin p (0 : Int)
   (100000 : Int))]])) ∧ (AS.mk [(1, AV.sl 19 (List.map encMs l)), (3, AV.elt 3 [(encHm h)] 0 0), (5, AV.elt 2 [[AV.i t, AV.i p]] 0 0), (7, AV.sl 1 (List.map encI (wS h l t))), (8, AV.i (wC h l t)), (9, AV.i (wE h l t)), (10, AV.i
   (bdV h l t p)), (11, AV.i (bdE h l t p)), (13, AV.i (sFirst [hdI [AV.i (sFirst [hdI [AV.i (fMs h l)], hdI [AV.i (fEn t)]])], hdI [AV.i (sWithin p (0 : Int) (100000 : Int))]])), (12, AV.i (sFirst [hdI [AV.i (fMs h l)], hdI [AV.i
   (fEn t)]])), (14, AV.sl 1 []), (15, AV.i 0), (16, AV.i 0)] [] 1 = AS.mk [(1, AV.sl 19 (List.map encMs l)), (3, AV.elt 3 [(encHm h)] 0 0), (5, AV.elt 2 [[AV.i t, AV.i p]] 0 0), (7, AV.sl 1 (List.map encI (wS h l t))), (8, AV.i (wC h
   l t)), (9, AV.i (wE h l t)), (10, AV.i (bdV h l t p)), (11, AV.i (bdE h l t p)), (13, AV.i (bdE h l t p)), (12, AV.i (chE h l t)), (14, AV.sl 1 []), (15, AV.i 0), (16, AV.i 0)] [] 1 ∧ K4 h l) ∧ (K4 h l → (((chE h l t == 0) = true →
   (0 : Int) ≤ 0 ∧ (0 : Int) < (↑2 : Int) ∧ PCall Tryz.prog G0 45 [AV.agg (encHm h), AV.sl 19 (List.map encMs l), AV.i t] (AV.tup [AV.sl 1 (List.map encI (chO h l (bst h l t)).s), AV.i (chO h l (bst h l t)).c, AV.i (if (bst h l
   t).isSome = true then (0 : Int) else (18 : Int))]) ∧ AS.mk [(1, AV.sl 19 (List.map encMs l)), (3, AV.elt 3 [(encHm h)] 0 0), (5, AV.elt 2 [[AV.i t, AV.i p]] 0 0), (7, AV.sl 1 (List.map encI (wS h l t))), (8, AV.i (wC h l t)), (9,
   AV.i (wE h l t)), (10, AV.i (bdV h l t p)), (11, AV.i (bdE h l t p)), (13, AV.i (bdE h l t p)), (12, AV.i (if (bst h l t).isSome = true then (0 : Int) else (18 : Int))), (14, AV.sl 1 (List.map encI (chO h l (bst h l t)).s)), (15,
   AV.i (chO h l (bst h l t)).c), (16, AV.i 0)] [] 1 = AS.mk [(1, AV.sl 19 (List.map encMs l)), (3, AV.elt 3 [(encHm h)] 0 0), (5, AV.elt 2 [[AV.i t, AV.i p]] 0 0), (7, AV.sl 1 (List.map encI (wS h l t))), (8, AV.i (wC h l t)), (9,
   AV.i (wE h l t)), (10, AV.i (bdV h l t p)), (11, AV.i (bdE h l t p)), (13, AV.i (bdE h l t p)), (12, AV.i (wE h l t)), (14, AV.sl 1 (List.map encI (wS h l t))), (15, AV.i (wC h l t)), (16, AV.i 0)] [] 1 ∧ K4 h l) ∧ ((chE h l t ==
   0) = false → AS.mk [(1, AV.sl 19 (List.map encMs l)), (3, AV.elt 3 [(encHm h)] 0 0), (5, AV.elt 2 [[AV.i t, AV.i p]] 0 0), (7, AV.sl 1 (List.map encI (wS h l t))), (8, AV.i (wC h l t)), (9, AV.i (wE h l t)), (10, AV.i (bdV h l t
   p)), (11, AV.i (bdE h l t p)), (13, AV.i (bdE h l t p)), (12, AV.i (chE h l t)), (14, AV.sl 1 []), (15, AV.i 0), (16, AV.i 0)] [] 1 = AS.mk [(1, AV.sl 19 (List.map encMs l)), (3, AV.elt 3 [(encHm h)] 0 0), (5, AV.elt 2 [[AV.i t,
   AV.i p]] 0 0), (7, AV.sl 1 (List.map encI (wS h l t))), (8, AV.i (wC h l t)), (9, AV.i (wE h l t)), (10, AV.i (bdV h l t p)), (11, AV.i (bdE h l t p)), (13, AV.i (bdE h l t p)), (12, AV.i (wE h l t)), (14, AV.sl 1 (List.map encI
   (wS h l t))), (15, AV.i (wC h l t)), (16, AV.i 0)] [] 1 ∧ K4 h l)) ∧ (K4 h l → (((bdE h l t p == 0) = true → (0 : Int) ≤ 0 ∧ (0 : Int) < (↑2 : Int) ∧ (0 : Int) ≤ 1 ∧ (1 : Int) < (↑2 : Int) ∧ PCall Tryz.prog G0 46 [AV.agg (encHm h),
   AV.sl 19 (List.map encMs l), AV.i t, AV.i p] (AV.i (bdS h l t p h.ws.length)) ∧ AS.mk [(1, AV.sl 19 (List.map encMs l)), (3, AV.elt 3 [(encHm h)] 0 0), (5, AV.elt 2 [[AV.i t, AV.i p]] 0 0), (7, AV.sl 1 (List.map encI (wS h l t))),
   (8, AV.i (wC h l t)), (9, AV.i (wE h l t)), (10, AV.i (bdV h l t p)), (11, AV.i (bdE h l t p)), (13, AV.i (bdE h l t p)), (12, AV.i (wE h l t)), (14, AV.sl 1 (List.map encI (wS h l t))), (15, AV.i (wC h l t)), (16, AV.i (bdS h l t
   p h.ws.length))] [] 1 = AS.mk [(1, AV.sl 19 (List.map encMs l)), (3, AV.elt 3 [(encHm h)] 0 0), (5, AV.elt 2 [[AV.i t, AV.i p]] 0 0), (7, AV.sl 1 (List.map encI (wS h l t))), (8, AV.i (wC h l t)), (9, AV.i (wE h l t)), (10, AV.i
   (bdV h l t p)), (11, AV.i (bdE h l t p)), (13, AV.i (bdE h l t p)), (12, AV.i (wE h l t)), (14, AV.sl 1 (List.map encI (wS h l t))), (15, AV.i (wC h l t)), (16, AV.i (bdV h l t p))] [] 1 ∧ K4 h l) ∧ ((bdE h l t p == 0) = false →
   AS.mk [(1, AV.sl 19 (List.map encMs l)), (3, AV.elt 3 [(encHm h)] 0 0), (5, AV.elt 2 [[AV.i t, AV.i p]] 0 0), (7, AV.sl 1 (List.map encI (wS h l t))), (8, AV.i (wC h l t)), (9, AV.i (wE h l t)), (10, AV.i (bdV h l t p)), (11, AV.i
   (bdE h l t p)), (13, AV.i (bdE h l t p)), (12, AV.i (wE h l t)), (14, AV.sl 1 (List.map encI (wS h l t))), (15, AV.i (wC h l t)), (16, AV.i 0)] [] 1 = AS.mk [(1, AV.sl 19 (List.map encMs l)), (3, AV.elt 3 [(encHm h)] 0 0), (5,
   AV.elt 2 [[AV.i t, AV.i p]] 0 0), (7, AV.sl 1 (List.map encI (wS h l t))), (8, AV.i (wC h l t)), (9, AV.i (wE h l t)), (10, AV.i (bdV h l t p)), (11, AV.i (bdE h l t p)), (13, AV.i (bdE h l t p)), (12, AV.i (wE h l t)), (14, AV.sl
   1 (List.map encI (wS h l t))), (15, AV.i (wC h l t)), (16, AV.i (bdV h l t p))] [] 1 ∧ K4 h l)) ∧ (K4 h l → ((wS h l t == wS h l t) = true → (wS h l t == wS h l t) = true) ∧ ((wS h l t == wS h l t) = true → (wS h l t == wS h l t) =
   true) ∧ ((wS h l t == wS h l t) = true → (wS h l t == wS h l t) = true) ∧ ((if (wS h l t == wS h l t) = true then wC h l t == wC h l t else false) = true → (if (wS h l t == wS h l t) = true then wC h l t == wC h l t else false) =
   true) ∧ ((if (wS h l t == wS h l t) = true then wC h l t == wC h l t else false) = true → (if (wS h l t == wS h l t) = true then wC h l t == wC h l t else false) = true) ∧ ((if (wS h l t == wS h l t) = true then wC h l t == wC h l
   t else false) = true → (if (wS h l t == wS h l t) = true then wC h l t == wC h l t else false) = true) ∧ ((if (if (wS h l t == wS h l t) = true then wC h l t == wC h l t else false) = true then wE h l t == wE h l t else false) =
   true → (if (if (wS h l t == wS h l t) = true then wC h l t == wC h l t else false) = true then wE h l t == wE h l t else false) = true) ∧ ((if (if (wS h l t == wS h l t) = true then wC h l t == wC h l t else false) = true then wE h
   l t == wE h l t else false) = true → (if (if (wS h l t == wS h l t) = true then wC h l t == wC h l t else false) = true then wE h l t == wE h l t else false) = true) ∧ ((if (if (wS h l t == wS h l t) = true then wC h l t == wC h l
   t else false) = true then wE h l t == wE h l t else false) = true → (if (if (wS h l t == wS h l t) = true then wC h l t == wC h l t else false) = true then wE h l t == wE h l t else false) = true) ∧ ((if (if (if (wS h l t == wS h l
   t) = true then wC h l t == wC h l t else false) = true then wE h l t == wE h l t else false) = true then bdV h l t p == bdV h l t p else false) = true → (if (if (if (wS h l t == wS h l t) = true then wC h l t == wC h l t else
   false) = true then wE h l t == wE h l t else false) = true then bdV h l t p == bdV h l t p else false) = true) ∧ ((if (if (if (wS h l t == wS h l t) = true then wC h l t == wC h l t else false) = true then wE h l t == wE h l t else
   false) = true then bdV h l t p == bdV h l t p else false) = true → (if (if (if (wS h l t == wS h l t) = true then wC h l t == wC h l t else false) = true then wE h l t == wE h l t else false) = true then bdV h l t p == bdV h l t p
   else false) = true) ∧ ((if (if (if (wS h l t == wS h l t) = true then wC h l t == wC h l t else false) = true then wE h l t == wE h l t else false) = true then bdV h l t p == bdV h l t p else false) = true → (if (if (if (wS h l t
   == wS h l t) = true then wC h l t == wC h l t else false) = true then wE h l t == wE h l t else false) = true then bdV h l t p == bdV h l t p else false) = true) ∧ ((if (if (if (if (wS h l t == wS h l t) = true then wC h l t == wC
   h l t else false) = true then wE h l t == wE h l t else false) = true then bdV h l t p == bdV h l t p else false) = true then bdE h l t p == bdE h l t p else false) = true → (if (if (if (if (wS h l t == wS h l t) = true then wC h l
   t == wC h l t else false) = true then wE h l t == wE h l t else false) = true then bdV h l t p == bdV h l t p else false) = true then bdE h l t p == bdE h l t p else false) = true) ∧ PCall Tryz.prog G0 47 [AV.sl 1 (List.map encI
   (wS h l t)), AV.sl 1 (List.map encI (wS h l t))] (AV.bool (wS h l t == wS h l t)) ∧ impB (if (if (if (if (wS h l t == wS h l t) = true then wC h l t == wC h l t else false) = true then wE h l t == wE h l t else false) = true then
   bdV h l t p == bdV h l t p else false) = true then bdE h l t p == bdE h l t p else false) (PCall Tryz.prog G0 16 [] (AV.bool true)) ∧ AV.bool (if (if (if (if (if (wS h l t == wS h l t) = true then wC h l t == wC h l t else false) =
   true then wE h l t == wE h l t else false) = true then bdV h l t p == bdV h l t p else false) = true then bdE h l t p == bdE h l t p else false) = true then true else false) = AV.bool true)))) := by
    have hlm : (List.map encMs l).length = l.length := List.length_map _
    have hwl := wS_len h l t
    refine ⟨fun h => h, fun h => h, fun h => by first | exact h | (rw [h]; rfl) | simp_all, (c14 h), impB_iff.2 fun hb => (c15 l hl), fun h1 => ⟨hA, rfl⟩, fun h1 => ?_⟩
    · have hK := guard4 h1
      obtain ⟨k1, k2, k3, k4⟩ := hK
      refine ⟨(by omega), (by omega), (c18 h (by omega)), ((c22 l (by omega)).un), ((by have e := c42 h l t (by omega) (by omega) (by omega) k4; rw [c42V_e] at e; exact e)), (by omega), (by omega), (by omega), (by omega), (c18 h (by omega)), ((c22 l (by omega)).un), (c43 h l t p (by omega) (by omega) (by omega) k4), (by omega), (by omega), (c27 h l (by omega) (by omega) (by omega) k4), (c33 _), (c32w [_, _] (by simp)), (by omega), (by omega), (c44 _), (c32w [_, _] (by simp)), ⟨?_, ⟨k1, k2, k3, k4⟩⟩, fun h2 => ?_⟩
      · rw [show bdE h l t p = sFirst [sFirst [fMs h l, fEn t], sWithin p 0 100000] from (first_nest (fMs h l) (fEn t) (sWithin p 0 100000)).symm]
        rfl
      · have hK := h2
        obtain ⟨k1, k2, k3, k4⟩ := h2
        refine ⟨⟨fun h3 => ?_, fun h3 => ?_⟩, fun h3 => ?_⟩
        · have z0 : chE h l t = 0 := by simpa using h3
          have z1 := z0
          unfold chE at z1
          rw [first_zero, first_zero] at z1
          refine ⟨(by omega), (by omega), (c45 h l t z1.1), ?_, ⟨k1, k2, k3, k4⟩⟩
          · rw [show wE h l t = (if (bst h l t).isSome = true then 0 else 18) from if_neg (by rw [z0]; decide), show wS h l t = (chO h l (bst h l t)).s from if_neg (by rw [z0]; decide), show wC h l t = (chO h l (bst h l t)).c from if_neg (by rw [z0]; decide)]
        · have z0 : (chE h l t != 0) = true := by simpa using h3
          refine ⟨?_, ⟨k1, k2, k3, k4⟩⟩
          · rw [show wE h l t = chE h l t from if_pos z0, show wS h l t = [] from if_pos z0, show wC h l t = 0 from if_pos z0]
            rfl
        · have hK := h3
          obtain ⟨k1, k2, k3, k4⟩ := h3
          refine ⟨⟨fun h4 => ?_, fun h4 => ?_⟩, fun h4 => ?_⟩
          · have z0 : bdE h l t p = 0 := by simpa using h4
            have z1 := z0
            unfold bdE at z1
            rw [first_zero, first_zero, first_zero] at z1
            refine ⟨(by omega), (by omega), (by omega), (by omega), (c46 h l t p z1.1 (within_zero.1 z1.2.1) (within_zero.1 z1.2.2.1)), ?_, ⟨k1, k2, k3, k4⟩⟩
            · rw [show bdV h l t p = bdS h l t p h.ws.length from if_neg (by rw [z0]; decide)]
          · have z0 : (bdE h l t p != 0) = true := by simpa using h4
            refine ⟨?_, ⟨k1, k2, k3, k4⟩⟩
            · rw [show bdV h l t p = 0 from if_pos z0]
          · have hK := h4
            obtain ⟨k1, k2, k3, k4⟩ := h4
            refine ⟨fun h => h, fun h => h, fun h => h, fun h => h, fun h => h, fun h => h, fun h => h, fun h => h, fun h => h, fun h => h, fun h => h, fun h => h, fun h => h, ((by have e := c47 (wS h l t) (wS h l t) (by omega); exact e)), impB_iff.2 fun hb => hA, ?_⟩
            · simp
  exact c_ofH Tryz.f4 (fzB (mkB (sp4 h l t p) 4 [] noLa)) (m4 h l t p) (by kernel_rfl) (by kernel_rfl) (by kernel_rfl) (by kernel_rfl) key (by kernel_rfl)
end Go.Proofs.YtfoeefaamjknpaaGreatDoor
namespace Go.Proofs.YtfoeefaamjknpaaGreatDoor
open Go Go.Av Go.RowKit Go.ChangeShapes Go.WideShapes
theorem jp0_4 : (Rows.homeWorksRow.inPlace == Tryz.prog.inPlace 4) = true := by kernel_rfl
theorem jp1_4 : (Rows.homeWorksRow.unfollowed == Tryz.prog.unfollowed 4) = true := by kernel_rfl
theorem jp2_4 : (Rows.homeWorksRow.recurses == Tryz.prog.recurses 4) = true := by kernel_rfl
theorem jp3_4 : (Rows.homeWorksRow.named == Tryz.prog.varsNamed 4) = true := by kernel_rfl
theorem jfacts_4 : joinedFacts Tryz.prog 4 Tryz.f4 Rows.homeWorksSpec Rows.homeWorksRow = true := by
  unfold joinedFacts
  rw [jp0_4, jp1_4, jp2_4, jp3_4]
  kernel_rfl
end Go.Proofs.YtfoeefaamjknpaaGreatDoor
