/-
  Parsing a home, the reference's: a contract. Measures and sets of them, the source's: what is wrong, and a home after a set. A home after a set of measures: both sides. HomeStrings returns true. Plain laws. Plain laws. No condition but the theorems' own.
-/
import Derived.Test.YtfoeefaamjknpaaGreatDoorPF
import Derived.Test.YtfoeefaamjknpaaGreatDoorAvD
import Derived.Test.YtfoeefaamjknpaaGreatDoorPD
import Derived.Test.YtfoeefaamjknpaaGreatDoorPC
import Derived.Test.YtfoeefaamjknpaaGreatDoorPB
namespace Go.Proofs.YtfoeefaamjknpaaGreatDoor
open Go Go.Av Go.RowKit
end Go.Proofs.YtfoeefaamjknpaaGreatDoor
namespace Go.Proofs.YtfoeefaamjknpaaGreatDoor
open Go Go.Av Go.RowKit
def encPm (m : Ms) : List AV := [.i m.p0, .i m.p1, .i m.p2, .i m.p3, .i m.p4, .i m.p5, .i m.p6, .i m.p7, .i m.p8, .i m.p9, .i m.p10, .i m.p11, .i m.p12, .i m.p13, .i m.p14, .i m.p15]
def fPaC (c : List AV) : Int := fPa (fun b => ivA c (2 * b)) (fun b => ivA c (2 * b + 1))
theorem fPaC_m (m : Ms) : fPaC (encPm m) = fPa m.lo m.hi := rfl
def spM : Nat -> List AV -> Option AV
 | 121, [.agg c] => some (.i (fPaC c))
 | 112, [.agg c] => some (.i (fPaC c))
 | n, x => spW n x
def sp39 (h : Hm) : Nat -> List AV -> Option AV
 | 38, _ => some (.i (fHm h))
 | 26, _ => some (.i (fHm h))
 | n, x => spM n x
def la39 (h : Hm) (l : List Ms) : LA := {
 pre := [.ren 14 1, .keep [2, 6, 22, 23, 24] [1], .bound 2], post := [.keep [2, 6, 22, 23, 24] [1], .bound 2]
 Gh := Nat
 st := fun i => ⟨[(2, .elt 3 [encHm h] 0 0), (6, .ref 1), (22, .sl 19 (l.map encMs)), (23, .i (l.map encMs).length), (24, .i i)], [(1, .map (knS ((l.take i).map Ms.nm)))], 2⟩
 ok := fun i => i <= l.length ∧ ∀ j, j < i -> fM1 h.ws.length l j = 0
 ms := fun i => l.length - i }
theorem fM1_h {n : Nat} {l : List Ms} {i : Nat} (h : fM1 n l i = 0) : hasK (knS ((l.take i).map Ms.nm)) (.str (l.getD i default).nm) = false := by
 unfold fM1 at h
 rw [first_zero, first_zero] at h
 exact when_z (by decide) h.2.1
theorem fMh_m (h : Hm) (l : List Ms) : fMh h l = sFirst [fHm h, sWhen (decide (((List.map encMs l).length : Int) > 8)) 5] := by
 unfold fMh
 rw [List.length_map]
theorem fM1_m (h : Hm) (l : List Ms) (i:Nat) : fM1 h.ws.length l i = sFirst [sWhen (!sName (l.getD i default).nm) 8, sWhen (hasK (knS ((l.take i).map Ms.nm)) (.str (l.getD i default).nm)) 9, sWhen (if decide ((l.getD i default).w < 0) = true then true else decide ((l.getD i default).w >= ((List.map encWn h.ws).length : Int))) 10, sWithin (l.getD i default).c 0 1000000, fPaC (encPm (l.getD i default))] := by
 unfold fM1
 rw [List.length_map, fPaC_m]
theorem c39 (h : Hm) (l : List Ms) (hm : h.nm.length <= 1000000) (hw : h.ws.length <= 1000) (hl : l.length <= 1000) (hn : ∀ x, x ∈ l -> x.nm.length <= 1000) : PCall Tryz.prog G0 39 [.agg (encHm h), .sl 19 (l.map encMs)] (.i (fMs h l)) := by
 have key :
  PCall Tryz.prog G0 38 [AV.agg (encHm h)] (AV.i (fHm h)) ∧ PCall Tryz.prog G0 116 [AV.bool (decide ((↑(List.map encMs l).length : Int) > 8)), AV.i 5] (AV.i (sWhen (decide ((↑(List.map encMs l).length : Int) > 8)) (5:Int))) ∧ PCall
  Tryz.prog G0 104 [AV.sl 1 [[AV.i (fHm h)], [AV.i (sWhen (decide ((↑(List.map encMs l).length : Int) > 8)) (5:Int))]]] (AV.i (sFirst [hdI [AV.i (fHm h)], hdI [AV.i (sWhen (decide ((↑(List.map encMs l).length : Int) > 8)) (5 :
  Int))]])) ∧ ((sFirst [hdI [AV.i (fHm h)], hdI [AV.i (sWhen (decide ((↑(List.map encMs l).length : Int) > 8)) (5:Int))]] != 0) = true -> AV.i (sFirst [hdI [AV.i (fHm h)], hdI [AV.i (sWhen (decide ((↑(List.map encMs l).length : Int)
  > 8)) (5:Int))]]) = AV.i (fMs h l)) ∧ ((sFirst [hdI [AV.i (fHm h)], hdI [AV.i (sWhen (decide ((↑(List.map encMs l).length : Int) > 8)) (5:Int))]] != 0) = false -> (∃ (g:Nat), (g <= l.length ∧ ∀ (j:Nat), j < g -> fM1
  h.ws.length l j = (0:Int)) ∧ AS.mk [(2, AV.elt 3 [(encHm h)] 0 0), (6, AV.ref 1), (22, AV.sl 19 (List.map encMs l)), (23, AV.i (↑(List.map encMs l).length : Int)), (24, AV.i 0)] [(1, ABlk.map [])] 2 = AS.mk [(2, AV.elt 3 [(encHm
  h)] 0 0), (6, AV.ref 1), (22, AV.sl 19 (List.map encMs l)), (23, AV.i (↑(List.map encMs l).length : Int)), (24, AV.i (g:Int))] [(1, ABlk.map (knS (List.map Ms.nm (List.take g l))))] 2) ∧ ∀ (g:Nat), (g <= l.length ∧ ∀ (j:Nat),
  j < g -> fM1 h.ws.length l j = (0:Int)) -> (decide ((g:Int) < (↑(List.map encMs l).length : Int)) = true -> (0:Int) <= (g:Int) ∧ (g:Int) < (↑(List.map encMs l).length : Int) ∧ AV.agg (nthR (List.map encMs l) (↑g :
  Int).toNat) = AV.agg (encMs (l.getD (g:Int).toNat default)) ∧ (mlook (AV.str (l.getD (g:Int).toNat default).nm) (knS (List.map Ms.nm (List.take g l)))).isSome = true ∧ ((!decide ((l.getD (g:Int).toNat default).w < 0)) =
  true -> (!decide ((l.getD (g:Int).toNat default).w < 0)) = true) ∧ ((!decide ((l.getD (g:Int).toNat default).w < 0)) = true -> (!decide ((l.getD (g:Int).toNat default).w < 0)) = true) ∧ ((!decide ((l.getD (g:Int).toNat
  default).w < 0)) = true -> (!decide ((l.getD (g:Int).toNat default).w < 0)) = true) ∧ ((!decide ((l.getD (g:Int).toNat default).w < 0)) = true -> (!decide ((l.getD (g:Int).toNat default).w < 0)) = true) ∧ ((!decide ((l.getD
  (g:Int).toNat default).w < 0)) = true -> (!decide ((l.getD (g:Int).toNat default).w < 0)) = true) ∧ (decide ((l.getD (g:Int).toNat default).w < 0) = false -> (!decide ((l.getD (g:Int).toNat default).w < 0)) = true) ∧
  PCall Tryz.prog G0 117 [AV.str (l.getD (g:Int).toNat default).nm] (AV.bool (sName (l.getD (g:Int).toNat default).nm)) ∧ PCall Tryz.prog G0 116 [AV.bool !sName (l.getD (g:Int).toNat default).nm, AV.i 8] (AV.i (sWhen (!sName
  (l.getD (g:Int).toNat default).nm) (8:Int))) ∧ lookV false (AV.bool false) (mlook (AV.str (l.getD (g:Int).toNat default).nm) (knS (List.map Ms.nm (List.take g l)))) = AV.bool (hasK (knS (List.map Ms.nm (List.take g l)))
  (AV.str (l.getD (g:Int).toNat default).nm)) ∧ PCall Tryz.prog G0 116 [AV.bool (hasK (knS (List.map Ms.nm (List.take g l))) (AV.str (l.getD (g:Int).toNat default).nm)), AV.i 9] (AV.i (sWhen (hasK (knS (List.map Ms.nm
  (List.take g l))) (AV.str (l.getD (g:Int).toNat default).nm)) (9:Int))) ∧ PCall Tryz.prog G0 116 [AV.bool (if decide ((l.getD (g:Int).toNat default).w < 0) = true then true else decide ((l.getD (g:Int).toNat default).w ≥
  (↑(List.map encWn h.ws).length : Int))), AV.i 10] (AV.i (sWhen (if decide ((l.getD (g:Int).toNat default).w < 0) = true then true else decide ((l.getD (g:Int).toNat default).w >= (↑(List.map encWn h.ws).length : Int))) (10 :
  Int))) ∧ PCall Tryz.prog G0 118 [AV.i (l.getD (g:Int).toNat default).c, AV.i 0, AV.i 1000000] (AV.i (sWithin (l.getD (g:Int).toNat default).c (0:Int) (1000000:Int))) ∧ PCall Tryz.prog G0 121 [AV.agg (encPm (l.getD (↑g :
  Int).toNat default))] (AV.i (fPaC (encPm (l.getD (g:Int).toNat default)))) ∧ PCall Tryz.prog G0 104 [AV.sl 1 [[AV.i (sWhen (!sName (l.getD (g:Int).toNat default).nm) (8:Int))], [AV.i (sWhen (hasK (knS (List.map Ms.nm
  (List.take g l))) (AV.str (l.getD (g:Int).toNat default).nm)) (9:Int))], [AV.i (sWhen (if decide ((l.getD (g:Int).toNat default).w < 0) = true then true else decide ((l.getD (g:Int).toNat default).w >= (↑(List.map encWn
  h.ws).length : Int))) (10:Int))], [AV.i (sWithin (l.getD (g:Int).toNat default).c (0:Int) (1000000:Int))], [AV.i (fPaC (encPm (l.getD (g:Int).toNat default)))]]] (AV.i (sFirst [hdI [AV.i (sWhen (!sName (l.getD (↑g :
  Int).toNat default).nm) (8:Int))], hdI [AV.i (sWhen (hasK (knS (List.map Ms.nm (List.take g l))) (AV.str (l.getD (g:Int).toNat default).nm)) (9:Int))], hdI [AV.i (sWhen (if decide ((l.getD (g:Int).toNat default).w < 0) =
  true then true else decide ((l.getD (g:Int).toNat default).w >= (↑(List.map encWn h.ws).length : Int))) (10:Int))], hdI [AV.i (sWithin (l.getD (g:Int).toNat default).c (0:Int) (1000000:Int))], hdI [AV.i (fPaC (encPm
  (l.getD (g:Int).toNat default)))]])) ∧ ((sFirst [hdI [AV.i (sWhen (!sName (l.getD (g:Int).toNat default).nm) (8:Int))], hdI [AV.i (sWhen (hasK (knS (List.map Ms.nm (List.take g l))) (AV.str (l.getD (g:Int).toNat
  default).nm)) (9:Int))], hdI [AV.i (sWhen (if decide ((l.getD (g:Int).toNat default).w < 0) = true then true else decide ((l.getD (g:Int).toNat default).w >= (↑(List.map encWn h.ws).length : Int))) (10:Int))], hdI [AV.i
  (sWithin (l.getD (g:Int).toNat default).c (0:Int) (1000000:Int))], hdI [AV.i (fPaC (encPm (l.getD (g:Int).toNat default)))]] != 0) = true -> AV.i (sFirst [hdI [AV.i (sWhen (!sName (l.getD (g:Int).toNat default).nm) (8 :
  Int))], hdI [AV.i (sWhen (hasK (knS (List.map Ms.nm (List.take g l))) (AV.str (l.getD (g:Int).toNat default).nm)) (9:Int))], hdI [AV.i (sWhen (if decide ((l.getD (g:Int).toNat default).w < 0) = true then true else decide
  ((l.getD (g:Int).toNat default).w >= (↑(List.map encWn h.ws).length : Int))) (10:Int))], hdI [AV.i (sWithin (l.getD (g:Int).toNat default).c (0:Int) (1000000:Int))], hdI [AV.i (fPaC (encPm (l.getD (g:Int).toNat
  default)))]]) = AV.i (fMs h l)) ∧ ((sFirst [hdI [AV.i (sWhen (!sName (l.getD (g:Int).toNat default).nm) (8:Int))], hdI [AV.i (sWhen (hasK (knS (List.map Ms.nm (List.take g l))) (AV.str (l.getD (g:Int).toNat default).nm)) (9
  : Int))], hdI [AV.i (sWhen (if decide ((l.getD (g:Int).toNat default).w < 0) = true then true else decide ((l.getD (g:Int).toNat default).w >= (↑(List.map encWn h.ws).length : Int))) (10:Int))], hdI [AV.i (sWithin (l.getD
  (g:Int).toNat default).c (0:Int) (1000000:Int))], hdI [AV.i (fPaC (encPm (l.getD (g:Int).toNat default)))]] != 0) = false -> (mput (AV.str (l.getD (g:Int).toNat default).nm) (AV.bool true) (knS (List.map Ms.nm
  (List.take g l)))).isSome = true ∧ In64 ((g:Int) + 1) ∧ ∃ (g' : Nat), (g' <= l.length ∧ ∀ (j:Nat), j < g' -> fM1 h.ws.length l j = (0:Int)) ∧ l.length - g' < l.length - g ∧ AS.mk [(2, AV.elt 3 [(encHm h)] 0 0), (6, AV.ref 1),
  (22, AV.sl 19 (List.map encMs l)), (23, AV.i (↑(List.map encMs l).length : Int)), (24, AV.i ((g:Int) + 1))] [(1, ABlk.map ((mput (AV.str (l.getD (g:Int).toNat default).nm) (AV.bool true) (knS (List.map Ms.nm (List.take g
  l)))).getD []))] 2 = AS.mk [(2, AV.elt 3 [(encHm h)] 0 0), (6, AV.ref 1), (22, AV.sl 19 (List.map encMs l)), (23, AV.i (↑(List.map encMs l).length : Int)), (24, AV.i (↑g' : Int))] [(1, ABlk.map (knS (List.map Ms.nm (List.take g'
  l))))] 2)) ∧ (decide ((g:Int) < (↑(List.map encMs l).length : Int)) = false -> AV.i 0 = AV.i (fMs h l))) := by
   have hlm : (List.map encMs l).length = l.length := List.length_map _
   have : (List.map encMs l).length = l.length := by simp only [List.length_map]
   have : (List.map encWn h.ws).length = h.ws.length := by simp only [List.length_map]
   refine ⟨(c38 h hm hw), (c116 _ _), (c104 [_, _] (by simp)), fun h1 => ?_, fun h1 => ?_⟩
   · have e : fMs h l = fMh h l := ls_first (by rw [fMh_m]; exact h1)
     rw [e, fMh_m]
     rfl
   · have hz : (fMh h l != 0) = false := by rw [fMh_m]; exact h1
     refine ⟨⟨0, ⟨by omega, by intros; omega⟩, rfl⟩, fun g ⟨hg, ha⟩ => ⟨fun hd => ?_, fun hd => ?_⟩⟩
     · have hlt : g < l.length := by have h9 := of_decide_eq_true hd; have h8 := hg; (try simp only [List.length_map] at h8 h9); omega
       have hfe := fM1_m h l g
       try rw [show (g:Int).toNat = g from Int.toNat_natCast g]
       refine ⟨(by omega), (by omega), congrArg AV.agg (row_at encMs hlt), (look_some (fun s => s) _ _), fun h => h, fun h => h, fun h => h, fun h => h, fun h => h, fun h => by first | exact h | (rw [h]; rfl) | simp_all, (c117 _ (by have := hn _ (getD_mem hlt); omega)), (c116 _ _), (look_key (fun s => s) _ _), (c116 _ _), (c116 _ _), (c118 _ _ _), ((by rw [fPaC_m]; exact c121 (l.getD g default).lo (l.getD g default).hi)), (c104 [_, _, _, _, _] (by simp)), fun h2 => ?_, fun h2 => ?_⟩
       · have h3 : (fM1 h.ws.length l g != 0) = true := by rw [hfe]; exact h2
         have e := ls_hit (fin := 0) (f := fM1 h.ws.length l) hz (decide_eq_true (show (g:Int) < l.length by omega)) ha h3
         rw [show fMs h l = fM1 h.ws.length l g from e, hfe]
         rfl
       · have hgz : fM1 h.ws.length l g = 0 := hfe.trans (bne_f h2)
         have hgh := fM1_h hgz
         refine ⟨?_, (by unfold In64; omega), ⟨g + 1, ⟨by omega, all_ext ha hgz⟩, by omega, ?_⟩⟩
         · rw [put_nm hgh]
           rfl
         · rw [put_nm hgh, take_nm Ms.nm hlt]
           rfl
     · have hge : g = l.length := by have h9 := of_decide_eq_false hd; have h8 := hg; (try simp only [List.length_map] at h8 h9); omega
       subst hge
       exact congrArg AV.i (ls_end (f := fM1 h.ws.length l) hz (decide_eq_false (Int.lt_irrefl _)) (Nat.le_refl _) ha).symm
 exact c_of Tryz.f39 (fzB (modA 8 8 (fun a => { a with rdb := rdK }) (mkB (sp39 h) 39 [(7, 1, rdL 19 encMs l 19 true)] (la0 (la39 h l))))) (by kernel_rfl) (by kernel_rfl) (by kernel_rfl) (by kernel_rfl) key (by kernel_rfl)
def keyB (n:Int) : AV × AV := (.i n, .bool true)
def hasKI (es : List (AV × AV)) (k:Int) : Bool := es.any fun p => match p.1 with
 | .int _ x => x == k
 | _ => false
def rdKI : BL -> List AV -> Option AV := fun bs ins => match ins with
 | [.ref id, .int _ k] => match blkOf bs id with
  | .map es => some (.bool (hasKI es k))
  | _ => none
 | _ => none
theorem hasKI_e (m : List Int) (k:Int) : hasKI (m.map keyB) k = m.any fun x => x == k := by
 unfold hasKI
 rw [List.any_map]
 rfl
theorem look_B (k:Int) : ∀ m : List Int, lookV false (.bool false) (mlook (.i k) (m.map keyB)) = .bool (hasKI (m.map keyB) k) ∧ (mlook (.i k) (m.map keyB)).isSome = true
 | [] => ⟨rfl, rfl⟩
 | x :: m => by
  obtain ⟨h1, h2⟩ := look_B k m
  rw [hasKI_e] at h1 ⊢
  simp only [List.map_cons, keyB, mlook, eqCell, if_true, List.any_cons] at h1 h2 ⊢
  by_cases h : k = x
  · subst h; simp [lookV]
  · rw [beq_false_of_ne h, show (x == k) = false from beq_false_of_ne fun e => h e.symm, Bool.false_or]
    exact ⟨h1, h2⟩
theorem put_B (k:Int) : ∀ m : List Int, (m.any fun x => x == k) = false -> mput (.i k) (.bool true) (m.map keyB) = some ((m ++ [k]).map keyB)
 | [], _ => rfl
 | x :: m, h => by
  rw [List.any_cons, Bool.or_eq_false_iff] at h
  have ih := put_B k m h.2
  have hx : (k == x) = false := by
   have := h.1
   rw [beq_eq_false_iff_ne] at this ⊢
   exact fun e => this e.symm
  simp only [List.map_cons, keyB, mput, eqCell, if_true, List.cons_append] at ih ⊢
  rw [hx]
  simp only [ih]
def wK (l : List Ms) (g : List Int) (i:Nat) : List Int := (g.take i).map fun k => (msI l k).w
theorem wK_cf (l : List Ms) (g : List Int) (i:Nat) : hasKI ((wK l g i).map keyB) (msI l (g.getD i default)).w = cfI l g i := by
 rw [hasKI_e]
 unfold wK cfI
 rw [List.any_map]
 rfl
theorem wK_step {l : List Ms} {g : List Int} {i : Nat} (h : i < g.length) : wK l g (i + 1) = wK l g i ++ [(msI l (g.getD i default)).w] := by
 unfold wK
 rw [List.take_add_one, List.map_append]
 simp [List.getD_eq_getElem?_getD, h]
def sp169 (l : List Ms) (g : List Int) : Nat -> List AV -> Option AV
 | 150, _ => some (.i (fIx g l.length))
 | 114, _ => some (.i (fIx g l.length))
 | n, x => spW n x
def la169 (l : List Ms) (g : List Int) : LA := {
 pre := [.ren 9 1, .keep [0, 6, 17, 18, 19] [1], .bound 2], post := [.keep [0, 6, 17, 18, 19] [1], .bound 2]
 Gh := Nat
 st := fun i => ⟨[(0, .sl 19 (l.map encMs)), (6, .ref 1), (17, .sl 1 (g.map encI)), (18, .i (g.map encI).length), (19, .i i)], [(1, .map ((wK l g i).map keyB))], 2⟩
 ok := fun i => i <= g.length ∧ ∀ j, j < i -> cfI l g j = false
 ms := fun i => g.length - i }
theorem c169 (l : List Ms) (g : List Int) (hg0 : g.length <= 1000) : PCall Tryz.prog G0 169 [.sl 19 (l.map encMs), .sl 1 (g.map encI)] (.i (fSet l g)) := by
 have key :
  PCall Tryz.prog G0 150 [AV.sl 1 (List.map encI g), AV.i (↑(List.map encMs l).length : Int)] (AV.i (fIx g (↑l.length : Int))) ∧ ((fIx g (↑l.length : Int) != 0) = true -> AV.i (fIx g (↑l.length : Int)) = AV.i (fSet l g)) ∧ ((fIx g
  (↑l.length : Int) != 0) = false -> (∃ (g_1:Nat), (g_1 <= g.length ∧ ∀ (j:Nat), j < g_1 -> cfI l g j = false) ∧ AS.mk [(0, AV.sl 19 (List.map encMs l)), (6, AV.ref 1), (17, AV.sl 1 (List.map encI g)), (18, AV.i (↑(List.map encI
  g).length : Int)), (19, AV.i 0)] [(1, ABlk.map [])] 2 = AS.mk [(0, AV.sl 19 (List.map encMs l)), (6, AV.ref 1), (17, AV.sl 1 (List.map encI g)), (18, AV.i (↑(List.map encI g).length : Int)), (19, AV.i (g_1:Int))] [(1, ABlk.map
  (List.map keyB (wK l g g_1)))] 2) ∧ ∀ (g_1:Nat), (g_1 <= g.length ∧ ∀ (j:Nat), j < g_1 -> cfI l g j = false) -> (decide ((g_1:Int) < (↑(List.map encI g).length : Int)) = true -> (0:Int) <= (g_1:Int) ∧ (g_1:Int) <
  (↑(List.map encI g).length : Int) ∧ nth (nthR (List.map encI g) (g_1:Int).toNat) 0 = AV.i (g.getD (g_1:Int).toNat default) ∧ (0:Int) <= g.getD (g_1:Int).toNat default ∧ g.getD (g_1:Int).toNat default < (↑(List.map
  encMs l).length : Int) ∧ (mlook (AV.i (l.getD (g.getD (g_1:Int).toNat default).toNat default).w) (List.map keyB (wK l g g_1))).isSome = true ∧ nth (nthR (List.map encMs l) (g.getD (g_1:Int).toNat default).toNat) 1 = AV.i
  (l.getD (g.getD (g_1:Int).toNat default).toNat default).w ∧ lookV false (AV.bool false) (mlook (AV.i (l.getD (g.getD (g_1:Int).toNat default).toNat default).w) (List.map keyB (wK l g g_1))) = AV.bool (hasKI (List.map keyB (wK
  l g g_1)) (l.getD (g.getD (g_1:Int).toNat default).toNat default).w) ∧ (hasKI (List.map keyB (wK l g g_1)) (l.getD (g.getD (g_1:Int).toNat default).toNat default).w = true -> AV.i 24 = AV.i (fSet l g)) ∧ (hasKI (List.map keyB
  (wK l g g_1)) (l.getD (g.getD (g_1:Int).toNat default).toNat default).w = false -> (0:Int) <= g.getD (g_1:Int).toNat default ∧ g.getD (g_1:Int).toNat default < (↑(List.map encMs l).length : Int) ∧ (mput (AV.i (l.getD
  (g.getD (g_1:Int).toNat default).toNat default).w) (AV.bool true) (List.map keyB (wK l g g_1))).isSome = true ∧ nth (nthR (List.map encMs l) (g.getD (g_1:Int).toNat default).toNat) 1 = AV.i (l.getD (g.getD (g_1:Int).toNat
  default).toNat default).w ∧ In64 ((g_1:Int) + 1) ∧ ∃ (g' : Nat), (g' <= g.length ∧ ∀ (j:Nat), j < g' -> cfI l g j = false) ∧ g.length - g' < g.length - g_1 ∧ AS.mk [(0, AV.sl 19 (List.map encMs l)), (6, AV.ref 1), (17, AV.sl 1
  (List.map encI g)), (18, AV.i (↑(List.map encI g).length : Int)), (19, AV.i ((g_1:Int) + 1))] [(1, ABlk.map ((mput (AV.i (l.getD (g.getD (g_1:Int).toNat default).toNat default).w) (AV.bool true) (List.map keyB (wK l g
  g_1))).getD []))] 2 = AS.mk [(0, AV.sl 19 (List.map encMs l)), (6, AV.ref 1), (17, AV.sl 1 (List.map encI g)), (18, AV.i (↑(List.map encI g).length : Int)), (19, AV.i (↑g' : Int))] [(1, ABlk.map (List.map keyB (wK l g g')))] 2)) ∧
  (decide ((g_1:Int) < (↑(List.map encI g).length : Int)) = false -> AV.i 0 = AV.i (fSet l g))) := by
   have hlm : (List.map encMs l).length = l.length := List.length_map _
   have hgm : (List.map encI g).length = g.length := List.length_map _
   have : (List.map encMs l).length = l.length := by simp only [List.length_map]
   have : (List.map encI g).length = g.length := by simp only [List.length_map]
   refine ⟨((by rw [hlm]; exact c150 _ _ hg0)), fun h1 => ?_, fun h1 => ?_⟩
   · rw [fSet, if_pos h1]
   · have hz : fIx g l.length = 0 := bne_f h1
     obtain ⟨x1, x2⟩ := ix_z hz
     refine ⟨⟨0, ⟨by omega, by intros; omega⟩, rfl⟩, fun g_1 ⟨hg, ha⟩ => ⟨fun hd => ?_, fun hd => ?_⟩⟩
     · have hlt : g_1 < g.length := by have h9 := of_decide_eq_true hd; have h8 := hg; (try simp only [List.length_map] at h8 h9); omega
       have hx := x1 g_1 hlt
       have hcf := wK_cf l g g_1
       try rw [show (g_1:Int).toNat = g_1 from Int.toNat_natCast g_1]
       refine ⟨(by omega), (by omega), (congrArg (fun r => nth r 0) (row_at encI hlt)), (by omega), (by omega), (look_B _ _).2, (congrArg (fun r => nth r 1) (row_at encMs (by omega))), (look_B _ _).1, fun h2 => ?_, fun h2 => ⟨(by omega), (by omega), ?_, (congrArg (fun r => nth r 1) (row_at encMs (by omega))), (by unfold In64; omega), ⟨g_1 + 1, ⟨by omega, all_ext ha (hcf.symm.trans h2)⟩, by omega, ?_⟩⟩⟩
       · rw [fSet, if_neg (by rw [hz]; decide), if_pos (decide_eq_true (fi_ex (p := cfI l g) hlt (hcf.symm.trans h2)))]
       · rw [put_B _ _ (by rw [<- hasKI_e]; exact h2)]
         rfl
       · rw [put_B _ _ (by rw [<- hasKI_e]; exact h2), wK_step hlt]
         rfl
     · have hge : g_1 = g.length := by have h9 := of_decide_eq_false hd; have h8 := hg; (try simp only [List.length_map] at h8 h9); omega
       subst hge
       rw [fSet, if_neg (by rw [hz]; decide), if_neg (by rw [decide_eq_true_eq, fi_none (p := cfI l g) ha]; omega)]
 exact c_of Tryz.f169 (modA 8 6 (fun a => { a with rdb := rdKI }) (fzB (mkB (sp169 l g) 169 [(7, 1, rdL 1 encI g 1 false), (8, 5, rdL 19 encMs l 1 false), (10, 5, rdL 19 encMs l 1 false)] (la0 (la169 l g))))) (by kernel_rfl) (by kernel_rfl) (by kernel_rfl) (by kernel_rfl) key (by kernel_rfl)
def ckE (h : Hm) (l : List Ms) (g : List Int) : Int := if (fMs h l != 0) = true then fMs h l else fSet l g
def sp102 (h : Hm) (l : List Ms) (g : List Int) : Nat -> List AV -> Option AV
 | 39, _ => some (.i (fMs h l))
 | 169, _ => some (.i (fSet l g))
 | n, x => spW n x
theorem c102 (h : Hm) (l : List Ms) (g : List Int) (hm : h.nm.length <= 1000000) (hw : h.ws.length <= 1000) (hl : l.length <= 1000) (hn : ∀ x, x ∈ l -> x.nm.length <= 1000) (hg0 : g.length <= 1000) : PCall Tryz.prog G0 102 [.agg (encHm h), .sl 19 (l.map encMs), .sl 1 (g.map encI)] (.i (ckE h l g)) := by
 have key :
  PCall Tryz.prog G0 39 [AV.agg (encHm h), AV.sl 19 (List.map encMs l)] (AV.i (fMs h l)) ∧ ((fMs h l != 0) = true -> AV.i (fMs h l) = AV.i (ckE h l g)) ∧ ((fMs h l != 0) = false -> PCall Tryz.prog G0 169 [AV.sl 19 (List.map encMs l),
  AV.sl 1 (List.map encI g)] (AV.i (fSet l g)) ∧ AV.i (fSet l g) = AV.i (ckE h l g)) := by
   refine ⟨(c39 h l hm hw hl hn), fun h1 => ?_, fun h1 => ⟨(c169 l g hg0), ?_⟩⟩
   · rw [ckE, if_pos h1]
   · rw [ckE, if_neg (by rw [h1]; decide)]
 exact c_of Tryz.f102 (fzB (mkB (sp102 h l g) 102 [] noLa)) (by kernel_rfl) (by kernel_rfl) (by kernel_rfl) (by kernel_rfl) key (by kernel_rfl)
end Go.Proofs.YtfoeefaamjknpaaGreatDoor
namespace Go.Proofs.YtfoeefaamjknpaaGreatDoor
open Go Go.Av Go.RowKit
def afH (h : Hm) (l : List Ms) (g : List Int) : Hm := ⟨h.nm, h.pe, aft h.ws l g⟩
def la103 (h : Hm) (l : List Ms) (g : List Int) : LA := {
 pre := [.reno 7 3, .keep [1, 3, 6, 7, 18, 19, 20] [1, 2, 3], .bound 4], post := [.keep [1, 3, 6, 7, 18, 19, 20] [1, 2, 3], .bound 4]
 Gh := Nat
 st := fun i => ⟨[(1, .sl 19 (l.map encMs)), (3, .ptr 1 0), (6, .ptr 2 0), (7, .own 3 (h.ws.map encWn).length), (18, .sl 1 (g.map encI)), (19, .i (g.map encI).length), (20, .i i)], [(1, .box (encHm h)), (2, .box [.str [], .i 0, .ex (.slice none 0 0)]), (3, .buf 189 25 ((aftN h.ws l g i).map encWn))], 4⟩
 ok := fun i => i <= g.length
 ms := fun i => g.length - i }
theorem copy_all (rows : List (List AV)) (z : List AV) : List.take ((rows.length : Nat) : Int).toNat rows ++ List.drop rows.length (List.replicate ((rows.length : Nat) : Int).toNat z) = rows := by
 rw [Int.toNat_natCast, List.take_length, List.drop_replicate, Nat.sub_self]
 simp
theorem put_wi {ws : List Wn} {i : Nat} (hi : i < ws.length) (m : Ms) : putRow (ws.map encWn) i 9 (encPm m) = (ws.set i (wiM (ws.getD i default) m)).map encWn := by
 unfold putRow
 rw [row_at encWn hi, List.map_set]
 rfl
theorem c103 (h : Hm) (l : List Ms) (g : List Int) (hh : fMs h l = 0) (hg : fSet l g = 0) (hg0 : g.length <= 1000) : PCall Tryz.prog G0 103 [.agg (encHm h), .sl 19 (l.map encMs), .sl 1 (g.map encI)] (.agg (encHm (afH h l g))) := by
 have key :
  (0:Int) <= (↑(List.map encWn h.ws).length : Int) ∧ (↑(List.map encWn h.ws).length : Int) <= (↑(List.map encWn h.ws).length : Int) ∧ (↑(List.map encWn h.ws).length : Int) <= 9223372036854775807 ∧ (↑(List.map encWn h.ws).length : Int)
  * (200:Int) <= 140737488355328 ∧ (∃ (g_1:Nat), g_1 <= g.length ∧ AS.mk [(1, AV.sl 19 (List.map encMs l)), (3, AV.ptr 1 0), (6, AV.ptr 2 0), (7, AV.own 3 (↑(List.map encWn h.ws).length : Int).toNat), (18, AV.sl 1 (List.map encI
  g)), (19, AV.i (↑(List.map encI g).length : Int)), (20, AV.i 0)] [(1, ABlk.box (encHm h)), (2, ABlk.box [AV.str [], AV.i 0, AV.ex (Value.slice none 0 0)]), (3, ABlk.buf 189 25 (List.take (↑(List.map encWn h.ws).length : Int).toNat
  (List.map encWn h.ws) ++ List.drop (List.map encWn h.ws).length (List.replicate (↑(List.map encWn h.ws).length : Int).toNat [AV.i 0, AV.i 0, AV.i 0, AV.i 0, AV.i 0, AV.i 0, AV.i 0, AV.i 0, AV.i 0, AV.i 0, AV.i 0, AV.i 0, AV.i 0,
  AV.i 0, AV.i 0, AV.i 0, AV.i 0, AV.i 0, AV.i 0, AV.i 0, AV.i 0, AV.i 0, AV.i 0, AV.i 0, AV.i 0])))] 4 = AS.mk [(1, AV.sl 19 (List.map encMs l)), (3, AV.ptr 1 0), (6, AV.ptr 2 0), (7, AV.own 3 (List.map encWn h.ws).length), (18,
  AV.sl 1 (List.map encI g)), (19, AV.i (↑(List.map encI g).length : Int)), (20, AV.i (g_1:Int))] [(1, ABlk.box (encHm h)), (2, ABlk.box [AV.str [], AV.i 0, AV.ex (Value.slice none 0 0)]), (3, ABlk.buf 189 25 (List.map encWn (aftN
  h.ws l g g_1)))] 4) ∧ ∀ (g_1:Nat), g_1 <= g.length -> (decide ((g_1:Int) < (↑(List.map encI g).length : Int)) = true -> (0:Int) <= (g_1:Int) ∧ (g_1:Int) < (↑(List.map encI g).length : Int) ∧ nth (nthR (List.map encI g)
  (g_1:Int).toNat) 0 = AV.i (g.getD (g_1:Int).toNat default) ∧ (0:Int) <= g.getD (g_1:Int).toNat default ∧ g.getD (g_1:Int).toNat default < (↑(List.map encMs l).length : Int) ∧ (0:Int) <= g.getD (g_1:Int).toNat
  default ∧ g.getD (g_1:Int).toNat default < (↑(List.map encMs l).length : Int) ∧ (0:Int) <= (l.getD (g.getD (g_1:Int).toNat default).toNat default).w ∧ (l.getD (g.getD (g_1:Int).toNat default).toNat default).w <
  (↑(List.map encWn h.ws).length : Int) ∧ (l.getD (g.getD (g_1:Int).toNat default).toNat default).w.toNat < (List.map encWn (aftN h.ws l g g_1)).length ∧ nth (nthR (List.map encMs l) (g.getD (g_1:Int).toNat default).toNat) 1 =
  AV.i (l.getD (g.getD (g_1:Int).toNat default).toNat default).w ∧ AV.agg (List.take 16 (List.drop 3 (nthR (List.map encMs l) (g.getD (g_1:Int).toNat default).toNat))) = AV.agg (encPm (l.getD (g.getD (g_1:Int).toNat
  default).toNat default)) ∧ In64 ((g_1:Int) + 1) ∧ ∃ (g' : Nat), g' <= g.length ∧ g.length - g' < g.length - g_1 ∧ AS.mk [(1, AV.sl 19 (List.map encMs l)), (3, AV.ptr 1 0), (6, AV.ptr 2 0), (7, AV.own 3 (List.map encWn
  h.ws).length), (18, AV.sl 1 (List.map encI g)), (19, AV.i (↑(List.map encI g).length : Int)), (20, AV.i ((g_1:Int) + 1))] [(1, ABlk.box (encHm h)), (2, ABlk.box [AV.str [], AV.i 0, AV.ex (Value.slice none 0 0)]), (3, ABlk.buf
  189 25 (putRow (List.map encWn (aftN h.ws l g g_1)) (l.getD (g.getD (g_1:Int).toNat default).toNat default).w.toNat 9 (encPm (l.getD (g.getD (g_1:Int).toNat default).toNat default))))] 4 = AS.mk [(1, AV.sl 19 (List.map encMs
  l)), (3, AV.ptr 1 0), (6, AV.ptr 2 0), (7, AV.own 3 (List.map encWn h.ws).length), (18, AV.sl 1 (List.map encI g)), (19, AV.i (↑(List.map encI g).length : Int)), (20, AV.i (↑g' : Int))] [(1, ABlk.box (encHm h)), (2, ABlk.box
  [AV.str [], AV.i 0, AV.ex (Value.slice none 0 0)]), (3, ABlk.buf 189 25 (List.map encWn (aftN h.ws l g g')))] 4) ∧ (decide ((g_1:Int) < (↑(List.map encI g).length : Int)) = false -> AV.agg [AV.str h.nm, AV.i h.pe, AV.sl 25
  (List.map encWn (aftN h.ws l g g_1))] = AV.agg [AV.str h.nm, AV.i h.pe, AV.sl 25 (List.map encWn (aft h.ws l g))]) := by
   have hlm : (List.map encMs l).length = l.length := List.length_map _
   have hgm : (List.map encI g).length = g.length := List.length_map _
   have hwm : (List.map encWn h.ws).length = h.ws.length := List.length_map _
   obtain ⟨y1, y2, y3⟩ := ms_z hh
   obtain ⟨z1, z2, z3, z4, z5, z6⟩ := hm_z y1
   obtain ⟨x0, _⟩ := set_z hg
   obtain ⟨x1, _⟩ := ix_z x0
   have : (List.map encWn h.ws).length = h.ws.length := by simp only [List.length_map]
   have : (List.map encI g).length = g.length := by simp only [List.length_map]
   have : (List.map encMs l).length = l.length := by simp only [List.length_map]
   refine ⟨(by omega), (by omega), (by omega), (by omega), ⟨⟨0, by omega, (by rw [copy_all]; rfl)⟩, fun g_1 hg => ⟨fun hd => ?_, fun hd => ?_⟩⟩⟩
   · have hlt : g_1 < g.length := by have h9 := of_decide_eq_true hd; have h8 := hg; (try simp only [List.length_map] at h8 h9); omega
     have hx := x1 g_1 hlt
     have hmk := (y3 (g.getD g_1 default).toNat (by omega)).w0
     have hal := aft_len h.ws l g g_1
     have ham : (List.map encWn (aftN h.ws l g g_1)).length = (aftN h.ws l g g_1).length := List.length_map _
     try rw [show (g_1:Int).toNat = g_1 from Int.toNat_natCast g_1]
     refine ⟨(by omega), (by omega), (congrArg (fun r => nth r 0) (row_at encI hlt)), (by omega), (by omega), (by omega), (by omega), (by omega), (by omega), (by omega), (congrArg (fun r => nth r 1) (row_at encMs (by omega))), (congrArg (fun r => AV.agg (List.take 16 (List.drop 3 r))) (row_at encMs (by omega))), (by unfold In64; omega), ⟨g_1 + 1, by omega, by omega, ?_⟩⟩
     · rw [put_wi (by omega)]
       rfl
   · have hge : g_1 = g.length := by have h9 := of_decide_eq_false hd; have h8 := hg; (try simp only [List.length_map] at h8 h9); omega
     subst hge
     first | rfl | trivial
 exact c_of Tryz.f103 ({ fzB (mkB spW 103 [(5, 1, rdL 1 encI g 1 false), (6, 5, rdL 19 encMs l 1 false), (6, 10, rdL 19 encMs l 16 true)] (la0 (la103 h l g))) with bx := fun i => if i.beq 0 then [.frzo 7] else [] }) (by kernel_rfl) (by kernel_rfl) (by kernel_rfl) (by kernel_rfl) key (by kernel_rfl)
theorem w93 (h : Hm) (hw : h.ws.length <= 1000) : WCall Tryz.prog G0 93 [.agg (encHm h)] [] (.ax [.str h.nm, .i h.pe, .own 1 (h.ws.map encWn).length]) [ABlk.buf 177 25 (h.ws.map encWn)] := by
 have key :
  0 + (List.map encWn h.ws).length <= 9223372036854775807 ∧ (0 + (List.map encWn h.ws).length) * 200 <= 140737488355328 ∧ AV.ax [AV.str h.nm, AV.i h.pe, AV.own 1 (0 + (List.map encWn h.ws).length)] = AV.ax [AV.str h.nm, AV.i h.pe,
  AV.own 1 (List.map encWn h.ws).length] ∧ [ABlk.buf 177 25 ([] ++ List.map encWn h.ws)] = [ABlk.buf 177 25 (List.map encWn h.ws)] := by
   have hwm : (List.map encWn h.ws).length = h.ws.length := List.length_map _
   exact ⟨by omega, by omega, by rw [Nat.zero_add], rfl⟩
 exact w_of Tryz.f93 (modA 2 3 (fun a => { a with fz := false }) (mkB spW 93 [] noLa)) (by kernel_rfl) (by kernel_rfl) (by kernel_rfl) (by kernel_rfl) (by kernel_rfl) key (by kernel_rfl)
end Go.Proofs.YtfoeefaamjknpaaGreatDoor
namespace Go.Proofs.YtfoeefaamjknpaaGreatDoor
open Go Go.Av Go.RowKit
def BET : List UInt8 := [98, 101, 116, 116, 101, 114]
def WOR : List UInt8 := [119, 111, 114, 115, 101]
def PLA : List UInt8 := [97, 115, 32, 112, 108, 97, 110, 110, 101, 100]
def vdS (lo hi : Int) (x : Iv) : List UInt8 := if decide (x.b < lo) = true then BET else if decide (x.a > hi) = true then WOR else PLA
def afL (h : Hm) (l : List Ms) (g : List Int) : Int := inL (aft h.ws l g) h.ws.length
def afU (h : Hm) (l : List Ms) (g : List Int) : Int := inH (aft h.ws l g) h.ws.length
theorem af_ok {h : Hm} {l : List Ms} {g : List Int} (hh : fMs h l = 0) (hg : fSet l g = 0) : WsOK (aft h.ws l g) ∧ (aft h.ws l g).length = h.ws.length ∧ h.ws.length <= 8 ∧ 1 <= h.ws.length := by
 obtain ⟨y1, y2, y3⟩ := ms_z hh
 obtain ⟨z1, z2, z3, z4, z5, z6⟩ := hm_z y1
 obtain ⟨x0, _⟩ := set_z hg
 obtain ⟨x1, _⟩ := ix_z x0
 have hal : (aft h.ws l g).length = h.ws.length := aft_len h.ws l g g.length
 exact ⟨fun i hi => aft_ok z6 y3 x1 g.length (Nat.le_refl _) i (by omega), hal, z3, z2⟩
def sp21 (h : Hm) (l : List Ms) (g : List Int) : Nat -> List AV -> Option AV
 | 102, _ => some (.i (ckE h l g))
 | 103, _ => some (.agg (encHm (afH h l g)))
 | 35, _ => some (.agg (encHm (afH h l g)))
 | 100, _ => some (.agg [.i (afL h l g), .i (afU h l g)])
 | 29, _ => some (.agg [.i (afL h l g), .i (afU h l g)])
 | n, x => spW n x
theorem ck_z {h : Hm} {l : List Ms} {g : List Int} (e : ckE h l g = 0) : fMs h l = 0 ∧ fSet l g = 0 := by
 unfold ckE at e
 split at e
 · rename_i h1
   exact absurd e (bne_t h1)
 · rename_i h1
   exact ⟨bne_f (by simpa using h1), e⟩
def veE (h : Hm) (l : List Ms) (g : List Int) (x : Iv) : Int := sFirst [ckE h l g, fEnds x.a x.b 10000000000000]
def veV (h : Hm) (l : List Ms) (g : List Int) (x : Iv) : List UInt8 := if (veE h l g x != 0) = true then [] else vdS (afL h l g) (afU h l g) x
theorem c25 (h : Hm) (l : List Ms) (g : List Int) (x : Iv) (hm : h.nm.length <= 1000000) (hw : h.ws.length <= 1000) (hl : l.length <= 1000) (hn : ∀ x, x ∈ l -> x.nm.length <= 1000) (hg0 : g.length <= 1000) : PCall Tryz.prog G0 25 [.agg (encHm h), .sl 19 (l.map encMs), .sl 1 (g.map encI), .agg (encIv x)] (.tup [.str (veV h l g x), .i (veE h l g x)]) := by
 have key :
  PCall Tryz.prog G0 102 [AV.agg (encHm h), AV.sl 19 (List.map encMs l), AV.sl 1 (List.map encI g)] (AV.i (ckE h l g)) ∧ PCall Tryz.prog G0 106 [AV.agg (encIv x), AV.i 10000000000000] (AV.i (fEnds x.a x.b (10000000000000:Int))) ∧
  PCall Tryz.prog G0 104 [AV.sl 1 [[AV.i (ckE h l g)], [AV.i (fEnds x.a x.b (10000000000000:Int))]]] (AV.i (sFirst [hdI [AV.i (ckE h l g)], hdI [AV.i (fEnds x.a x.b (10000000000000:Int))]])) ∧ ((sFirst [hdI [AV.i (ckE h l g)],
  hdI [AV.i (fEnds x.a x.b (10000000000000:Int))]] != 0) = true -> AV.tup [AV.str [], AV.i (sFirst [hdI [AV.i (ckE h l g)], hdI [AV.i (fEnds x.a x.b (10000000000000:Int))]])] = AV.tup [AV.str (veV h l g x), AV.i (veE h l g x)]) ∧
  ((sFirst [hdI [AV.i (ckE h l g)], hdI [AV.i (fEnds x.a x.b (10000000000000:Int))]] != 0) = false -> PCall Tryz.prog G0 103 [AV.agg (encHm h), AV.sl 19 (List.map encMs l), AV.sl 1 (List.map encI g)] (AV.agg [AV.str h.nm, AV.i h.pe,
  AV.sl 25 (List.map encWn (aft h.ws l g))]) ∧ PCall Tryz.prog G0 100 [AV.agg [AV.str h.nm, AV.i h.pe, AV.sl 25 (List.map encWn (aft h.ws l g))]] (AV.agg [AV.i (afL h l g), AV.i (afU h l g)]) ∧ (decide (x.b < afL h l g) = true -> (0 :
  Int) <= 0 ∧ (0:Int) < (3:Int) ∧ AV.tup [AV.str [(98:UInt8), (101:UInt8), (116:UInt8), (116:UInt8), (101:UInt8), (114:UInt8)], AV.i 0] = AV.tup [AV.str (veV h l g x), AV.i (veE h l g x)]) ∧ (decide (x.b < afL h l g)
  = false -> (decide (x.a > afU h l g) = true -> (0:Int) <= 1 ∧ (1:Int) < (3:Int) ∧ AV.tup [AV.str [(119:UInt8), (111:UInt8), (114:UInt8), (115:UInt8), (101:UInt8)], AV.i 0] = AV.tup [AV.str (veV h l g x), AV.i (veE h l
  g x)]) ∧ (decide (x.a > afU h l g) = false -> (0:Int) <= 2 ∧ (2:Int) < (3:Int) ∧ AV.tup [AV.str [(97:UInt8), (115:UInt8), (32:UInt8), (112:UInt8), (108:UInt8), (97:UInt8), (110:UInt8), (110:UInt8), (101 :
  UInt8), (100:UInt8)], AV.i 0] = AV.tup [AV.str (veV h l g x), AV.i (veE h l g x)]))) := by
   refine ⟨(c102 h l g hm hw hl hn hg0), (c106 _ _ _), (c104 [_, _] (by simp)), fun h1 => ?_, fun h1 => ?_⟩
   · rw [show veV h l g x = [] from if_pos h1]
     rfl
   · have hz : veE h l g x = 0 := bne_f h1
     have hz2 := hz
     unfold veE at hz2
     rw [first_zero] at hz2
     obtain ⟨q1, q2⟩ := ck_z hz2.1
     obtain ⟨a1, a2, a3, a4⟩ := af_ok q1 q2
     have hv : veV h l g x = vdS (afL h l g) (afU h l g) x := if_neg (by rw [hz]; decide)
     refine ⟨(c103 h l g q1 q2 hg0), ((by have e := c100 (afH h l g) (show (aft h.ws l g).length <= 8 by omega) a1; rw [show (afH h l g).ws.length = h.ws.length from a2] at e; exact e)), fun h2 => ⟨(by omega), (by omega), ?_⟩, fun h2 => ⟨fun h3 => ⟨(by omega), (by omega), ?_⟩, fun h3 => ⟨(by omega), (by omega), ?_⟩⟩⟩
     · rw [hv, hz, vdS, if_pos h2]
       rfl
     · rw [hv, hz, vdS, if_neg (by rw [h2]; decide), if_pos h3]
       rfl
     · rw [hv, hz, vdS, if_neg (by rw [h2]; decide), if_neg (by rw [h3]; decide)]
       rfl
 exact c_of Tryz.f25 (fzB (mkB (sp21 h l g) 25 [] noLa)) (by kernel_rfl) (by kernel_rfl) (by kernel_rfl) (by kernel_rfl) key (by kernel_rfl)
end Go.Proofs.YtfoeefaamjknpaaGreatDoor
namespace Go.Proofs.YtfoeefaamjknpaaGreatDoor
open Go Go.Av Go.RowKit
def la41 (h : Hm) : LA := {
 pre := [.reno 3 3, .ownb 3 2 177 25, .renc 3 2 4, .keep [2, 3, 12, 13, 14] [2, 3, 4], .bound 5], post := [.renc 3 2 4, .keep [2, 3, 12, 13, 14] [2, 3, 4], .bound 5]
 Gh := Nat
 st := fun i => ⟨[(2, .ptr 2 0), (3, .ptr 3 0), (12, .sl 25 (h.ws.map encWn)), (13, .i (h.ws.map encWn).length), (14, .i i)], [(2, .box [.str [], .i 0, .ex (.slice none 0 0)]), (3, .box [.str h.nm, .i h.pe, .own 4 ((h.ws.take i).map encWn).length]), (4, .buf 177 25 ((h.ws.take i).map encWn))], 5⟩
 ok := fun i => i <= h.ws.length
 ms := fun i => h.ws.length - i }
theorem c41 (h : Hm) (hl : h.ws.length <= 1000) : PCall Tryz.prog G0 41 [.agg (encHm h)] (.agg (encHm h)) := by
 have key :
  (∃ (g:Nat), g <= h.ws.length ∧ AS.mk [(2, AV.ptr 2 0), (3, AV.ptr 3 0), (12, AV.sl 25 (List.map encWn h.ws)), (13, AV.i (↑(List.map encWn h.ws).length : Int)), (14, AV.i 0)] [(2, ABlk.box [AV.str [], AV.i 0, AV.ex (Value.slice
  none 0 0)]), (3, ABlk.box [AV.str h.nm, AV.i h.pe, AV.own 4 0]), (4, ABlk.buf 177 25 [])] 5 = AS.mk [(2, AV.ptr 2 0), (3, AV.ptr 3 0), (12, AV.sl 25 (List.map encWn h.ws)), (13, AV.i (↑(List.map encWn h.ws).length : Int)), (14,
  AV.i (g:Int))] [(2, ABlk.box [AV.str [], AV.i 0, AV.ex (Value.slice none 0 0)]), (3, ABlk.box [AV.str h.nm, AV.i h.pe, AV.own 4 (List.map encWn (List.take g h.ws)).length]), (4, ABlk.buf 177 25 (List.map encWn (List.take g
  h.ws)))] 5) ∧ ∀ (g:Nat), g <= h.ws.length -> (decide ((g:Int) < (↑(List.map encWn h.ws).length : Int)) = true -> (0:Int) <= (g:Int) ∧ (g:Int) < (↑(List.map encWn h.ws).length : Int) ∧ AV.agg (nthR (List.map encWn h.ws) (↑g
  : Int).toNat) = AV.agg (encWn (h.ws.getD (g:Int).toNat default)) ∧ (List.map encWn (List.take g h.ws)).length + 1 <= 9223372036854775807 ∧ ((List.map encWn (List.take g h.ws)).length + 1) * 200 <= 140737488355328 ∧ In64 ((↑g :
  Int) + 1) ∧ ∃ (g' : Nat), g' <= h.ws.length ∧ h.ws.length - g' < h.ws.length - g ∧ AS.mk [(2, AV.ptr 2 0), (3, AV.ptr 3 0), (12, AV.sl 25 (List.map encWn h.ws)), (13, AV.i (↑(List.map encWn h.ws).length : Int)), (14, AV.i ((↑g :
  Int) + 1))] [(2, ABlk.box [AV.str [], AV.i 0, AV.ex (Value.slice none 0 0)]), (3, ABlk.box [AV.str h.nm, AV.i h.pe, AV.own 4 ((List.map encWn (List.take g h.ws)).length + 1)]), (4, ABlk.buf 177 25 (List.map encWn (List.take g h.ws)
  ++ [(encWn (h.ws.getD (g:Int).toNat default))]))] 5 = AS.mk [(2, AV.ptr 2 0), (3, AV.ptr 3 0), (12, AV.sl 25 (List.map encWn h.ws)), (13, AV.i (↑(List.map encWn h.ws).length : Int)), (14, AV.i (↑g' : Int))] [(2, ABlk.box [AV.str
  [], AV.i 0, AV.ex (Value.slice none 0 0)]), (3, ABlk.box [AV.str h.nm, AV.i h.pe, AV.own 4 (List.map encWn (List.take g' h.ws)).length]), (4, ABlk.buf 177 25 (List.map encWn (List.take g' h.ws)))] 5) ∧ (decide ((g:Int) <
  (↑(List.map encWn h.ws).length : Int)) = false -> AV.agg [AV.str h.nm, AV.i h.pe, AV.sl 25 (List.map encWn (List.take g h.ws))] = AV.agg (encHm h)) := by
   have hlm : (List.map encWn h.ws).length = h.ws.length := List.length_map _
   have : (List.map encWn h.ws).length = h.ws.length := by simp only [List.length_map]
   refine ⟨⟨0, by omega, rfl⟩, fun g hg => ⟨fun hd => ?_, fun hd => ?_⟩⟩
   · have hlt : g < h.ws.length := by have h9 := of_decide_eq_true hd; have h8 := hg; (try simp only [List.length_map] at h8 h9); omega
     have : (List.map encWn (List.take g h.ws)).length = g := by simp only [List.length_map, List.length_take]; omega
     try rw [show (g:Int).toNat = g from Int.toNat_natCast g]
     refine ⟨(by omega), (by omega), congrArg AV.agg (row_at encWn hlt), (by omega), (by omega), (by unfold In64; omega), ⟨g + 1, by omega, by omega, ?_⟩⟩
     · first | (rw [<- take_succ_map _ _ hlt, List.length_append]; rfl) | (rw [<- take_succ _ hlt, List.length_append]; rfl)
   · have hge : g = h.ws.length := by have h9 := of_decide_eq_false hd; have h8 := hg; (try simp only [List.length_map] at h8 h9); omega
     subst hge
     rw [List.take_length]
     rfl
 exact c_of Tryz.f41 ({ modA 5 4 (fun a => { a with fz := false }) (mkB spW 41 [(4, 1, rdL 25 encWn h.ws 25 true)] (la0 (la41 h))) with bx := fun i => if i.beq 0 then [.frzc 3 2] else [] }) (by kernel_rfl) (by kernel_rfl) (by kernel_rfl) (by kernel_rfl) key (by kernel_rfl)
def la40 (h : Hm) : LA := {
 pre := [.keep [2, 3, 5] [], .bound 1], post := [.keep [2, 3, 5] [], .bound 1]
 Gh := Nat
 st := fun i => ⟨[(2, .elt 3 [encHm h] 0 0), (3, .elt 3 [encHm h] 0 0), (5, .i i)], [], 1⟩
 ok := fun i => i <= h.ws.length
 ms := fun i => h.ws.length - i }
theorem c40 (h : Hm) (hl : h.ws.length <= 1000) : PCall Tryz.prog G0 40 [.agg (encHm h), .agg (encHm h)] (.bool true) := by
 have key :
  (AV.bool !h.nm == h.nm) = AV.bool false ∧ AV.bool (h.pe != h.pe) = AV.bool false ∧ AV.bool ((↑(List.map encWn h.ws).length : Int) != (↑(List.map encWn h.ws).length : Int)) = AV.bool false ∧ (∃ (g:Nat), g <= h.ws.length ∧ AS.mk
  [(2, AV.elt 3 [(encHm h)] 0 0), (3, AV.elt 3 [(encHm h)] 0 0), (5, AV.i 0)] [] 1 = AS.mk [(2, AV.elt 3 [(encHm h)] 0 0), (3, AV.elt 3 [(encHm h)] 0 0), (5, AV.i (g:Int))] [] 1) ∧ ∀ (g:Nat), g <= h.ws.length -> (decide ((↑g :
  Int) < (↑(List.map encWn h.ws).length : Int)) = true -> (0:Int) <= (g:Int) ∧ (g:Int) < (↑(List.map encWn h.ws).length : Int) ∧ (0:Int) <= (g:Int) ∧ (g:Int) < (↑(List.map encWn h.ws).length : Int) ∧ AV.agg (nthR
  (List.map encWn h.ws) (g:Int).toNat) = AV.agg (encWn (h.ws.getD (g:Int).toNat default)) ∧ AV.agg (nthR (List.map encWn h.ws) (g:Int).toNat) = AV.agg (encWn (h.ws.getD (g:Int).toNat default)) ∧ (AV.bool !((h.ws.getD (↑g
  : Int).toNat default).o0 == (h.ws.getD (g:Int).toNat default).o0 && true && ((h.ws.getD (g:Int).toNat default).o1 == (h.ws.getD (g:Int).toNat default).o1 && true && ((h.ws.getD (g:Int).toNat default).o2 == (h.ws.getD
  (g:Int).toNat default).o2 && true && ((h.ws.getD (g:Int).toNat default).o3 == (h.ws.getD (g:Int).toNat default).o3 && true && ((h.ws.getD (g:Int).toNat default).o4 == (h.ws.getD (g:Int).toNat default).o4 && true &&
  ((h.ws.getD (g:Int).toNat default).o5 == (h.ws.getD (g:Int).toNat default).o5 && true && ((h.ws.getD (g:Int).toNat default).o6 == (h.ws.getD (g:Int).toNat default).o6 && true && ((h.ws.getD (g:Int).toNat default).o7
  == (h.ws.getD (g:Int).toNat default).o7 && true && true))))))) && ((h.ws.getD (g:Int).toNat default).ar == (h.ws.getD (g:Int).toNat default).ar && true && ((h.ws.getD (g:Int).toNat default).p0 == (h.ws.getD (↑g :
  Int).toNat default).p0 && true && ((h.ws.getD (g:Int).toNat default).p1 == (h.ws.getD (g:Int).toNat default).p1 && true && true) && ((h.ws.getD (g:Int).toNat default).p2 == (h.ws.getD (g:Int).toNat default).p2 && true
  && ((h.ws.getD (g:Int).toNat default).p3 == (h.ws.getD (g:Int).toNat default).p3 && true && true) && ((h.ws.getD (g:Int).toNat default).p4 == (h.ws.getD (g:Int).toNat default).p4 && true && ((h.ws.getD (g:Int).toNat
  default).p5 == (h.ws.getD (g:Int).toNat default).p5 && true && true) && ((h.ws.getD (g:Int).toNat default).p6 == (h.ws.getD (g:Int).toNat default).p6 && true && ((h.ws.getD (g:Int).toNat default).p7 == (h.ws.getD (↑g :
  Int).toNat default).p7 && true && true) && ((h.ws.getD (g:Int).toNat default).p8 == (h.ws.getD (g:Int).toNat default).p8 && true && ((h.ws.getD (g:Int).toNat default).p9 == (h.ws.getD (g:Int).toNat default).p9 && true
  && true) && ((h.ws.getD (g:Int).toNat default).p10 == (h.ws.getD (g:Int).toNat default).p10 && true && ((h.ws.getD (g:Int).toNat default).p11 == (h.ws.getD (g:Int).toNat default).p11 && true && true) && ((h.ws.getD (↑g
  : Int).toNat default).p12 == (h.ws.getD (g:Int).toNat default).p12 && true && ((h.ws.getD (g:Int).toNat default).p13 == (h.ws.getD (g:Int).toNat default).p13 && true && true) && ((h.ws.getD (g:Int).toNat default).p14 ==
  (h.ws.getD (g:Int).toNat default).p14 && true && ((h.ws.getD (g:Int).toNat default).p15 == (h.ws.getD (g:Int).toNat default).p15 && true && true) && true))))))) && true)))) = AV.bool false ∧ In64 ((g:Int) + 1) ∧ ∃ (g' :
  Nat), g' <= h.ws.length ∧ h.ws.length - g' < h.ws.length - g ∧ AS.mk [(2, AV.elt 3 [(encHm h)] 0 0), (3, AV.elt 3 [(encHm h)] 0 0), (5, AV.i ((g:Int) + 1))] [] 1 = AS.mk [(2, AV.elt 3 [(encHm h)] 0 0), (3, AV.elt 3 [(encHm h)] 0
  0), (5, AV.i (↑g' : Int))] [] 1) ∧ (decide ((g:Int) < (↑(List.map encWn h.ws).length : Int)) = false -> AV.bool true = AV.bool true) := by
   have hlm : (List.map encWn h.ws).length = h.ws.length := List.length_map _
   have : (List.map encWn h.ws).length = h.ws.length := by simp only [List.length_map]
   refine ⟨?_, ?_, ?_, ⟨⟨0, by omega, rfl⟩, fun g hg => ⟨fun hd => ?_, fun hd => ?_⟩⟩⟩
   · simp
   · simp
   · simp
   · have hlt : g < h.ws.length := by have h9 := of_decide_eq_true hd; have h8 := hg; (try simp only [List.length_map] at h8 h9); omega
     try rw [show (g:Int).toNat = g from Int.toNat_natCast g]
     refine ⟨(by omega), (by omega), (by omega), (by omega), congrArg AV.agg (row_at encWn hlt), congrArg AV.agg (row_at encWn hlt), ?_, (by unfold In64; omega), ⟨g + 1, by omega, by omega, rfl⟩⟩
     · simp
   · have hge : g = h.ws.length := by have h9 := of_decide_eq_false hd; have h8 := hg; (try simp only [List.length_map] at h8 h9); omega
     subst hge
     exact rfl
 exact c_of Tryz.f40 ({ noSym 1 (fzB (mkB spW 40 (lits false [(1, 4), (1, 10), (1, 19), (6, 10)] ++ [(6, 4, rdL 25 encWn h.ws 25 true), (6, 9, rdL 25 encWn h.ws 25 true)]) (la0 (la40 h)))) with cl := clL [26, 44] }) (by kernel_rfl) (by kernel_rfl) (by kernel_rfl) (by kernel_rfl) key (by kernel_rfl)
end Go.Proofs.YtfoeefaamjknpaaGreatDoor
namespace Go.Proofs.YtfoeefaamjknpaaGreatDoor
open Go Go.Av Go.RowKit
def ioN (n:Int) : List UInt8 := if 0 <= n ∧ n < 1000000000 then Lib.itoa n else []
def joN (L : List (List UInt8)) : List UInt8 := Lib.join L [32]
theorem ioN_len (n:Int) : (ioN n).length <= 10 := by
 unfold ioN
 split
 · rename_i h
   rw [Lib.itoa, if_neg (by omega)]
   exact dd_len (by omega)
 · exact Nat.zero_le _
theorem ioN_e {n : Int} (h0 : 0 <= n) (h : n <= 100000000) : ioN n = Lib.itoa n := if_pos ⟨h0, by omega⟩
def prS (h : Hm) : List UInt8 := if (fHm h != 0) = true then [] else prT joN ioN h h.ws.length
theorem c85s {h : Hm} (hn : h.nm.length <= 40) (hw : h.ws.length <= 9) : PCall Tryz.prog G0 85 [.agg (encHm h)] (.tup [.str (prS h), .i (fHm h)]) :=
 c85 h ioN joN (by omega) (by omega) (fun _ n h0 h1 => by rw [ioN_e h0 h1]; exact c184 n (by unfold In64; omega)) (fun _ => rfl) (fun _ k hk => Nat.le_trans (prT_len (fun _ => rfl) ioN_len h k) (by omega)) (fun _ => Nat.le_trans (lnH_len (fun _ => rfl) ioN_len h) (by omega)) (fun _ k _ => Nat.le_trans (lnW_len (fun _ => rfl) ioN_len _) (by omega))
def hmV (s : List UInt8) : Hm := if (e88 s != 0) = true then ⟨[], 0, []⟩ else if kG s < (spl 10 s).length then ⟨[], 0, []⟩ else if (fHm (hmR s (spl 10 s).length) != 0) = true then ⟨[], 0, []⟩ else hmR s (spl 10 s).length
def kV (s : List UInt8) : Int := if (e88 s != 0) = true then 0 else if kG s < (spl 10 s).length then (kG s : Int) else if (fHm (hmR s (spl 10 s).length) != 0) = true then ((spl 10 s).length : Int) - 1 else 0
def eV (s : List UInt8) : Int := if (e88 s != 0) = true then e88 s else if kG s < (spl 10 s).length then 25 else fHm (hmR s (spl 10 s).length)
theorem ps_tup (s : List UInt8) : psG (e88 s) (kG s) (spl 10 s).length (hmR s (spl 10 s).length) = .tup [.agg (encHm (hmV s)), .i (kV s), .i (eV s)] := by
 unfold psG hmV kV eV
 by_cases h1 : (e88 s != 0) = true
 · rw [if_pos h1, if_pos h1, if_pos h1, if_pos h1]
 · rw [if_neg h1, if_neg h1, if_neg h1, if_neg h1]
   by_cases h2 : kG s < (spl 10 s).length
   · rw [if_pos h2, if_pos h2, if_pos h2, if_pos h2]
   · rw [if_neg h2, if_neg h2, if_neg h2, if_neg h2]
     by_cases h3 : (fHm (hmR s (spl 10 s).length) != 0) = true
     · rw [if_pos h3, if_pos h3, if_pos h3]
     · rw [if_neg h3, if_neg h3, if_neg h3, show fHm (hmR s (spl 10 s).length) = 0 from bne_f (by simpa using h3)]
structure K9 (h : Hm) (s : List UInt8) : Prop where
 ko : h.nm.length <= 40
 kw : h.ws.length <= 9
 ks : s.length <= 400 ∨ s.length = 4097
end Go.Proofs.YtfoeefaamjknpaaGreatDoor
namespace Go.Proofs.YtfoeefaamjknpaaGreatDoor
open Go Go.Av Go.RowKit
theorem jo_jn : ∀ L : List (List UInt8), joN L = jn 32 L
 | [] => by simp [joN, jn, Lib.join, List.intercalate, List.intersperse]
 | [x] => jn_1 x
 | x :: y :: t => by
  have ih := jo_jn (y :: t)
  show Lib.join (x :: y :: t) [32] = _
  rw [jn_2, show Lib.join (y :: t) [32] = jn 32 (y :: t) from ih]
  rfl
def wsH (h : Hm) : List (List UInt8) := [HOME, h.nm, ioN h.pe]
def wsV (w : Wn) : List (List UInt8) := WINDOW :: (nums w).map ioN
def lnK (h : Hm) (k:Nat) : List (List UInt8) := jn 32 (wsH h) :: (h.ws.take k).map fun w => jn 32 (wsV w)
def lnsP (h : Hm) : List (List UInt8) := lnK h h.ws.length
theorem prT_e (h : Hm) : ∀ k, k <= h.ws.length -> prT joN ioN h k = ((lnK h k).map (· ++ [10])).flatten
 | 0, _ => by
  show joN (wsH h) ++ [10] = _
  rw [jo_jn]
  unfold lnK
  rw [List.take_zero, List.map_nil, List.map_cons, List.map_nil, List.flatten_cons, List.flatten_nil, List.append_nil]
 | k + 1, hk => by
  have e : h.ws.take (k + 1) = h.ws.take k ++ [h.ws.getD k default] := by
   rw [List.getD_eq_getElem?_getD, List.getElem?_eq_getElem (by omega)]
   exact (List.take_append_getElem (by omega)).symm
  rw [prT, prT_e h k (by omega)]
  unfold lnK
  rw [e, List.map_append, <- List.cons_append, List.map_append (f := fun x : List UInt8 => x ++ [10]), List.flatten_append]
  congr 1
  show joN (wsV (h.ws.getD k default)) ++ [10] = _
  rw [jo_jn]
  simp
theorem io_ok {n : Int} (h0 : 0 <= n) (h : n <= 100000000) : inB (ioN n) = true ∧ dgV (ioN n) = n ∧ (32:UInt8) ∉ ioN n ∧ (10:UInt8) ∉ ioN n := by
 rw [ioN_e h0 h]
 exact it_ok ⟨h0, by omega⟩
theorem wsH_no {h : Hm} (hz : fHm h = 0) : ∀ x, x ∈ wsH h -> (32:UInt8) ∉ x ∧ (10:UInt8) ∉ x := fun x hx => by
 obtain ⟨z1, z2, z3, z4, z5, z6⟩ := hm_z hz
 simp only [wsH, List.mem_cons, List.not_mem_nil, or_false] at hx
 rcases hx with rfl | rfl | rfl
 · decide
 · exact (nm_wd z5).2
 · exact (io_ok z4.1 (by omega)).2.2
theorem wsV_no {w : Wn} (hw : WnOK w) : ∀ x, x ∈ wsV w -> (32:UInt8) ∉ x ∧ (10:UInt8) ∉ x := fun x hx => by
 unfold wsV at hx
 rcases List.mem_cons.1 hx with rfl | hx
 · decide
 · obtain ⟨n, hn, rfl⟩ := List.mem_map.1 hx
   have := nums_bd hw n hn
   exact (io_ok this.1 this.2).2.2
theorem jn_no {W : List (List UInt8)} (h : ∀ x, x ∈ W -> (32:UInt8) ∉ x ∧ (10:UInt8) ∉ x) : (10:UInt8) ∉ jn 32 W := fun q => by
 rcases mem_jn q with e | ⟨w, hw, e⟩
 · cases e
 · exact (h w hw).2 e
theorem lnK_no {h : Hm} (hz : fHm h = 0) (k:Nat) : ∀ x, x ∈ lnK h k -> (10:UInt8) ∉ x := fun x hx => by
 obtain ⟨z1, z2, z3, z4, z5, z6⟩ := hm_z hz
 unfold lnK at hx
 rcases List.mem_cons.1 hx with rfl | hx
 · exact jn_no (wsH_no hz)
 · obtain ⟨w, hw, rfl⟩ := List.mem_map.1 hx
   obtain ⟨i, hi, e⟩ := List.mem_iff_getElem.1 (List.mem_of_mem_take hw)
   have := z6 i hi
   rw [List.getD_eq_getElem?_getD, List.getElem?_eq_getElem hi, e] at this
   exact jn_no (wsV_no this)
theorem lnsP_len (h : Hm) : (lnsP h).length = h.ws.length + 1 := by
 unfold lnsP lnK
 rw [List.take_length, List.length_cons, List.length_map]
theorem lnsP_0 (h : Hm) : (lnsP h).getD 0 [] = jn 32 (wsH h) := rfl
theorem lnsP_s {h : Hm} {i : Nat} (hi : i < h.ws.length) : (lnsP h).getD (i + 1) [] = jn 32 (wsV (h.ws.getD i default)) := by
 unfold lnsP lnK
 rw [List.take_length]
 simp [List.getD_eq_getElem?_getD, hi]
theorem sp_H {h : Hm} (hz : fHm h = 0) : spl 32 (jn 32 (wsH h)) = wsH h := spl_jn 32 _ (by simp [wsH]) fun x hx => (wsH_no hz x hx).1
theorem sp_V {w : Wn} (hw : WnOK w) : spl 32 (jn 32 (wsV w)) = wsV w := spl_jn 32 _ (by simp [wsV]) fun x hx => (wsV_no hw x hx).1
theorem nums_get {w : Wn} (hw : WnOK w) {k : Nat} (hk : k < 25) : (wsV w).getD (k + 1) [] = ioN ((nums w).getD k 0) ∧ 0 <= (nums w).getD k 0 ∧ (nums w).getD k 0 <= 100000000 := by
 have hl : (nums w).length = 25 := rfl
 refine ⟨?_, ?_⟩
 · unfold wsV
   simp [List.getD_eq_getElem?_getD, hl, hk]
 · have h1 : (nums w).getD k 0 ∈ nums w := by
    rw [List.getD_eq_getElem?_getD, List.getElem?_eq_getElem (by omega)]
    exact List.getElem_mem _
   exact nums_bd hw _ h1
theorem wnO_n (w : Wn) : wnO (nums w) = w := rfl
structure Bk (h : Hm) (s : List UInt8) : Prop where
 w0 : wsR s 0 = wsH h
 wi : ∀ i, i < h.ws.length -> wsR s (i + 1) = wsV (h.ws.getD i default)
theorem bk_of {h : Hm} {s : List UInt8} {y : List (List UInt8)} (hz : fHm h = 0) (hs : spl 10 s = lnsP h ++ y) : Bk h s := by
 obtain ⟨z1, z2, z3, z4, z5, z6⟩ := hm_z hz
 have hl := lnsP_len h
 have hg : ∀ i, i < h.ws.length + 1 -> (spl 10 s).getD i [] = (lnsP h).getD i [] := fun i hi => by
  rw [hs, List.getD_eq_getElem?_getD, List.getElem?_append_left (by omega), <- List.getD_eq_getElem?_getD]
 refine ⟨?_, fun i hi => ?_⟩
 · unfold wsR
   rw [hg 0 (by omega), lnsP_0, sp_H hz]
 · unfold wsR
   rw [hg (i + 1) (by omega), lnsP_s hi, sp_V (z6 i hi)]
theorem ok_0 {h : Hm} {s : List UInt8} (hz : fHm h = 0) (hb : Bk h s) : okR s 0 = true ∧ (lsR s 0).getD 0 0 = h.pe := by
 obtain ⟨z1, z2, z3, z4, z5, z6⟩ := hm_z hz
 have hi := io_ok z4.1 (show h.pe <= 100000000 by omega)
 unfold okR lsR roR
 rw [hb.w0]
 refine ⟨(rt_iff _ _ _).2 ⟨(rt0_0 _).2 ⟨rfl, rfl, (nm_wd z5).1⟩, fun j h1 h2 h3 => ?_⟩, ?_⟩
 · have e : j = 2 := by
    have : (wsH h).length - 1 = 2 := rfl
    omega
   rw [e, dS_e]
   exact hi.1
 · show (lsN 0 ((wsH h).map encS) 2).getD 0 0 = _
   rw [lsN, if_neg (by decide), lsN, if_pos (by decide), lsN, dS_e]
   exact hi.2.1
theorem ok_i {h : Hm} {s : List UInt8} (hz : fHm h = 0) (hb : Bk h s) {i : Nat} (hi : i < h.ws.length) : okR s (i + 1) = true ∧ lsR s (i + 1) = nums (h.ws.getD i default) := by
 obtain ⟨z1, z2, z3, z4, z5, z6⟩ := hm_z hz
 have hw := z6 i hi
 have hl : (wsV (h.ws.getD i default)).length - 1 = 25 := rfl
 unfold okR lsR roR
 rw [hb.wi i hi, hl]
 refine ⟨(rt_iff _ _ _).2 ⟨(rt0_V (by omega) _).2 ⟨rfl, rfl⟩, fun j h1 h2 _ => ?_⟩, ?_⟩
 · have h3 := nums_get hw (k := j - 1) (by omega)
   rw [show j - 1 + 1 = j by omega] at h3
   rw [dS_e, h3.1]
   exact (io_ok h3.2.1 h3.2.2).1
 · rw [ls_e (by omega), dS_e]
   refine List.ext_getElem (by rw [List.length_map, List.length_range]; rfl) fun k hk hk2 => ?_
   rw [List.length_map, List.length_range] at hk
   have h3 := nums_get hw hk
   rw [List.getElem_map, List.getElem_range, h3.1, (io_ok h3.2.1 h3.2.2).2.1, List.getD_eq_getElem?_getD, List.getElem?_eq_getElem hk2]
   rfl
theorem hmR_e {h : Hm} {s : List UInt8} (hz : fHm h = 0) (hb : Bk h s) (hL : (spl 10 s).length = h.ws.length + 2) : ∀ i, i <= h.ws.length -> hmR s (i + 1) = ⟨h.nm, h.pe, h.ws.take i⟩
 | 0, _ => by
  obtain ⟨z1, z2, z3, z4, z5, z6⟩ := hm_z hz
  rw [hmR, if_neg (by omega), if_pos rfl, (ok_0 hz hb).2, hb.w0]
  rfl
 | i + 1, hi => by
  have e : h.ws.take (i + 1) = h.ws.take i ++ [h.ws.getD i default] := by
   rw [List.getD_eq_getElem?_getD, List.getElem?_eq_getElem (by omega)]
   exact (List.take_append_getElem (by omega)).symm
  rw [hmR, if_neg (by omega), if_neg (by omega), hmR_e hz hb hL i (by omega), (ok_i hz hb (show i < h.ws.length by omega)).2, wnO_n, e]
theorem line_ne (h : Hm) {i : Nat} (hi : i <= h.ws.length) : (lnsP h).getD i [] ≠ [] := by
 cases i with
 | zero =>
  rw [lnsP_0]
  unfold wsH jn
  intro q
  have := congrArg List.length q
  rw [List.length_append] at this
  simp [HOME] at this
 | succ i =>
  rw [lnsP_s (by omega)]
  unfold wsV
  cases e : (nums (h.ws.getD i default)).map ioN with
  | nil => intro q; cases q
  | cons y t =>
   unfold jn
   intro q
   have := congrArg List.length q
   rw [List.length_append] at this
   simp [WINDOW] at this
theorem good_i {h : Hm} {s : List UInt8} (hz : fHm h = 0) (hb : Bk h s) : ∀ j, j <= h.ws.length -> okR s j = true := fun j hj => by
 cases j with
 | zero => exact (ok_0 hz hb).1
 | succ j => exact (ok_i hz hb (by omega)).1
theorem e88_0 {s : List UInt8} (hl : s.length <= 4096) (hn : s ≠ []) : e88 s = 0 := by
 unfold e88
 rw [if_neg (by rw [decide_eq_true_eq]; omega), if_neg (by rw [beq_iff_eq]; exact hn)]
theorem prT_bd {h : Hm} (hz : fHm h = 0) (hn : h.nm.length <= 40) : (prT joN ioN h h.ws.length).length <= 2500 := by
 obtain ⟨z1, z2, z3, z4, z5, z6⟩ := hm_z hz
 exact Nat.le_trans (prT_len (fun _ => rfl) ioN_len h h.ws.length) (by omega)
theorem back_ok {h : Hm} {s : List UInt8} (hz : fHm h = 0) (hn : h.nm.length <= 40) (hs : s = prT joN ioN h h.ws.length) : psG (e88 s) (kG s) (spl 10 s).length (hmR s (spl 10 s).length) = .tup [.agg (encHm h), .i 0, .i 0] ∧ (spl 10 s).length = h.ws.length + 2 ∧ s.length <= 2500 ∧ s ≠ [] := by
 have hl := lnsP_len h
 have hsp : spl 10 s = lnsP h ++ [[]] := by
  rw [hs, prT_e h _ (Nat.le_refl _)]
  have := spl_lines (lnsP h) [] (lnK_no hz _)
  rw [List.append_nil] at this
  exact this
 have hL : (spl 10 s).length = h.ws.length + 2 := by rw [hsp, List.length_append, hl]; rfl
 have hb := bk_of hz hsp
 have hsl : s.length <= 2500 := by rw [hs]; exact prT_bd hz hn
 have hne : s ≠ [] := fun q => by
  rw [q] at hL
  have : (spl 10 []).length = 1 := rfl
  omega
 have hg : ∀ j, j < (spl 10 s).length -> goodJ s j = true := fun j hj => by
  unfold goodJ
  split
  · have e : j = h.ws.length + 1 := by omega
    rw [hsp, e, List.getD_eq_getElem?_getD, List.getElem?_append_right (by omega), hl, Nat.sub_self]
    rfl
  · exact good_i hz hb j (by omega)
 have hh : hmR s (spl 10 s).length = h := by
  rw [hL, hmR, if_pos hL.symm, hmR_e hz hb hL _ (Nat.le_refl _), List.take_length]
 refine ⟨?_, hL, hsl, hne⟩
 rw [psG, e88_0 (by omega) hne, if_neg (by decide), kg_n hg, if_neg (Nat.lt_irrefl _), hh, hz, if_neg (by decide)]
theorem back_cut {h : Hm} {s : List UInt8} (hz : fHm h = 0) (hn : h.nm.length <= 40) (hs : s = prT joN ioN h h.ws.length) : psG (e88 (s.take (s.length - 1))) (kG (s.take (s.length - 1))) (spl 10 (s.take (s.length - 1))).length (hmR (s.take (s.length - 1)) (spl 10 (s.take (s.length - 1))).length) = .tup [.agg (encHm ⟨[], 0, []⟩), .i h.ws.length, .i 25] ∧ (spl 10 (s.take (s.length - 1))).length = h.ws.length + 1 := by
 have hl := lnsP_len h
 obtain ⟨L', y, e⟩ : ∃ L' y, lnsP h = L' ++ [y] := by
  have hne : lnsP h ≠ [] := fun q => by rw [q] at hl; cases hl
  exact ⟨(lnsP h).dropLast, (lnsP h).getLast hne, (List.dropLast_concat_getLast hne).symm⟩
 have hno := lnK_no hz h.ws.length
 have hno : ∀ x, x ∈ lnsP h -> (10:UInt8) ∉ x := hno
 have hs2 : s = (L'.map (· ++ [10])).flatten ++ y ++ [10] := by
  rw [hs, prT_e h _ (Nat.le_refl _), show lnK h h.ws.length = L' ++ [y] from e, List.map_append, List.flatten_append, List.append_assoc]
  simp
 have ht : s.take (s.length - 1) = (L'.map (· ++ [10])).flatten ++ y := by
  rw [hs2, List.length_append, List.length_singleton, Nat.add_sub_cancel, List.take_left]
 have hy : (10:UInt8) ∉ y := hno y (by rw [e]; simp)
 have hsp : spl 10 (s.take (s.length - 1)) = lnsP h ++ [] := by
  rw [ht, spl_lines L' y (fun x hx => hno x (by rw [e]; exact List.mem_append_left _ hx)), spl_one 10 y hy, e, List.append_nil]
 generalize s.take (s.length - 1) = t at *
 rw [List.append_nil] at hsp
 have hL : (spl 10 t).length = h.ws.length + 1 := by rw [hsp, hl]
 have hb := bk_of (y := []) hz (by rw [List.append_nil]; exact hsp)
 have hg : ∀ j, j < h.ws.length -> goodJ t j = true := fun j hj => by
  unfold goodJ
  rw [if_neg (by omega)]
  exact good_i hz hb j (by omega)
 have hbad : goodJ t h.ws.length = false := by
  unfold goodJ
  rw [if_pos (by omega), hsp]
  exact beq_eq_false_iff_ne.2 (line_ne h (Nat.le_refl _))
 have hk := kg_e (s := t) (g := h.ws.length) (by omega) hg hbad
 have hne : t ≠ [] := fun q => by
  obtain ⟨z1, z2, z3, z4, z5, z6⟩ := hm_z hz
  rw [q] at hL
  have : (spl 10 []).length = 1 := rfl
  omega
 have htl : t.length <= 4096 := by
  have h1 := prT_bd hz hn
  rw [<- hs, hs2, List.length_append, <- ht] at h1
  omega
 refine ⟨?_, hL⟩
 rw [psG, e88_0 htl hne, if_neg (by decide), hk, hL, if_pos (by omega)]
end Go.Proofs.YtfoeefaamjknpaaGreatDoor
namespace Go.Proofs.YtfoeefaamjknpaaGreatDoor
open Go Go.Av Go.RowKit
theorem sumP_le {o p q : Nat -> Int} : ∀ n, (∀ b, b < n -> 0 <= o b) -> (∀ b, b < n -> p b <= q b) -> sumP o p n <= sumP o q n
 | 0, _, _ => Int.le_refl _
 | n + 1, ho, h => by
  have h1 := sumP_le n (fun b hb => ho b (by omega)) fun b hb => h b (by omega)
  have h2 := Int.mul_le_mul_of_nonneg_left (h n (by omega)) (ho n (by omega))
  rw [sumP, sumP]
  omega
theorem sumP_eq {o p q : Nat -> Int} : ∀ n, (∀ b, b < n -> p b = q b) -> sumP o p n = sumP o q n
 | 0, _ => rfl
 | n + 1, h => by
  rw [sumP, sumP, sumP_eq n fun b hb => h b (by omega), h n (by omega)]
theorem td_le {a b : Int} (h0 : 0 <= a) (h : a <= b) : a.tdiv 100000 <= b.tdiv 100000 := by
 rw [Int.tdiv_eq_ediv_of_nonneg h0, Int.tdiv_eq_ediv_of_nonneg (by omega)]
 omega
theorem sumP_0 {w : Wn} (h : WnOK w) (p : Nat -> Int) (hp : ∀ b, b < 8 -> 0 <= p b ∧ p b <= 1000) : 0 <= sumP w.o p 8 := (sumP_bd h.o0 hp 8 (Nat.le_refl _)).1
theorem in_lh {w : Wn} (h : WnOK w) : inLw w <= inHw w := by
 have h1 := sumP_le (o := w.o) (p := w.lo) (q := w.hi) 8 (fun b hb => (h.o0 b hb).1) fun b hb => (h.l0 b hb).2.1
 have h2 := (inLw_bd h).1.1
 have h3 : sumP w.o w.lo 8 * w.ar <= sumP w.o w.hi 8 * w.ar := Int.mul_le_mul_of_nonneg_right h1 (by have := h.a0; omega)
 exact td_le h2 (by omega)
theorem in_le {v w : Wn} (hv : WnOK v) (hw : WnOK w) (ho : v.o = w.o) (ha : v.ar <= w.ar) (hl : ∀ b, b < 8 -> v.lo b <= w.lo b) (hh : ∀ b, b < 8 -> v.hi b <= w.hi b) : inLw v <= inLw w ∧ inHw v <= inHw w := by
 have h1 := sumP_le (o := w.o) 8 (fun b hb => (hw.o0 b hb).1) hl
 have h2 := sumP_le (o := w.o) 8 (fun b hb => (hw.o0 b hb).1) hh
 have h3 := (inLw_bd hv).1.1
 have h4 := (inHw_bd hv).1.1
 have h5 := sumP_0 hv v.lo hv.lo
 have h6 := sumP_0 hv v.hi hv.hi
 rw [ho] at h3 h4 h5 h6
 have g1 : sumP w.o v.lo 8 * v.ar <= sumP w.o w.lo 8 * w.ar := Int.mul_le_mul h1 ha (by have := hv.a0; omega) (by omega)
 have g2 : sumP w.o v.hi 8 * v.ar <= sumP w.o w.hi 8 * w.ar := Int.mul_le_mul h2 ha (by have := hv.a0; omega) (by omega)
 unfold inLw inHw
 rw [ho]
 exact ⟨td_le h3 g1, td_le (by omega) (by omega)⟩
theorem in_mid {v w : Wn} (hv : WnOK v) (hw : WnOK w) (ho : v.o = w.o) (ha : v.ar = w.ar) (he : ∀ b, b < 8 -> v.lo b = v.hi b) (hl : ∀ b, b < 8 -> w.lo b <= v.lo b) (hh : ∀ b, b < 8 -> v.hi b <= w.hi b) : inLw w <= inLw v ∧ inHw v <= inHw w ∧ inHw v - inLw v <= 1 := by
 have h1 := sumP_le (o := w.o) 8 (fun b hb => (hw.o0 b hb).1) hl
 have h2 := sumP_le (o := w.o) 8 (fun b hb => (hw.o0 b hb).1) hh
 have h0 := sumP_eq (o := w.o) 8 he
 have h3 := (inLw_bd hw).1.1
 have h4 := (inHw_bd hv).1.1
 rw [ho] at h4
 have hwa := hw.a0
 have g1 : sumP w.o w.lo 8 * w.ar <= sumP w.o v.lo 8 * w.ar := Int.mul_le_mul_of_nonneg_right h1 (by omega)
 have g2 : sumP w.o v.hi 8 * w.ar <= sumP w.o w.hi 8 * w.ar := Int.mul_le_mul_of_nonneg_right h2 (by omega)
 have h5 : 0 <= sumP w.o v.hi 8 * w.ar := by rw [ha] at h4; omega
 unfold inLw inHw
 rw [ho, ha, h0]
 rw [h0] at g1
 refine ⟨td_le h3 g1, td_le (by omega) (by omega), ?_⟩
 rw [Int.tdiv_eq_ediv_of_nonneg h5, Int.tdiv_eq_ediv_of_nonneg (by omega)]
 omega
theorem inL_le {a b : List Wn} : ∀ n, (∀ i, i < n -> inLw (a.getD i default) <= inLw (b.getD i default)) -> inL a n <= inL b n
 | 0, _ => Int.le_refl _
 | n + 1, h => by
  have h1 := inL_le n fun i hi => h i (by omega)
  have h2 := h n (by omega)
  rw [inL, inL]
  omega
theorem inH_le {a b : List Wn} : ∀ n, (∀ i, i < n -> inHw (a.getD i default) <= inHw (b.getD i default)) -> inH a n <= inH b n
 | 0, _ => Int.le_refl _
 | n + 1, h => by
  have h1 := inH_le n fun i hi => h i (by omega)
  have h2 := h n (by omega)
  rw [inH, inH]
  omega
theorem inLH_le {a : List Wn} : ∀ n, (∀ i, i < n -> inLw (a.getD i default) <= inHw (a.getD i default)) -> inL a n <= inH a n
 | 0, _ => Int.le_refl _
 | n + 1, h => by
  have h1 := inLH_le n fun i hi => h i (by omega)
  have h2 := h n (by omega)
  rw [inL, inH]
  omega
theorem inD_le {a : List Wn} : ∀ n : Nat, (∀ i, i < n -> inHw (a.getD i default) - inLw (a.getD i default) <= 1) -> inH a n - inL a n <= n
 | 0, _ => Int.le_refl _
 | n + 1, h => by
  have h1 := inD_le n fun i hi => h i (by omega)
  have h2 := h n (by omega)
  rw [inL, inH]
  omega
end Go.Proofs.YtfoeefaamjknpaaGreatDoor
namespace Go.Proofs.YtfoeefaamjknpaaGreatDoor
open Go Go.Av Go.RowKit
def exX (w : Wn) (n:Int) (i:Nat) (b:Nat) : Int := w.lo b + (n + 3 * b + i).tmod (w.hi b - w.lo b + 1)
def exK (w : Wn) (n:Int) (i:Nat) (k:Nat) : Wn := ⟨w.o0, w.o1, w.o2, w.o3, w.o4, w.o5, w.o6, w.o7, w.ar, (if 0 < k then exX w n i 0 else w.p0), (if 0 < k then exX w n i 0 else w.p1), (if 1 < k then exX w n i 1 else w.p2), (if 1 < k then exX w n i 1 else w.p3), (if 2 < k then exX w n i 2 else w.p4), (if 2 < k then exX w n i 2 else w.p5), (if 3 < k then exX w n i 3 else w.p6), (if 3 < k then exX w n i 3 else w.p7), (if 4 < k then exX w n i 4 else w.p8), (if 4 < k then exX w n i 4 else w.p9), (if 5 < k then exX w n i 5 else w.p10), (if 5 < k then exX w n i 5 else w.p11), (if 6 < k then exX w n i 6 else w.p12), (if 6 < k then exX w n i 6 else w.p13), (if 7 < k then exX w n i 7 else w.p14), (if 7 < k then exX w n i 7 else w.p15)⟩
def exS (ws : List Wn) (n:Int) : Nat -> List Wn
 | 0 => ws
 | i + 1 => (exS ws n i).set i (exK (ws.getD i default) n i 8)
def exH (h : Hm) (n:Int) : Hm := ⟨h.nm, h.pe, exS h.ws n h.ws.length⟩
def lsK (w : Wn) (m:Int) (k:Nat) : Wn := ⟨w.o0, w.o1, w.o2, w.o3, w.o4, w.o5, w.o6, w.o7, w.ar, (if 0 < k then w.p0 - (m).tmod (w.p0 + 1) else w.p0), (if 0 < k then w.p1 - (m).tmod (w.p0 + 1) else w.p1), (if 1 < k then w.p2 - (m).tmod (w.p2 + 1) else w.p2), (if 1 < k then w.p3 - (m).tmod (w.p2 + 1) else w.p3), (if 2 < k then w.p4 - (m).tmod (w.p4 + 1) else w.p4), (if 2 < k then w.p5 - (m).tmod (w.p4 + 1) else w.p5), (if 3 < k then w.p6 - (m).tmod (w.p6 + 1) else w.p6), (if 3 < k then w.p7 - (m).tmod (w.p6 + 1) else w.p7), (if 4 < k then w.p8 - (m).tmod (w.p8 + 1) else w.p8), (if 4 < k then w.p9 - (m).tmod (w.p8 + 1) else w.p9), (if 5 < k then w.p10 - (m).tmod (w.p10 + 1) else w.p10), (if 5 < k then w.p11 - (m).tmod (w.p10 + 1) else w.p11), (if 6 < k then w.p12 - (m).tmod (w.p12 + 1) else w.p12), (if 6 < k then w.p13 - (m).tmod (w.p12 + 1) else w.p13), (if 7 < k then w.p14 - (m).tmod (w.p14 + 1) else w.p14), (if 7 < k then w.p15 - (m).tmod (w.p14 + 1) else w.p15)⟩
def lsW (w : Wn) (n m : Int) : Wn := { lsK w m 8 with ar := 1 + n.tmod w.ar }
def jX (h : Hm) (n1:Int) : Nat := (n1.tmod (h.ws.length : Int)).toNat
def lsH (h : Hm) (n0 n1 n2 : Int) : Hm := ⟨h.nm, h.pe, h.ws.set (jX h n1) (lsW (h.ws.getD (jX h n1) default) n0 n2)⟩
theorem endsQ {x y m : Int} (h : 0 <= x ∧ x <= y ∧ y <= m) : fEnds x y m = 0 := by
 unfold fEnds
 rw [first_zero, first_zero, first_zero, within_zero, within_zero, decide_eq_false (by omega)]
 exact ⟨by omega, by omega, rfl, rfl⟩
theorem wnQ {w : Wn} (h : WnOK w) : fWn w = 0 := by
 unfold fWn
 rw [first_zero, first_zero, first_zero, within_zero]
 exact ⟨scan_end fun b hb => within_zero.2 (h.o0 b hb), h.a0, scan_end fun b hb => endsQ (h.l0 b hb), rfl⟩
theorem hmQ {h : Hm} {L : List Wn} (e : fHm h = 0) (hl : L.length = h.ws.length) (hw : ∀ i, i < L.length -> WnOK (L.getD i default)) : fHm ⟨h.nm, h.pe, L⟩ = 0 := by
 have h1 := (hm_z e).1
 have e1 : fHd ⟨h.nm, h.pe, L⟩ = fHd h := by
  unfold fHd
  rw [show (Hm.mk h.nm h.pe L).ws.length = h.ws.length from hl]
 unfold fHm sLS
 rw [if_neg (by rw [e1, h1]; decide)]
 exact scan_end fun i hi => wnQ (hw i hi)
theorem set_at {L : List Wn} {i j : Nat} {x : Wn} (hi : i < L.length) : (L.set i x).getD j default = if j = i then x else L.getD j default := by
 by_cases e : j = i
 · rw [if_pos e, e, List.getD_eq_getElem?_getD, List.getElem?_set_self hi]
   rfl
 · rw [if_neg e, List.getD_eq_getElem?_getD, List.getElem?_set_ne (fun q => e q.symm), <- List.getD_eq_getElem?_getD]
theorem put_wn {L : List Wn} {i o : Nat} {cs : List AV} (X : Wn) (hi : i < L.length) (h : splice (encWn (L.getD i default)) o cs = encWn X) : putRow (L.map encWn) i o cs = (L.set i X).map encWn := by
 rw [putRow, row_at encWn hi, h, List.map_set]
theorem exS_len (ws : List Wn) (n:Int) : ∀ i, (exS ws n i).length = ws.length
 | 0 => rfl
 | i + 1 => by rw [exS, List.length_set, exS_len ws n i]
theorem exS_ge {ws : List Wn} {n : Int} : ∀ {i j : Nat}, i <= j -> i <= ws.length -> (exS ws n i).getD j default = ws.getD j default
 | 0, _, _, _ => rfl
 | i + 1, j, h, hl => by
  rw [exS, set_at (by rw [exS_len]; omega), if_neg (by omega), exS_ge (by omega) (by omega)]
theorem exS_lt {ws : List Wn} {n : Int} : ∀ {i j : Nat}, j < i -> i <= ws.length -> (exS ws n i).getD j default = exK (ws.getD j default) n j 8
 | 0, j, h, _ => absurd h (Nat.not_lt_zero j)
 | i + 1, j, h, hl => by
  rw [exS, set_at (by rw [exS_len]; omega)]
  split
  · rename_i e; rw [e]
  · exact exS_lt (by omega) (by omega)
theorem exX_bd {w : Wn} (hw : WnOK w) {n : Int} (hn : 0 <= n) (i:Nat) {b : Nat} (hb : b < 8) : w.lo b <= exX w n i b ∧ exX w n i b <= w.hi b := by
 have h1 := hw.l0 b hb
 have h2 : 0 <= (n + 3 * (b:Int) + i).tmod (w.hi b - w.lo b + 1) ∧ (n + 3 * (b:Int) + i).tmod (w.hi b - w.lo b + 1) < w.hi b - w.lo b + 1 := by
  rw [Int.tmod_eq_emod_of_nonneg (by omega)]
  exact ⟨Int.emod_nonneg _ (by omega), Int.emod_lt_of_pos _ (by omega)⟩
 unfold exX
 omega
theorem exK_o (w : Wn) (n:Int) (i k : Nat) : (exK w n i k).o = w.o := by
 funext b
 match b with
 | 0 | 1 | 2 | 3 | 4 | 5 | 6 | 7 => rfl
 | b + 8 => rfl
theorem exK_p (w : Wn) (n:Int) (i:Nat) {b : Nat} (hb : b < 8) : (exK w n i 8).lo b = exX w n i b ∧ (exK w n i 8).hi b = exX w n i b := by
 match b, hb with
 | 0, _ | 1, _ | 2, _ | 3, _ | 4, _ | 5, _ | 6, _ | 7, _ => exact ⟨rfl, rfl⟩
theorem exK_ok {w : Wn} (hw : WnOK w) {n : Int} (hn : 0 <= n) (i:Nat) : WnOK (exK w n i 8) := by
 refine ⟨by rw [exK_o]; exact hw.o0, hw.a0, fun b hb => ?_⟩
 rw [(exK_p w n i hb).1, (exK_p w n i hb).2]
 have h1 := exX_bd hw hn i hb
 have h2 := hw.l0 b hb
 omega
theorem exK_in {w : Wn} (hw : WnOK w) {n : Int} (hn : 0 <= n) (i:Nat) : inLw w <= inLw (exK w n i 8) ∧ inHw (exK w n i 8) <= inHw w ∧ inHw (exK w n i 8) - inLw (exK w n i 8) <= 1 :=
 in_mid (exK_ok hw hn i) hw (exK_o w n i 8) rfl (fun b hb => by rw [(exK_p w n i hb).1, (exK_p w n i hb).2]) (fun b hb => by rw [(exK_p w n i hb).1]; exact (exX_bd hw hn i hb).1) (fun b hb => by rw [(exK_p w n i hb).2]; exact (exX_bd hw hn i hb).2)
def lsB (w : Wn) (m:Int) (b:Nat) : Int := m.tmod (w.lo b + 1)
theorem lsB_bd {w : Wn} (hw : WnOK w) {m : Int} (hm : 0 <= m) {b : Nat} (hb : b < 8) : 0 <= lsB w m b ∧ lsB w m b <= w.lo b := by
 have h1 := hw.l0 b hb
 unfold lsB
 rw [Int.tmod_eq_emod_of_nonneg hm]
 exact ⟨Int.emod_nonneg _ (by omega), by have := Int.emod_lt_of_pos m (show 0 < w.lo b + 1 by omega); omega⟩
theorem lsW_o (w : Wn) (n m : Int) : (lsW w n m).o = w.o := by
 funext b
 match b with
 | 0 | 1 | 2 | 3 | 4 | 5 | 6 | 7 => rfl
 | b + 8 => rfl
theorem lsW_p (w : Wn) (n m : Int) {b : Nat} (hb : b < 8) : (lsW w n m).lo b = w.lo b - lsB w m b ∧ (lsW w n m).hi b = w.hi b - lsB w m b := by
 match b, hb with
 | 0, _ | 1, _ | 2, _ | 3, _ | 4, _ | 5, _ | 6, _ | 7, _ => exact ⟨rfl, rfl⟩
theorem lsW_a {w : Wn} (hw : WnOK w) {n : Int} (hn : 0 <= n) (m:Int) : 1 <= (lsW w n m).ar ∧ (lsW w n m).ar <= w.ar := by
 have h1 := hw.a0
 show 1 <= 1 + n.tmod w.ar ∧ 1 + n.tmod w.ar <= w.ar
 rw [Int.tmod_eq_emod_of_nonneg hn]
 have h2 := Int.emod_nonneg n (show w.ar ≠ 0 by omega)
 have h3 := Int.emod_lt_of_pos n (show 0 < w.ar by omega)
 omega
theorem lsW_ok {w : Wn} (hw : WnOK w) {n m : Int} (hn : 0 <= n) (hm : 0 <= m) : WnOK (lsW w n m) := by
 refine ⟨by rw [lsW_o]; exact hw.o0, ?_, fun b hb => ?_⟩
 · have h1 := lsW_a hw hn m
   have h2 := hw.a0
   omega
 · rw [(lsW_p w n m hb).1, (lsW_p w n m hb).2]
   have h1 := lsB_bd hw hm hb
   have h2 := hw.l0 b hb
   omega
theorem lsW_in {w : Wn} (hw : WnOK w) {n m : Int} (hn : 0 <= n) (hm : 0 <= m) : inLw (lsW w n m) <= inLw w ∧ inHw (lsW w n m) <= inHw w :=
 in_le (lsW_ok hw hn hm) hw (lsW_o w n m) (lsW_a hw hn m).2 (fun b hb => by rw [(lsW_p w n m hb).1]; have := lsB_bd hw hm hb; omega) (fun b hb => by rw [(lsW_p w n m hb).2]; have := lsB_bd hw hm hb; omega)
theorem exH_ok {h : Hm} {n : Int} (hz : fHm h = 0) (hn : 0 <= n) : fHm (exH h n) = 0 ∧ inL h.ws h.ws.length <= inL (exS h.ws n h.ws.length) h.ws.length ∧ inH (exS h.ws n h.ws.length) h.ws.length <= inH h.ws h.ws.length ∧ inL (exS h.ws n h.ws.length) h.ws.length <= inH (exS h.ws n h.ws.length) h.ws.length ∧ inH (exS h.ws n h.ws.length) h.ws.length - inL (exS h.ws n h.ws.length) h.ws.length <= h.ws.length := by
 obtain ⟨z1, z2, z3, z4, z5, z6⟩ := hm_z hz
 have he : ∀ i, i < h.ws.length -> (exS h.ws n h.ws.length).getD i default = exK (h.ws.getD i default) n i 8 := fun i hi => exS_lt hi (Nat.le_refl _)
 refine ⟨hmQ hz (exS_len _ _ _) fun i hi => ?_, inL_le _ fun i hi => ?_, inH_le _ fun i hi => ?_, inLH_le _ fun i hi => ?_, inD_le _ fun i hi => ?_⟩
 · rw [exS_len] at hi
   rw [he i hi]
   exact exK_ok (z6 i hi) hn i
 · rw [he i hi]
   exact (exK_in (z6 i hi) hn i).1
 · rw [he i hi]
   exact (exK_in (z6 i hi) hn i).2.1
 · rw [he i hi]
   exact in_lh (exK_ok (z6 i hi) hn i)
 · rw [he i hi]
   exact (exK_in (z6 i hi) hn i).2.2
theorem jX_lt {h : Hm} {n : Int} (hz : fHm h = 0) (hn : 0 <= n) : jX h n < h.ws.length ∧ (jX h n : Int) = n.tmod (h.ws.length : Int) := by
 obtain ⟨z1, z2, z3, z4, z5, z6⟩ := hm_z hz
 unfold jX
 rw [Int.tmod_eq_emod_of_nonneg hn]
 have h2 := Int.emod_nonneg n (show (h.ws.length : Int) ≠ 0 by omega)
 have h3 := Int.emod_lt_of_pos n (show 0 < (h.ws.length : Int) by omega)
 omega
theorem lsH_ok {h : Hm} {n0 n1 n2 : Int} (hz : fHm h = 0) (h0 : 0 <= n0) (h1 : 0 <= n1) (h2 : 0 <= n2) : fHm (lsH h n0 n1 n2) = 0 ∧ (lsH h n0 n1 n2).ws.length = h.ws.length ∧ inL (lsH h n0 n1 n2).ws h.ws.length <= inL h.ws h.ws.length ∧ inH (lsH h n0 n1 n2).ws h.ws.length <= inH h.ws h.ws.length := by
 obtain ⟨z1, z2, z3, z4, z5, z6⟩ := hm_z hz
 have hj := (jX_lt hz h1).1
 have he : ∀ i, (lsH h n0 n1 n2).ws.getD i default = if i = jX h n1 then lsW (h.ws.getD (jX h n1) default) n0 n2 else h.ws.getD i default := fun i => set_at hj
 have hl : (lsH h n0 n1 n2).ws.length = h.ws.length := List.length_set
 refine ⟨hmQ hz hl fun i hi => ?_, hl, inL_le _ fun i hi => ?_, inH_le _ fun i hi => ?_⟩
 · have := he i
   have hi : i < (lsH h n0 n1 n2).ws.length := hi
   rw [show (h.ws.set (jX h n1) (lsW (h.ws.getD (jX h n1) default) n0 n2)).getD i default = _ from this]
   split
   · exact lsW_ok (z6 _ hj) h0 h2
   · exact z6 i (by omega)
 · rw [he i]
   split
   · rename_i e; rw [e]; exact (lsW_in (z6 _ hj) h0 h2).1
   · exact Int.le_refl _
 · rw [he i]
   split
   · rename_i e; rw [e]; exact (lsW_in (z6 _ hj) h0 h2).2
   · exact Int.le_refl _
theorem ex_p0 {ws : List Wn} {n : Int} {g : Nat} (hg : g < ws.length) : putRow (List.map encWn (exS ws n g)) g 9 [AV.i ((ws.getD g default).p0 + (n + 3 * 0 + g).tmod ((ws.getD g default).p1 - (ws.getD g default).p0 + 1)), AV.i ((ws.getD g default).p0 + (n + 3 * 0 + g).tmod ((ws.getD g default).p1 - (ws.getD g default).p0 + 1))] = List.map encWn ((exS ws n g).set g (exK (ws.getD g default) n g 1)) := by
 rw [put_wn (exK (ws.getD g default) n g 1) (by rw [exS_len]; exact hg) (by rw [exS_ge (Nat.le_refl _) (by omega)]; rfl)]
theorem ex_p1 {ws : List Wn} {n : Int} {g : Nat} (hg : g < ws.length) : putRow (List.map encWn ((exS ws n g).set g (exK (ws.getD g default) n g 1))) g 11 [AV.i ((ws.getD g default).p2 + (n + 3 * 1 + g).tmod ((ws.getD g default).p3 - (ws.getD g default).p2 + 1)), AV.i ((ws.getD g default).p2 + (n + 3 * 1 + g).tmod ((ws.getD g default).p3 - (ws.getD g default).p2 + 1))] = List.map encWn ((exS ws n g).set g (exK (ws.getD g default) n g 2)) := by
 rw [put_wn (exK (ws.getD g default) n g 2) (by rw [List.length_set, exS_len]; exact hg) (by rw [set_at (by rw [exS_len]; exact hg), if_pos rfl]; rfl), List.set_set]
theorem ex_p2 {ws : List Wn} {n : Int} {g : Nat} (hg : g < ws.length) : putRow (List.map encWn ((exS ws n g).set g (exK (ws.getD g default) n g 2))) g 13 [AV.i ((ws.getD g default).p4 + (n + 3 * 2 + g).tmod ((ws.getD g default).p5 - (ws.getD g default).p4 + 1)), AV.i ((ws.getD g default).p4 + (n + 3 * 2 + g).tmod ((ws.getD g default).p5 - (ws.getD g default).p4 + 1))] = List.map encWn ((exS ws n g).set g (exK (ws.getD g default) n g 3)) := by
 rw [put_wn (exK (ws.getD g default) n g 3) (by rw [List.length_set, exS_len]; exact hg) (by rw [set_at (by rw [exS_len]; exact hg), if_pos rfl]; rfl), List.set_set]
theorem ex_p3 {ws : List Wn} {n : Int} {g : Nat} (hg : g < ws.length) : putRow (List.map encWn ((exS ws n g).set g (exK (ws.getD g default) n g 3))) g 15 [AV.i ((ws.getD g default).p6 + (n + 3 * 3 + g).tmod ((ws.getD g default).p7 - (ws.getD g default).p6 + 1)), AV.i ((ws.getD g default).p6 + (n + 3 * 3 + g).tmod ((ws.getD g default).p7 - (ws.getD g default).p6 + 1))] = List.map encWn ((exS ws n g).set g (exK (ws.getD g default) n g 4)) := by
 rw [put_wn (exK (ws.getD g default) n g 4) (by rw [List.length_set, exS_len]; exact hg) (by rw [set_at (by rw [exS_len]; exact hg), if_pos rfl]; rfl), List.set_set]
theorem ex_p4 {ws : List Wn} {n : Int} {g : Nat} (hg : g < ws.length) : putRow (List.map encWn ((exS ws n g).set g (exK (ws.getD g default) n g 4))) g 17 [AV.i ((ws.getD g default).p8 + (n + 3 * 4 + g).tmod ((ws.getD g default).p9 - (ws.getD g default).p8 + 1)), AV.i ((ws.getD g default).p8 + (n + 3 * 4 + g).tmod ((ws.getD g default).p9 - (ws.getD g default).p8 + 1))] = List.map encWn ((exS ws n g).set g (exK (ws.getD g default) n g 5)) := by
 rw [put_wn (exK (ws.getD g default) n g 5) (by rw [List.length_set, exS_len]; exact hg) (by rw [set_at (by rw [exS_len]; exact hg), if_pos rfl]; rfl), List.set_set]
theorem ex_p5 {ws : List Wn} {n : Int} {g : Nat} (hg : g < ws.length) : putRow (List.map encWn ((exS ws n g).set g (exK (ws.getD g default) n g 5))) g 19 [AV.i ((ws.getD g default).p10 + (n + 3 * 5 + g).tmod ((ws.getD g default).p11 - (ws.getD g default).p10 + 1)), AV.i ((ws.getD g default).p10 + (n + 3 * 5 + g).tmod ((ws.getD g default).p11 - (ws.getD g default).p10 + 1))] = List.map encWn ((exS ws n g).set g (exK (ws.getD g default) n g 6)) := by
 rw [put_wn (exK (ws.getD g default) n g 6) (by rw [List.length_set, exS_len]; exact hg) (by rw [set_at (by rw [exS_len]; exact hg), if_pos rfl]; rfl), List.set_set]
theorem ex_p6 {ws : List Wn} {n : Int} {g : Nat} (hg : g < ws.length) : putRow (List.map encWn ((exS ws n g).set g (exK (ws.getD g default) n g 6))) g 21 [AV.i ((ws.getD g default).p12 + (n + 3 * 6 + g).tmod ((ws.getD g default).p13 - (ws.getD g default).p12 + 1)), AV.i ((ws.getD g default).p12 + (n + 3 * 6 + g).tmod ((ws.getD g default).p13 - (ws.getD g default).p12 + 1))] = List.map encWn ((exS ws n g).set g (exK (ws.getD g default) n g 7)) := by
 rw [put_wn (exK (ws.getD g default) n g 7) (by rw [List.length_set, exS_len]; exact hg) (by rw [set_at (by rw [exS_len]; exact hg), if_pos rfl]; rfl), List.set_set]
theorem ex_p7 {ws : List Wn} {n : Int} {g : Nat} (hg : g < ws.length) : putRow (List.map encWn ((exS ws n g).set g (exK (ws.getD g default) n g 7))) g 23 [AV.i ((ws.getD g default).p14 + (n + 3 * 7 + g).tmod ((ws.getD g default).p15 - (ws.getD g default).p14 + 1)), AV.i ((ws.getD g default).p14 + (n + 3 * 7 + g).tmod ((ws.getD g default).p15 - (ws.getD g default).p14 + 1))] = List.map encWn ((exS ws n g).set g (exK (ws.getD g default) n g 8)) := by
 rw [put_wn (exK (ws.getD g default) n g 8) (by rw [List.length_set, exS_len]; exact hg) (by rw [set_at (by rw [exS_len]; exact hg), if_pos rfl]; rfl), List.set_set]
theorem ls_p0 {ws : List Wn} {m : Int} {j : Nat} (hg : j < ws.length) : putRow (List.map encWn ws) j 9 [AV.i ((ws.getD j default).p0 - m.tmod ((ws.getD j default).p0 + 1)), AV.i ((ws.getD j default).p1 - m.tmod ((ws.getD j default).p0 + 1))] = List.map encWn (ws.set j (lsK (ws.getD j default) m 1)) := by
 rw [put_wn (lsK (ws.getD j default) m 1) hg (by rfl)]
theorem ls_p1 {ws : List Wn} {m : Int} {j : Nat} (hg : j < ws.length) : putRow (List.map encWn (ws.set j (lsK (ws.getD j default) m 1))) j 11 [AV.i ((ws.getD j default).p2 - m.tmod ((ws.getD j default).p2 + 1)), AV.i ((ws.getD j default).p3 - m.tmod ((ws.getD j default).p2 + 1))] = List.map encWn (ws.set j (lsK (ws.getD j default) m 2)) := by
 rw [put_wn (lsK (ws.getD j default) m 2) (by rw [List.length_set]; exact hg) (by rw [set_at hg, if_pos rfl]; rfl), List.set_set]
theorem ls_p2 {ws : List Wn} {m : Int} {j : Nat} (hg : j < ws.length) : putRow (List.map encWn (ws.set j (lsK (ws.getD j default) m 2))) j 13 [AV.i ((ws.getD j default).p4 - m.tmod ((ws.getD j default).p4 + 1)), AV.i ((ws.getD j default).p5 - m.tmod ((ws.getD j default).p4 + 1))] = List.map encWn (ws.set j (lsK (ws.getD j default) m 3)) := by
 rw [put_wn (lsK (ws.getD j default) m 3) (by rw [List.length_set]; exact hg) (by rw [set_at hg, if_pos rfl]; rfl), List.set_set]
theorem ls_p3 {ws : List Wn} {m : Int} {j : Nat} (hg : j < ws.length) : putRow (List.map encWn (ws.set j (lsK (ws.getD j default) m 3))) j 15 [AV.i ((ws.getD j default).p6 - m.tmod ((ws.getD j default).p6 + 1)), AV.i ((ws.getD j default).p7 - m.tmod ((ws.getD j default).p6 + 1))] = List.map encWn (ws.set j (lsK (ws.getD j default) m 4)) := by
 rw [put_wn (lsK (ws.getD j default) m 4) (by rw [List.length_set]; exact hg) (by rw [set_at hg, if_pos rfl]; rfl), List.set_set]
theorem ls_p4 {ws : List Wn} {m : Int} {j : Nat} (hg : j < ws.length) : putRow (List.map encWn (ws.set j (lsK (ws.getD j default) m 4))) j 17 [AV.i ((ws.getD j default).p8 - m.tmod ((ws.getD j default).p8 + 1)), AV.i ((ws.getD j default).p9 - m.tmod ((ws.getD j default).p8 + 1))] = List.map encWn (ws.set j (lsK (ws.getD j default) m 5)) := by
 rw [put_wn (lsK (ws.getD j default) m 5) (by rw [List.length_set]; exact hg) (by rw [set_at hg, if_pos rfl]; rfl), List.set_set]
theorem ls_p5 {ws : List Wn} {m : Int} {j : Nat} (hg : j < ws.length) : putRow (List.map encWn (ws.set j (lsK (ws.getD j default) m 5))) j 19 [AV.i ((ws.getD j default).p10 - m.tmod ((ws.getD j default).p10 + 1)), AV.i ((ws.getD j default).p11 - m.tmod ((ws.getD j default).p10 + 1))] = List.map encWn (ws.set j (lsK (ws.getD j default) m 6)) := by
 rw [put_wn (lsK (ws.getD j default) m 6) (by rw [List.length_set]; exact hg) (by rw [set_at hg, if_pos rfl]; rfl), List.set_set]
theorem ls_p6 {ws : List Wn} {m : Int} {j : Nat} (hg : j < ws.length) : putRow (List.map encWn (ws.set j (lsK (ws.getD j default) m 6))) j 21 [AV.i ((ws.getD j default).p12 - m.tmod ((ws.getD j default).p12 + 1)), AV.i ((ws.getD j default).p13 - m.tmod ((ws.getD j default).p12 + 1))] = List.map encWn (ws.set j (lsK (ws.getD j default) m 7)) := by
 rw [put_wn (lsK (ws.getD j default) m 7) (by rw [List.length_set]; exact hg) (by rw [set_at hg, if_pos rfl]; rfl), List.set_set]
theorem ls_p7 {ws : List Wn} {m : Int} {j : Nat} (hg : j < ws.length) : putRow (List.map encWn (ws.set j (lsK (ws.getD j default) m 7))) j 23 [AV.i ((ws.getD j default).p14 - m.tmod ((ws.getD j default).p14 + 1)), AV.i ((ws.getD j default).p15 - m.tmod ((ws.getD j default).p14 + 1))] = List.map encWn (ws.set j (lsK (ws.getD j default) m 8)) := by
 rw [put_wn (lsK (ws.getD j default) m 8) (by rw [List.length_set]; exact hg) (by rw [set_at hg, if_pos rfl]; rfl), List.set_set]
theorem ls_ar {ws : List Wn} {n m : Int} {j : Nat} (hg : j < ws.length) : putRow (List.map encWn (ws.set j (lsK (ws.getD j default) m 8))) j 8 [AV.i (1 + n.tmod (ws.getD j default).ar)] = List.map encWn (ws.set j (lsW (ws.getD j default) n m)) := by
 rw [put_wn (lsW (ws.getD j default) n m) (by rw [List.length_set]; exact hg) (by rw [set_at hg, if_pos rfl]; rfl), List.set_set]
theorem ls_8 {ws : List Wn} {m : Int} {j : Nat} (hg : j < ws.length) : nth (nthR (List.map encWn (ws.set j (lsK (ws.getD j default) m 8))) j) 8 = AV.i (ws.getD j default).ar := by
 rw [row_at encWn (by rw [List.length_set]; exact hg), set_at hg, if_pos rfl]
 rfl
theorem nil25 {x v r : AV} (h : PCall Tryz.prog G0 25 [x, .sl 19 [], .sl 1 [], v] r) : PCall Tryz.prog G0 25 [x, .ex (.slice none 0 0), .ex (.slice none 0 0), v] r := by
 refine ⟨h.callable, fun w X vs hX hG hz => h.run w X vs hX hG ?_⟩
 refine ⟨hz.1, fun i u a hu ha => ?_⟩
 match i, ha with
 | 0, ha => exact hz.2 0 u a hu ha
 | 1, ha => cases ha; cases hz.2 1 u _ hu rfl; exact .slE _ _ _
 | 2, ha => cases ha; cases hz.2 2 u _ hu rfl; exact .slE _ _ _
 | i + 3, ha => exact hz.2 (i + 3) u a hu ha
theorem ve_ok {h : Hm} {a b : Int} (hz : fHm h = 0) (hab : 0 <= a ∧ a <= b ∧ b <= 10000000000000) : veE h [] [] ⟨a, b⟩ = 0 ∧ veV h [] [] ⟨a, b⟩ = vdS (inL h.ws h.ws.length) (inH h.ws h.ws.length) ⟨a, b⟩ := by
 have e1 : fMs h [] = 0 := by
  have e2 : fMh h [] = 0 := by
   unfold fMh
   rw [first_zero, first_zero]
   exact ⟨hz, rfl, rfl⟩
  unfold fMs sLS
  rw [if_neg (by rw [e2]; decide)]
  rfl
 have e3 : ckE h [] [] = 0 := by
  unfold ckE
  rw [if_neg (by rw [e1]; decide)]
  rfl
 have e4 : veE h [] [] ⟨a, b⟩ = 0 := by
  unfold veE
  rw [first_zero, first_zero]
  exact ⟨e3, endsQ hab, rfl⟩
 refine ⟨e4, ?_⟩
 unfold veV
 rw [if_neg (by rw [e4]; decide)]
 rfl
theorem in_bd {h : Hm} (hz : fHm h = 0) : 0 <= inL h.ws h.ws.length ∧ inL h.ws h.ws.length <= inH h.ws h.ws.length ∧ inH h.ws h.ws.length <= 6400000000 := by
 obtain ⟨z1, z2, z3, z4, z5, z6⟩ := hm_z hz
 have h1 := inL_bd z6 _ (Nat.le_refl _)
 have h2 := inH_bd z6 _ (Nat.le_refl _)
 refine ⟨h1.1, inLH_le _ fun i hi => in_lh (z6 i hi), by omega⟩
end Go.Proofs.YtfoeefaamjknpaaGreatDoor
namespace Go.Proofs.YtfoeefaamjknpaaGreatDoor
open Go Go.Av Go.RowKit
theorem c94 (a b : Int)  : PCall Tryz.prog G0 94 [.i a, .i b] (.agg [.i a, .i b]) := by
 have key :
  AV.agg [AV.i a, AV.i b] = AV.agg [AV.i a, AV.i b] := by
   exact rfl
 exact c_of Tryz.f94 (mkB spN 94 [] noLa) (by kernel_rfl) (by kernel_rfl) (by kernel_rfl) (by kernel_rfl) key (by kernel_rfl)
end Go.Proofs.YtfoeefaamjknpaaGreatDoor
