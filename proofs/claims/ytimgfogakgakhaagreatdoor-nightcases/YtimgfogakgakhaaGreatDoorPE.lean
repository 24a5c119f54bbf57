/-
  NightCases returns true. No condition but the theorems' own. What NightCases' row says of the program's text. No condition.
-/
import Derived.Test.YtimgfogakgakhaaGreatDoorPD
import Derived.Test.YtimgfogakgakhaaGreatDoorAvD
-- ENC encRu 18 [AV.i X.a, AV.i X.b, AV.i X.c, AV.i X.d, AV.sl 3 (List.map encTp X.ts), AV.i X.q, AV.sl 1 (List.map encS X.rs), AV.i X.dl, AV.i X.fi, AV.i X.ra, AV.int IntKind.u8 X.k0, AV.int IntKind.u8 X.k1, AV.int IntKind.u8 X.k2, AV.int IntKind.u8 X.k3, AV.int IntKind.u8 X.k4, AV.int IntKind.u8 X.k5, AV.int IntKind.u8 X.k6, AV.int IntKind.u8 X.k7]
-- ENC encMv 5 [AV.str X.fl, AV.str X.al, AV.str X.ty, AV.i X.day, AV.i X.mi]
-- ENC encDt 10 [AV.str X.m.fl, AV.str X.m.al, AV.str X.m.ty, AV.i X.m.day, AV.i X.m.mi, AV.str X.k.n, AV.i X.k.c, AV.i X.k.f, AV.bool X.dk, AV.i X.ni]
-- ENC encXc 11 [AV.str X.fl, AV.str X.re, AV.i X.day, AV.int IntKind.u8 X.e0, AV.int IntKind.u8 X.e1, AV.int IntKind.u8 X.e2, AV.int IntKind.u8 X.e3, AV.int IntKind.u8 X.e4, AV.int IntKind.u8 X.e5, AV.int IntKind.u8 X.e6, AV.int IntKind.u8 X.e7]
-- ENC encCs 3 [AV.str X.fl, AV.str X.w, AV.i X.f]
namespace Go.Proofs.YtimgfogakgakhaaGreatDoor
open Go Go.Av Go.RowKit
def sp53 (r : Ru) (l : List Mv) (x : List Xc) : Nat → List AV → Option AV
  | 39, [_, .agg c] => some (.i (rFe r (decMv c)))
  | 52, _ => some (.sl 3 ((caL r l x).map encCs))
  | 109, [_, .str s] => some (.i (fiI (pM l s) l.length))
  | n, z => spS n z
def la53 (r : Ru) (l : List Mv) (x : List Xc) (al : List UInt8) (b : Nat) : Option LA :=
  if b.beq 0 then
    let K : List GS := [.keep [1, 2, 3, 4, 9, 10] [], .bound 1]
    some { pre := K, post := K
           Gh := Nat
           st := fun i => ⟨[(1, .sl 5 (l.map encMv)), (2, .sl 11 (x.map encXc)), (3, .str al), (4, .elt 18 [encRu r] 0 0), (9, .i (smF (feB r al) 0 l i)), (10, .i i)], [], 1⟩
           ok := fun i => i ≤ l.length
           ms := fun i => l.length - i }
  else
    let K : List GS := [.keep [1, 3, 9, 11, 12] [], .bound 1]
    some { pre := K, post := K
           Gh := Nat
           st := fun i => ⟨[(1, .sl 5 (l.map encMv)), (3, .str al), (9, .i (smF (fiB l al) (fees r l al) (caL r l x) i)), (11, .sl 3 ((caL r l x).map encCs)), (12, .i i)], [], 1⟩
           ok := fun i => i ≤ (caL r l x).length
           ms := fun i => (caL r l x).length - i }
theorem c53 (r : Ru) (l : List Mv) (x : List Xc) (al : List UInt8) (hO : Of r l x) : PCall Tryz.prog G0 53 [.agg (encRu r), .sl 5 (l.map encMv), .sl 11 (x.map encXc), .str al] (.i (bill r l x al)) := by
  have key :
   (∃ (g : Nat), g ≤ l.length ∧ AS.mk [(1, AV.sl 5 (List.map encMv l)), (2, AV.sl 11 (List.map encXc x)), (3, AV.str al), (4, AV.elt 18 [(encRu r)] 0 0), (9, AV.i 0), (10, AV.i 0)] [] 1 = AS.mk [(1, AV.sl 5 (List.map encMv l)), (2,
   AV.sl 11 (List.map encXc x)), (3, AV.str al), (4, AV.elt 18 [(encRu r)] 0 0), (9, AV.i (smF (feB r al) (0 : Int) l g)), (10, AV.i (↑g : Int))] [] 1) ∧ ∀ (g : Nat), g ≤ l.length → (decide ((↑g : Int) < (↑(List.map encMv l).length :
   Int)) = true → (0 : Int) ≤ (↑g : Int) ∧ (↑g : Int) < (↑(List.map encMv l).length : Int) ∧ nth (nthR (List.map encMv l) (↑g : Int).toNat) 1 = AV.str (l.getD (↑g : Int).toNat default).al ∧ (((l.getD (↑g : Int).toNat default).al ==
   al) = true → (0 : Int) ≤ (↑g : Int) ∧ (↑g : Int) < (↑(List.map encMv l).length : Int) ∧ In64 (smF (feB r al) (0 : Int) l g + rFe r (decMv (encMv (l.getD (↑g : Int).toNat default)))) ∧ AV.agg (nthR (List.map encMv l) (↑g :
   Int).toNat) = AV.agg (encMv (l.getD (↑g : Int).toNat default)) ∧ PCall Tryz.prog G0 39 [AV.agg (encRu r), AV.agg (encMv (l.getD (↑g : Int).toNat default))] (AV.i (rFe r (decMv (encMv (l.getD (↑g : Int).toNat default))))) ∧ In64
   ((↑g : Int) + 1) ∧ ∃ (g' : Nat), g' ≤ l.length ∧ l.length - g' < l.length - g ∧ AS.mk [(1, AV.sl 5 (List.map encMv l)), (2, AV.sl 11 (List.map encXc x)), (3, AV.str al), (4, AV.elt 18 [(encRu r)] 0 0), (9, AV.i (smF (feB r al) (0 :
   Int) l g + rFe r (decMv (encMv (l.getD (↑g : Int).toNat default))))), (10, AV.i ((↑g : Int) + 1))] [] 1 = AS.mk [(1, AV.sl 5 (List.map encMv l)), (2, AV.sl 11 (List.map encXc x)), (3, AV.str al), (4, AV.elt 18 [(encRu r)] 0 0), (9,
   AV.i (smF (feB r al) (0 : Int) l g')), (10, AV.i (↑g' : Int))] [] 1) ∧ (((l.getD (↑g : Int).toNat default).al == al) = false → In64 ((↑g : Int) + 1) ∧ ∃ (g' : Nat), g' ≤ l.length ∧ l.length - g' < l.length - g ∧ AS.mk [(1, AV.sl 5
   (List.map encMv l)), (2, AV.sl 11 (List.map encXc x)), (3, AV.str al), (4, AV.elt 18 [(encRu r)] 0 0), (9, AV.i (smF (feB r al) (0 : Int) l g)), (10, AV.i ((↑g : Int) + 1))] [] 1 = AS.mk [(1, AV.sl 5 (List.map encMv l)), (2, AV.sl
   11 (List.map encXc x)), (3, AV.str al), (4, AV.elt 18 [(encRu r)] 0 0), (9, AV.i (smF (feB r al) (0 : Int) l g')), (10, AV.i (↑g' : Int))] [] 1)) ∧ (decide ((↑g : Int) < (↑(List.map encMv l).length : Int)) = false → PCall Tryz.prog
   G0 52 [AV.agg (encRu r), AV.sl 5 (List.map encMv l), AV.sl 11 (List.map encXc x)] (AV.sl 3 (List.map encCs (caL r l x))) ∧ (∃ (g_1 : Nat), g_1 ≤ (caL r l x).length ∧ AS.mk [(1, AV.sl 5 (List.map encMv l)), (3, AV.str al), (9, AV.i
   (smF (feB r al) (0 : Int) l g)), (11, AV.sl 3 (List.map encCs (caL r l x))), (12, AV.i 0)] [] 1 = AS.mk [(1, AV.sl 5 (List.map encMv l)), (3, AV.str al), (9, AV.i (smF (fiB l al) (fees r l al) (caL r l x) g_1)), (11, AV.sl 3
   (List.map encCs (caL r l x))), (12, AV.i (↑g_1 : Int))] [] 1) ∧ ∀ (g : Nat), g ≤ (caL r l x).length → (decide ((↑g : Int) < (↑(List.map encCs (caL r l x)).length : Int)) = true → (0 : Int) ≤ (↑g : Int) ∧ (↑g : Int) < (↑(List.map
   encCs (caL r l x)).length : Int) ∧ (0 : Int) ≤ fiI (pM l ((caL r l x).getD (↑g : Int).toNat default).fl) l.length ∧ fiI (pM l ((caL r l x).getD (↑g : Int).toNat default).fl) l.length < (↑(List.map encMv l).length : Int) ∧ nth (nthR
   (List.map encCs (caL r l x)) (↑g : Int).toNat) 0 = AV.str ((caL r l x).getD (↑g : Int).toNat default).fl ∧ PCall Tryz.prog G0 109 [AV.sl 5 (List.map encMv l), AV.str ((caL r l x).getD (↑g : Int).toNat default).fl] (AV.i (fiI (pM l
   ((caL r l x).getD (↑g : Int).toNat default).fl) l.length)) ∧ nth (nthR (List.map encMv l) (fiI (pM l ((caL r l x).getD (↑g : Int).toNat default).fl) l.length).toNat) 1 = AV.str (l.getD (fiI (pM l ((caL r l x).getD (↑g : Int).toNat
   default).fl) l.length).toNat default).al ∧ (((l.getD (fiI (pM l ((caL r l x).getD (↑g : Int).toNat default).fl) l.length).toNat default).al == al) = true → (0 : Int) ≤ (↑g : Int) ∧ (↑g : Int) < (↑(List.map encCs (caL r l x)).length
   : Int) ∧ In64 (smF (fiB l al) (fees r l al) (caL r l x) g + ((caL r l x).getD (↑g : Int).toNat default).f) ∧ nth (nthR (List.map encCs (caL r l x)) (↑g : Int).toNat) 2 = AV.i ((caL r l x).getD (↑g : Int).toNat default).f ∧ In64
   ((↑g : Int) + 1) ∧ ∃ (g' : Nat), g' ≤ (caL r l x).length ∧ (caL r l x).length - g' < (caL r l x).length - g ∧ AS.mk [(1, AV.sl 5 (List.map encMv l)), (3, AV.str al), (9, AV.i (smF (fiB l al) (fees r l al) (caL r l x) g + ((caL r l
   x).getD (↑g : Int).toNat default).f)), (11, AV.sl 3 (List.map encCs (caL r l x))), (12, AV.i ((↑g : Int) + 1))] [] 1 = AS.mk [(1, AV.sl 5 (List.map encMv l)), (3, AV.str al), (9, AV.i (smF (fiB l al) (fees r l al) (caL r l x) g')),
   (11, AV.sl 3 (List.map encCs (caL r l x))), (12, AV.i (↑g' : Int))] [] 1) ∧ (((l.getD (fiI (pM l ((caL r l x).getD (↑g : Int).toNat default).fl) l.length).toNat default).al == al) = false → In64 ((↑g : Int) + 1) ∧ ∃ (g' : Nat), g'
   ≤ (caL r l x).length ∧ (caL r l x).length - g' < (caL r l x).length - g ∧ AS.mk [(1, AV.sl 5 (List.map encMv l)), (3, AV.str al), (9, AV.i (smF (fiB l al) (fees r l al) (caL r l x) g)), (11, AV.sl 3 (List.map encCs (caL r l x))),
   (12, AV.i ((↑g : Int) + 1))] [] 1 = AS.mk [(1, AV.sl 5 (List.map encMv l)), (3, AV.str al), (9, AV.i (smF (fiB l al) (fees r l al) (caL r l x) g')), (11, AV.sl 3 (List.map encCs (caL r l x))), (12, AV.i (↑g' : Int))] [] 1)) ∧
   (decide ((↑g : Int) < (↑(List.map encCs (caL r l x)).length : Int)) = false → AV.i (smF (fiB l al) (fees r l al) (caL r l x) g) = AV.i (bill r l x al))) := by
    have hlk := hO.S.k
    have h0 := (ex_ok hO.e).1
    have hV := (mv_ok h0).2.1
    have hfb := fees_bd hV al
    have hcl := ca_len r l x
    have hfs := hfb l.length (Nat.le_refl _)
    have hcb := fun i => sm_bd (f := fiB l al) (n := fees r l al) (N := 200000000) (b := 100000) (l := caL r l x) (by unfold fees; omega) (fun c hc => fiB_bd (mv_ok h0).1 al c hc) i
    have : (List.map encMv l).length = l.length := by simp only [List.length_map]
    have : (List.map encCs (caL r l x)).length = (caL r l x).length := by simp only [List.length_map]
    refine ⟨⟨0, by omega, rfl⟩, fun g hg => ⟨fun hd => ?_, fun hd => ?_⟩⟩
    · have hlt : g < l.length := by have h9 := of_decide_eq_true hd; have h8 := hg; (try simp only [List.length_map] at h8); (try simp only [List.length_map] at h9); omega
      try rw [show (↑g : Int).toNat = g from Int.toNat_natCast g]
      have hgb := hfb g (by omega)
      have hgm := getD_mem hlt
      have hg64 := fe_bd hV.1 (hV.2 _ hgm)
      try rw [show (↑g : Int).toNat = g from Int.toNat_natCast g]
      refine ⟨(by omega), (by omega), congrArg (fun r => nth r 1) (row_at encMv hlt), fun h1 => ⟨(by omega), (by omega), (by show In64 (_ + rFe r (l.getD g default)); unfold In64; omega), congrArg AV.agg (row_at encMv hlt), (c39 r _ hO.S.t (hV.2 _ hgm).t (fe64 hV hgm)), (by unfold In64; omega), ⟨g + 1, by omega, by omega, ?_⟩⟩, fun h1 => ⟨(by unfold In64; omega), ⟨g + 1, by omega, by omega, ?_⟩⟩⟩
      · rw [smF_t (f := feB r al) (show feB r al (l.getD g default) = _ from if_pos h1)]; rfl
      · rw [smF_0 (f := feB r al) (show feB r al (l.getD g default) = 0 from if_neg (by rw [h1]; decide))]; rfl
    · have hge : g = l.length := by have h9 := of_decide_eq_false hd; have h8 := hg; (try simp only [List.length_map] at h8); (try simp only [List.length_map] at h9); omega
      subst hge
      refine ⟨((c52 r l x hO).un), ⟨⟨0, by omega, rfl⟩, fun g hg2 => ⟨fun hd2 => ?_, fun hd2 => ?_⟩⟩⟩
      · have hlt2 : g < (caL r l x).length := by have h9 := of_decide_eq_true hd2; have h8 := hg2; (try simp only [List.length_map] at h8); (try simp only [List.length_map] at h9); omega
        try rw [show (↑g : Int).toNat = g from Int.toNat_natCast g]
        have hgb := hcb g (by omega)
        have hgm := getD_mem hlt2
        have hgf : 0 ≤ ((caL r l x).getD g default).f ∧ ((caL r l x).getD g default).f ≤ 100000 := by
          obtain ⟨-, -, -, e⟩ := ca_mem hgm
          rw [e]
          exact (ru_more (mv_ok h0).1).2.1
        have hfd := ca_found hgm
        have hfi := fiI_bd hfd
        have hma : mvAt l ((caL r l x).getD g default).fl = l.getD (fiI (pM l ((caL r l x).getD g default).fl) l.length).toNat default := by rw [mvAt, if_pos hfd, hfi.2.2]
        try rw [show (↑g : Int).toNat = g from Int.toNat_natCast g]
        refine ⟨(by omega), (by omega), (by omega), (by omega), congrArg (fun r => nth r 0) (row_at encCs hlt2), (c109 l _ hlk), congrArg (fun r => nth r 1) (row_at encMv (by omega)), fun h1 => ⟨(by omega), (by omega), (by unfold In64; omega), congrArg (fun r => nth r 2) (row_at encCs hlt2), (by unfold In64; omega), ⟨g + 1, by omega, by omega, ?_⟩⟩, fun h1 => ⟨(by unfold In64; omega), ⟨g + 1, by omega, by omega, ?_⟩⟩⟩
        · rw [smF_t (f := fiB l al) (show fiB l al ((caL r l x).getD g default) = _ from if_pos (by rw [hma]; exact h1))]; rfl
        · rw [smF_0 (f := fiB l al) (show fiB l al ((caL r l x).getD g default) = 0 from if_neg (by rw [hma, h1]; decide))]; rfl
      · have hge2 : g = (caL r l x).length := by have h9 := of_decide_eq_false hd2; have h8 := hg2; (try simp only [List.length_map] at h8); (try simp only [List.length_map] at h9); omega
        subst hge2
        first | rfl | trivial --HOLE 1
  exact c_of Tryz.f53 (fzB (mkB (sp53 r l x) 53 [(5, 4, rdL 5 encMv l 1 false), (6, 5, rdL 5 encMv l 5 true), (11, 6, rdL 3 encCs (caL r l x) 1 false), (11, 10, rdL 5 encMv l 1 false), (12, 5, rdL 3 encCs (caL r l x) 1 false)] (la53 r l x al))) (by kernel_rfl) (by kernel_rfl) (by kernel_rfl) (by kernel_rfl) key (by kernel_rfl)
def la123 (L : List Cs) : LA := {
  pre := [.keep [0, 1, 5] [], .bound 1], post := [.keep [0, 1, 5] [], .bound 1]
  Gh := Nat
  st := fun i => ⟨[(0, .sl 3 (L.map encCs)), (1, .sl 3 (L.map encCs)), (5, .i i)], [], 1⟩
  ok := fun i => i ≤ L.length
  ms := fun i => L.length - i }
theorem c123 (L : List Cs) (hl : L.length ≤ 1000) : PCall Tryz.prog G0 123 [.sl 3 (L.map encCs), .sl 3 (L.map encCs)] (.bool true) := by
  have key :
   AV.bool ((↑(List.map encCs L).length : Int) != (↑(List.map encCs L).length : Int)) = AV.bool false ∧ (∃ (g : Nat), g ≤ L.length ∧ AS.mk [(0, AV.sl 3 (List.map encCs L)), (1, AV.sl 3 (List.map encCs L)), (5, AV.i 0)] [] 1 = AS.mk
   [(0, AV.sl 3 (List.map encCs L)), (1, AV.sl 3 (List.map encCs L)), (5, AV.i (↑g : Int))] [] 1) ∧ ∀ (g : Nat), g ≤ L.length → (decide ((↑g : Int) < (↑(List.map encCs L).length : Int)) = true → (0 : Int) ≤ (↑g : Int) ∧ (↑g : Int) <
   (↑(List.map encCs L).length : Int) ∧ (0 : Int) ≤ (↑g : Int) ∧ (↑g : Int) < (↑(List.map encCs L).length : Int) ∧ AV.agg (nthR (List.map encCs L) (↑g : Int).toNat) = AV.agg (encCs (L.getD (↑g : Int).toNat default)) ∧ AV.agg (nthR
   (List.map encCs L) (↑g : Int).toNat) = AV.agg (encCs (L.getD (↑g : Int).toNat default)) ∧ (AV.bool !((L.getD (↑g : Int).toNat default).fl == (L.getD (↑g : Int).toNat default).fl && true && ((L.getD (↑g : Int).toNat default).w ==
   (L.getD (↑g : Int).toNat default).w && true && ((L.getD (↑g : Int).toNat default).f == (L.getD (↑g : Int).toNat default).f && true && true)))) = AV.bool false ∧ In64 ((↑g : Int) + 1) ∧ ∃ (g' : Nat), g' ≤ L.length ∧ L.length - g' <
   L.length - g ∧ AS.mk [(0, AV.sl 3 (List.map encCs L)), (1, AV.sl 3 (List.map encCs L)), (5, AV.i ((↑g : Int) + 1))] [] 1 = AS.mk [(0, AV.sl 3 (List.map encCs L)), (1, AV.sl 3 (List.map encCs L)), (5, AV.i (↑g' : Int))] [] 1) ∧
   (decide ((↑g : Int) < (↑(List.map encCs L).length : Int)) = false → AV.bool true = AV.bool true) := by
    have : (List.map encCs L).length = L.length := by simp only [List.length_map]
    refine ⟨congrArg AV.bool (bne_self_eq_false _), ⟨⟨0, by omega, rfl⟩, fun g hg => ⟨fun hd => ?_, fun hd => ?_⟩⟩⟩
    · have hlt : g < L.length := by have h9 := of_decide_eq_true hd; have h8 := hg; (try simp only [List.length_map] at h8); (try simp only [List.length_map] at h9); omega
      try rw [show (↑g : Int).toNat = g from Int.toNat_natCast g]
      refine ⟨(by omega), (by omega), (by omega), (by omega), congrArg AV.agg (row_at encCs hlt), congrArg AV.agg (row_at encCs hlt), ?_, (by unfold In64; omega), ⟨g + 1, by omega, by omega, rfl⟩⟩
      · simp
    · have hge : g = L.length := by have h9 := of_decide_eq_false hd; have h8 := hg; (try simp only [List.length_map] at h8); (try simp only [List.length_map] at h9); omega
      subst hge
      exact rfl
  exact c_of Tryz.f123 ({ noSyms [1, 6] (mkB spS 123 [(1, 4, rdF), (6, 8, rdF), (6, 3, rdL 3 encCs L 3 true), (6, 7, rdL 3 encCs L 3 true)] (la1 (la123 L))) with cl := clL [10, 25] }) (by kernel_rfl) (by kernel_rfl) (by kernel_rfl) (by kernel_rfl) key (by kernel_rfl)
def la55 (L : List Cs) : LA := {
  pre := [.own 9 187 3, .reno 9 1, .keep [1, 2, 3, 9, 12, 13, 14] [1], .bound 2], post := [.reno 9 1, .keep [1, 2, 3, 9, 12, 13, 14] [1], .bound 2]
  Gh := Nat
  st := fun i => ⟨[(1, .i 0), (2, .i 0), (3, .sl 3 (L.map encCs)), (9, .own 1 ((L.take i).map encCs).length), (12, .sl 3 (L.map encCs)), (13, .i (L.map encCs).length), (14, .i i)], [(1, .buf 187 3 ((L.take i).map encCs))], 2⟩
  ok := fun i => i ≤ (L.map encCs).length
  ms := fun i => (L.map encCs).length - i }
theorem c55b (L : List Cs) (hl : L.length ≤ 1000) : PCall Tryz.prog G0 55 [.sl 3 (L.map encCs), .i 0, .i 0, .sl 3 (L.map encCs)] (.bool true) := by
  have key :
   (∃ (g : Nat), g ≤ (List.map encCs L).length ∧ AS.mk [(1, AV.i 0), (2, AV.i 0), (3, AV.sl 3 (List.map encCs L)), (9, AV.own 1 0), (12, AV.sl 3 (List.map encCs L)), (13, AV.i (↑(List.map encCs L).length : Int)), (14, AV.i 0)] [(1,
   ABlk.buf 187 3 [])] 2 = AS.mk [(1, AV.i 0), (2, AV.i 0), (3, AV.sl 3 (List.map encCs L)), (9, AV.own 1 (List.map encCs (List.take g L)).length), (12, AV.sl 3 (List.map encCs L)), (13, AV.i (↑(List.map encCs L).length : Int)), (14,
   AV.i (↑g : Int))] [(1, ABlk.buf 187 3 (List.map encCs (List.take g L)))] 2) ∧ ∀ (g : Nat), g ≤ (List.map encCs L).length → (decide ((↑g : Int) < (↑(List.map encCs L).length : Int)) = true → (0 : Int) ≤ (↑g : Int) ∧ (↑g : Int) <
   (↑(List.map encCs L).length : Int) ∧ AV.agg (nthR (List.map encCs L) (↑g : Int).toNat) = AV.agg (encCs (L.getD (↑g : Int).toNat default)) ∧ (List.map encCs (List.take g L)).length + 1 ≤ 9223372036854775807 ∧ ((List.map encCs
   (List.take g L)).length + 1) * 40 ≤ 140737488355328 ∧ In64 ((↑g : Int) + 1) ∧ ∃ (g' : Nat), g' ≤ (List.map encCs L).length ∧ (List.map encCs L).length - g' < (List.map encCs L).length - g ∧ AS.mk [(1, AV.i 0), (2, AV.i 0), (3,
   AV.sl 3 (List.map encCs L)), (9, AV.own 1 ((List.map encCs (List.take g L)).length + 1)), (12, AV.sl 3 (List.map encCs L)), (13, AV.i (↑(List.map encCs L).length : Int)), (14, AV.i ((↑g : Int) + 1))] [(1, ABlk.buf 187 3 (List.map
   encCs (List.take g L) ++ [(encCs (L.getD (↑g : Int).toNat default))]))] 2 = AS.mk [(1, AV.i 0), (2, AV.i 0), (3, AV.sl 3 (List.map encCs L)), (9, AV.own 1 (List.map encCs (List.take g' L)).length), (12, AV.sl 3 (List.map encCs L)),
   (13, AV.i (↑(List.map encCs L).length : Int)), (14, AV.i (↑g' : Int))] [(1, ABlk.buf 187 3 (List.map encCs (List.take g' L)))] 2) ∧ (decide ((↑g : Int) < (↑(List.map encCs L).length : Int)) = false → (false = true → false = true) ∧
   PCall Tryz.prog G0 123 [AV.sl 3 (List.map encCs (List.take g L)), AV.sl 3 (List.map encCs L)] (AV.bool true) ∧ AV.bool true = AV.bool true) := by
    have : (List.map encCs L).length = L.length := by simp only [List.length_map]
    refine ⟨⟨0, by omega, rfl⟩, fun g hg => ⟨fun hd => ?_, fun hd => ?_⟩⟩
    · have hlt : g < L.length := by have h9 := of_decide_eq_true hd; have h8 := hg; (try simp only [List.length_map] at h8); (try simp only [List.length_map] at h9); omega
      have : (List.map encCs (List.take g L)).length = g := by simp only [List.length_map, List.length_take]; omega
      try rw [show (↑g : Int).toNat = g from Int.toNat_natCast g]
      refine ⟨(by omega), (by omega), congrArg AV.agg (row_at encCs hlt), (by omega), (by omega), (by unfold In64; omega), ⟨g + 1, by omega, by omega, ?_⟩⟩
      · first | (rw [← take_succ_map _ _ hlt, List.length_append]; rfl) | (rw [← take_succ _ hlt, List.length_append]; rfl)
    · have hge : g = L.length := by have h9 := of_decide_eq_false hd; have h8 := hg; (try simp only [List.length_map] at h8); (try simp only [List.length_map] at h9); omega
      subst hge
      refine ⟨fun h => h, ?_, rfl⟩
      · rw [List.take_length]
        exact c123 L hl
  exact c_of Tryz.f55 ({ noSyms [7] (fzB (mkB (fun n z => match n with | 123 => some (.bool true) | _ => spS n z) 55 [(4, 1, rdL 3 encCs L 3 true)] (la1 (la55 L)))) with bx := fun i => if i.beq 0 then [.frzo 9] else [] }) (by kernel_rfl) (by kernel_rfl) (by kernel_rfl) (by kernel_rfl) key (by kernel_rfl)
theorem c55a (e : Int) (he : e ≠ 0) : PCall Tryz.prog G0 55 [.sl 3 [], .i e, .i e, .sl 3 []] (.bool true) := by
  have key :
   (true = false → false = true) ∧ AV.bool (e == e) = AV.bool true ∧ AV.bool (e != 0) = AV.bool true ∧ AV.bool true = AV.bool true ∧ AV.bool true = AV.bool true := by
    exact ⟨fun h => by first | exact h | (rw [h]; rfl) | simp_all, congrArg AV.bool (beq_self_eq_true _), congrArg AV.bool (by simpa using he), rfl, rfl⟩
  exact c_of Tryz.f55 ({ noSyms [7] (mkB spS 55 (lits true [(7, 2), (7, 5), (7, 9)]) noLa) with cl := clL [15], gs := fun i => if i.beq 1 then [.nil 9 3] else [] }) (by kernel_rfl) (by kernel_rfl) (by kernel_rfl) (by kernel_rfl) key (by kernel_rfl)
def sp46 (l : List Mv) (x : List Xc) : Nat → List AV → Option AV
  | 30, _ => some (.bool (shM l))
  | 118, _ => some (.bool (shX x))
  | n, z => spS n z
theorem c46 (l : List Mv) (x : List Xc) (hn : l.length ≤ maxLen) (hx : x.length ≤ maxLen) : PCall Tryz.prog G0 46 [.agg [.sl 5 (l.map encMv), .sl 11 (x.map encXc)]] (.bool (if shM l = true then shX x else false)) := by
  have key :
   (shM l = true → shM l = true) ∧ (shM l = true → shM l = true) ∧ (shM l = true → shM l = true) ∧ PCall Tryz.prog G0 30 [AV.sl 5 (List.map encMv l)] (AV.bool (shM l)) ∧ impB (shM l) (PCall Tryz.prog G0 118 [AV.sl 11 (List.map encXc
   x)] (AV.bool (shX x))) ∧ AV.bool (if shM l = true then shX x else false) = AV.bool (if shM l = true then shX x else false) := by
    exact ⟨fun h => h, fun h => h, fun h => h, (c30 l hn), impB_iff.2 fun hb => (c118 x hx), rfl⟩
  exact c_of Tryz.f46 (mkB (sp46 l x) 46 [] noLa) (by kernel_rfl) (by kernel_rfl) (by kernel_rfl) (by kernel_rfl) key (by kernel_rfl)
end Go.Proofs.YtimgfogakgakhaaGreatDoor
-- ENC encRu 18 [AV.i X.a, AV.i X.b, AV.i X.c, AV.i X.d, AV.sl 3 (List.map encTp X.ts), AV.i X.q, AV.sl 1 (List.map encS X.rs), AV.i X.dl, AV.i X.fi, AV.i X.ra, AV.int IntKind.u8 X.k0, AV.int IntKind.u8 X.k1, AV.int IntKind.u8 X.k2, AV.int IntKind.u8 X.k3, AV.int IntKind.u8 X.k4, AV.int IntKind.u8 X.k5, AV.int IntKind.u8 X.k6, AV.int IntKind.u8 X.k7]
-- ENC encMv 5 [AV.str X.fl, AV.str X.al, AV.str X.ty, AV.i X.day, AV.i X.mi]
-- ENC encDt 10 [AV.str X.m.fl, AV.str X.m.al, AV.str X.m.ty, AV.i X.m.day, AV.i X.m.mi, AV.str X.k.n, AV.i X.k.c, AV.i X.k.f, AV.bool X.dk, AV.i X.ni]
-- ENC encXc 11 [AV.str X.fl, AV.str X.re, AV.i X.day, AV.int IntKind.u8 X.e0, AV.int IntKind.u8 X.e1, AV.int IntKind.u8 X.e2, AV.int IntKind.u8 X.e3, AV.int IntKind.u8 X.e4, AV.int IntKind.u8 X.e5, AV.int IntKind.u8 X.e6, AV.int IntKind.u8 X.e7]
-- ENC encCs 3 [AV.str X.fl, AV.str X.w, AV.i X.f]
namespace Go.Proofs.YtimgfogakgakhaaGreatDoor
open Go Go.Av Go.RowKit
def b6 (r : Ru) (l : List Mv) (x : List Xc) (al : List UInt8) : Int := if eB6 r l x al == 0 then bill r l x al else 0
theorem shX_ok {x : List Xc} (h : shX x = true) : x.length ≤ 1000 ∧ ∀ y, y ∈ x → y.fl.length ≤ 400 ∧ y.re.length ≤ 400 := by
  unfold shX at h
  by_cases q : (if decide ((x.length : Int) > 12) = true then (x.length : Int) != 257 else false) = true
  · rw [if_pos q] at h; cases h
  · rw [if_neg q] at h
    refine ⟨?_, fun y hy => ?_⟩
    · by_cases q2 : decide ((x.length : Int) > 12) = true
      · rw [if_pos q2] at q
        simp only [bne_iff_ne, ne_eq, Classical.not_not] at q
        omega
      · simp only [decide_eq_true_eq] at q2
        omega
    · have := List.all_eq_true.1 h y hy
      unfold okX at this
      by_cases q1 : (y.fl.length : Int) > 40
      · rw [decide_eq_true q1] at this; simp at this
      · by_cases q2 : (y.re.length : Int) > 40
        · rw [decide_eq_true q2] at this; simp at this
        · exact ⟨by omega, by omega⟩
def sp6 (r : Ru) (l : List Mv) (x : List Xc) (al : List UInt8) : Nat → List AV → Option AV
  | 16, _ => some (.bool true)
  | 17, _ => some (.bool (shR r))
  | 46, _ => some (.bool (if shM l = true then shX x else false))
  | 21, _ => some (.agg (encRu r))
  | 32, [.sl _ rows] => some (.sl 5 rows)
  | 48, [.sl _ rows] => some (.sl 11 rows)
  | 47, _ => some (.tup [.sl 3 ((ca6 r l x).map encCs), .i (exR r l x)])
  | 49, _ => some (.tup [.i (b6 r l x al), .i (eB6 r l x al)])
  | 50, _ => some (.i (exR r l x))
  | 52, _ => some (.sl 3 ((caL r l x).map encCs))
  | 53, _ => some (.i (bill r l x al))
  | 54, _ => some (.i (exR r l x))
  | 55, _ => some (.bool true)
  | 24, _ => some (.i (eB6 r l x al))
  | n, z => spS n z
theorem c49r {r : Ru} {l : List Mv} {x : List Xc} {al : List UInt8} (hS : Sh r l) (hk : KyOK r) (hx : x.length ≤ 1000 ∧ ∀ y, y ∈ x → y.fl.length ≤ 400 ∧ y.re.length ≤ 400) (ha : al.length ≤ 1000) : PCall Tryz.prog G0 49 [.agg (encRu r), .sl 5 (l.map encMv), .sl 11 (x.map encXc), .str al] (.tup [.i (b6 r l x al), .i (eB6 r l x al)]) := by
  have := c49 r l x al hS hk hx.1 hx.2 ha
  cases q : (eB6 r l x al == 0) with
  | true => rw [if_neg (nbne_beq q)] at this; rw [b6, if_pos q]; exact this
  | false => rw [if_pos (bne_beq q)] at this; rw [b6, if_neg (by rw [q]; decide)]; exact this
theorem of_mk {r : Ru} {l : List Mv} {x : List Xc} (hS : Sh r l) (hk : KyOK r) (hx : x.length ≤ 1000 ∧ ∀ y, y ∈ x → y.fl.length ≤ 400 ∧ y.re.length ≤ 400) (h : (exR r l x == 0) = true) : Of r l x := ⟨hS, hk, by simpa using h, hx.1, hx.2⟩
theorem eB_of {r : Ru} {l : List Mv} {x : List Xc} {al : List UInt8} (h : (eB6 r l x al == 0) = true) : (exR r l x == 0) = true := by
  have h : eB6 r l x al = 0 := by simpa using h
  unfold eB6 at h
  rw [first_zero] at h
  rw [h.1]
  rfl
theorem c6 (r : Ru) (l : List Mv) (x : List Xc) (al : List UInt8) (hA : PCall Tryz.prog G0 16 [] (.bool true)) (hl : r.ts.length ≤ maxLen) (hm : r.rs.length ≤ maxLen) (hn : l.length ≤ maxLen) (hx0 : x.length ≤ maxLen) (hk : KyOK r) : PCall Tryz.prog G0 6 [.agg (encRu r), .agg [.sl 5 (l.map encMv), .sl 11 (x.map encXc)], .str al] (.bool true) := by
  have key :
   (true = true → true = true) ∧ (true = true → true = true) ∧ (false = false → true = true) ∧ ((!!shR r) = true → (!!shR r) = true) ∧ ((!!shR r) = true → (!!shR r) = true) ∧ ((!shR r) = false → (!!shR r) = true) ∧ ((!if (!shR r) =
   true then true else !if shM l = true then shX x else false) = true → (!if (!shR r) = true then true else !if shM l = true then shX x else false) = true) ∧ ((!if (!shR r) = true then true else !if shM l = true then shX x else false)
   = true → (!if (!shR r) = true then true else !if shM l = true then shX x else false) = true) ∧ ((if (!shR r) = true then true else !if shM l = true then shX x else false) = false → (!if (!shR r) = true then true else !if shM l =
   true then shX x else false) = true) ∧ PCall Tryz.prog G0 16 [] (AV.bool true) ∧ PCall Tryz.prog G0 17 [AV.agg (encRu r)] (AV.bool (shR r)) ∧ impB (!!shR r) (PCall Tryz.prog G0 46 [AV.agg [AV.sl 5 (List.map encMv l), AV.sl 11
   (List.map encXc x)]] (AV.bool (if shM l = true then shX x else false))) ∧ ((if (if (!shR r) = true then true else !if shM l = true then shX x else false) = true then true else decide ((↑al.length : Int) > 40)) = true → PCall
   Tryz.prog G0 16 [] (AV.bool true) ∧ AV.bool true = AV.bool true) ∧ ((if (if (!shR r) = true then true else !if shM l = true then shX x else false) = true then true else decide ((↑al.length : Int) > 40)) = false → PCall Tryz.prog G0
   21 [AV.agg (encRu r)] (AV.agg (encRu r)) ∧ PCall Tryz.prog G0 32 [AV.sl 5 (List.map encMv l)] (AV.sl 5 (List.map encMv l)) ∧ PCall Tryz.prog G0 48 [AV.sl 11 (List.map encXc x)] (AV.sl 11 (List.map encXc x)) ∧ PCall Tryz.prog G0 47
   [AV.agg (encRu r), AV.sl 5 (List.map encMv l), AV.sl 11 (List.map encXc x)] (AV.tup [AV.sl 3 (List.map encCs (ca6 r l x)), AV.i (exR r l x)]) ∧ PCall Tryz.prog G0 21 [AV.agg (encRu r)] (AV.agg (encRu r)) ∧ PCall Tryz.prog G0 32
   [AV.sl 5 (List.map encMv l)] (AV.sl 5 (List.map encMv l)) ∧ PCall Tryz.prog G0 48 [AV.sl 11 (List.map encXc x)] (AV.sl 11 (List.map encXc x)) ∧ PCall Tryz.prog G0 49 [AV.agg (encRu r), AV.sl 5 (List.map encMv l), AV.sl 11 (List.map
   encXc x), AV.str al] (AV.tup [AV.i (b6 r l x al), AV.i (eB6 r l x al)]) ∧ PCall Tryz.prog G0 50 [AV.agg (encRu r), AV.sl 5 (List.map encMv l), AV.sl 11 (List.map encXc x)] (AV.i (exR r l x)) ∧ PCall Tryz.prog G0 51 [AV.str al]
   (AV.i (sWhen (!sName al) (8 : Int))) ∧ PCall Tryz.prog G0 24 [AV.sl 1 [[AV.i (exR r l x)], [AV.i (sWhen (!sName al) (8 : Int))]]] (AV.i (eB6 r l x al)) ∧ ((exR r l x == 0) = true → PCall Tryz.prog G0 52 [AV.agg (encRu r), AV.sl 5
   (List.map encMv l), AV.sl 11 (List.map encXc x)] (AV.sl 3 (List.map encCs (caL r l x))) ∧ ((eB6 r l x al == 0) = true → PCall Tryz.prog G0 53 [AV.agg (encRu r), AV.sl 5 (List.map encMv l), AV.sl 11 (List.map encXc x), AV.str al]
   (AV.i (bill r l x al)) ∧ PCall Tryz.prog G0 21 [AV.agg (encRu r)] (AV.agg (encRu r)) ∧ PCall Tryz.prog G0 32 [AV.sl 5 (List.map encMv l)] (AV.sl 5 (List.map encMv l)) ∧ PCall Tryz.prog G0 48 [AV.sl 11 (List.map encXc x)] (AV.sl 11
   (List.map encXc x)) ∧ PCall Tryz.prog G0 54 [AV.agg (encRu r), AV.sl 5 (List.map encMv l), AV.sl 11 (List.map encXc x)] (AV.i (exR r l x)) ∧ AV.bool (exR r l x == exR r l x) = AV.bool true ∧ PCall Tryz.prog G0 55 [AV.sl 3 (List.map
   encCs (ca6 r l x)), AV.i (exR r l x), AV.i (exR r l x), AV.sl 3 (List.map encCs (caL r l x))] (AV.bool true) ∧ AV.bool (b6 r l x al == bill r l x al) = AV.bool true ∧ AV.bool (eB6 r l x al == eB6 r l x al) = AV.bool true ∧ AV.bool
   true = AV.bool true) ∧ ((eB6 r l x al == 0) = false → PCall Tryz.prog G0 21 [AV.agg (encRu r)] (AV.agg (encRu r)) ∧ PCall Tryz.prog G0 32 [AV.sl 5 (List.map encMv l)] (AV.sl 5 (List.map encMv l)) ∧ PCall Tryz.prog G0 48 [AV.sl 11
   (List.map encXc x)] (AV.sl 11 (List.map encXc x)) ∧ PCall Tryz.prog G0 54 [AV.agg (encRu r), AV.sl 5 (List.map encMv l), AV.sl 11 (List.map encXc x)] (AV.i (exR r l x)) ∧ AV.bool (exR r l x == exR r l x) = AV.bool true ∧ PCall
   Tryz.prog G0 55 [AV.sl 3 (List.map encCs (ca6 r l x)), AV.i (exR r l x), AV.i (exR r l x), AV.sl 3 (List.map encCs (caL r l x))] (AV.bool true) ∧ AV.bool (b6 r l x al == 0) = AV.bool true ∧ AV.bool (eB6 r l x al == eB6 r l x al) =
   AV.bool true ∧ AV.bool true = AV.bool true)) ∧ ((exR r l x == 0) = false → ((eB6 r l x al == 0) = true → PCall Tryz.prog G0 53 [AV.agg (encRu r), AV.sl 5 (List.map encMv l), AV.sl 11 (List.map encXc x), AV.str al] (AV.i (bill r l x
   al)) ∧ PCall Tryz.prog G0 21 [AV.agg (encRu r)] (AV.agg (encRu r)) ∧ PCall Tryz.prog G0 32 [AV.sl 5 (List.map encMv l)] (AV.sl 5 (List.map encMv l)) ∧ PCall Tryz.prog G0 48 [AV.sl 11 (List.map encXc x)] (AV.sl 11 (List.map encXc
   x)) ∧ PCall Tryz.prog G0 54 [AV.agg (encRu r), AV.sl 5 (List.map encMv l), AV.sl 11 (List.map encXc x)] (AV.i (exR r l x)) ∧ AV.bool (exR r l x == exR r l x) = AV.bool true ∧ PCall Tryz.prog G0 55 [AV.sl 3 (List.map encCs (ca6 r l
   x)), AV.i (exR r l x), AV.i (exR r l x), AV.sl 3 []] (AV.bool true) ∧ AV.bool (b6 r l x al == bill r l x al) = AV.bool true ∧ AV.bool (eB6 r l x al == eB6 r l x al) = AV.bool true ∧ AV.bool true = AV.bool true) ∧ ((eB6 r l x al ==
   0) = false → PCall Tryz.prog G0 21 [AV.agg (encRu r)] (AV.agg (encRu r)) ∧ PCall Tryz.prog G0 32 [AV.sl 5 (List.map encMv l)] (AV.sl 5 (List.map encMv l)) ∧ PCall Tryz.prog G0 48 [AV.sl 11 (List.map encXc x)] (AV.sl 11 (List.map
   encXc x)) ∧ PCall Tryz.prog G0 54 [AV.agg (encRu r), AV.sl 5 (List.map encMv l), AV.sl 11 (List.map encXc x)] (AV.i (exR r l x)) ∧ AV.bool (exR r l x == exR r l x) = AV.bool true ∧ PCall Tryz.prog G0 55 [AV.sl 3 (List.map encCs
   (ca6 r l x)), AV.i (exR r l x), AV.i (exR r l x), AV.sl 3 []] (AV.bool true) ∧ AV.bool (b6 r l x al == 0) = AV.bool true ∧ AV.bool (eB6 r l x al == eB6 r l x al) = AV.bool true ∧ AV.bool true = AV.bool true))) := by
    refine ⟨fun h => h, fun h => h, fun h => by first | exact h | (rw [h]; rfl) | simp_all, fun h => h, fun h => h, fun h => by first | exact h | (rw [h]; rfl) | simp_all, fun h => h, fun h => h, fun h => by first | exact h | (rw [h]; rfl) | simp_all, hA, (c17 r hl hm), impB_iff.2 fun hb => (c46 l x hn hx0), fun h1 => ⟨hA, rfl⟩, fun h1 => ?_⟩
    · obtain ⟨hx, hx3⟩ := or_f h1
      obtain ⟨hx1, hx2⟩ := sh_or hx
      have hxm : shM l = true ∧ shX x = true := by
        revert hx2
        cases shM l <;> cases shX x <;> simp
      have hS : Sh r l := sh_mv hx1 hxm.1
      have hX := shX_ok hxm.2
      have ha : al.length ≤ 1000 := by have := of_decide_eq_false hx3; omega
      have hlm := ca_len r l x
      have hlk := hS.k
      refine ⟨(c21 r hS.t hS.s), ((c32 l hS.k).un), ((c48 x hX.1).un), (c47 r l x hS hk hX.1 hX.2), (c21 r hS.t hS.s), ((c32 l hS.k).un), ((c48 x hX.1).un), (c49r hS hk hX ha), (c50 r l x hS hX.1 (fun y hy => by have := (hX.2 y hy).2; omega)), (c51 _ (by omega)), ?_, fun h2 => ⟨((c52 r l x (of_mk hS hk hX h2)).un), fun h3 => ⟨(c53 r l x al (of_mk hS hk hX (eB_of (by assumption)))), (c21 r hS.t hS.s), ((c32 l hS.k).un), ((c48 x hX.1).un), (c54r hS hX.1 (fun y hy => by have := (hX.2 y hy).2; omega)), congrArg AV.bool (beq_self_eq_true _), ?_, ?_, congrArg AV.bool (beq_self_eq_true _), rfl⟩, fun h3 => ⟨(c21 r hS.t hS.s), ((c32 l hS.k).un), ((c48 x hX.1).un), (c54r hS hX.1 (fun y hy => by have := (hX.2 y hy).2; omega)), congrArg AV.bool (beq_self_eq_true _), ?_, ?_, congrArg AV.bool (beq_self_eq_true _), rfl⟩⟩, fun h2 => ⟨fun h3 => ⟨(c53 r l x al (of_mk hS hk hX (eB_of (by assumption)))), (c21 r hS.t hS.s), ((c32 l hS.k).un), ((c48 x hX.1).un), (c54r hS hX.1 (fun y hy => by have := (hX.2 y hy).2; omega)), congrArg AV.bool (beq_self_eq_true _), ?_, ?_, congrArg AV.bool (beq_self_eq_true _), rfl⟩, fun h3 => ⟨(c21 r hS.t hS.s), ((c32 l hS.k).un), ((c48 x hX.1).un), (c54r hS hX.1 (fun y hy => by have := (hX.2 y hy).2; omega)), congrArg AV.bool (beq_self_eq_true _), ?_, ?_, congrArg AV.bool (beq_self_eq_true _), rfl⟩⟩⟩
      · exact c24 [exR r l x, sWhen (!sName al) 8] (by simp)
      · first
          | (rw [ca6, if_pos h2, show exR r l x = 0 by simpa using h2]; exact c55b _ (by omega); done)
          | (rw [ca6, if_neg (by rw [h2]; decide)]; exact c55a _ (by simpa using h2))
      · first
          | (rw [b6, if_pos h3, beq_self_eq_true]; done)
          | (rw [b6, if_neg (by rw [h3]; decide)]; rfl)
      · first
          | (rw [ca6, if_pos h2, show exR r l x = 0 by simpa using h2]; exact c55b _ (by omega); done)
          | (rw [ca6, if_neg (by rw [h2]; decide)]; exact c55a _ (by simpa using h2))
      · first
          | (rw [b6, if_pos h3, beq_self_eq_true]; done)
          | (rw [b6, if_neg (by rw [h3]; decide)]; rfl)
      · first
          | (rw [ca6, if_pos h2, show exR r l x = 0 by simpa using h2]; exact c55b _ (by omega); done)
          | (rw [ca6, if_neg (by rw [h2]; decide)]; exact c55a _ (by simpa using h2))
      · first
          | (rw [b6, if_pos h3, beq_self_eq_true]; done)
          | (rw [b6, if_neg (by rw [h3]; decide)]; rfl)
      · first
          | (rw [ca6, if_pos h2, show exR r l x = 0 by simpa using h2]; exact c55b _ (by omega); done)
          | (rw [ca6, if_neg (by rw [h2]; decide)]; exact c55a _ (by simpa using h2))
      · first
          | (rw [b6, if_pos h3, beq_self_eq_true]; done)
          | (rw [b6, if_neg (by rw [h3]; decide)]; rfl)
  exact c_of Tryz.f6 ({ noSyms [13] (fzB (mkB (sp6 r l x al) 6 (lits true [(13, 10), (13, 21), (13, 26)]) noLa)) with gs := fun i => (fzB (mkB (sp6 r l x al) 6 [] noLa)).gs i ++ (if i.beq 7 then [.nil 13 3] else []) }) (by kernel_rfl) (by kernel_rfl) (by kernel_rfl) (by kernel_rfl) key (by kernel_rfl)
end Go.Proofs.YtimgfogakgakhaaGreatDoor
namespace Go.Proofs.YtimgfogakgakhaaGreatDoor
open Go Go.Av Go.RowKit Go.ChangeShapes Go.WideShapes
theorem jp0_6 : (Rows.nightCasesRow.inPlace == Tryz.prog.inPlace 6) = true := by kernel_rfl
theorem jp1_6 : (Rows.nightCasesRow.unfollowed == Tryz.prog.unfollowed 6) = true := by kernel_rfl
theorem jp2_6 : (Rows.nightCasesRow.recurses == Tryz.prog.recurses 6) = true := by kernel_rfl
theorem jp3_6 : (Rows.nightCasesRow.named == Tryz.prog.varsNamed 6) = true := by kernel_rfl
theorem jfacts_6 : joinedFacts Tryz.prog 6 Tryz.f6 Rows.nightCasesSpec Rows.nightCasesRow = true := by
  unfold joinedFacts
  rw [jp0_6, jp1_6, jp2_6, jp3_6]
  kernel_rfl
end Go.Proofs.YtimgfogakgakhaaGreatDoor
