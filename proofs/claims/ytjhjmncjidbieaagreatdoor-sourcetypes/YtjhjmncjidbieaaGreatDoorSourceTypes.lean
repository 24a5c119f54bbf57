/-
  For every input SourceTypes returns true, and each argument reads afterwards as it did. The package-level variables that its row lists start as the program's text lays them; the card ties them.
-/
import Derived.Test.YtjhjmncjidbieaaGreatDoorPE
namespace Go.Proofs.YtjhjmncjidbieaaGreatDoor
open Go Go.Av Go.RowKit Go.ChangeShapes Go.WideShapes
theorem int_of {n : Nat} {r : List AV} (hn : shapeT T0 n 3 = [.int .i64]) (hp : plainT T0 n 3 = true) (h : ASh T0 n 3 r) : ∃ x : Int, r = encI x ∧ In64 x := by
  have := ash_shape n 3 r hp h
  rw [hn] at this
  obtain ⟨_, _, rfl, ⟨x, rfl, hx⟩, rfl⟩ := this
  exact ⟨x, rfl, wf64 hx⟩
theorem sg_of {n m : Nat} {r : List AV} (hn : shapeT T0 n 117 = [.int .i64, .sl m 3 1]) (hp : plainT T0 n 117 = true) (hm : shapeT T0 m 3 = [.int .i64]) (hq : plainT T0 m 3 = true) (h : ASh T0 n 117 r) : ∃ s : Sg, r = encSg s ∧ True := by
  have := ash_shape n 117 r hp h
  rw [hn] at this
  obtain ⟨_, _, rfl, ⟨x, rfl, _⟩, _, _, rfl, ⟨rows, rfl, _, hr⟩, rfl⟩ := this
  obtain ⟨e, rfl, _⟩ := rows_enc (enc := encI) (Q := In64) (fun r hm' => int_of hm hq (hr r hm'))
  exact ⟨⟨x, e⟩, rfl, trivial⟩
/-- A type, as an argument. -/
theorem ty_arg {a : AV} (h : ASh1 T0 8 47 a) : ∃ t : Ty, a = .agg (encTy t) ∧ t.st.length ≤ maxLen := by
  obtain ⟨l, rfl, h2⟩ := ash1_agg (cs := [.str, .sl 6 3 1, .int .i64, .int .i64, .int .i64, .int .i64, .int .i64, .int .i64, .int .i64, .int .i64, .int .i64, .sl 6 3 1, .sl 6 117 2])
    (ti := ⟨(.struct [(0, 9, 1), (1, 43, 1), (2, 44, 8), (10, 3, 1), (11, 43, 1), (12, 45, 1)]), 13, 160, true, [.str [], .ex (.slice none 0 0), .int .i64 0, .int .i64 0, .int .i64 0, .int .i64 0, .int .i64 0, .int .i64 0, .int .i64 0, .int .i64 0, .int .i64 0, .ex (.slice none 0 0), .ex (.slice none 0 0)], true⟩)
    (by kernel_rfl) rfl (by kernel_rfl) (by kernel_rfl) h
  obtain ⟨_, _, rfl, ⟨nm, rfl, _⟩, _, _, rfl, ⟨rs, rfl, _, hrs⟩, _, _, rfl, ⟨d0, rfl, _⟩, _, _, rfl, ⟨d1, rfl, _⟩, _, _, rfl, ⟨d2, rfl, _⟩, _, _, rfl, ⟨d3, rfl, _⟩, _, _, rfl, ⟨d4, rfl, _⟩, _, _, rfl, ⟨d5, rfl, _⟩, _, _, rfl, ⟨d6, rfl, _⟩, _, _, rfl, ⟨d7, rfl, _⟩, _, _, rfl, ⟨sd, rfl, _⟩, _, _, rfl, ⟨rq, rfl, _, hrq⟩, _, _, rfl, ⟨rt, rfl, hlt, hrt⟩, rfl⟩ := h2
  obtain ⟨sh, rfl, _⟩ := rows_enc (enc := encI) (Q := In64) (fun r hm => int_of (by kernel_rfl) (by kernel_rfl) (hrs r hm))
  obtain ⟨sq, rfl, _⟩ := rows_enc (enc := encI) (Q := In64) (fun r hm => int_of (by kernel_rfl) (by kernel_rfl) (hrq r hm))
  obtain ⟨st, rfl, _⟩ := rows_enc (enc := encSg) (Q := fun _ => True) (fun r hm => sg_of (m := 4) (by kernel_rfl) (by kernel_rfl) (by kernel_rfl) (by kernel_rfl) (hrt r hm))
  exact ⟨⟨nm, sh, d0, d1, d2, d3, d4, d5, d6, d7, sd, sq, st⟩, rfl, by simpa using hlt⟩
/-- What is asked of a type, as an argument. -/
theorem ask_arg {a : AV} (h : ASh1 T0 8 91 a) : ∃ k : Ask, a = .agg (encAsk k) := by
  obtain ⟨l, rfl, h2⟩ := ash1_agg (cs := [.int .i64, .int .i64, .int .i64, .int .i64, .int .i64, .int .i64, .int .i64, .int .i64, .int .i64, .int .i64, .int .i64, .int .i64, .int .i64, .int .i64])
    (ti := ⟨(.struct [(0, 3, 1), (1, 3, 1), (2, 89, 6), (8, 51, 3), (11, 85, 2), (13, 3, 1)]), 14, 112, true, [.int .i64 0, .int .i64 0, .int .i64 0, .int .i64 0, .int .i64 0, .int .i64 0, .int .i64 0, .int .i64 0, .int .i64 0, .int .i64 0, .int .i64 0, .int .i64 0, .int .i64 0, .int .i64 0], true⟩)
    (by kernel_rfl) rfl (by kernel_rfl) (by kernel_rfl) h
  obtain ⟨_, _, rfl, ⟨x0, rfl, _⟩, _, _, rfl, ⟨x1, rfl, _⟩, _, _, rfl, ⟨x2, rfl, _⟩, _, _, rfl, ⟨x3, rfl, _⟩, _, _, rfl, ⟨x4, rfl, _⟩, _, _, rfl, ⟨x5, rfl, _⟩, _, _, rfl, ⟨x6, rfl, _⟩, _, _, rfl, ⟨x7, rfl, _⟩, _, _, rfl, ⟨x8, rfl, _⟩, _, _, rfl, ⟨x9, rfl, _⟩, _, _, rfl, ⟨x10, rfl, _⟩, _, _, rfl, ⟨x11, rfl, _⟩, _, _, rfl, ⟨x12, rfl, _⟩, _, _, rfl, ⟨x13, rfl, _⟩, rfl⟩ := h2
  exact ⟨⟨x0, x1, x2, x3, x4, x5, x6, x7, x8, x9, x10, x11, x12, x13⟩, rfl⟩
theorem sourceTypes_main (l : List AV) (h : AShs T0 8 Tryz.f6.params.toList l) : PCall Tryz.prog G0 6 l (.bool true) := by
  rw [show Tryz.f6.params.toList = [47, 91] by kernel_rfl] at h
  match l, h with
  | [a, b], ⟨h1, h2, _⟩ =>
    obtain ⟨t, rfl, ht⟩ := ty_arg h1
    obtain ⟨k, rfl⟩ := ask_arg h2
    exact c6 t k hA (by unfold maxLen at ht; omega)
set_option maxRecDepth 100000 in
theorem sourceTypes_lifted (os : Os) (started : os.Started) (H : Type) (enc : TypeId × Value → H) :
    ReturnsInHanded {} Tryz.checked os 6 .any (fun w args => (Rows.sourceTypesSpec.pre enc Tryz.prog Tryz.f6 [] false w args ∧ laidMetH Tryz.prog laid5 w) ∧ sizedMet enc Tryz.prog Tryz.f6 (OpenSpec.ofChange Rows.sourceTypesSpec) false w args)
      (Rows.sourceTypesSpec.post enc Tryz.prog Tryz.f6 false true false false) := by
  refine returnsInHanded_of_change_and (C := Tryz.checked) (X := fun w _ => laidMetH Tryz.prog laid5 w) (fun _ _ _ hh h => h.of_heap hh) own started (by kernel_rfl) Tryz.func6
    (ChangeSpec.witness_shaped (enc := enc) (C := Tryz.checked) (os := os) (X := fun w _ => laidMetH Tryz.prog laid5 w) false (World.doorLaid Tryz.prog 400 os) #[.agg #[.string ⟨#[]⟩, .slice none 0 0, .int .i64 0, .int .i64 0, .int .i64 0, .int .i64 0, .int .i64 0, .int .i64 0, .int .i64 0, .int .i64 0, .int .i64 0, .slice none 0 0, .slice none 0 0], .agg #[.int .i64 0, .int .i64 0, .int .i64 0, .int .i64 0, .int .i64 0, .int .i64 0, .int .i64 0, .int .i64 0, .int .i64 0, .int .i64 0, .int .i64 0, .int .i64 0, .int .i64 0, .int .i64 0]] 8 rfl (World.shaped_of_RefB (by kernel_rfl) (by kernel_rfl)) (by kernel_rfl) (by kernel_rfl) (by kernel_rfl) (door_met os _)) ?_
  intro W base args ds gs before hval hW _ _ hL _
  exact law_call (T := T0) tok (n := 8) (tb := 4) laidOut rfl (by kernel_rfl) (by kernel_rfl) (by kernel_rfl) (fun ds hds => by
    rw [show Tryz.f6.params.toList.length = 2 by kernel_rfl] at hds
    match ds, hds with
    | [_, _], _ => rfl) sourceTypes_main hval hW (globs hL)
theorem sourceTypes_row : Rows.SourceTypesSaid :=
  OpenClaim.holds_of_wide 6 Tryz.f6 rfl rfl rfl rfl rfl rfl rfl ⟨rfl, rfl, rfl, rfl, rfl⟩ rfl rfl rfl rfl rfl (by kernel_rfl) Tryz.func6 (by kernel_rfl)
    (of_decide_eq_true (by kernel_rfl)) (by unfold Func.isWrapper; first | (rw [if_pos (by decide +kernel)]; kernel_rfl) | (rw [if_neg (by decide +kernel)]; exact ⟨rfl, rfl⟩))
    (fun os started H enc _ => sourceTypes_lifted os started H enc)
theorem sourceTypes_holds : Rows.SourceTypesCardSaid :=
  Claim7.holds_tied_plain_at .later [] [.data, .data, .data, .data, .data] true (true, "2eff5a8d10ee001d6dd469ae152b6610ee34d8acc09eeeb094ae4729cfefb337") false
    sourceTypes_row (fun _ h => by cases h) (by kernel_rfl) (fun _ h => by cases h) sourceTypes_row_tie rfl ⟨rfl, rfl⟩ (by kernel_rfl) rfl
    (fun f fn hf hfn => by
      obtain rfl : f = 6 := Option.some.inj ((show Tryz.prog.funcNamed "flyover/flyoverlaw02.SourceTypes" = some 6 by kernel_rfl).symm.trans hf) |>.symm
      obtain rfl : fn = Tryz.f6 := (Option.some.inj (Tryz.func6.symm.trans hfn)).symm
      exact ⟨by kernel_rfl, fun j t ht => by
        have hm : t ∈ Tryz.f6.params.toList := by simpa using Array.mem_of_getElem? ht
        have hall : (Tryz.f6.params.toList.all fun u => !Tryz.prog.wantsStandIn u) = true := by kernel_rfl
        exact (show Tryz.prog.wantsStandIn t = false by simpa using List.all_eq_true.1 hall t hm)⟩)
    (by kernel_rfl)
end Go.Proofs.YtjhjmncjidbieaaGreatDoor
#print axioms Go.Proofs.YtjhjmncjidbieaaGreatDoor.sourceTypes_holds
