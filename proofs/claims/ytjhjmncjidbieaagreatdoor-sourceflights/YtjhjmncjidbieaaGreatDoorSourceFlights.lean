/-
  For every input SourceFlights returns true, and each argument reads afterwards as it did. The package-level variables that its row lists start as the program's text lays them; the card ties them.
-/
import Derived.Test.YtjhjmncjidbieaaGreatDoorPF
namespace Go.Proofs.YtjhjmncjidbieaaGreatDoor
open Go Go.Av Go.RowKit Go.ChangeShapes Go.WideShapes
theorem ty_of {n m : Nat} {r : List AV} (hn : shapeT T0 n 47 = [.str, .sl m 3 1, .int .i64, .int .i64, .int .i64, .int .i64, .int .i64, .int .i64, .int .i64, .int .i64, .int .i64, .sl m 3 1, .sl m 117 2]) (hp : plainT T0 n 47 = true) {k : Nat} (h1 : shapeT T0 m 3 = [.int .i64]) (h2 : plainT T0 m 3 = true) (h3 : shapeT T0 m 117 = [.int .i64, .sl k 3 1]) (h4 : plainT T0 m 117 = true) (h5 : shapeT T0 k 3 = [.int .i64]) (h6 : plainT T0 k 3 = true) (h : ASh T0 n 47 r) : ∃ t : Ty, r = encTy t ∧ t.st.length ≤ maxLen := by
  have h2' := ash_shape n 47 r hp h
  rw [hn] at h2'
  obtain ⟨_, _, rfl, ⟨nm, rfl, _⟩, _, _, rfl, ⟨rs, rfl, _, hrs⟩, _, _, rfl, ⟨d0, rfl, _⟩, _, _, rfl, ⟨d1, rfl, _⟩, _, _, rfl, ⟨d2, rfl, _⟩, _, _, rfl, ⟨d3, rfl, _⟩, _, _, rfl, ⟨d4, rfl, _⟩, _, _, rfl, ⟨d5, rfl, _⟩, _, _, rfl, ⟨d6, rfl, _⟩, _, _, rfl, ⟨d7, rfl, _⟩, _, _, rfl, ⟨sd, rfl, _⟩, _, _, rfl, ⟨rq, rfl, _, hrq⟩, _, _, rfl, ⟨rt, rfl, hlt, hrt⟩, rfl⟩ := h2'
  obtain ⟨sh, rfl, _⟩ := rows_enc (enc := encI) (Q := In64) (fun r hm => int_of h1 h2 (hrs r hm))
  obtain ⟨sq, rfl, _⟩ := rows_enc (enc := encI) (Q := In64) (fun r hm => int_of h1 h2 (hrq r hm))
  obtain ⟨st, rfl, _⟩ := rows_enc (enc := encSg) (Q := fun _ => True) (fun r hm => sg_of (m := k) h3 h4 h5 h6 (hrt r hm))
  exact ⟨⟨nm, sh, d0, d1, d2, d3, d4, d5, d6, d7, sd, sq, st⟩, rfl, by simpa using hlt⟩
theorem tys_arg {a : AV} (h : ASh1 T0 8 120 a) : ∃ ts : List Ty, a = .sl 13 (ts.map encTy) ∧ ts.length ≤ maxLen ∧ ∀ t, t ∈ ts → t.st.length ≤ maxLen := by
  obtain ⟨rows, rfl, hl, hr⟩ := ash1_one (c := .sl 7 47 13) (ti := ⟨(.slice 47 13 160), 1, 24, false, [.ex (.slice none 0 0)], false⟩) (by kernel_rfl) rfl (by kernel_rfl) (by kernel_rfl) h
  obtain ⟨l, rfl, h2⟩ := rows_enc (enc := encTy) (Q := fun t => t.st.length ≤ maxLen) (fun r hm => ty_of (m := 5) (k := 3) (by kernel_rfl) (by kernel_rfl) (by kernel_rfl) (by kernel_rfl) (by kernel_rfl) (by kernel_rfl) (by kernel_rfl) (by kernel_rfl) (hr r hm))
  exact ⟨l, rfl, by simpa using hl, h2⟩
theorem fl_of {n m : Nat} {r : List AV} (hn : shapeT T0 n 157 = [.str, .str, .sl m 110 5]) (hp : plainT T0 n 157 = true) (h1 : shapeT T0 m 110 = [.int .i64, .int .i64, .int .i64, .int .i64, .int .i64]) (h2 : plainT T0 m 110 = true) (h : ASh T0 n 157 r) : ∃ f : Fl, r = encFl f ∧ True := by
  have h2' := ash_shape n 157 r hp h
  rw [hn] at h2'
  obtain ⟨_, _, rfl, ⟨nm, rfl, _⟩, _, _, rfl, ⟨ty, rfl, _⟩, _, _, rfl, ⟨rt, rfl, _, hrt⟩, rfl⟩ := h2'
  obtain ⟨tr, rfl, _⟩ := rows_enc (enc := encFx) (Q := fun _ => True) (fun r hm => fx_of h1 h2 (hrt r hm))
  exact ⟨⟨nm, ty, tr⟩, rfl, trivial⟩
theorem fls_arg {a : AV} (h : ASh1 T0 8 121 a) : ∃ fs : List Fl, a = .sl 3 (fs.map encFl) ∧ fs.length ≤ maxLen := by
  obtain ⟨rows, rfl, hl, hr⟩ := ash1_one (c := .sl 7 157 3) (ti := ⟨(.slice 157 3 56), 1, 24, false, [.ex (.slice none 0 0)], false⟩) (by kernel_rfl) rfl (by kernel_rfl) (by kernel_rfl) h
  obtain ⟨l, rfl, _⟩ := rows_enc (enc := encFl) (Q := fun _ => True) (fun r hm => fl_of (m := 5) (by kernel_rfl) (by kernel_rfl) (by kernel_rfl) (by kernel_rfl) (hr r hm))
  exact ⟨l, rfl, by simpa using hl⟩
theorem vec_arg {a : AV} (h : ASh1 T0 8 51 a) : ∃ x y z : Int, a = .agg [.i x, .i y, .i z] := by
  obtain ⟨l, rfl, h2⟩ := ash1_agg (cs := [.int .i64, .int .i64, .int .i64]) (ti := ⟨(.struct [(0, 3, 1), (1, 3, 1), (2, 3, 1)]), 3, 24, true, [.int .i64 0, .int .i64 0, .int .i64 0], true⟩) (by kernel_rfl) rfl (by kernel_rfl) (by kernel_rfl) h
  obtain ⟨_, _, rfl, ⟨x, rfl, _⟩, _, _, rfl, ⟨y, rfl, _⟩, _, _, rfl, ⟨z, rfl, _⟩, rfl⟩ := h2
  exact ⟨x, y, z, rfl⟩
theorem sourceFlights_main (l : List AV) (h : AShs T0 8 Tryz.f9.params.toList l) : PCall Tryz.prog G0 9 l (.bool true) := by
  rw [show Tryz.f9.params.toList = [120, 121, 51] by kernel_rfl] at h
  match l, h with
  | [a, b, c], ⟨h1, h2, h3, _⟩ =>
    obtain ⟨ts, rfl, hl, hst⟩ := tys_arg h1
    obtain ⟨fs, rfl, hm⟩ := fls_arg h2
    obtain ⟨x, y, z, rfl⟩ := vec_arg h3
    exact c9 ts fs x y z hA hl hm hst
set_option maxRecDepth 100000 in
theorem sourceFlights_lifted (os : Os) (started : os.Started) (H : Type) (enc : TypeId × Value → H) :
    ReturnsInHanded {} Tryz.checked os 9 .any (fun w args => (Rows.sourceFlightsSpec.pre enc Tryz.prog Tryz.f9 [] false w args ∧ laidMetH Tryz.prog laid5 w) ∧ sizedMet enc Tryz.prog Tryz.f9 (OpenSpec.ofChange Rows.sourceFlightsSpec) false w args)
      (Rows.sourceFlightsSpec.post enc Tryz.prog Tryz.f9 false true false false) := by
  refine returnsInHanded_of_change_and (C := Tryz.checked) (X := fun w _ => laidMetH Tryz.prog laid5 w) (fun _ _ _ hh h => h.of_heap hh) own started (by kernel_rfl) Tryz.func9
    (ChangeSpec.witness_shaped (enc := enc) (C := Tryz.checked) (os := os) (X := fun w _ => laidMetH Tryz.prog laid5 w) false (World.doorLaid Tryz.prog 400 os) #[.slice none 0 0, .slice none 0 0, .agg #[.int .i64 0, .int .i64 0, .int .i64 0]] 8 rfl (World.shaped_of_RefB (by kernel_rfl) (by kernel_rfl)) (by kernel_rfl) (by kernel_rfl) (by kernel_rfl) (door_met os _)) ?_
  intro W base args ds gs before hval hW _ _ hL _
  exact law_call (T := T0) tok (n := 8) (tb := 4) laidOut rfl (by kernel_rfl) (by kernel_rfl) (by kernel_rfl) (fun ds hds => by
    rw [show Tryz.f9.params.toList.length = 3 by kernel_rfl] at hds
    match ds, hds with
    | [_, _, _], _ => rfl) sourceFlights_main hval hW (globs hL)
theorem sourceFlights_row : Rows.SourceFlightsSaid :=
  OpenClaim.holds_of_wide 9 Tryz.f9 rfl rfl rfl rfl rfl rfl rfl ⟨rfl, rfl, rfl, rfl, rfl⟩ rfl rfl rfl rfl rfl (by kernel_rfl) Tryz.func9 (by kernel_rfl)
    (of_decide_eq_true (by kernel_rfl)) (by unfold Func.isWrapper; first | (rw [if_pos (by decide +kernel)]; kernel_rfl) | (rw [if_neg (by decide +kernel)]; exact ⟨rfl, rfl⟩))
    (fun os started H enc _ => sourceFlights_lifted os started H enc)
theorem sourceFlights_holds : Rows.SourceFlightsCardSaid :=
  Claim7.holds_tied_plain_at .later [] [.data, .data, .data, .data, .data] true (true, "2eff5a8d10ee001d6dd469ae152b6610ee34d8acc09eeeb094ae4729cfefb337") false
    sourceFlights_row (fun _ h => by cases h) (by kernel_rfl) (fun _ h => by cases h) sourceFlights_row_tie rfl ⟨rfl, rfl⟩ (by kernel_rfl) rfl
    (fun f fn hf hfn => by
      obtain rfl : f = 9 := Option.some.inj ((show Tryz.prog.funcNamed "flyover/flyoverlaw02.SourceFlights" = some 9 by kernel_rfl).symm.trans hf) |>.symm
      obtain rfl : fn = Tryz.f9 := (Option.some.inj (Tryz.func9.symm.trans hfn)).symm
      exact ⟨by kernel_rfl, fun j t ht => by
        have hm : t ∈ Tryz.f9.params.toList := by simpa using Array.mem_of_getElem? ht
        have hall : (Tryz.f9.params.toList.all fun u => !Tryz.prog.wantsStandIn u) = true := by kernel_rfl
        exact (show Tryz.prog.wantsStandIn t = false by simpa using List.all_eq_true.1 hall t hm)⟩)
    (by kernel_rfl)
end Go.Proofs.YtjhjmncjidbieaaGreatDoor
#print axioms Go.Proofs.YtjhjmncjidbieaaGreatDoor.sourceFlights_holds
