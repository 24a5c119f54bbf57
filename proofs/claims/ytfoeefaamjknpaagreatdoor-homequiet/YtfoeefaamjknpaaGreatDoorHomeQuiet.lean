/-
  For every input HomeQuiet returns true, and each argument reads afterwards as it did. The package-level variables that its row lists start as the program's text lays them; the card ties them.
-/
import Derived.Test.YtfoeefaamjknpaaGreatDoorPH
namespace Go.Proofs.YtfoeefaamjknpaaGreatDoor
open Go Go.Av Go.RowKit Go.ChangeShapes Go.WideShapes
theorem ashs_13 {T : TT} {n ta tb : Nat} {l : List AV} (h : AShs T n [ta, tb] l) : ∃ a b, l = [a, b] ∧ ASh1 T n ta a ∧ ASh1 T n tb b := by
 match l, h with
 | [a, b], ⟨h1, h2, _⟩ => exact ⟨a, b, rfl, h1, h2⟩
theorem homeQuiet_main (l : List AV) (h : AShs T0 8 Tryz.f13.params.toList l) : PCall Tryz.prog G0 13 l (.bool true) := by
 rw [show Tryz.f13.params.toList = [24, 167] by kernel_rfl] at h
 obtain ⟨a, b, rfl, h1, h2⟩ := ashs_13 h
 obtain ⟨x, rfl, _⟩ := hm_arg h1
 obtain ⟨n, p, q, rfl, hn, hp, hq⟩ := u16_arg h2
 exact c13 x n p q hA hn hp hq
set_option maxRecDepth 100000 in
theorem homeQuiet_lifted (os : Os) (started : os.Started) (H : Type) (enc : TypeId × Value -> H) :
 ReturnsInHanded {} Tryz.checked os 13 .any (fun w args => (Rows.homeQuietSpec.pre enc Tryz.prog Tryz.f13 [] false w args ∧ laidMetH Tryz.prog laid7 w) ∧ sizedMet enc Tryz.prog Tryz.f13 (OpenSpec.ofChange Rows.homeQuietSpec) false w args)
  (Rows.homeQuietSpec.post enc Tryz.prog Tryz.f13 false true false false) := by
 refine returnsInHanded_of_change_and (C := Tryz.checked) (X := fun w _ => laidMetH Tryz.prog laid7 w) (fun _ _ _ hh h => h.of_heap hh) own started (by kernel_rfl) Tryz.func13
  (ChangeSpec.witness_shaped (enc := enc) (C := Tryz.checked) (os := os) (X := fun w _ => laidMetH Tryz.prog laid7 w) false (World.laidAll Tryz.prog os laid7) #[.agg #[.string ⟨#[]⟩, .int .i64 0, .slice none 0 0], .agg #[.int .u16 0, .int .u16 0, .int .u16 0]] 8 (World.laidAll_os _ _ _) (World.shaped_of_ZipB (by kernel_rfl) (by kernel_rfl)) (by kernel_rfl) (by kernel_rfl) (by kernel_rfl) (door_met os _)) ?_
 intro W base args ds gs before hval hW _ _ hL _
 exact law_call (T := T0) tok (n := 8) (tb := 4) laidOut rfl (by kernel_rfl) (by kernel_rfl) (by kernel_rfl) (fun ds hds => by
  rw [show Tryz.f13.params.toList.length = 2 by kernel_rfl] at hds
  match ds, hds with
  | [_, _], _ => rfl) homeQuiet_main hval hW (globs hL)
theorem homeQuiet_row : Rows.HomeQuietSaid :=
 OpenClaim.holds_of_wide 13 Tryz.f13 rfl rfl rfl rfl rfl rfl rfl ⟨rfl, rfl, rfl, rfl, rfl⟩ rfl rfl rfl rfl rfl (by kernel_rfl) Tryz.func13 jfacts_13
  (of_decide_eq_true (by kernel_rfl)) (by unfold Func.isWrapper; first | (rw [if_pos (by decide +kernel)]; kernel_rfl) | (rw [if_neg (by decide +kernel)]; exact ⟨rfl, rfl⟩))
  (fun os started H enc _ => homeQuiet_lifted os started H enc)
theorem homeQuiet_holds : Rows.HomeQuietCardSaid :=
 Claim7.holds_tied_plain_at .later [] [.data, .data, .data, .data, .data, .data, .pinned] true (true, "92193935397b5a87bb9711b5489e958414a598b7d765f2bc372f27e1ae7e9198") false
  homeQuiet_row (fun _ h => by cases h) (by kernel_rfl) (fun _ h => by cases h) homeQuiet_row_tie rfl ⟨rfl, rfl⟩ (by kernel_rfl) rfl
  (fun f fn hf hfn => by
   obtain rfl : f = 13 := Option.some.inj ((show Tryz.prog.funcNamed "flyover/flyoverlaw08.HomeQuiet" = some 13 by kernel_rfl).symm.trans hf) |>.symm
   obtain rfl : fn = Tryz.f13 := (Option.some.inj (Tryz.func13.symm.trans hfn)).symm
   exact ⟨by kernel_rfl, fun j t ht => by
    have hm : t ∈ Tryz.f13.params.toList := by simpa using Array.mem_of_getElem? ht
    have hall : (Tryz.f13.params.toList.all fun u => !Tryz.prog.wantsStandIn u) = true := by kernel_rfl
    exact (show Tryz.prog.wantsStandIn t = false by simpa using List.all_eq_true.1 hall t hm)⟩)
  (by kernel_rfl)
end Go.Proofs.YtfoeefaamjknpaaGreatDoor
#print axioms Go.Proofs.YtfoeefaamjknpaaGreatDoor.homeQuiet_holds
