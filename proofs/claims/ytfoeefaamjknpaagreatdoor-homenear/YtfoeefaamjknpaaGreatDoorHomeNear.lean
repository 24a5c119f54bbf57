/-
  For every input HomeNear returns true, and each argument reads afterwards as it did. The package-level variables that its row lists start as the program's text lays them; the card ties them.
-/
import Derived.Test.YtfoeefaamjknpaaGreatDoorPE
namespace Go.Proofs.YtfoeefaamjknpaaGreatDoor
open Go Go.Av Go.RowKit Go.ChangeShapes Go.WideShapes
theorem ashs_12 {T : TT} {n ta tb tc : Nat} {l : List AV} (h : AShs T n [ta, tb, tc] l) : ∃ a b c, l = [a, b, c] ∧ ASh1 T n ta a ∧ ASh1 T n tb b ∧ ASh1 T n tc c := by
  match l, h with
  | [a, b, c], ⟨h1, h2, h3, _⟩ => exact ⟨a, b, c, rfl, h1, h2, h3⟩
theorem homeNear_main (l : List AV) (h : AShs T0 8 Tryz.f12.params.toList l) : PCall Tryz.prog G0 12 l (.bool true) := by
  rw [show Tryz.f12.params.toList = [121, 167, 168] by kernel_rfl] at h
  obtain ⟨a, b, c, rfl, h1, h2, h3⟩ := ashs_12 h
  obtain ⟨l, rfl, hl, hnm⟩ := cps_argL h1
  obtain ⟨n, p, q, rfl, hn, hp, hq⟩ := u16_arg h2
  obtain ⟨p, rfl⟩ := Int.eq_ofNat_of_zero_le hp.1
  obtain ⟨xs, rfl, hxl, hx⟩ := am_arg h3
  exact c12 l n p q xs hA hl hnm hn hp.2 hq hxl hx
set_option maxRecDepth 100000 in
theorem homeNear_lifted (os : Os) (started : os.Started) (H : Type) (enc : TypeId × Value → H) :
    ReturnsInHanded {} Tryz.checked os 12 .any (fun w args => (Rows.homeNearSpec.pre enc Tryz.prog Tryz.f12 [] false w args ∧ laidMetH Tryz.prog laid7 w) ∧ sizedMet enc Tryz.prog Tryz.f12 (OpenSpec.ofChange Rows.homeNearSpec) false w args)
      (Rows.homeNearSpec.post enc Tryz.prog Tryz.f12 false true false false) := by
  refine returnsInHanded_of_change_and (C := Tryz.checked) (X := fun w _ => laidMetH Tryz.prog laid7 w) (fun _ _ _ hh h => h.of_heap hh) own started (by kernel_rfl) Tryz.func12
    (ChangeSpec.witness_shaped (enc := enc) (C := Tryz.checked) (os := os) (X := fun w _ => laidMetH Tryz.prog laid7 w) false (World.laidAll Tryz.prog os laid7) #[.slice none 0 0, .agg #[.int .u16 0, .int .u16 0, .int .u16 0], .slice none 0 0] 8 (World.laidAll_os _ _ _) (World.shaped_of_ZipB (by kernel_rfl) (by kernel_rfl)) (by kernel_rfl) (by kernel_rfl) (by kernel_rfl) (door_met os _)) ?_
  intro W base args ds gs before hval hW _ _ hL _
  exact law_call (T := T0) tok (n := 8) (tb := 4) laidOut rfl (by kernel_rfl) (by kernel_rfl) (by kernel_rfl) (fun ds hds => by
    rw [show Tryz.f12.params.toList.length = 3 by kernel_rfl] at hds
    match ds, hds with
    | [_, _, _], _ => rfl) homeNear_main hval hW (globs hL)
theorem homeNear_row : Rows.HomeNearSaid :=
  OpenClaim.holds_of_wide 12 Tryz.f12 rfl rfl rfl rfl rfl rfl rfl ⟨rfl, rfl, rfl, rfl, rfl⟩ rfl rfl rfl rfl rfl (by kernel_rfl) Tryz.func12 jfacts_12
    (of_decide_eq_true (by kernel_rfl)) (by unfold Func.isWrapper; first | (rw [if_pos (by decide +kernel)]; kernel_rfl) | (rw [if_neg (by decide +kernel)]; exact ⟨rfl, rfl⟩))
    (fun os started H enc _ => homeNear_lifted os started H enc)
theorem homeNear_holds : Rows.HomeNearCardSaid :=
  Claim7.holds_tied_plain_at .later [] [.data, .data, .data, .data, .data, .data, .pinned] true (true, "92193935397b5a87bb9711b5489e958414a598b7d765f2bc372f27e1ae7e9198") false
    homeNear_row (fun _ h => by cases h) (by kernel_rfl) (fun _ h => by cases h) homeNear_row_tie rfl ⟨rfl, rfl⟩ (by kernel_rfl) rfl
    (fun f fn hf hfn => by
      obtain rfl : f = 12 := Option.some.inj ((show Tryz.prog.funcNamed "flyover/flyoverlaw08.HomeNear" = some 12 by kernel_rfl).symm.trans hf) |>.symm
      obtain rfl : fn = Tryz.f12 := (Option.some.inj (Tryz.func12.symm.trans hfn)).symm
      exact ⟨by kernel_rfl, fun j t ht => by
        have hm : t ∈ Tryz.f12.params.toList := by simpa using Array.mem_of_getElem? ht
        have hall : (Tryz.f12.params.toList.all fun u => !Tryz.prog.wantsStandIn u) = true := by kernel_rfl
        exact (show Tryz.prog.wantsStandIn t = false by simpa using List.all_eq_true.1 hall t hm)⟩)
    (by kernel_rfl)
end Go.Proofs.YtfoeefaamjknpaaGreatDoor
#print axioms Go.Proofs.YtfoeefaamjknpaaGreatDoor.homeNear_holds
