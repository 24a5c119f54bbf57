/-
  For every input HomeFunds returns true, and each argument reads afterwards as it did. The package-level variables that its row lists start as the program's text lays them; the card ties them.
-/
import Derived.Test.YtfoeefaamjknpaaGreatDoorPB
namespace Go.Proofs.YtfoeefaamjknpaaGreatDoor
open Go Go.Av Go.RowKit Go.ChangeShapes Go.WideShapes
theorem ashs_7 {T : TT} {n ta : Nat} {l : List AV} (h : AShs T n [ta] l) : ∃ a, l = [a] ∧ ASh1 T n ta a := by
  match l, h with
  | [a], ⟨h1, _⟩ => exact ⟨a, rfl, h1⟩
theorem homeFunds_main (l : List AV) (h : AShs T0 8 Tryz.f7.params.toList l) : PCall Tryz.prog G0 7 l (.bool true) := by
  rw [show Tryz.f7.params.toList = [113] by kernel_rfl] at h
  obtain ⟨a, rfl, h1⟩ := ashs_7 h
  obtain ⟨l, rfl, hn⟩ := ens_arg h1
  exact c7 l hA hn
set_option maxRecDepth 100000 in
theorem homeFunds_lifted (os : Os) (started : os.Started) (H : Type) (enc : TypeId × Value → H) :
    ReturnsInHanded {} Tryz.checked os 7 .any (fun w args => (Rows.homeFundsSpec.pre enc Tryz.prog Tryz.f7 [] false w args ∧ laidMetH Tryz.prog laid7 w) ∧ sizedMet enc Tryz.prog Tryz.f7 (OpenSpec.ofChange Rows.homeFundsSpec) false w args)
      (Rows.homeFundsSpec.post enc Tryz.prog Tryz.f7 false true false false) := by
  refine returnsInHanded_of_change_and (C := Tryz.checked) (X := fun w _ => laidMetH Tryz.prog laid7 w) (fun _ _ _ hh h => h.of_heap hh) own started (by kernel_rfl) Tryz.func7
    (ChangeSpec.witness_shaped (enc := enc) (C := Tryz.checked) (os := os) (X := fun w _ => laidMetH Tryz.prog laid7 w) false (World.laidAll Tryz.prog os laid7) #[.slice none 0 0] 8 (World.laidAll_os _ _ _) (World.shaped_of_ZipB (by kernel_rfl) (by kernel_rfl)) (by kernel_rfl) (by kernel_rfl) (by kernel_rfl) (door_met os _)) ?_
  intro W base args ds gs before hval hW _ _ hL _
  exact law_call (T := T0) tok (n := 8) (tb := 4) laidOut rfl (by kernel_rfl) (by kernel_rfl) (by kernel_rfl) (fun ds hds => by
    rw [show Tryz.f7.params.toList.length = 1 by kernel_rfl] at hds
    match ds, hds with
    | [_], _ => rfl) homeFunds_main hval hW (globs hL)
theorem homeFunds_row : Rows.HomeFundsSaid :=
  OpenClaim.holds_of_wide 7 Tryz.f7 rfl rfl rfl rfl rfl rfl rfl ⟨rfl, rfl, rfl, rfl, rfl⟩ rfl rfl rfl rfl rfl (by kernel_rfl) Tryz.func7 jfacts_7
    (of_decide_eq_true (by kernel_rfl)) (by unfold Func.isWrapper; first | (rw [if_pos (by decide +kernel)]; kernel_rfl) | (rw [if_neg (by decide +kernel)]; exact ⟨rfl, rfl⟩))
    (fun os started H enc _ => homeFunds_lifted os started H enc)
theorem homeFunds_holds : Rows.HomeFundsCardSaid :=
  Claim7.holds_tied_plain_at .later [] [.data, .data, .data, .data, .data, .data, .pinned] true (true, "92193935397b5a87bb9711b5489e958414a598b7d765f2bc372f27e1ae7e9198") false
    homeFunds_row (fun _ h => by cases h) (by kernel_rfl) (fun _ h => by cases h) homeFunds_row_tie rfl ⟨rfl, rfl⟩ (by kernel_rfl) rfl
    (fun f fn hf hfn => by
      obtain rfl : f = 7 := Option.some.inj ((show Tryz.prog.funcNamed "flyover/flyoverlaw08.HomeFunds" = some 7 by kernel_rfl).symm.trans hf) |>.symm
      obtain rfl : fn = Tryz.f7 := (Option.some.inj (Tryz.func7.symm.trans hfn)).symm
      exact ⟨by kernel_rfl, fun j t ht => by
        have hm : t ∈ Tryz.f7.params.toList := by simpa using Array.mem_of_getElem? ht
        have hall : (Tryz.f7.params.toList.all fun u => !Tryz.prog.wantsStandIn u) = true := by kernel_rfl
        exact (show Tryz.prog.wantsStandIn t = false by simpa using List.all_eq_true.1 hall t hm)⟩)
    (by kernel_rfl)
end Go.Proofs.YtfoeefaamjknpaaGreatDoor
#print axioms Go.Proofs.YtfoeefaamjknpaaGreatDoor.homeFunds_holds
