/-
  For every input SourceTracks returns true, and each argument reads afterwards as it did. The package-level variables that its row lists start as the program's text lays them; the card ties them.
-/
import Derived.Test.YtjhjmncjidbieaaGreatDoorPF
namespace Go.Proofs.YtjhjmncjidbieaaGreatDoor
open Go Go.Av Go.RowKit Go.ChangeShapes Go.WideShapes
theorem sourceTracks_main (l : List AV) (h : AShs T0 8 Tryz.f10.params.toList l) : PCall Tryz.prog G0 10 l (.bool true) := by
  rw [show Tryz.f10.params.toList = [36, 36, 24] by kernel_rfl] at h
  match l, h with
  | [a, b, c], ⟨h1, h2, h3, _⟩ =>
    obtain ⟨l, rfl⟩ := track_arg h1
    obtain ⟨m, rfl⟩ := track_arg h2
    obtain ⟨x, y, rfl, _, _⟩ := two_arg h3
    exact c10 l m x y hA
set_option maxRecDepth 100000 in
theorem sourceTracks_lifted (os : Os) (started : os.Started) (H : Type) (enc : TypeId × Value → H) :
    ReturnsInHanded {} Tryz.checked os 10 .any (fun w args => (Rows.sourceTracksSpec.pre enc Tryz.prog Tryz.f10 [] false w args ∧ laidMetH Tryz.prog laid5 w) ∧ sizedMet enc Tryz.prog Tryz.f10 (OpenSpec.ofChange Rows.sourceTracksSpec) false w args)
      (Rows.sourceTracksSpec.post enc Tryz.prog Tryz.f10 false true false false) := by
  refine returnsInHanded_of_change_and (C := Tryz.checked) (X := fun w _ => laidMetH Tryz.prog laid5 w) (fun _ _ _ hh h => h.of_heap hh) own started (by kernel_rfl) Tryz.func10
    (ChangeSpec.witness_shaped (enc := enc) (C := Tryz.checked) (os := os) (X := fun w _ => laidMetH Tryz.prog laid5 w) false (World.doorLaid Tryz.prog 400 os) #[.slice none 0 0, .slice none 0 0, .agg #[.int .i64 0, .int .i64 0]] 8 rfl (World.shaped_of_RefB (by kernel_rfl) (by kernel_rfl)) (by kernel_rfl) (by kernel_rfl) (by kernel_rfl) (door_met os _)) ?_
  intro W base args ds gs before hval hW _ _ hL _
  exact law_call (T := T0) tok (n := 8) (tb := 4) laidOut rfl (by kernel_rfl) (by kernel_rfl) (by kernel_rfl) (fun ds hds => by
    rw [show Tryz.f10.params.toList.length = 3 by kernel_rfl] at hds
    match ds, hds with
    | [_, _, _], _ => rfl) sourceTracks_main hval hW (globs hL)
theorem sourceTracks_row : Rows.SourceTracksSaid :=
  OpenClaim.holds_of_wide 10 Tryz.f10 rfl rfl rfl rfl rfl rfl rfl ⟨rfl, rfl, rfl, rfl, rfl⟩ rfl rfl rfl rfl rfl (by kernel_rfl) Tryz.func10 (by kernel_rfl)
    (of_decide_eq_true (by kernel_rfl)) (by unfold Func.isWrapper; first | (rw [if_pos (by decide +kernel)]; kernel_rfl) | (rw [if_neg (by decide +kernel)]; exact ⟨rfl, rfl⟩))
    (fun os started H enc _ => sourceTracks_lifted os started H enc)
theorem sourceTracks_holds : Rows.SourceTracksCardSaid :=
  Claim7.holds_tied_plain_at .later [] [.data, .data, .data, .data, .data] true (true, "2eff5a8d10ee001d6dd469ae152b6610ee34d8acc09eeeb094ae4729cfefb337") false
    sourceTracks_row (fun _ h => by cases h) (by kernel_rfl) (fun _ h => by cases h) sourceTracks_row_tie rfl ⟨rfl, rfl⟩ (by kernel_rfl) rfl
    (fun f fn hf hfn => by
      obtain rfl : f = 10 := Option.some.inj ((show Tryz.prog.funcNamed "flyover/flyoverlaw02.SourceTracks" = some 10 by kernel_rfl).symm.trans hf) |>.symm
      obtain rfl : fn = Tryz.f10 := (Option.some.inj (Tryz.func10.symm.trans hfn)).symm
      exact ⟨by kernel_rfl, fun j t ht => by
        have hm : t ∈ Tryz.f10.params.toList := by simpa using Array.mem_of_getElem? ht
        have hall : (Tryz.f10.params.toList.all fun u => !Tryz.prog.wantsStandIn u) = true := by kernel_rfl
        exact (show Tryz.prog.wantsStandIn t = false by simpa using List.all_eq_true.1 hall t hm)⟩)
    (by kernel_rfl)
end Go.Proofs.YtjhjmncjidbieaaGreatDoor
#print axioms Go.Proofs.YtjhjmncjidbieaaGreatDoor.sourceTracks_holds
