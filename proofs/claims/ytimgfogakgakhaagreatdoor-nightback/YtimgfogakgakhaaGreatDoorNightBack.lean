/-
  For every input NightBack returns true, and each argument reads afterwards as it did. The package-level variables that its row lists start as the program's text lays them; the card ties them.
-/
import Derived.Test.YtimgfogakgakhaaGreatDoorPE
namespace Go.Proofs.YtimgfogakgakhaaGreatDoor
open Go Go.Av Go.RowKit Go.ChangeShapes Go.WideShapes
theorem ashs_15 {T : TT} {n ta tb tc : Nat} {l : List AV} (h : AShs T n [ta, tb, tc] l) : ∃ a b c, l = [a, b, c] ∧ ASh1 T n ta a ∧ ASh1 T n tb b ∧ ASh1 T n tc c := by
  match l, h with
  | [a, b, c], ⟨h1, h2, h3, _⟩ => exact ⟨a, b, c, rfl, h1, h2, h3⟩
theorem nightBack_main (l : List AV) (h : AShs T0 8 Tryz.f15.params.toList l) : PCall Tryz.prog G0 15 l (.bool true) := by
  rw [show Tryz.f15.params.toList = [29, 52, 9] by kernel_rfl] at h
  obtain ⟨a, b, c, rfl, h1, h2, h3⟩ := ashs_15 h
  obtain ⟨r, rfl, hl, hm⟩ := ru_arg h1
  obtain ⟨ms, rfl, hn⟩ := mvs_arg h2
  obtain ⟨x, rfl⟩ := str_arg h3
  exact c15 r ms x hA hl hm hn
set_option maxRecDepth 100000 in
theorem nightBack_lifted (os : Os) (started : os.Started) (H : Type) (enc : TypeId × Value → H) :
    ReturnsInHanded {} Tryz.checked os 15 .any (fun w args => (Rows.nightBackSpec.pre enc Tryz.prog Tryz.f15 [] false w args ∧ laidMetH Tryz.prog laid6 w) ∧ sizedMet enc Tryz.prog Tryz.f15 (OpenSpec.ofChange Rows.nightBackSpec) false w args)
      (Rows.nightBackSpec.post enc Tryz.prog Tryz.f15 false true false false) := by
  refine returnsInHanded_of_change_and (C := Tryz.checked) (X := fun w _ => laidMetH Tryz.prog laid6 w) (fun _ _ _ hh h => h.of_heap hh) own started (by kernel_rfl) Tryz.func15
    (ChangeSpec.witness_shaped (enc := enc) (C := Tryz.checked) (os := os) (X := fun w _ => laidMetH Tryz.prog laid6 w) false (World.laidAll Tryz.prog os laid6) #[.agg #[.int .i64 0, .int .i64 0, .int .i64 0, .int .i64 0, .slice none 0 0, .int .i64 0, .slice none 0 0, .int .i64 0, .int .i64 0, .int .i64 0, .int .u8 0, .int .u8 0, .int .u8 0, .int .u8 0, .int .u8 0, .int .u8 0, .int .u8 0, .int .u8 0], .slice none 0 0, .string ⟨#[]⟩] 8 (World.laidAll_os _ _ _) (World.shaped_of_ZipB (by kernel_rfl) (by kernel_rfl)) (by kernel_rfl) (by kernel_rfl) (by kernel_rfl) (door_met6 os _)) ?_
  intro W base args ds gs before hval hW _ _ hL _
  exact law_call (T := T0) tok (n := 8) (tb := 4) laidOut rfl (by kernel_rfl) (by kernel_rfl) (by kernel_rfl) (fun ds hds => by
    rw [show Tryz.f15.params.toList.length = 3 by kernel_rfl] at hds
    match ds, hds with
    | [_, _, _], _ => rfl) nightBack_main hval hW (globs6 hL)
theorem nightBack_row : Rows.NightBackSaid :=
  OpenClaim.holds_of_wide 15 Tryz.f15 rfl rfl rfl rfl rfl rfl rfl ⟨rfl, rfl, rfl, rfl, rfl⟩ rfl rfl rfl rfl rfl (by kernel_rfl) Tryz.func15 jfacts_15
    (of_decide_eq_true (by kernel_rfl)) (by unfold Func.isWrapper; first | (rw [if_pos (by decide +kernel)]; kernel_rfl) | (rw [if_neg (by decide +kernel)]; exact ⟨rfl, rfl⟩))
    (fun os started H enc _ => nightBack_lifted os started H enc)
theorem nightBack_holds : Rows.NightBackCardSaid :=
  Claim7.holds_tied_plain_at .later [] [.data, .data, .data, .data, .data, .pinned] true (true, "bb069dce59c33001b08389ea63fdfa334110ff259e859462387e1f501348918d") false
    nightBack_row (fun _ h => by cases h) (by kernel_rfl) (fun _ h => by cases h) nightBack_row_tie rfl ⟨rfl, rfl⟩ (by kernel_rfl) rfl
    (fun f fn hf hfn => by
      obtain rfl : f = 15 := Option.some.inj ((show Tryz.prog.funcNamed "flyover/flyoverlaw07.NightBack" = some 15 by kernel_rfl).symm.trans hf) |>.symm
      obtain rfl : fn = Tryz.f15 := (Option.some.inj (Tryz.func15.symm.trans hfn)).symm
      exact ⟨by kernel_rfl, fun j t ht => by
        have hm : t ∈ Tryz.f15.params.toList := by simpa using Array.mem_of_getElem? ht
        have hall : (Tryz.f15.params.toList.all fun u => !Tryz.prog.wantsStandIn u) = true := by kernel_rfl
        exact (show Tryz.prog.wantsStandIn t = false by simpa using List.all_eq_true.1 hall t hm)⟩)
    (by kernel_rfl)
end Go.Proofs.YtimgfogakgakhaaGreatDoor
#print axioms Go.Proofs.YtimgfogakgakhaaGreatDoor.nightBack_holds
