/-
  For every input SourceStrings returns true, and each argument reads afterwards as it did. The package-level variables that its row lists start as the program's text lays them; the card ties them.
-/
import Derived.Test.YtjhjmncjidbieaaGreatDoorPH
namespace Go.Proofs.YtjhjmncjidbieaaGreatDoor
open Go Go.Av Go.RowKit Go.ChangeShapes Go.WideShapes
theorem ashs_11 {T:TT} {n ta tb:Nat} {l:List AV} (h:AShs T n [ta,tb] l):∃ a b,l=[a,b]∧ASh1 T n ta a∧ASh1 T n tb b:=by
 match l,h with
 | [a,b],⟨h1,h2,_⟩=>exact ⟨a,b,rfl,h1,h2⟩
theorem sourceStrings_main (l:List AV) (h:AShs T0 8 Tryz.f11.params.toList l):PCall Tryz.prog G0 11 l (.bool true):=by
 rw [show Tryz.f11.params.toList=[47,9] by kernel_rfl] at h
 obtain ⟨a,b,rfl,h1,h2⟩:=ashs_11 h
 obtain ⟨t,rfl,ht⟩:=ty_arg h1
 obtain ⟨s,rfl,_⟩:=str_arg h2
 exact c11 t s hA (by unfold maxLen at ht;omega)
set_option maxRecDepth 100000 in
theorem sourceStrings_lifted (os:Os) (started:os.Started) (H:Type) (enc:TypeId × Value->H) :
 ReturnsInHanded {} Tryz.checked os 11 .any (fun w args=>(Rows.sourceStringsSpec.pre enc Tryz.prog Tryz.f11 [] false w args∧laidMetH Tryz.prog laid5 w)∧sizedMet enc Tryz.prog Tryz.f11 (OpenSpec.ofChange Rows.sourceStringsSpec) false w args)
  (Rows.sourceStringsSpec.post enc Tryz.prog Tryz.f11 false true false false):=by
 refine returnsInHanded_of_change_and (C:=Tryz.checked) (X:=fun w _=>laidMetH Tryz.prog laid5 w) (fun _ _ _ hh h=>h.of_heap hh) own started (by kernel_rfl) Tryz.func11
  (ChangeSpec.witness_shaped (enc:=enc) (C:=Tryz.checked) (os:=os) (X:=fun w _=>laidMetH Tryz.prog laid5 w) false (wS os) #[.agg #[.string ⟨#[]⟩,.slice none 0 0,.int .i64 0,.int .i64 0,.int .i64 0,.int .i64 0,.int .i64 0,.int .i64 0,.int .i64 0,.int .i64 0,.int .i64 0,.slice none 0 0,.slice none 0 0],.string ⟨#[]⟩] 8 (wS_os os) (wS_shaped2 os _) (by kernel_rfl) (by kernel_rfl) (by kernel_rfl) (door_met os _)) ?_
 intro W base args ds gs before hval hW _ _ hL _
 exact law_call (T:=T0) tok (n:=8) (tb:=4) laidOut rfl (by kernel_rfl) (by kernel_rfl) (by kernel_rfl) (fun ds hds=>by
  rw [show Tryz.f11.params.toList.length=2 by kernel_rfl] at hds
  match ds,hds with
  | [_,_],_=>rfl) sourceStrings_main hval hW (globs hL)
theorem sourceStrings_row:Rows.SourceStringsSaid :=
 OpenClaim.holds_of_wide 11 Tryz.f11 rfl rfl rfl rfl rfl rfl rfl ⟨rfl,rfl,rfl,rfl,rfl⟩ rfl rfl rfl rfl rfl (by kernel_rfl) Tryz.func11 jfacts_11
  (of_decide_eq_true (by kernel_rfl)) (by unfold Func.isWrapper;first | (rw [if_pos (by decide +kernel)];kernel_rfl) | (rw [if_neg (by decide +kernel)];exact ⟨rfl,rfl⟩))
  (fun os started H enc _=>sourceStrings_lifted os started H enc)
theorem sourceStrings_holds:Rows.SourceStringsCardSaid :=
 Claim7.holds_tied_plain_at .later [] [.data, .data, .data, .data, .data, .funcs, .data, .pinned] true (true, "2eff5a8d10ee001d6dd469ae152b6610ee34d8acc09eeeb094ae4729cfefb337") false
  sourceStrings_row (fun _ h=>by cases h) (by kernel_rfl) (fun _ h=>by cases h) sourceStrings_row_tie rfl ⟨rfl,rfl⟩ (by kernel_rfl) rfl
  (fun f fn hf hfn=>by
   obtain rfl : f = 11 := Option.some.inj ((show Tryz.prog.funcNamed "flyover/flyoverlaw02.SourceStrings" = some 11 by kernel_rfl).symm.trans hf) |>.symm
   obtain rfl:fn=Tryz.f11:=(Option.some.inj (Tryz.func11.symm.trans hfn)).symm
   exact ⟨by kernel_rfl,fun j t ht=>by
    have hm:t ∈ Tryz.f11.params.toList:=by simpa using Array.mem_of_getElem? ht
    have hall:(Tryz.f11.params.toList.all fun u=>!Tryz.prog.wantsStandIn u)=true:=by kernel_rfl
    exact (show Tryz.prog.wantsStandIn t=false by simpa using List.all_eq_true.1 hall t hm)⟩)
  (by kernel_rfl)
end Go.Proofs.YtjhjmncjidbieaaGreatDoor
#print axioms Go.Proofs.YtjhjmncjidbieaaGreatDoor.sourceStrings_holds
