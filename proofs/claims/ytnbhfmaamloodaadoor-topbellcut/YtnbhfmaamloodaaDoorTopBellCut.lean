/-
  For every input TopBellCut returns true, and each argument reads afterwards as it did. The package-level variables that its row lists start as the program's text lays them; the card ties them.
-/
import Derived.Test.YtnbhfmaamloodaaDoorPD
namespace Go.Proofs.YtnbhfmaamloodaaDoor
open Go Go.Av Go.RowKit Go.ChangeShapes Go.WideShapes
theorem ashs_3 {T:TT} {n ta tb tc:Nat} {l:List AV} (h:AShs T n [ta,tb,tc] l):∃ a b c,l=[a,b,c]∧ASh1 T n ta a∧ASh1 T n tb b∧ASh1 T n tc c:=by
 match l,h with
 | [a,b,c],⟨h1,h2,h3,_⟩=>exact ⟨a,b,c,rfl,h1,h2,h3⟩
theorem topBellCut_main (l:List AV) (h:AShs T0 8 Tryd.f3.params.toList l):PCall Tryd.prog G0 3 l (.bool true):=by
 rw [show Tryd.f3.params.toList=[26,27,33] by kernel_rfl] at h
 obtain ⟨a,b,c,rfl,h1,h2,h3⟩:=ashs_3 h
 obtain ⟨t,rfl,ht⟩:=ty_arg h1
 obtain ⟨l,rfl,hl⟩:=track_arg h2
 obtain ⟨x,y,z,q0,q1,q2,rfl,hq0,hq1,hq2⟩:=bell_arg h3
 exact c3 t l x y z q0 q1 q2 (by unfold maxLen at ht;omega) (by unfold maxLen at hl;omega) hq0 hq1 hq2
set_option maxRecDepth 100000 in
theorem topBellCut_lifted (os:Os) (started:os.Started) (H:Type) (enc:TypeId × Value->H) :
 ReturnsInHanded {} Tryd.checked os 3 .any (fun w args=>(Rows.topBellCutSpec.pre enc Tryd.prog Tryd.f3 [] false w args∧laidMetH Tryd.prog laid1 w)∧sizedMet enc Tryd.prog Tryd.f3 (OpenSpec.ofChange Rows.topBellCutSpec) false w args)
  (Rows.topBellCutSpec.post enc Tryd.prog Tryd.f3 false true false false):=by
 refine returnsInHanded_of_change_and (C:=Tryd.checked) (X:=fun w _=>laidMetH Tryd.prog laid1 w) (fun _ _ _ hh h=>h.of_heap hh) own started (by kernel_rfl) Tryd.func3
  (ChangeSpec.witness_shaped (enc:=enc) (C:=Tryd.checked) (os:=os) (X:=fun w _=>laidMetH Tryd.prog laid1 w) false (World.laidAll Tryd.prog os laid1) #[.agg #[.string ⟨#[]⟩,.slice none 0 0,.int .i64 0,.int .i64 0,.int .i64 0,.int .i64 0,.int .i64 0,.int .i64 0,.int .i64 0,.int .i64 0,.int .i64 0,.slice none 0 0,.slice none 0 0],.slice none 0 0,.agg #[.int .i64 0,.int .i64 0,.int .i64 0,.int .u16 0,.int .u16 0,.int .u8 0]] 8 (World.laidAll_os _ _ _) (World.shaped_of_ZipB (by kernel_rfl) (by kernel_rfl)) (by kernel_rfl) (by kernel_rfl) (by kernel_rfl) (door_met os _)) ?_
 intro W base args ds gs before hval hW _ _ hL _
 exact law_call (T:=T0) tok (n:=8) (tb:=4) laidOut rfl (by kernel_rfl) (by kernel_rfl) (by kernel_rfl) (fun ds hds=>by
  rw [show Tryd.f3.params.toList.length=3 by kernel_rfl] at hds
  match ds,hds with
  | [_,_,_],_=>rfl) topBellCut_main hval hW (globs hL)
theorem topBellCut_row:Rows.TopBellCutSaid :=
 OpenClaim.holds_of_wide 3 Tryd.f3 rfl rfl rfl rfl rfl rfl rfl ⟨rfl,rfl,rfl,rfl,rfl⟩ rfl rfl rfl rfl rfl (by kernel_rfl) Tryd.func3 jfacts_3
  (of_decide_eq_true (by kernel_rfl)) (by unfold Func.isWrapper;first | (rw [if_pos (by decide +kernel)];kernel_rfl) | (rw [if_neg (by decide +kernel)];exact ⟨rfl,rfl⟩))
  (fun os started H enc _=>topBellCut_lifted os started H enc)
theorem topBellCut_holds:Rows.TopBellCutCardSaid :=
 Claim7.holds_tied_plain_at .later [] [.data] true (true, "d38143f44c62685a04b3c0958c0a5508b45eb3d0781259435e1290e2e1ace665") false
  topBellCut_row (fun _ h=>by cases h) (by kernel_rfl) (fun _ h=>by cases h) topBellCut_row_tie rfl ⟨rfl,rfl⟩ (by kernel_rfl) rfl
  (fun f fn hf hfn=>by
   obtain rfl : f = 3 := Option.some.inj ((show Tryd.prog.funcNamed "flyover/flyovertop.TopBellCut" = some 3 by kernel_rfl).symm.trans hf) |>.symm
   obtain rfl:fn=Tryd.f3:=(Option.some.inj (Tryd.func3.symm.trans hfn)).symm
   exact ⟨by kernel_rfl,fun j t ht=>by
    have hm:t ∈ Tryd.f3.params.toList:=by simpa using Array.mem_of_getElem? ht
    have hall:(Tryd.f3.params.toList.all fun u=>!Tryd.prog.wantsStandIn u)=true:=by kernel_rfl
    exact (show Tryd.prog.wantsStandIn t=false by simpa using List.all_eq_true.1 hall t hm)⟩)
  (by kernel_rfl)
end Go.Proofs.YtnbhfmaamloodaaDoor
#print axioms Go.Proofs.YtnbhfmaamloodaaDoor.topBellCut_holds
