/-
  For every input HomeOffers returns true, and each argument reads afterwards as it did. The package-level variables that its row lists start as the program's text lays them; the card ties them.
-/
import Derived.Test.YtfoeefaamjknpaaGreatDoorPF
namespace Go.Proofs.YtfoeefaamjknpaaGreatDoor
open Go Go.Av Go.RowKit Go.ChangeShapes Go.WideShapes
theorem ashs_6 {T:TT} {n ta tb tc:Nat} {l:List AV} (h:AShs T n [ta,tb,tc] l):∃ a b c,l=[a,b,c]∧ASh1 T n ta a∧ASh1 T n tb b∧ASh1 T n tc c:=by
 match l,h with
 | [a,b,c],⟨h1,h2,h3,_⟩=>exact ⟨a,b,c,rfl,h1,h2,h3⟩
theorem homeOffers_main (l:List AV) (h:AShs T0 8 Tryz.f6.params.toList l):PCall Tryz.prog G0 6 l (.bool true):=by
 rw [show Tryz.f6.params.toList=[79,94,95] by kernel_rfl] at h
 obtain ⟨a,b,c,rfl,h1,h2,h3⟩:=ashs_6 h
 obtain ⟨l,rfl,hl⟩:=zns_arg h1
 obtain ⟨x,y,rfl,hx,hy,hxy⟩:=strt_arg h2
 obtain ⟨o,rfl,ho⟩:=ofs_arg h3
 exact c6 l x y o hA hl hx hy hxy ho
set_option maxRecDepth 100000 in
theorem homeOffers_lifted (os:Os) (started:os.Started) (H:Type) (enc:TypeId × Value->H) :
 ReturnsInHanded {} Tryz.checked os 6 .any (fun w args=>(Rows.homeOffersSpec.pre enc Tryz.prog Tryz.f6 [] false w args∧laidMetH Tryz.prog laid7 w)∧sizedMet enc Tryz.prog Tryz.f6 (OpenSpec.ofChange Rows.homeOffersSpec) false w args)
  (Rows.homeOffersSpec.post enc Tryz.prog Tryz.f6 false true false false):=by
 refine returnsInHanded_of_change_and (C:=Tryz.checked) (X:=fun w _=>laidMetH Tryz.prog laid7 w) (fun _ _ _ hh h=>h.of_heap hh) own started (by kernel_rfl) Tryz.func6
  (ChangeSpec.witness_shaped (enc:=enc) (C:=Tryz.checked) (os:=os) (X:=fun w _=>laidMetH Tryz.prog laid7 w) false (World.laidAll Tryz.prog os laid7) #[.slice none 0 0,.agg #[.slice none 0 0,.slice none 0 0],.slice none 0 0] 8 (World.laidAll_os _ _ _) (World.shaped_of_ZipB (by kernel_rfl) (by kernel_rfl)) (by kernel_rfl) (by kernel_rfl) (by kernel_rfl) (door_met os _)) ?_
 intro W base args ds gs before hval hW _ _ hL _
 exact law_call (T:=T0) tok (n:=8) (tb:=4) laidOut rfl (by kernel_rfl) (by kernel_rfl) (by kernel_rfl) (fun ds hds=>by
  rw [show Tryz.f6.params.toList.length=3 by kernel_rfl] at hds
  match ds,hds with
  | [_,_,_],_=>rfl) homeOffers_main hval hW (globs hL)
theorem homeOffers_row:Rows.HomeOffersSaid :=
 OpenClaim.holds_of_wide 6 Tryz.f6 rfl rfl rfl rfl rfl rfl rfl ⟨rfl,rfl,rfl,rfl,rfl⟩ rfl rfl rfl rfl rfl (by kernel_rfl) Tryz.func6 jfacts_6
  (of_decide_eq_true (by kernel_rfl)) (by unfold Func.isWrapper;first | (rw [if_pos (by decide +kernel)];kernel_rfl) | (rw [if_neg (by decide +kernel)];exact ⟨rfl,rfl⟩))
  (fun os started H enc _=>homeOffers_lifted os started H enc)
theorem homeOffers_holds:Rows.HomeOffersCardSaid :=
 Claim7.holds_tied_plain_at .later [] [.data, .data, .data, .data, .data, .data, .pinned] true (true, "92193935397b5a87bb9711b5489e958414a598b7d765f2bc372f27e1ae7e9198") false
  homeOffers_row (fun _ h=>by cases h) (by kernel_rfl) (fun _ h=>by cases h) homeOffers_row_tie rfl ⟨rfl,rfl⟩ (by kernel_rfl) rfl
  (fun f fn hf hfn=>by
   obtain rfl : f = 6 := Option.some.inj ((show Tryz.prog.funcNamed "flyover/flyoverlaw08.HomeOffers" = some 6 by kernel_rfl).symm.trans hf) |>.symm
   obtain rfl:fn=Tryz.f6:=(Option.some.inj (Tryz.func6.symm.trans hfn)).symm
   exact ⟨by kernel_rfl,fun j t ht=>by
    have hm:t ∈ Tryz.f6.params.toList:=by simpa using Array.mem_of_getElem? ht
    have hall:(Tryz.f6.params.toList.all fun u=>!Tryz.prog.wantsStandIn u)=true:=by kernel_rfl
    exact (show Tryz.prog.wantsStandIn t=false by simpa using List.all_eq_true.1 hall t hm)⟩)
  (by kernel_rfl)
end Go.Proofs.YtfoeefaamjknpaaGreatDoor
#print axioms Go.Proofs.YtfoeefaamjknpaaGreatDoor.homeOffers_holds
