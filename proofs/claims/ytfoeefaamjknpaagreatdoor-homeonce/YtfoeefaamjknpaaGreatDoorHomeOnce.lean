/-
  For every input HomeOnce returns true, and each argument reads afterwards as it did. The package-level variables that its row lists start as the program's text lays them; the card ties them.
-/
import Derived.Test.YtfoeefaamjknpaaGreatDoorPG
namespace Go.Proofs.YtfoeefaamjknpaaGreatDoor
open Go Go.Av Go.RowKit Go.ChangeShapes Go.WideShapes
theorem ashs_11 {T:TT} {n ta tb tc:Nat} {l:List AV} (h:AShs T n [ta,tb,tc] l):∃ a b c,l=[a,b,c]∧ASh1 T n ta a∧ASh1 T n tb b∧ASh1 T n tc c:=by
 match l,h with
 | [a,b,c],⟨h1,h2,h3,_⟩=>exact ⟨a,b,c,rfl,h1,h2,h3⟩
theorem homeOnce_main (l:List AV) (h:AShs T0 8 Tryz.f11.params.toList l):PCall Tryz.prog G0 11 l (.bool true):=by
 rw [show Tryz.f11.params.toList=[79,94,158] by kernel_rfl] at h
 obtain ⟨a,b,c,rfl,h1,h2,h3⟩:=ashs_11 h
 obtain ⟨l,rfl,hl⟩:=zns_arg h1
 obtain ⟨x,y,rfl,hx,hy,hxy⟩:=strt_arg h2
 obtain ⟨n,p,rfl,hn,hp⟩:=u82_arg h3
 exact c11 l x y n p hA hl hx hy hxy hn hp
set_option maxRecDepth 100000 in
theorem homeOnce_lifted (os:Os) (started:os.Started) (H:Type) (enc:TypeId × Value->H) :
 ReturnsInHanded {} Tryz.checked os 11 .any (fun w args=>(Rows.homeOnceSpec.pre enc Tryz.prog Tryz.f11 [] false w args∧laidMetH Tryz.prog laid7 w)∧sizedMet enc Tryz.prog Tryz.f11 (OpenSpec.ofChange Rows.homeOnceSpec) false w args)
  (Rows.homeOnceSpec.post enc Tryz.prog Tryz.f11 false true false false):=by
 refine returnsInHanded_of_change_and (C:=Tryz.checked) (X:=fun w _=>laidMetH Tryz.prog laid7 w) (fun _ _ _ hh h=>h.of_heap hh) own started (by kernel_rfl) Tryz.func11
  (ChangeSpec.witness_shaped (enc:=enc) (C:=Tryz.checked) (os:=os) (X:=fun w _=>laidMetH Tryz.prog laid7 w) false (World.laidAll Tryz.prog os laid7) #[.slice none 0 0,.agg #[.slice none 0 0,.slice none 0 0],.agg #[.int .u8 0,.int .u8 0]] 8 (World.laidAll_os _ _ _) (World.shaped_of_ZipB (by kernel_rfl) (by kernel_rfl)) (by kernel_rfl) (by kernel_rfl) (by kernel_rfl) (door_met os _)) ?_
 intro W base args ds gs before hval hW _ _ hL _
 exact law_call (T:=T0) tok (n:=8) (tb:=4) laidOut rfl (by kernel_rfl) (by kernel_rfl) (by kernel_rfl) (fun ds hds=>by
  rw [show Tryz.f11.params.toList.length=3 by kernel_rfl] at hds
  match ds,hds with
  | [_,_,_],_=>rfl) homeOnce_main hval hW (globs hL)
theorem homeOnce_row:Rows.HomeOnceSaid :=
 OpenClaim.holds_of_wide 11 Tryz.f11 rfl rfl rfl rfl rfl rfl rfl ⟨rfl,rfl,rfl,rfl,rfl⟩ rfl rfl rfl rfl rfl (by kernel_rfl) Tryz.func11 jfacts_11
  (of_decide_eq_true (by kernel_rfl)) (by unfold Func.isWrapper;first | (rw [if_pos (by decide +kernel)];kernel_rfl) | (rw [if_neg (by decide +kernel)];exact ⟨rfl,rfl⟩))
  (fun os started H enc _=>homeOnce_lifted os started H enc)
theorem homeOnce_holds:Rows.HomeOnceCardSaid :=
 Claim7.holds_tied_plain_at .later [] [.data, .data, .data, .data, .data, .data, .pinned] true (true, "92193935397b5a87bb9711b5489e958414a598b7d765f2bc372f27e1ae7e9198") false
  homeOnce_row (fun _ h=>by cases h) (by kernel_rfl) (fun _ h=>by cases h) homeOnce_row_tie rfl ⟨rfl,rfl⟩ (by kernel_rfl) rfl
  (fun f fn hf hfn=>by
   obtain rfl : f = 11 := Option.some.inj ((show Tryz.prog.funcNamed "flyover/flyoverlaw08.HomeOnce" = some 11 by kernel_rfl).symm.trans hf) |>.symm
   obtain rfl:fn=Tryz.f11:=(Option.some.inj (Tryz.func11.symm.trans hfn)).symm
   exact ⟨by kernel_rfl,fun j t ht=>by
    have hm:t ∈ Tryz.f11.params.toList:=by simpa using Array.mem_of_getElem? ht
    have hall:(Tryz.f11.params.toList.all fun u=>!Tryz.prog.wantsStandIn u)=true:=by kernel_rfl
    exact (show Tryz.prog.wantsStandIn t=false by simpa using List.all_eq_true.1 hall t hm)⟩)
  (by kernel_rfl)
end Go.Proofs.YtfoeefaamjknpaaGreatDoor
#print axioms Go.Proofs.YtfoeefaamjknpaaGreatDoor.homeOnce_holds
