/-
  For every input TopEaveSpent returns true, and each argument reads afterwards as it did. The package-level variables that its row lists start as the program's text lays them; the card ties them.
-/
import Derived.Test.YthkngjifljcocaaGreatDoorPF
namespace Go.Proofs.YthkngjifljcocaaGreatDoor
open Go Go.Av Go.RowKit Go.ChangeShapes Go.WideShapes
theorem ashs_3{T:TT}{n ta tb:Nat}{l:List AV}(h:AShs T n [ta,tb] l):∃ a b,l=[a,b]/\JlE T n ta a/\JlE T n tb b:=by
 match l,h with
 | [a,b],⟨h1,h2,_⟩=>exact⟨a,b,rfl,h1,h2⟩
theorem UG(l:List AV)(h:AShs T0 8 Tryz.f3.params.toList l):P0 3 l (.bool true):=by
 rw[show Tryz.f3.params.toList=[27,29] by kernel_rfl]at h
 obtain⟨a,b,rfl,h1,h2⟩:=ashs_3 h
 obtain⟨ts,fs,x,y,z,rfl,hl,hm,hst⟩:=JkQ h1
 obtain⟨n0,n1,n2,n3,rfl,g0,g1,g2,g3⟩:=JkI h2
 exact c3 ts fs x y z n0 n1 n2 n3 hl hm hst g0 g1 g2 g3
set_option maxRecDepth 100000 in
theorem VP(os:Os)(started:os.Started)(H:Type)(enc:TypeId × Value->H) :
 ReturnsInHanded {} Tryz.checked os 3 .any (fun w args=>(Rows.topEaveSpentSpec.pre enc Tryz.prog Tryz.f3 [] false w args/\laidMetH Tryz.prog JbI w)/\sizedMet enc Tryz.prog Tryz.f3 (OpenSpec.ofChange Rows.topEaveSpentSpec) false w args)
  (Rows.topEaveSpentSpec.post enc Tryz.prog Tryz.f3 false true false false):=by
 refine returnsInHanded_of_change_and (C:=Tryz.checked) (X:=fun w _=>laidMetH Tryz.prog JbI w) (fun _ _ _ hh h=>h.of_heap hh) own started (by kernel_rfl) Tryz.func3
  (ChangeSpec.witness_shaped (enc:=enc) (C:=Tryz.checked) (os:=os) (X:=fun w _=>laidMetH Tryz.prog JbI w) false (World.laidAll Tryz.prog os JbI) #[.agg #[.slice none 0 0,.slice none 0 0,.int .i64 0,.int .i64 0,.int .i64 0],.agg #[.int .u16 0,.int .u16 0,.int .u16 0,.int .u16 0]] 8 (World.laidAll_os _ _ _) (World.shaped_of_ZipB (by kernel_rfl) (by kernel_rfl)) (by kernel_rfl) (by kernel_rfl) (by kernel_rfl) (JkU os _)) ?_
 intro W base args ds gs before hval hW _ _ hL _
 exact Jkq (T:=T0) tok (n:=8) (tb:=4) JnO rfl (by kernel_rfl) (by kernel_rfl) (by kernel_rfl) (fun ds hds=>by
  rw[show Tryz.f3.params.toList.length=2 by kernel_rfl]at hds
  match ds,hds with
  | [_,_],_=>rfl) UG hval hW (globs hL)
theorem We:Rows.TopEaveSpentSaid :=
 OpenClaim.holds_of_wide 3 Tryz.f3 rfl rfl rfl rfl rfl rfl rfl ⟨rfl,rfl,rfl,rfl,rfl⟩ rfl rfl rfl rfl rfl (by kernel_rfl) Tryz.func3 Jkt
  (Ky (by kernel_rfl)) (by unfold Func.isWrapper;first | (rw[if_pos (by decide +kernel)];kernel_rfl) | (rw[if_neg (by decide +kernel)];exact⟨rfl,rfl⟩))
  (fun os started H enc _=>VP os started H enc)
theorem topEaveSpent_holds:Rows.TopEaveSpentCardSaid :=
 Claim7.holds_tied_plain_at .later [] [.data] true (true, "8fc8042f572be237fe487116c0909be47b513cb8a8a48490594339a076fd05c2") false
  We (fun _ h=>by cases h) (by kernel_rfl) (fun _ h=>by cases h) topEaveSpent_row_tie rfl ⟨rfl,rfl⟩ (by kernel_rfl) rfl
  (fun f fn hf hfn=>by
   obtain rfl : f = 3 := Option.some.inj ((show Tryz.prog.funcNamed "flyover/flyovertop.TopEaveSpent" = some 3 by kernel_rfl).symm.trans hf) |>.symm
   obtain rfl:fn=Tryz.f3:=(Option.some.inj (Tryz.func3.symm.trans hfn)).symm
   exact⟨by kernel_rfl,fun j t ht=>by
    have hm:t ∈ Tryz.f3.params.toList:=by simpa using Array.mem_of_getElem? ht
    have hall:(Tryz.f3.params.toList.all fun u=>!Tryz.prog.wantsStandIn u)=true:=by kernel_rfl
    exact(show Tryz.prog.wantsStandIn t=false by simpa using List.all_eq_true.1 hall t hm)⟩)
  (by kernel_rfl)
end Go.Proofs.YthkngjifljcocaaGreatDoor
#print axioms Go.Proofs.YthkngjifljcocaaGreatDoor.topEaveSpent_holds
