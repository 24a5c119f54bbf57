/-
  For every input SourceKept returns true, and each argument reads afterwards as it did. The package-level variables that its row lists start as the program's text lays them; the card ties them.
-/
import Derived.Test.YtjhjmncjidbieaaGreatDoorPI
namespace Go.Proofs.YtjhjmncjidbieaaGreatDoor
open Go Go.Av Go.RowKit Go.ChangeShapes Go.WideShapes
theorem Jr8{T:TT}{n ta tb tc:Nat}{l:List AV}(h:AShs T n [ta,tb,tc] l):∃ a b c,l=[a,b,c]/\JiD T n ta a/\JiD T n tb b/\JiD T n tc c:=by
 match l,h with
 | [a,b,c],⟨h1,h2,h3,_⟩=>exact⟨a,b,c,rfl,h1,h2,h3⟩
theorem Jaj(l:List AV)(h:AShs T0 8 Tryz.f12.params.toList l):P0 12 l (.bool true):=by
 rw[show Tryz.f12.params.toList=[120,121,155] by kernel_rfl]at h
 obtain⟨a,b,c,rfl,h1,h2,h3⟩:=Jr8 h
 obtain⟨ts,rfl,hl,hst⟩:=JqJ h1
 obtain⟨fs,rfl,hm⟩:=JrQ h2
 obtain⟨x,y,z,q0,q1,rfl,hq0,hq1⟩:=Jm2 h3
 exact c12 ts fs x y z q0 q1 hA hl hm hst hq0 hq1
set_option maxRecDepth 100000 in
theorem U3(os:Os)(started:os.Started)(H:Type)(enc:TypeId × Value->H) :
 ReturnsInHanded {} Tryz.checked os 12 .any (fun w args=>(Rows.sourceKeptSpec.pre enc Tryz.prog Tryz.f12 [] false w args/\laidMetH Tryz.prog Jbk w)/\sizedMet enc Tryz.prog Tryz.f12 (OpenSpec.ofChange Rows.sourceKeptSpec) false w args)
  (Rows.sourceKeptSpec.post enc Tryz.prog Tryz.f12 false true false false):=by
 refine returnsInHanded_of_change_and (C:=Tryz.checked) (X:=fun w _=>laidMetH Tryz.prog Jbk w) (fun _ _ _ hh h=>h.of_heap hh) own started (by kernel_rfl) Tryz.func12
  (ChangeSpec.witness_shaped (enc:=enc) (C:=Tryz.checked) (os:=os) (X:=fun w _=>laidMetH Tryz.prog Jbk w) false (wS os) #[.slice none 0 0,.slice none 0 0,.agg #[.int .i64 0,.int .i64 0,.int .i64 0,.int .u16 0,.int .u16 0]] 8 (wS_os os) (Jhy os _) (by kernel_rfl) (by kernel_rfl) (by kernel_rfl) (Jnt os _)) ?_
 intro W base args ds gs before hval hW _ _ hL _
 exact Jm1 (T:=T0) tok (n:=8) (tb:=4) JrD rfl (by kernel_rfl) (by kernel_rfl) (by kernel_rfl) (fun ds hds=>by
  rw[show Tryz.f12.params.toList.length=3 by kernel_rfl]at hds
  match ds,hds with
  | [_,_,_],_=>rfl) Jaj hval hW (globs hL)
theorem Jbj:Rows.SourceKeptSaid :=
 OpenClaim.holds_of_wide 12 Tryz.f12 rfl rfl rfl rfl rfl rfl rfl ⟨rfl,rfl,rfl,rfl,rfl⟩ rfl rfl rfl rfl rfl (by kernel_rfl) Tryz.func12 JkB
  (K0 (by kernel_rfl)) (by unfold Func.isWrapper;first | (rw[if_pos (by decide +kernel)];kernel_rfl) | (rw[if_neg (by decide +kernel)];exact⟨rfl,rfl⟩))
  (fun os started H enc _=>U3 os started H enc)
theorem sourceKept_holds:Rows.SourceKeptCardSaid :=
 Claim7.holds_tied_plain_at .later [] [.data, .data, .data, .data, .data, .funcs, .data, .pinned] true (true, "2eff5a8d10ee001d6dd469ae152b6610ee34d8acc09eeeb094ae4729cfefb337") false
  Jbj (fun _ h=>by cases h) (by kernel_rfl) (fun _ h=>by cases h) sourceKept_row_tie rfl ⟨rfl,rfl⟩ (by kernel_rfl) rfl
  (fun f fn hf hfn=>by
   obtain rfl : f = 12 := Option.some.inj ((show Tryz.prog.funcNamed "flyover/flyoverlaw02.SourceKept" = some 12 by kernel_rfl).symm.trans hf) |>.symm
   obtain rfl:fn=Tryz.f12:=(Option.some.inj (Tryz.func12.symm.trans hfn)).symm
   exact⟨by kernel_rfl,fun j t ht=>by
    have hm:t ∈ Tryz.f12.params.toList:=by simpa using Array.mem_of_getElem? ht
    have hall:(Tryz.f12.params.toList.all fun u=>!Tryz.prog.wantsStandIn u)=true:=by kernel_rfl
    exact(show Tryz.prog.wantsStandIn t=false by simpa using List.all_eq_true.1 hall t hm)⟩)
  (by kernel_rfl)
end Go.Proofs.YtjhjmncjidbieaaGreatDoor
#print axioms Go.Proofs.YtjhjmncjidbieaaGreatDoor.sourceKept_holds
