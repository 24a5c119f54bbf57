/-
  What is heard at each tick of a track, and the example of TopBellCut. The example of TopBellCut, and TopBellCut where its input is not valid. TopBellCut where its input is valid. No condition but the theorems' own.
-/
import Derived.Test.YtnbhfmaamloodaaDoorPC
import Derived.Test.YtnbhfmaamloodaaDoorAvD
namespace Go.Proofs.YtnbhfmaamloodaaDoor
open Go Go.Av Go.RowKit
def nT (l:List Fx):Nat:=(lastT l-firstT l).toNat
def hAll (t:Ty) (l:List Fx) (x y z:Int):List Int:=hL (hrdA t l x y z) (firstT l) (nT l)
def la6b (t:Ty) (l:List Fx) (x y z:Int):LA:={
 pre:=[.own 8 3 1,.reno 8 1,.keep [1,3,5,8,9] [1],.bound 2],post:=[.reno 8 1,.keep [1,3,5,8,9] [1],.bound 2]
 Gh:=Nat
 st:=fun i=>⟨[(1,.sl 5 (l.map encFx)),(3,.elt 13 [encTy t] 0 0),(5,.elt 3 [[.i x,.i y,.i z]] 0 0),(8,.own 1 ((hL (hrdA t l x y z) (firstT l) i).map encI).length),(9,.i (firstT l+i))],[(1,.buf 3 1 ((hL (hrdA t l x y z) (firstT l) i).map encI))],2⟩
 ok:=fun i=>i<=nT l
 ms:=fun i=>nT l-i }
def sp6b (t:Ty) (l:List Fx) (x y z:Int):Nat->List AV->Option AV
 | 9,_=>some (.sl 5 (l.map encFx))
 | 19,[_,.int _ k]=>some (.tup [.agg [.i (aX l k),.i (aY l k),.i (aZ l k),.i (aH l k),.i (aK l k),.i (aP l k)],.i 0])
 | 8,_=>some (.agg (encTy t))
 | 20,[_,.agg [.int _ a,.int _ b,.int _ c,.int _ h,.int _ k,.int _ p],_]=>some (.tup [.i (hrd t h k p (x-a) (y-b) (z-c)),.i 0])
 | 21,_=>some (.i 0)
 | _,_=>none
def cl6b:Operand->Bool
 | .tmp t=>t.beq 37 || t.beq 52
 | _=>false
theorem first_lt {l:List Fx} (h:TrackOK l):firstT l < lastT l:=by
 have hn:=h.n1
 have h1:=trk_lt h (i:=0) (by omega)
 have h2:=trk_mono h (l.length-2) 1 (by omega)
 rw [show 1+(l.length-2)=l.length-1 by omega] at h2
 exact Int.lt_of_lt_of_le h1 h2
abbrev zc6a (t:Ty) (l:List Fx) (g:Nat) (x:Int) (y:Int) (z:Int):=hrd t (aH l (firstT l+(g:Int))) (aK l (firstT l+(g:Int))) (aP l (firstT l+(g:Int))) (x-aX l (firstT l+(g:Int))) (y-aY l (firstT l+(g:Int))) (z-aZ l (firstT l+(g:Int)))
abbrev zc6b (l:List Fx) (g:Nat):=[AV.i (aX l (firstT l+(g:Int))),AV.i (aY l (firstT l+(g:Int))),AV.i (aZ l (firstT l+(g:Int))),AV.i (aH l (firstT l+(g:Int))),AV.i (aK l (firstT l+(g:Int))),AV.i (aP l (firstT l+(g:Int)))]
theorem c6 (t:Ty) (l:List Fx) (x y z:Int) (hS:ShortTy t) (hT:sTyS t=0) (hR:sTrackR l=0) (hl:l.length<=6) (hP:sPlace x y z=0):PCall Tryd.prog G0 6 [.agg (encTy t),.sl 5 (l.map encFx),.agg [.i x,.i y,.i z]] (.tup [.sl 1 ((hAll t l x y z).map encI),.bool true]):=by
 have key :
  (0:Int)<=0∧(0:Int) < (↑(List.map encFx l).length:Int)∧nth (nthR (List.map encFx l) 0) 0=AV.i (firstT l)∧(∃ (g:Nat),g<=nT l∧AS.mk [(1,AV.sl 5 (List.map encFx l)),(3,AV.elt 13 [(encTy t)] 0 0),(5,AV.elt 3
  [[AV.i x,AV.i y,AV.i z]] 0 0),(8,AV.own 1 0),(9,AV.i (firstT l))] [(1,ABlk.buf 3 1 [])] 2=AS.mk [(1,AV.sl 5 (List.map encFx l)),(3,AV.elt 13 [(encTy t)] 0 0),(5,AV.elt 3 [[AV.i x,AV.i y,AV.i z]] 0 0),(8,AV.own 1
  (List.map encI (hL (hrdA t l x y z) (firstT l) g)).length),(9,AV.i (firstT l+(g:Int)))] [(1,ABlk.buf 3 1 (List.map encI (hL (hrdA t l x y z) (firstT l) g)))] 2)∧∀ (g:Nat),g<=nT l->In64 ((↑(List.map encFx l).length :
  Int)-1)∧(0:Int)<=(↑(List.map encFx l).length:Int)-1∧(↑(List.map encFx l).length:Int)-1 < (↑(List.map encFx l).length:Int)∧nth (nthR (List.map encFx l) ((↑(List.map encFx l).length:Int)-1).toNat) 0=AV.i
  (lastT l)∧(decide (firstT l+(g:Int) < lastT l)=true->PCall Tryd.prog G0 9 [AV.sl 5 (List.map encFx l)] (AV.sl 5 (List.map encFx l))∧PCall Tryd.prog G0 19 [AV.sl 5 (List.map encFx l),AV.i (firstT l+(g:Int))]
  (AV.tup [AV.agg (zc6b l g),AV.i 0])∧AV.bool false=AV.bool false∧PCall Tryd.prog G0 8 [AV.agg (encTy t)] (AV.agg (encTy t))∧PCall Tryd.prog G0 20 [AV.agg (encTy t),AV.agg (zc6b l g),AV.agg [AV.i x,AV.i y,AV.i z]]
  (AV.tup [AV.i (zc6a t l g x y z),AV.i 0])∧AV.bool false=AV.bool false∧PCall Tryd.prog G0 21 [AV.i (zc6a t l g x y z)] (AV.i 0)∧AV.bool false=AV.bool false∧AV.bool false=AV.bool false∧(List.map encI (hL (hrdA t l x
  y z) (firstT l) g)).length+1<=9223372036854775807∧((List.map encI (hL (hrdA t l x y z) (firstT l) g)).length+1) * 8<=140737488355328∧In64 (firstT l+(g:Int)+1)∧∃ (g':Nat),g'<=nT l∧nT l-g' < nT l-g ∧
  AS.mk [(1,AV.sl 5 (List.map encFx l)),(3,AV.elt 13 [(encTy t)] 0 0),(5,AV.elt 3 [[AV.i x,AV.i y,AV.i z]] 0 0),(8,AV.own 1 ((List.map encI (hL (hrdA t l x y z) (firstT l) g)).length+1)),(9,AV.i (firstT l+(g:Int) +
  1))] [(1,ABlk.buf 3 1 (List.map encI (hL (hrdA t l x y z) (firstT l) g)++[[AV.i (zc6a t l g x y z)]]))] 2=AS.mk [(1,AV.sl 5 (List.map encFx l)),(3,AV.elt 13 [(encTy t)] 0 0),(5,AV.elt 3 [[AV.i x,AV.i y,AV.i z]] 0 0),
  (8,AV.own 1 (List.map encI (hL (hrdA t l x y z) (firstT l) g')).length),(9,AV.i (firstT l+(↑g':Int)))] [(1,ABlk.buf 3 1 (List.map encI (hL (hrdA t l x y z) (firstT l) g')))] 2)∧(decide (firstT l+(g:Int) < lastT l) =
  false->AV.bool (decide ((↑(List.map encI (hL (hrdA t l x y z) (firstT l) g)).length:Int) > 0))=AV.bool true∧AV.tup [AV.sl 1 (List.map encI (hL (hrdA t l x y z) (firstT l) g)),AV.bool true]=AV.tup [AV.sl 1 (List.map encI
  (hAll t l x y z)),AV.bool true]):=by
   delta zc6a zc6b
   have hlm:(List.map encFx l).length=l.length:=List.length_map _
   obtain ⟨hO,hsp⟩:=track_ok hR
   have hn:=hO.n1
   have p:=place_ok hP
   have hft:=first_lt hO
   have bA:=(hO.b 0 (by omega)).1
   have bB:=(hO.b (l.length-1) (by omega)).1
   rw [show (l.getD 0 default).t=firstT l from rfl] at bA
   rw [show (l.getD (l.length-1) default).t=lastT l from rfl] at bB
   have hS2:sTrackS l=0:=by rw [track_eq];exact hR
   rw [hlm]
   have e1:((l.length:Int)-1).toNat=l.length-1:=by omega
   have hen:∀ g,(List.map encI (hL (hrdA t l x y z) (firstT l) g)).length=g:=fun g=>by rw [List.length_map,hL_len]
   refine ⟨by omega,by omega,by rw [row_at encFx (by omega)];rfl,⟨0,Nat.zero_le _,by rw [show firstT l+((0:Nat):Int)=firstT l by omega];rfl⟩,fun g hg=>⟨by unfold In64;omega,by omega,by omega,by rw [e1,row_at encFx (by omega)];rfl,fun hd=>?_,fun hd=>?_⟩⟩
   · have hk:=of_decide_eq_true hd
     have hA:=at_ok hO (tk:=firstT l+g) (by omega) hk
     have k19:=c19 l (firstT l+g) (by omega)
     have q0:outT l (firstT l+g)=false:=by
      unfold outT
      rw [if_neg (by rw [decide_eq_true_eq];omega)]
      exact decide_eq_false (by omega)
     have q1:chkAt l (firstT l+g)=0:=by
      unfold chkAt
      rw [hS2,q0]
      rfl
     have q2:rAt l (firstT l+g)=[.i (aX l (firstT l+g)),.i (aY l (firstT l+g)),.i (aZ l (firstT l+g)),.i (aH l (firstT l+g)),.i (aK l (firstT l+g)),.i (aP l (firstT l+g))]:=by
      unfold rAt
      rw [hS2,q0]
      rfl
     rw [q1,q2] at k19
     have hPl:sPlace (aX l (firstT l+g)) (aY l (firstT l+g)) (aZ l (firstT l+g))=0:=by
      unfold sPlace
      simp only [first_zero,within_zero]
      exact ⟨hA.x,hA.y,hA.z,rfl⟩
     have hz:=hrd_z hT hPl (dir_z hA.h hA.k) (show sPower (aP l (firstT l+g))=0 from within_zero.2 hA.p) hP
     have k20:=c20t hS (aX l (firstT l+g)) (aY l (firstT l+g)) (aZ l (firstT l+g)) (aH l (firstT l+g)) (aK l (firstT l+g)) (aP l (firstT l+g)) x y z
     rw [hz.1,hz.2] at k20
     have hb:=hrdA_b (x:=x) (y:=y) (z:=z) hT hO (tk:=firstT l+g) (by omega) hk
     have k21:PCall Tryd.prog G0 21 [.i (hrdA t l x y z (firstT l+g))] (.i 0):=by
      have:=c21 (hrdA t l x y z (firstT l+g))
      rwa [within_zero.2 (show (0:Int)<=hrdA t l x y z (firstT l+g)∧hrdA t l x y z (firstT l+g)<=10000000000000 by omega)] at this
     unfold nT at hg
     refine ⟨(c9 l (by omega)).un,k19,rfl,c8 t (by have:=hS.st;omega) (by have:=hS.s;omega) (by have:=hS.q;omega) (fun s hs=>by have:=hS.e s hs;omega),k20,rfl,k21,rfl,rfl,by rw [hen];omega,by rw [hen];omega,by unfold In64;omega,g+1,by unfold nT;omega,by unfold nT;omega,?_⟩
     rw [hen,hen,hL_succ,List.map_append,show firstT l+((g+1:Nat):Int)=firstT l+g+1 by omega]
     rfl
   · have hd:=of_decide_eq_false hd
     have e:g=nT l:=by
      unfold nT at *
      omega
     subst e
     exact ⟨congrArg AV.bool (decide_eq_true (by rw [hen];unfold nT;omega)),rfl⟩
 exact c_of Tryd.f6 ({ noSym 9 (fzB (mkB (sp6b t l x y z) 6 [(2,3,litI (firstT l)),(3,7,litI (lastT l)),(6,1,rdF),(9,1,rdF),(9,5,rdF),(9,6,rdF),(12,3,rdT)] (la0 (la6b t l x y z)))) with cl:=cl6b }) (by kernel_rfl) (by kernel_rfl) (by kernel_rfl) (by kernel_rfl) key (by kernel_rfl)
end Go.Proofs.YtnbhfmaamloodaaDoor
namespace Go.Proofs.YtnbhfmaamloodaaDoor
open Go Go.Av Go.RowKit
def tJ:Ty:=⟨[106,101,116],[1000],1000,1000,1000,1000,500,500,500,500,500,[0],[⟨10,[1000]⟩,⟨20,[2000]⟩]⟩
def lK:List Fx:=[⟨5,0,0,0,10⟩,⟨9,8,0,0,20⟩]
def sp5b:Nat->List AV->Option AV
 | 7,_=>some (.tup [.i 2700,.i 0])
 | 10,_=>some (.tup [.i 2700,.i 0])
 | 11,_=>some (.tup [.i 24,.i 0])
 | _,_=>none
theorem c5  :PCall Tryd.prog G0 5 [] (.bool true):=by
 have key :
  PCall Tryd.prog G0 7 [AV.agg [AV.str [(106:UInt8),(101:UInt8),(116:UInt8)],AV.sl 1 [[AV.i 1000]],AV.i 1000,AV.i 1000,AV.i 1000,AV.i 1000,AV.i 500,AV.i 500,AV.i 500,AV.i 500,AV.i 500,AV.sl 1 [[AV.i 0]],AV.sl 2
  [[AV.i 10,AV.sl 1 [[AV.i 1000]]],[AV.i 20,AV.sl 1 [[AV.i 2000]]]]],AV.sl 5 [[AV.i 5,AV.i 0,AV.i 0,AV.i 0,AV.i 10],[AV.i 9,AV.i 8,AV.i 0,AV.i 0,AV.i 20]],AV.agg [AV.i 5,AV.i 9],AV.agg [AV.i 4,AV.i 2,AV.i 0]]
  (AV.tup [AV.i 2700,AV.i 0])∧PCall Tryd.prog G0 10 [AV.sl 1 [[AV.i 500],[AV.i 600],[AV.i 750],[AV.i 850]]] (AV.tup [AV.i 2700,AV.i 0])∧PCall Tryd.prog G0 11 [AV.i 2700] (AV.tup [AV.i 24,AV.i 0])∧AV.bool true=AV.bool
  true:=by
   have h7:=c7 tJ lK 5 9 4 2 0 (by decide) (by decide) (by decide) (by
    intro s hs
    simp only [tJ,List.mem_cons,List.not_mem_nil,or_false] at hs
    rcases hs with rfl | rfl <;> decide) (by decide) (by decide)
   rw [show rExp tJ lK 5 9 4 2 0=2700 by decide +kernel,show chkH tJ lK 5 9 4 2 0=0 by decide +kernel] at h7
   have h10:=c10 [500,600,750,850] (by decide)
   rw [show sV [500,600,750,850]=2700 by decide +kernel,show sE [500,600,750,850]=0 by decide +kernel] at h10
   have h11:=c11 2700 (by decide +kernel)
   rw [show lvl 2700=24 by decide +kernel] at h11
   exact ⟨h7,h10,h11,rfl⟩
 exact c_of Tryd.f5 (noSym 6 (fzB (mkB sp5b 5 [] noLa))) (by kernel_rfl) (by kernel_rfl) (by kernel_rfl) (by kernel_rfl) key (by kernel_rfl)
def sp3a (t:Ty) (l:List Fx) (x y z:Int):Nat->List AV->Option AV
 | 4,_=>some (.bool false)
 | 5,_=>some (.bool true)
 | _,_=>none
def clL (l:List Nat):Operand->Bool
 | .tmp t=>l.any fun x=>x.beq t
 | _=>false
theorem c3a (t:Ty) (l:List Fx) (x y z q0 q1 q2:Int) (hl:t.st.length<=9223372036854775807) (hm:l.length<=9223372036854775807) (hg:g6 t l x y z 150=false):PCall Tryd.prog G0 3 [.agg (encTy t),.sl 5 (l.map encFx),.agg [.i x,.i y,.i z,.int .u16 q0,.int .u16 q1,.int .u8 q2]] (.bool true):=by
 have key :
  PCall Tryd.prog G0 4 [AV.agg (encTy t),AV.sl 5 (List.map encFx l),AV.agg [AV.i x,AV.i y,AV.i z],AV.i 150] (AV.bool false)∧AV.bool true=AV.bool true∧PCall Tryd.prog G0 5 [] (AV.bool true)∧AV.bool true=AV.bool true :=
  by
   have h4:=c4b t l x y z 150 hl hm
   rw [hg] at h4
   exact ⟨h4,rfl,c5,rfl⟩
 exact c_of Tryd.f3 ({ fzB (mkB (sp3a t l x y z) 3 [(1,5,rdT)] noLa) with cl:=clL [37] }) (by kernel_rfl) (by kernel_rfl) (by kernel_rfl) (by kernel_rfl) key (by kernel_rfl)
end Go.Proofs.YtnbhfmaamloodaaDoor
namespace Go.Proofs.YtnbhfmaamloodaaDoor
open Go Go.Av Go.RowKit
def kT (n:Nat) (q:Int):Nat:=q.toNat % n
def cu1 (l:List Fx) (q:Int):Int:=firstT l+((q.toNat % (nT l+1):Nat):Int)
def cu2 (l:List Fx) (q r:Int):Int:=cu1 l q+((r.toNat % ((lastT l-cu1 l q).toNat+1):Nat):Int)
def rot (L:List Int) (k:Nat):List Int:=L.drop k++L.take k
def eA (t:Ty) (l:List Fx) (x y z a b:Int):Int:=sumH (hrdA t l x y z) a (b-a).toNat
structure BOK (t:Ty) (l:List Fx) (x y z:Int):Prop where
 sh:ShortTy t
 ln:l.length<=6
 ty:sTyS t=0
 tr:sTrackR l=0
 ok:TrackOK l
 pl:sPlace x y z=0
 sp:lastT l-firstT l<=150
theorem ite_tt {p:Bool} {b:Bool} (h:(if p=true then b else false)=true):p=true∧b=true:=by
 by_cases e:p=true
 · rw [if_pos e] at h
   exact ⟨e,h⟩
 · rw [if_neg e] at h
   cases h
theorem bok_of {t:Ty} {l:List Fx} {x y z:Int} (h:g6 t l x y z 150=true):BOK t l x y z:=by
 obtain ⟨h5,h6⟩:=ite_tt h
 obtain ⟨h4,h5'⟩:=ite_tt h5
 obtain ⟨h3,h4'⟩:=ite_tt h4
 obtain ⟨h2,h3'⟩:=ite_tt h3
 obtain ⟨h1,h2'⟩:=ite_tt h2
 have a:=of_decide_eq_true h2'
 have e3:sTyR t=0:=by simpa using h3'
 have e4:sTrackR l=0:=by simpa using h4'
 have e5:sPlace x y z=0:=by simpa using h5'
 exact ⟨short_of h1,by omega,by rw [ty_eq];exact e3,e4,(track_ok e4).1,e5,of_decide_eq_true h6⟩
theorem nT_b {t:Ty} {l:List Fx} {x y z:Int} (h:BOK t l x y z):1<=nT l∧nT l<=150∧firstT l+(nT l:Int)=lastT l:=by
 have h1:=first_lt h.ok
 have h2:=h.sp
 unfold nT
 omega
theorem tick_b {t:Ty} {l:List Fx} {x y z:Int} (h:BOK t l x y z):0<=firstT l∧lastT l<=100000000:=by
 have hn:=h.ok.n1
 exact ⟨(h.ok.b 0 (by omega)).1.1,(h.ok.b (l.length-1) (by omega)).1.2⟩
theorem hAll_len (t:Ty) (l:List Fx) (x y z:Int):(hAll t l x y z).length=nT l:=hL_len _ _ _
theorem hAll_b {t:Ty} {l:List Fx} {x y z:Int} (h:BOK t l x y z):∀ k,k < (hAll t l x y z).length->0<=(hAll t l x y z).getD k default∧(hAll t l x y z).getD k default<=100000000000:=fun k hk=>by
 rw [hAll_len] at hk
 unfold hAll
 rw [hL_at hk]
 have:=nT_b h
 exact hrdA_b h.ty h.ok (by omega) (by omega)
theorem hr_b {t:Ty} {l:List Fx} {x y z:Int} (h:BOK t l x y z) {a:Int} {n:Nat} (h1:firstT l<=a) (h2:a+n<=lastT l):∀ i:Nat,i < n->0<=hrdA t l x y z (a+i)∧hrdA t l x y z (a+i)<=100000000000:=fun i hi=>hrdA_b h.ty h.ok (by omega) (by omega)
theorem eA_nn {t:Ty} {l:List Fx} {x y z:Int} (h:BOK t l x y z) {a b:Int} (h1:firstT l<=a) (h2:a<=b) (h3:b<=lastT l):0<=eA t l x y z a b :=
 sumH_nn fun i hi=>(hr_b h h1 (n:=(b-a).toNat) (by omega) i hi).1
theorem eA_cut {t:Ty} {l:List Fx} {x y z:Int} {a b c:Int} (h1:a<=c) (h2:c<=b):eA t l x y z a c+eA t l x y z c b=eA t l x y z a b:=sumH_cut _ h1 h2
theorem eA_hi {t:Ty} {l:List Fx} {x y z:Int} (h:BOK t l x y z):eA t l x y z (firstT l) (lastT l)<=15000000000000:=by
 have hn:=nT_b h
 have h2:=sumH_hi (f:=hrdA t l x y z) (a:=firstT l) (c:=100000000000) (n:=nT l) fun i hi=>(hr_b h (Int.le_refl _) (n:=nT l) (by omega) i hi).2
 show sumH (hrdA t l x y z) (firstT l) (nT l)<=_
 omega
theorem eA_sum (t:Ty) (l:List Fx) (x y z:Int):lsum (hAll t l x y z)=eA t l x y z (firstT l) (lastT l):=hL_sum _ _ _
theorem cu_b {t:Ty} {l:List Fx} {x y z:Int} (h:BOK t l x y z) (q r:Int):firstT l<=cu1 l q∧cu1 l q<=cu2 l q r∧cu2 l q r<=lastT l:=by
 have hn:=nT_b h
 have h1:=Nat.mod_lt q.toNat (show nT l+1 > 0 by omega)
 have h2:=Nat.mod_lt r.toNat (show (lastT l-cu1 l q).toNat+1 > 0 by omega)
 have e1:cu1 l q=firstT l+((q.toNat % (nT l+1):Nat):Int):=rfl
 have e2:cu2 l q r=cu1 l q+((r.toNat % ((lastT l-cu1 l q).toNat+1):Nat):Int):=rfl
 generalize r.toNat % ((lastT l-cu1 l q).toNat+1)=m at *
 generalize q.toNat % (nT l+1)=k at *
 omega
theorem k6 {t:Ty} {l:List Fx} {x y z:Int} (h:BOK t l x y z):PCall Tryd.prog G0 6 [.agg (encTy t),.sl 5 (l.map encFx),.agg [.i x,.i y,.i z]] (.tup [.sl 1 ((hAll t l x y z).map encI),.bool true]):=c6 t l x y z h.sh h.ty h.tr h.ln h.pl
theorem in_from {l:List Fx} {a:Int} (h:firstT l<=a):fromA l a=a:=by
 unfold fromA maxI
 split <;> omega
theorem in_to {l:List Fx} {b:Int} (h:b<=lastT l):toB l b=b:=by
 unfold toB minI
 split <;> omega
theorem chk_z {t:Ty} {l:List Fx} {x y z:Int} (h:BOK t l x y z) {a b:Int} (h1:firstT l<=a) (h2:a<=b) (h3:b<=lastT l):chkH t l a b x y z=0:=by
 have hb:=tick_b h
 have e:sTrackS l=0:=by rw [track_eq];exact h.tr
 unfold chkH
 rw [first_zero,first_zero,first_zero,first_zero]
 refine ⟨h.ty,e,?_,h.pl,rfl⟩
 rw [if_neg (by
  rw [if_neg (by rw [decide_eq_true_eq];omega)]
  rw [decide_eq_true_eq]
  omega)]
 rw [decide_eq_false (by omega)]
 rfl
theorem k7 {t:Ty} {l:List Fx} {x y z:Int} (h:BOK t l x y z) {a b:Int} (h1:firstT l<=a) (h2:a<=b) (h3:b<=lastT l):PCall Tryd.prog G0 7 [.agg (encTy t),.sl 5 (l.map encFx),.agg [.i a,.i b],.agg [.i x,.i y,.i z]] (.tup [.i (eA t l x y z a b),.i 0]):=by
 have k:=c7 t l a b x y z (by have:=h.sh.st;omega) (by have:=h.sh.s;omega) (by have:=h.sh.q;omega) (fun s hs=>by have:=h.sh.e s hs;omega) (by have:=h.sh.n;omega) (by have:=h.ln;omega)
 have hz:=chk_z h h1 h2 h3
 rw [rExp,hz,if_neg (by decide),in_from h1,in_to h3] at k
 exact k
theorem k8 {t:Ty} {l:List Fx} {x y z:Int} (h:BOK t l x y z):PCall Tryd.prog G0 8 [.agg (encTy t)] (.agg (encTy t)):=c8 t (by have:=h.sh.st;omega) (by have:=h.sh.s;omega) (by have:=h.sh.q;omega) (fun s hs=>by have:=h.sh.e s hs;omega)
theorem k9 {t:Ty} {l:List Fx} {x y z:Int} (h:BOK t l x y z):PCall Tryd.prog G0 9 [.sl 5 (l.map encFx)] (.sl 5 (l.map encFx)):=(c9 l (by have:=h.ln;omega)).un
theorem rot_len (L:List Int) (k:Nat):(rot L k).length=L.length:=by
 unfold rot
 simp only [List.length_append,List.length_drop,List.length_take]
 omega
theorem rot_b {L:List Int} {k:Nat} {U:Int} (h:∀ j,j < L.length->0<=L.getD j default∧L.getD j default<=U):∀ j,j < (rot L k).length->0<=(rot L k).getD j default∧(rot L k).getD j default<=U:=fun j hj=>by
 have hm:(rot L k).getD j default ∈ L:=by
  have h1:(rot L k).getD j default ∈ rot L k:=by
   rw [List.getD_eq_getElem?_getD,List.getElem?_eq_getElem hj]
   exact List.getElem_mem _
  rcases List.mem_append.1 h1 with h2 | h2
  · exact List.mem_of_mem_drop h2
  · exact List.mem_of_mem_take h2
 obtain ⟨i,hi,e⟩:=List.getElem_of_mem hm
 have:=h i hi
 rw [List.getD_eq_getElem?_getD,List.getElem?_eq_getElem hi] at this
 rw [<- e]
 exact this
theorem rot_c {t:Ty} {l:List Fx} {x y z:Int} (h:BOK t l x y z) (k:Nat):chkE (rot (hAll t l x y z) k)=0 :=
 chkE_z (by rw [rot_len,hAll_len];have:=nT_b h;omega) fun j hj=>by
  have:=rot_b (k:=k) (hAll_b h) j hj
  omega
theorem rot_s {t:Ty} {l:List Fx} {x y z:Int} (h:BOK t l x y z) (k:Nat):sumW (rot (hAll t l x y z) k) (rot (hAll t l x y z) k).length=eA t l x y z (firstT l) (lastT l):=by
 have hc:=chkE_ok (rot_c h k)
 rw [sumW_c hc.2 hc.1 _ (Nat.le_refl _),sumI_all]
 unfold rot
 rw [lsum_rot,eA_sum]
theorem sE_big {t:Ty} {l:List Fx} {x y z:Int} (h:BOK t l x y z) {k:Nat} (he:sE (rot (hAll t l x y z) k) ≠ 0):sE (rot (hAll t l x y z) k)=4∧eA t l x y z (firstT l) (lastT l) > 10000000000000:=by
 unfold sE at *
 rw [rot_c h,rot_s h] at *
 rw [if_neg (by decide)] at *
 by_cases hd:decide (eA t l x y z (firstT l) (lastT l) > 10000000000000)=true
 · rw [if_pos hd]
   exact ⟨rfl,of_decide_eq_true hd⟩
 · rw [if_neg hd] at he
   exact absurd rfl he
theorem sE_ok {t:Ty} {l:List Fx} {x y z:Int} (h:BOK t l x y z) {k:Nat} (he:sE (rot (hAll t l x y z) k)=0):eA t l x y z (firstT l) (lastT l)<=10000000000000∧sV (rot (hAll t l x y z) k)=eA t l x y z (firstT l) (lastT l):=by
 unfold sE at he
 unfold sV
 rw [rot_c h,rot_s h] at *
 rw [if_neg (by decide)] at *
 by_cases hd:decide (eA t l x y z (firstT l) (lastT l) > 10000000000000)=true
 · rw [if_pos hd] at he
   cases he
 · rw [if_neg hd]
   rw [decide_eq_true_eq] at hd
   exact ⟨by omega,rfl⟩
theorem k10 {t:Ty} {l:List Fx} {x y z:Int} (h:BOK t l x y z) (k:Nat):PCall Tryd.prog G0 10 [.sl 1 ((rot (hAll t l x y z) k).map encI)] (.tup [.i (sV (rot (hAll t l x y z) k)),.i (sE (rot (hAll t l x y z) k))]):=c10 _ (by rw [rot_len,hAll_len];have:=nT_b h;omega)
theorem k11 {e:Int} (h0:0<=e) (h1:e<=10000000000000):PCall Tryd.prog G0 11 [.i e] (.tup [.i (lvl e),.i 0]):=c11 e (within_zero.2 ⟨h0,h1⟩)
theorem k12 {t:Ty} {l:List Fx} {x y z:Int} (h:BOK t l x y z):PCall Tryd.prog G0 12 [.sl 1 ((hAll t l x y z).map encI)] (.tup [.i (mxN (hAll t l x y z) (nT l-1)),.i (ixI (hAll t l x y z) (mxN (hAll t l x y z) (nT l-1)) (nT l) 0),.i 0]):=by
 have hn:=nT_b h
 have hl:=hAll_len t l x y z
 have k:=c12 (hAll t l x y z) (by rw [hl];omega)
 have e:mxE (hAll t l x y z)=0:=by
  unfold mxE
  rw [first_zero,first_zero]
  refine ⟨chkE_z (by rw [hl];omega) fun j hj=>?_,?_,rfl⟩
  · have:=hAll_b h j hj
    omega
  · rw [hl]
    rw [show ((nT l:Int) == 0)=false by
     rw [beq_eq_false_iff_ne]
     omega]
    rfl
 rw [mxM,mxI,e,if_neg (by decide),if_neg (by decide),hl] at k
 exact k
theorem k13 {t:Ty} {l:List Fx} {x y z:Int} (h:BOK t l x y z):PCall Tryd.prog G0 13 [.agg (encTy t),.sl 5 (l.map encFx),.agg [.i (firstT l),.i (lastT l)],.agg [.i x,.i y,.i z]] (.tup [.i (mxH (hrdA t l x y z) (firstT l) (nT l)).1,.i (mxH (hrdA t l x y z) (firstT l) (nT l)).2,.i 0]):=by
 have k:=c13 t l (firstT l) (lastT l) x y z (by have:=h.sh.st;omega) (by have:=h.sh.s;omega) (by have:=h.sh.q;omega) (fun s hs=>by have:=h.sh.e s hs;omega) (by have:=h.sh.n;omega) (by have:=h.ln;omega)
 have hf:=first_lt h.ok
 have hz:=chk_z h (Int.le_refl _) (Int.le_of_lt hf) (Int.le_refl _)
 rw [rMax,hz,if_neg (by decide),in_from (Int.le_refl _),in_to (Int.le_refl _),mxV,if_neg (by rw [decide_eq_true_eq];omega)] at k
 exact k
theorem k14 {t:Ty} {l:List Fx} {x y z:Int} (h:BOK t l x y z):PCall Tryd.prog G0 14 [.agg (encTy t),.sl 5 (l.map encFx),.agg [.i x,.i y,.i z]] (.tup [.agg [.i (lowN t l x y z (l.length-1)),.i (highN t l x y z (l.length-1))],.i 0]):=by
 have k:=c14 t l x y z (by have:=h.sh.st;omega) (by have:=h.sh.s;omega) (by have:=h.sh.q;omega) (fun s hs=>by have:=h.sh.e s hs;omega) (by have:=h.sh.n;omega) (by have:=h.ln;omega)
 have e:sTrackS l=0:=by rw [track_eq];exact h.tr
 have hz:chkEn t l x y z=0:=by
  unfold chkEn
  rw [first_zero,first_zero,first_zero]
  exact ⟨h.ty,e,h.pl,rfl⟩
 rw [rEnc,hz,if_neg (by decide)] at k
 exact k
theorem mx_ok {t:Ty} {l:List Fx} {x y z:Int} (h:BOK t l x y z):mxN (hAll t l x y z) (nT l-1)=(mxH (hrdA t l x y z) (firstT l) (nT l)).1∧firstT l+ixI (hAll t l x y z) (mxN (hAll t l x y z) (nT l-1)) (nT l) 0=(mxH (hrdA t l x y z) (firstT l) (nT l)).2:=by
 have hn:=nT_b h
 exact mx_same hn.1 fun i hi=>(hr_b h (Int.le_refl _) (n:=nT l) (by omega) i hi).1
theorem en_ok2 {t:Ty} {l:List Fx} {x y z:Int} (h:BOK t l x y z):lowN t l x y z (l.length-1)<=eA t l x y z (firstT l) (lastT l)∧eA t l x y z (firstT l) (lastT l)<=highN t l x y z (l.length-1):=enc_ok h.ty h.ok
end Go.Proofs.YtnbhfmaamloodaaDoor
namespace Go.Proofs.YtnbhfmaamloodaaDoor
open Go Go.Av Go.RowKit
def sp3b (t:Ty) (l:List Fx) (x y z:Int) (k:Nat):Nat->List AV->Option AV
 | 4,_=>some (.bool true)
 | 5,_=>some (.bool true)
 | 6,_=>some (.tup [.sl 1 ((hAll t l x y z).map encI),.bool true])
 | 8,_=>some (.agg (encTy t))
 | 9,_=>some (.sl 5 (l.map encFx))
 | 7,[_,_,.agg [.int _ a,.int _ b],_]=>some (.tup [.i (eA t l x y z a b),.i 0])
 | 10,_=>some (.tup [.i (sV (rot (hAll t l x y z) k)),.i (sE (rot (hAll t l x y z) k))])
 | 11,[.int _ e]=>some (.tup [.i (lvl e),.i 0])
 | 12,_=>some (.tup [.i (mxN (hAll t l x y z) (nT l-1)),.i (ixI (hAll t l x y z) (mxN (hAll t l x y z) (nT l-1)) (nT l) 0),.i 0])
 | 13,_=>some (.tup [.i (mxH (hrdA t l x y z) (firstT l) (nT l)).1,.i (mxH (hrdA t l x y z) (firstT l) (nT l)).2,.i 0])
 | 14,_=>some (.tup [.agg [.i (lowN t l x y z (l.length-1)),.i (highN t l x y z (l.length-1))],.i 0])
 | _,_=>none
def cuA (l:List Fx) (q0 q1:Int):Nat->Int
 | 0=>firstT l
 | 1=>cu1 l q0
 | 2=>cu2 l q0 q1
 | _=>lastT l
def rdCut (l:List Fx) (q0 q1:Int):List AV->Option AV
 | [.elt _ _ n _]=>some (.i (cuA l q0 q1 n))
 | _=>none
def st3 (t:Ty) (l:List Fx) (x y z q0 q1 q2:Int) (k:Nat):List (Nat × AV):=[(1,.sl 5 (l.map encFx)),(3,.elt 13 [encTy t] 0 0),(5,.elt 6 [[.i x,.i y,.i z,.int .u16 q0,.int .u16 q1,.int .u8 q2]] 0 0),(6,.bool false),(7,.sl 1 ((hAll t l x y z).map encI)),(9,.elt 2 [[.i (firstT l),.i (lastT l)]] 0 0),(10,.i (eA t l x y z (firstT l) (lastT l))),(15,.i (lvl (eA t l x y z (firstT l) (lastT l)))),
 (17,.elt 4 [[.i (firstT l),.i (cu1 l q0),.i (cu2 l q0 q1),.i (lastT l)]] 0 0),(18,.i (eA t l x y z (firstT l) (cuA l q0 q1 k))),(147,.i k)]
def ks (l:List Nat):List GS:=[.keep l [],.bound 1]
def kb (l:List Nat):List GS:=[.keep l [1],.bound 2]
def sl3:List Nat:=[1,3,5,6,7,9,10,15,17,18,147]
def la3 (t:Ty) (l:List Fx) (x y z q0 q1 q2:Int):LA:={
 pre:=ks sl3,post:=ks sl3
 Gh:=Nat
 st:=fun k=>⟨st3 t l x y z q0 q1 q2 k,[],1⟩
 ok:=fun k=>k<=3
 ms:=fun k=>3-k }
def rd3 (l:List Fx) (q0 q1 q2:Int):List (Nat × Nat × (List AV->Option AV)):=[(1,5,rdF),(4,1,rdF),(6,3,litI (firstT l)),(6,10,litI (lastT l)),(8,5,litI (kT (nT l) q2:Nat)),(10,1,rdF),(13,1,rdT),(13,4,rdT),(13,5,rdT),(13,8,rdT),
 (15,2,rdF),(15,5,rdF),(15,6,rdF),(17,12,litI (cu1 l q0)),(18,13,litI (cu2 l q0 q1)),(23,6,rdCut l q0 q1),(23,10,rdCut l q0 q1),(25,1,rdF),(25,4,rdF),(25,5,rdF),(25,9,rdF),(25,10,rdF),
 (32,1,rdT),(32,4,rdT),(32,5,rdT),(32,8,rdT),(32,9,rdT),(32,13,rdT),(32,14,rdT),(32,18,rdT),(32,19,rdT),(32,26,rdT),(32,27,rdT),(32,32,rdT),(32,33,rdT),(32,38,rdT),(32,39,rdT),(32,42,rdT)]
def gs3:Nat->List GS:=fun j=>(lk j [(1,ks [1,3,5,6,37]),(3,ks [1,3,5,6,7,8]),(4,ks [1,3,5,6,7,48]),(6,ks [1,3,5,6,7,9]),(7,ks [1,3,5,6,7,9,10,11]),(8,ks [1,3,5,6,7,9,10,11,12]),(9,ks [1,3,5,6,7,9,10,11,13,14]),(10,ks [1,3,5,6,7,9,10,13,14,92]),(12,ks [1,3,5,6,7,9,10,13,14,94]),
 (14,ks [1,3,5,6,7,9,10,13,15,16]),(15,ks [1,3,5,6,7,9,10,15,115]),(17,GS.reno 17 1::kb [1,3,5,6,7,9,10,15,17]),(18,GS.frzo 17::ks [1,3,5,6,7,9,10,15,17]),(19,ks [1,3,5,6,7,9,10,15,17,18]),(20,ks sl3),
 (21,ks (148::sl3)),(22,ks (19::sl3)),(23,ks (20::21::sl3)),(24,ks (20::21::22::23::sl3)),(25,ks (20::183::sl3)),(27,ks sl3),(28,ks sl3),
 (29,ks [1,3,5,6,9,10,18,24,25,26]),(30,ks [1,3,5,6,9,10,18,24,25,26,27,28,29]),(31,ks [1,3,5,6,9,10,18,24,25,26,27,28,29,30,31])]).getD []
theorem tm_nat {q:Int} {n:Nat} (hq:0<=q):q.tmod (n:Int)=((q.toNat % n:Nat):Int):=by
 cases q with
 | ofNat k=>rfl
 | negSucc k=>exact absurd hq (by omega)
theorem wrap_s {q:Int} (h:0<=q∧q<=65535):IntKind.i64.wrap q=q:=in64_wrap (by unfold In64;omega)
theorem rot_map {L:List Int} {k:Nat} {n:Nat} (hn:L.length=n) (hk:k<=n):[]++List.take ((n:Int)-(k:Int)).toNat (List.drop (k:Int).toNat (List.map encI L))++List.take ((k:Int)-(0:Int)).toNat (List.drop 0 (List.map encI L))=List.map encI (rot L k):=by
 unfold rot
 rw [List.nil_append,List.map_append,List.drop_zero,Int.toNat_natCast,show ((k:Int)-0).toNat=k by omega,List.map_drop,List.map_take]
 rw [List.take_of_length_le (by rw [List.length_drop,List.length_map];omega)]
theorem cuA_b {t:Ty} {l:List Fx} {x y z:Int} (h:BOK t l x y z) (q r:Int):(∀ g,g < 3->cuA l q r g<=cuA l q r (g+1))∧∀ g,firstT l<=cuA l q r g∧cuA l q r g<=lastT l:=by
 have hc:=cu_b h q r
 refine ⟨fun g hg=>?_,fun g=>?_⟩
 · match g,hg with
   | 0,_=>exact hc.1
   | 1,_=>exact hc.2.1
   | 2,_=>exact hc.2.2
 · match g with
   | 0=>exact ⟨Int.le_refl _,by show firstT l<=lastT l;omega⟩
   | 1=>exact ⟨hc.1,by show cu1 l q<=lastT l;omega⟩
   | 2=>exact ⟨by show firstT l<=cu2 l q r;omega,hc.2.2⟩
   | _+3=>exact ⟨by show firstT l<=lastT l;omega,Int.le_refl _⟩
theorem ix_b (l:List Int) (v:Int):∀ m i, -1<=ixI l v m i∧ixI l v m i<=i+m
 | 0,i=>by
  simp only [ixI]
  omega
 | m+1,i=>by
  have:=ix_b l v m (i+1)
  simp only [ixI]
  split <;> omega
theorem cu_at (l:List Fx) (q r:Int):∀ g,g < 4->nth (nthR [[AV.i (firstT l)],[AV.i (cu1 l q)],[AV.i (cu2 l q r)],[AV.i (lastT l)]] g) 0=AV.i (cuA l q r g)
 | 0,_=>rfl
 | 1,_=>rfl
 | 2,_=>rfl
 | 3,_=>rfl
theorem eA_part {t:Ty} {l:List Fx} {x y z:Int} (h:BOK t l x y z) {a b:Int} (h1:firstT l<=a) (h2:a<=b) (h3:b<=lastT l):0<=eA t l x y z a b∧eA t l x y z a b<=eA t l x y z (firstT l) (lastT l):=by
 have k1:=eA_nn h h1 h2 h3
 have k2:=eA_nn h (Int.le_refl _) h1 (by omega)
 have k3:=eA_nn h (a:=b) (b:=lastT l) (by omega) h3 (Int.le_refl _)
 have e1:=eA_cut (t:=t) (l:=l) (x:=x) (y:=y) (z:=z) h1 h2
 have e2:=eA_cut (t:=t) (l:=l) (x:=x) (y:=y) (z:=z) (show firstT l<=b by omega) h3
 omega
abbrev zc3bb (t:Ty) (l:List Fx) (x:Int) (y:Int) (z:Int):=(↑(List.map encI (hAll t l x y z)).length:Int)
abbrev zc3ba (t:Ty) (l:List Fx) (x:Int) (y:Int) (z:Int) (q2:Int):=List.take ((zc3bb t l x y z)-(↑(kT (nT l) q2):Int)).toNat (List.drop (↑(kT (nT l) q2):Int).toNat (List.map encI (hAll t l x y z)))
theorem c3b (t:Ty) (l:List Fx) (x y z q0 q1 q2:Int) (hl:t.st.length<=9223372036854775807) (hm:l.length<=9223372036854775807) (hg:g6 t l x y z 150=true) (hq0:0<=q0∧q0<=65535) (hq1:0<=q1∧q1<=65535) (hq2:0<=q2∧q2<=255):PCall Tryd.prog G0 3 [.agg (encTy t),.sl 5 (l.map encFx),.agg [.i x,.i y,.i z,.int .u16 q0,.int .u16 q1,.int .u8 q2]] (.bool true):=by
 have key :
  PCall Tryd.prog G0 4 [AV.agg (encTy t),AV.sl 5 (List.map encFx l),AV.agg [AV.i x,AV.i y,AV.i z],AV.i 150] (AV.bool true)∧AV.bool false=AV.bool false∧PCall Tryd.prog G0 6 [AV.agg (encTy t),AV.sl 5 (List.map encFx l),
  AV.agg [AV.i x,AV.i y,AV.i z]] (AV.tup [AV.sl 1 (List.map encI (hAll t l x y z)),AV.bool true])∧AV.bool false=AV.bool false∧(0:Int)<=0∧(0:Int) < (↑(List.map encFx l).length:Int)∧In64 ((↑(List.map encFx l).length
  : Int)-1)∧(0:Int)<=(↑(List.map encFx l).length:Int)-1∧(↑(List.map encFx l).length:Int)-1 < (↑(List.map encFx l).length:Int)∧nth (nthR (List.map encFx l) 0) 0=AV.i (firstT l)∧nth (nthR (List.map encFx l)
  ((↑(List.map encFx l).length:Int)-1).toNat) 0=AV.i (lastT l)∧PCall Tryd.prog G0 8 [AV.agg (encTy t)] (AV.agg (encTy t))∧PCall Tryd.prog G0 9 [AV.sl 5 (List.map encFx l)] (AV.sl 5 (List.map encFx l))∧PCall Tryd.prog G0 7
  [AV.agg (encTy t),AV.sl 5 (List.map encFx l),AV.agg [AV.i (firstT l),AV.i (lastT l)],AV.agg [AV.i x,AV.i y,AV.i z]] (AV.tup [AV.i (eA t l x y z (firstT l) (lastT l)),AV.i 0])∧¬(zc3bb t l x y z)=(0:Int)∧AV.i
  ((IntKind.i64.wrap q2).tmod (zc3bb t l x y z))=AV.i (↑(kT (nT l) q2):Int)∧(0:Int)<=(↑(kT (nT l) q2):Int)∧(↑(kT (nT l) q2):Int)<=(zc3bb t l x y z)∧(zc3bb t l x y z)<=(zc3bb t l x y z)∧0+(zc3ba t l x y z
  q2).length<=9223372036854775807∧(0+(zc3ba t l x y z q2).length) * 8<=140737488355328∧(0:Int)<=0∧(0:Int)<=(↑(kT (nT l) q2):Int)∧(↑(kT (nT l) q2):Int)<=(zc3bb t l x y z)∧0+(zc3ba t l x y z q2).length +
  (List.take ((↑(kT (nT l) q2):Int)-0).toNat (List.drop 0 (List.map encI (hAll t l x y z)))).length<=9223372036854775807∧(0+(zc3ba t l x y z q2).length+(List.take ((↑(kT (nT l) q2):Int)-0).toNat (List.drop 0 (List.map
  encI (hAll t l x y z)))).length) * 8<=140737488355328∧PCall Tryd.prog G0 10 [AV.sl 1 ([]++List.take ((zc3bb t l x y z)-(↑(kT (nT l) q2):Int)).toNat (List.drop (↑(kT (nT l) q2):Int).toNat (List.map encI (hAll t l x y z)))
  ++ List.take ((↑(kT (nT l) q2):Int)-0).toNat (List.drop 0 (List.map encI (hAll t l x y z))))] (AV.tup [AV.i (sV (rot (hAll t l x y z) (kT (nT l) q2))),AV.i (sE (rot (hAll t l x y z) (kT (nT l) q2)))])∧AV.bool false=AV.bool
  false∧((sE (rot (hAll t l x y z) (kT (nT l) q2)) != 0)=true->AV.bool (sE (rot (hAll t l x y z) (kT (nT l) q2)) == 4)=AV.bool true∧AV.bool (decide (eA t l x y z (firstT l) (lastT l) > 10000000000000))=AV.bool true ∧
  AV.bool true=AV.bool true∧PCall Tryd.prog G0 5 [] (AV.bool true)∧AV.bool true=AV.bool true∧AV.bool true=AV.bool true)∧((sE (rot (hAll t l x y z) (kT (nT l) q2)) != 0)=false->PCall Tryd.prog G0 11 [AV.i (eA t l x y
  z (firstT l) (lastT l))] (AV.tup [AV.i (lvl (eA t l x y z (firstT l) (lastT l))),AV.i 0])∧AV.bool (eA t l x y z (firstT l) (lastT l) != sV (rot (hAll t l x y z) (kT (nT l) q2)))=AV.bool false∧AV.bool false=AV.bool false ∧
  AV.bool false=AV.bool false∧(0:Int)<=0∧(0:Int) < (2:Int)∧In64 ((zc3bb t l x y z)+1)∧¬(zc3bb t l x y z)+1=(0:Int)∧In64 (firstT l+(IntKind.i64.wrap q0).tmod ((zc3bb t l x y z)+1))∧AV.i (firstT l +
  (IntKind.i64.wrap q0).tmod ((zc3bb t l x y z)+1))=AV.i (cu1 l q0)∧(0:Int)<=1∧(1:Int) < (4:Int)∧(0:Int)<=1∧(1:Int) < (2:Int)∧(0:Int)<=1∧(1:Int) < (4:Int)∧In64 (lastT l-cu1 l q0)∧In64
  (lastT l-cu1 l q0+1)∧¬lastT l-cu1 l q0+1=(0:Int)∧In64 (cu1 l q0+(IntKind.i64.wrap q1).tmod (lastT l-cu1 l q0+1))∧(0:Int)<=2∧(2:Int) < (4:Int)∧AV.i (cu1 l q0+(IntKind.i64.wrap q1).tmod (lastT l
  - cu1 l q0+1))=AV.i (cu2 l q0 q1)∧(∃ (g:Nat),g<=3∧AS.mk [(1,AV.sl 5 (List.map encFx l)),(3,AV.elt 13 [(encTy t)] 0 0),(5,AV.elt 6 [[AV.i x,AV.i y,AV.i z,AV.int IntKind.u16 q0,AV.int IntKind.u16 q1,AV.int
  IntKind.u8 q2]] 0 0),(6,AV.bool false),(7,AV.sl 1 (List.map encI (hAll t l x y z))),(9,AV.elt 2 [[AV.i (firstT l),AV.i (lastT l)]] 0 0),(10,AV.i (eA t l x y z (firstT l) (lastT l))),(15,AV.i (lvl (eA t l x y z (firstT l)
  (lastT l)))),(17,AV.elt 4 [[AV.i (firstT l),AV.i (cu1 l q0),AV.i (cu2 l q0 q1),AV.i (lastT l)]] 0 0),(18,AV.i 0),(147,AV.i 0)] [] 1=AS.mk [(1,AV.sl 5 (List.map encFx l)),(3,AV.elt 13 [(encTy t)] 0 0),(5,AV.elt 6
  [[AV.i x,AV.i y,AV.i z,AV.int IntKind.u16 q0,AV.int IntKind.u16 q1,AV.int IntKind.u8 q2]] 0 0),(6,AV.bool false),(7,AV.sl 1 (List.map encI (hAll t l x y z))),(9,AV.elt 2 [[AV.i (firstT l),AV.i (lastT l)]] 0 0),(10,
  AV.i (eA t l x y z (firstT l) (lastT l))),(15,AV.i (lvl (eA t l x y z (firstT l) (lastT l)))),(17,AV.elt 4 [[AV.i (firstT l),AV.i (cu1 l q0),AV.i (cu2 l q0 q1),AV.i (lastT l)]] 0 0),(18,AV.i (eA t l x y z (firstT l) (cuA l
  q0 q1 g))),(147,AV.i (g:Int))] [] 1)∧∀ (g:Nat),g<=3->(decide ((g:Int) < 3)=true->(0:Int)<=(g:Int)∧(g:Int) < (4:Int)∧In64 ((g:Int)+1)∧(0:Int)<=(g:Int)+1∧(g:Int)+1 < (4:Int)
  ∧ PCall Tryd.prog G0 8 [AV.agg (encTy t)] (AV.agg (encTy t))∧PCall Tryd.prog G0 9 [AV.sl 5 (List.map encFx l)] (AV.sl 5 (List.map encFx l))∧nth (nthR [[AV.i (firstT l)],[AV.i (cu1 l q0)],[AV.i (cu2 l q0 q1)],[AV.i (lastT
  l)]] (g:Int).toNat) 0=AV.i (cuA l q0 q1 (g:Int).toNat)∧nth (nthR [[AV.i (firstT l)],[AV.i (cu1 l q0)],[AV.i (cu2 l q0 q1)],[AV.i (lastT l)]] ((g:Int)+1).toNat) 0=AV.i (cuA l q0 q1 ((g:Int)+1).toNat)∧PCall
  Tryd.prog G0 7 [AV.agg (encTy t),AV.sl 5 (List.map encFx l),AV.agg [AV.i (cuA l q0 q1 (g:Int).toNat),AV.i (cuA l q0 q1 ((g:Int)+1).toNat)],AV.agg [AV.i x,AV.i y,AV.i z]] (AV.tup [AV.i (eA t l x y z (cuA l q0 q1 (↑g :
  Int).toNat) (cuA l q0 q1 ((g:Int)+1).toNat)),AV.i 0])∧PCall Tryd.prog G0 11 [AV.i (eA t l x y z (cuA l q0 q1 (g:Int).toNat) (cuA l q0 q1 ((g:Int)+1).toNat))] (AV.tup [AV.i (lvl (eA t l x y z (cuA l q0 q1 (↑g :
  Int).toNat) (cuA l q0 q1 ((g:Int)+1).toNat))),AV.i 0])∧AV.bool false=AV.bool false∧AV.bool false=AV.bool false∧AV.bool false=AV.bool false∧AV.bool (decide (lvl (eA t l x y z (cuA l q0 q1 (g:Int).toNat) (cuA l
  q0 q1 ((g:Int)+1).toNat)) > lvl (eA t l x y z (firstT l) (lastT l))))=AV.bool false∧AV.bool false=AV.bool false∧In64 (eA t l x y z (firstT l) (cuA l q0 q1 g)+eA t l x y z (cuA l q0 q1 (g:Int).toNat) (cuA l q0 q1
  ((g:Int)+1).toNat))∧In64 ((g:Int)+1)∧∃ (g':Nat),g'<=3∧3-g' < 3-g∧AS.mk [(1,AV.sl 5 (List.map encFx l)),(3,AV.elt 13 [(encTy t)] 0 0),(5,AV.elt 6 [[AV.i x,AV.i y,AV.i z,AV.int IntKind.u16 q0,AV.int
  IntKind.u16 q1,AV.int IntKind.u8 q2]] 0 0),(6,AV.bool false),(7,AV.sl 1 (List.map encI (hAll t l x y z))),(9,AV.elt 2 [[AV.i (firstT l),AV.i (lastT l)]] 0 0),(10,AV.i (eA t l x y z (firstT l) (lastT l))),(15,AV.i (lvl
  (eA t l x y z (firstT l) (lastT l)))),(17,AV.elt 4 [[AV.i (firstT l),AV.i (cu1 l q0),AV.i (cu2 l q0 q1),AV.i (lastT l)]] 0 0),(18,AV.i (eA t l x y z (firstT l) (cuA l q0 q1 g)+eA t l x y z (cuA l q0 q1 (g:Int).toNat)
  (cuA l q0 q1 ((g:Int)+1).toNat))),(147,AV.i ((g:Int)+1))] [] 1=AS.mk [(1,AV.sl 5 (List.map encFx l)),(3,AV.elt 13 [(encTy t)] 0 0),(5,AV.elt 6 [[AV.i x,AV.i y,AV.i z,AV.int IntKind.u16 q0,AV.int IntKind.u16
  q1,AV.int IntKind.u8 q2]] 0 0),(6,AV.bool false),(7,AV.sl 1 (List.map encI (hAll t l x y z))),(9,AV.elt 2 [[AV.i (firstT l),AV.i (lastT l)]] 0 0),(10,AV.i (eA t l x y z (firstT l) (lastT l))),(15,AV.i (lvl (eA t l x y z
  (firstT l) (lastT l)))),(17,AV.elt 4 [[AV.i (firstT l),AV.i (cu1 l q0),AV.i (cu2 l q0 q1),AV.i (lastT l)]] 0 0),(18,AV.i (eA t l x y z (firstT l) (cuA l q0 q1 g'))),(147,AV.i (↑g':Int))] [] 1)∧(decide ((g:Int) < 3)
  = false->0+(List.map encI (hAll t l x y z)).length<=9223372036854775807∧(0+(List.map encI (hAll t l x y z)).length) * 8<=140737488355328∧PCall Tryd.prog G0 12 [AV.sl 1 ([]++List.map encI (hAll t l x y z))] (AV.tup
  [AV.i (mxN (hAll t l x y z) (nT l-1)),AV.i (ixI (hAll t l x y z) (mxN (hAll t l x y z) (nT l-1)) (nT l) 0),AV.i 0])∧PCall Tryd.prog G0 8 [AV.agg (encTy t)] (AV.agg (encTy t))∧PCall Tryd.prog G0 9 [AV.sl 5 (List.map encFx
  l)] (AV.sl 5 (List.map encFx l))∧PCall Tryd.prog G0 13 [AV.agg (encTy t),AV.sl 5 (List.map encFx l),AV.agg [AV.i (firstT l),AV.i (lastT l)],AV.agg [AV.i x,AV.i y,AV.i z]] (AV.tup [AV.i (mxH (hrdA t l x y z) (firstT l) (nT
  l)).fst,AV.i (mxH (hrdA t l x y z) (firstT l) (nT l)).snd,AV.i 0])∧PCall Tryd.prog G0 8 [AV.agg (encTy t)] (AV.agg (encTy t))∧PCall Tryd.prog G0 9 [AV.sl 5 (List.map encFx l)] (AV.sl 5 (List.map encFx l))∧PCall Tryd.prog G0
  14 [AV.agg (encTy t),AV.sl 5 (List.map encFx l),AV.agg [AV.i x,AV.i y,AV.i z]] (AV.tup [AV.agg [AV.i (lowN t l x y z (l.length-1)),AV.i (highN t l x y z (l.length-1))],AV.i 0])∧In64 (firstT l+ixI (hAll t l x y z) (mxN
  (hAll t l x y z) (nT l-1)) (nT l) 0)∧AV.bool true=AV.bool true∧AV.bool true=AV.bool true∧AV.bool true=AV.bool true∧AV.bool true=AV.bool true∧AV.bool true=AV.bool true∧AV.bool (eA t l x y z (firstT l) (cuA l
  q0 q1 g) == eA t l x y z (firstT l) (lastT l))=AV.bool true∧AV.bool true=AV.bool true∧AV.bool ((mxH (hrdA t l x y z) (firstT l) (nT l)).fst == mxN (hAll t l x y z) (nT l-1))=AV.bool true∧AV.bool true=AV.bool true ∧
  AV.bool ((mxH (hrdA t l x y z) (firstT l) (nT l)).snd == firstT l+ixI (hAll t l x y z) (mxN (hAll t l x y z) (nT l-1)) (nT l) 0)=AV.bool true∧AV.bool true=AV.bool true∧AV.bool (decide (lowN t l x y z (l.length-1)<=eA
  t l x y z (firstT l) (lastT l)))=AV.bool true∧AV.bool true=AV.bool true∧AV.bool (decide (eA t l x y z (firstT l) (lastT l)<=highN t l x y z (l.length-1)))=AV.bool true∧AV.bool true=AV.bool true∧PCall Tryd.prog G0
  5 [] (AV.bool true)∧AV.bool true=AV.bool true∧AV.bool true=AV.bool true)):=by
   delta zc3ba zc3bb
   have H:=bok_of hg
   have h4:=c4b t l x y z 150 hl hm
   rw [hg] at h4
   have hlm:(List.map encFx l).length=l.length:=List.length_map _
   have hal:(List.map encI (hAll t l x y z)).length=nT l:=by rw [List.length_map,hAll_len]
   have hn:=nT_b H
   have htk:=tick_b H
   have hl2:=H.ok.n1
   have hl6:=H.ln
   have hk:kT (nT l) q2 < nT l:=Nat.mod_lt _ (by omega)
   have hcu:=cu_b H q0 q1
   have hwn:=eA_part H (Int.le_refl _) (show firstT l<=lastT l by omega) (Int.le_refl _)
   have hC:=cuA_b H q0 q1
   have m0:=Nat.mod_lt q0.toNat (show nT l+1 > 0 by omega)
   have hmx:=mx_ok H
   rw [hlm,hal,wrap_s hq0,wrap_s hq1,wrap_s (q:=q2) (by omega),tm_nat hq2.1,show ((nT l:Int)+1)=((nT l+1:Nat):Int) by omega,tm_nat hq0.1,show lastT l-cu1 l q0+1=(((lastT l-cu1 l q0).toNat+1:Nat):Int) by omega,tm_nat hq1.1,rot_map (hAll_len t l x y z) (Nat.le_of_lt hk)]
   have e1:((l.length:Int)-1).toNat=l.length-1:=by omega
   refine ⟨h4,rfl,k6 H,rfl,Int.le_refl _,by omega,by unfold In64;omega,by omega,by omega,by rw [row_at encFx (by omega)];rfl,by rw [e1,row_at encFx (by omega)];rfl,k8 H,k9 H,k7 H (Int.le_refl _) (by omega) (Int.le_refl _),by omega,rfl,by omega,by omega,Int.le_refl _,?_,?_,Int.le_refl _,by omega,by omega,?_,?_,k10 H _,rfl,fun he=>?_,fun he=>?_⟩
   · simp only [List.length_take,List.length_drop,List.length_map,hAll_len]
     omega
   · simp only [List.length_take,List.length_drop,List.length_map,hAll_len]
     omega
   · simp only [List.length_take,List.length_drop,List.length_map,hAll_len]
     omega
   · simp only [List.length_take,List.length_drop,List.length_map,hAll_len]
     omega
   · have h:=sE_big H (by simpa using he)
     exact ⟨by rw [h.1];rfl,congrArg AV.bool (decide_eq_true h.2),rfl,c5,rfl,rfl⟩
   · have h:=sE_ok H (bne_f he)
     have d1:cu1 l q0=firstT l+((q0.toNat % (nT l+1):Nat):Int):=rfl
     have d2:cu2 l q0 q1=cu1 l q0+((q1.toNat % ((lastT l-cu1 l q0).toNat+1):Nat):Int):=rfl
     refine ⟨k11 hwn.1 h.1,by rw [h.2];simp,rfl,rfl,Int.le_refl _,by decide,by unfold In64;omega,by omega,?_,by rw [d1],by decide,by decide,by decide,by decide,by decide,by decide,by unfold In64;omega,by unfold In64;omega,by omega,?_,by decide,by decide,by rw [d2],⟨0,by omega,?_⟩,fun g hg3=>⟨fun hd=>?_,fun hd=>?_⟩⟩
     · rw [<- d1]
       unfold In64
       omega
     · rw [<- d2]
       unfold In64
       omega
     · rw [show eA t l x y z (firstT l) (cuA l q0 q1 0)=0 by
        show sumH (hrdA t l x y z) (firstT l) (firstT l-firstT l).toNat=0
        rw [Int.sub_self]
        rfl]
       rfl
     · have hd:=of_decide_eq_true hd
       have eg:((g:Int)+1).toNat=g+1:=by omega
       rw [eg,Int.toNat_natCast]
       have c1:=hC.1 g (by omega)
       have c2:=hC.2 g
       have c3:=hC.2 (g+1)
       have p1:=eA_part H c2.1 c1 c3.2
       have p2:=eA_part H (Int.le_refl _) c3.1 c3.2
       have e2:=eA_cut (t:=t) (l:=l) (x:=x) (y:=y) (z:=z) c2.1 c1
       rw [e2]
       have hlv:=lvl_mono p1.2
       have hhi:=eA_hi H
       refine ⟨by omega,by omega,by unfold In64;omega,by omega,by omega,k8 H,k9 H,cu_at l q0 q1 g (by omega),cu_at l q0 q1 (g+1) (by omega),k7 H c2.1 c1 c3.2,k11 p1.1 (by omega),rfl,rfl,rfl,congrArg AV.bool (decide_eq_false (by omega)),rfl,by unfold In64;omega,by unfold In64;omega,g+1,by omega,by omega,rfl⟩
     · have hd:=of_decide_eq_false hd
       have e3:g=3:=by omega
       subst e3
       have he2:=en_ok2 H
       have hix:In64 (firstT l+ixI (hAll t l x y z) (mxN (hAll t l x y z) (nT l-1)) (nT l) 0):=by
        have:=ix_b (hAll t l x y z) (mxN (hAll t l x y z) (nT l-1)) (nT l) 0
        unfold In64
        omega
       refine ⟨by omega,by omega,k12 H,k8 H,k9 H,k13 H,k8 H,k9 H,k14 H,hix,rfl,rfl,rfl,rfl,rfl,?_,rfl,?_,rfl,?_,rfl,congrArg AV.bool (decide_eq_true he2.1),rfl,congrArg AV.bool (decide_eq_true he2.2),rfl,c5,rfl,rfl⟩
       · exact congrArg AV.bool (beq_self_eq_true _)
       · rw [hmx.1]
         exact congrArg AV.bool (beq_self_eq_true _)
       · rw [hmx.2]
         exact congrArg AV.bool (beq_self_eq_true _)
 exact c_of Tryd.f3 ({ noSym 13 (noSym 15 (noSym 25 (noSym 32 (fzB { mkB (sp3b t l x y z (kT (nT l) q2)) 3 (rd3 l q0 q1 q2) (la0 (la3 t l x y z q0 q1 q2)) with gs:=gs3 })))) with cl:=clL [37,48,92,115,183] }) (by kernel_rfl) (by kernel_rfl) (by kernel_rfl) (by kernel_rfl) key (by kernel_rfl)
theorem c3 (t:Ty) (l:List Fx) (x y z q0 q1 q2:Int) (hl:t.st.length<=9223372036854775807) (hm:l.length<=9223372036854775807) (hq0:0<=q0∧q0<=65535) (hq1:0<=q1∧q1<=65535) (hq2:0<=q2∧q2<=255):PCall Tryd.prog G0 3 [.agg (encTy t),.sl 5 (l.map encFx),.agg [.i x,.i y,.i z,.int .u16 q0,.int .u16 q1,.int .u8 q2]] (.bool true):=by
 cases hg:g6 t l x y z 150 with
 | true=>exact c3b t l x y z q0 q1 q2 hl hm hg hq0 hq1 hq2
 | false=>exact c3a t l x y z q0 q1 q2 hl hm hg
end Go.Proofs.YtnbhfmaamloodaaDoor
namespace Go.Proofs.YtnbhfmaamloodaaDoor
open Go Go.Av Go.RowKit Go.ChangeShapes Go.WideShapes
theorem jp0_3:(Rows.topBellCutRow.inPlace == Tryd.prog.inPlace 3)=true:=by kernel_rfl
theorem jp1_3:(Rows.topBellCutRow.unfollowed == Tryd.prog.unfollowed 3)=true:=by kernel_rfl
theorem jp2_3:(Rows.topBellCutRow.recurses == Tryd.prog.recurses 3)=true:=by kernel_rfl
theorem jp3_3:(Rows.topBellCutRow.named == Tryd.prog.varsNamed 3)=true:=by kernel_rfl
theorem jfacts_3:joinedFacts Tryd.prog 3 Tryd.f3 Rows.topBellCutSpec Rows.topBellCutRow=true:=by
 unfold joinedFacts
 rw [jp0_3,jp1_3,jp2_3,jp3_3]
 kernel_rfl
end Go.Proofs.YtnbhfmaamloodaaDoor
