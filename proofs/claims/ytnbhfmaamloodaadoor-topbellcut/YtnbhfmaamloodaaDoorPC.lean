/-
  What chapter 2's reference bands return. What the source's bands return. What chapter 2's lists of points return: copies, ticks, the state at a tick. What chapter 2's Flown of the reference returns. No condition but the theorems' own.
-/
import Derived.Test.YtnbhfmaamloodaaDoorPB
import Derived.Test.YtnbhfmaamloodaaDoorAvD
import Derived.Test.YtnbhfmaamloodaaDoorPA
import Derived.Test.YtnbhfmaamloodaaDoorCards
import Derived.Test.YtnbhfmaamloodaaDoorTie
import Derived.LaidMore
import Derived.LaidOnce
import Derived.Lay
import Derived.Stop.Joined
import Derived.SevenTiedAt
namespace Go.Proofs.YtnbhfmaamloodaaDoor
open Go Go.Av Go.RowKit
end Go.Proofs.YtnbhfmaamloodaaDoor
namespace Go.Proofs.YtnbhfmaamloodaaDoor
open Go Go.Av Go.RowKit
def gsB (g:Nat->List GS) (B:BA):BA:={ B with gs:=fun i=>B.gs i++g i }
end Go.Proofs.YtnbhfmaamloodaaDoor
namespace Go.Proofs.YtnbhfmaamloodaaDoor
open Go Go.Av Go.RowKit
def cJ (rows:List (List AV)) (i j:Nat):Int:=match nth (nthR rows i) j with
 | .int _ n=>n
 | _=>0
def rdC:List AV->Option AV
 | [.elt _ rows i j]=>some (.i (cJ rows i j))
 | _=>none
def la29 (l:List Fx):LA:={
 pre:=[.own 3 68 5,.reno 3 1,.keep [0,3,6,7,8] [1],.bound 2],post:=[.reno 3 1,.keep [0,3,6,7,8] [1],.bound 2]
 Gh:=Nat
 st:=fun i=>⟨[(0,.sl 5 (l.map encFx)),(3,.own 1 ((l.take i).map encFx).length),(6,.sl 5 (l.map encFx)),(7,.i (l.map encFx).length),(8,.i i)],[(1,.buf 68 5 ((l.take i).map encFx))],2⟩
 ok:=fun i=>i<=(l.map encFx).length
 ms:=fun i=>(l.map encFx).length-i }
abbrev zc9a (l:List Fx) (g:Nat):=l.getD (g:Int).toNat default
abbrev zc9b (l:List Fx):=(↑(List.map encFx l).length:Int)
theorem c9 (l:List Fx) (hl:l.length<=1000):PCall Tryd.prog G0 9 [.sl 5 (l.map encFx)] (.fresh 68 5 (l.map encFx)):=by
 have key :
  (∃ (g:Nat),g<=(List.map encFx l).length∧AS.mk [(0,AV.sl 5 (List.map encFx l)),(3,AV.own 1 0),(6,AV.sl 5 (List.map encFx l)),(7,AV.i (zc9b l)),(8,AV.i 0)] [(1,ABlk.buf 68 5 [])] 2=AS.mk [(0,AV.sl 5 (List.map encFx
  l)),(3,AV.own 1 (List.map encFx (List.take g l)).length),(6,AV.sl 5 (List.map encFx l)),(7,AV.i (zc9b l)),(8,AV.i (g:Int))] [(1,ABlk.buf 68 5 (List.map encFx (List.take g l)))] 2)∧∀ (g:Nat),g<=(List.map encFx
  l).length->(decide ((g:Int) < (zc9b l))=true->(0:Int)<=(g:Int)∧(g:Int) < (zc9b l)∧AV.agg (nthR (List.map encFx l) (g:Int).toNat)=AV.agg [AV.i (zc9a l g).t,AV.i (zc9a l g).x,AV.i (zc9a l g).y,AV.i (zc9a l
  g).z,AV.i (zc9a l g).p]∧(List.map encFx (List.take g l)).length+1<=9223372036854775807∧((List.map encFx (List.take g l)).length+1) * 40<=140737488355328∧In64 ((g:Int)+1)∧∃ (g':Nat),g'<=(List.map encFx
  l).length∧(List.map encFx l).length-g' < (List.map encFx l).length-g∧AS.mk [(0,AV.sl 5 (List.map encFx l)),(3,AV.own 1 ((List.map encFx (List.take g l)).length+1)),(6,AV.sl 5 (List.map encFx l)),(7,AV.i (zc9b l)),
  (8,AV.i ((g:Int)+1))] [(1,ABlk.buf 68 5 (List.map encFx (List.take g l)++[[AV.i (zc9a l g).t,AV.i (zc9a l g).x,AV.i (zc9a l g).y,AV.i (zc9a l g).z,AV.i (zc9a l g).p]]))] 2=AS.mk [(0,AV.sl 5 (List.map encFx l)),(3,
  AV.own 1 (List.map encFx (List.take g' l)).length),(6,AV.sl 5 (List.map encFx l)),(7,AV.i (zc9b l)),(8,AV.i (↑g':Int))] [(1,ABlk.buf 68 5 (List.map encFx (List.take g' l)))] 2)∧(decide ((g:Int) < (zc9b l))=false →
  AV.fresh 68 5 (List.map encFx (List.take g l))=AV.fresh 68 5 (List.map encFx l)):=by
   delta zc9a zc9b
   simp only [List.length_map]
   refine ⟨⟨0,by omega,rfl⟩,fun g hg=>⟨fun hd=>?_,fun hd=>?_⟩⟩
   · have hlt:=lt_of_dec hd
     simp only [Int.toNat_natCast]
     refine ⟨by omega,by omega,by rw [row_at _ hlt];rfl,by rw [List.length_take];omega,by rw [List.length_take];omega,by unfold In64;omega,g+1,hlt,by omega,?_⟩
     have h2:=take_succ encFx hlt
     simp only [encFx] at h2
     rw [show (l.take g).length+1=(l.take (g+1)).length by simp only [List.length_take];omega,h2]
     rfl
   · rw [ge_of_dec hd hg,List.take_length]
 exact c_of Tryd.f9 (fzB (mkB spR 9 [(4,1,rdL 5 encFx l 5 true)] (fun i=>if i.beq 0 then some (la29 l) else none))) (by kernel_rfl) (by kernel_rfl) (by kernel_rfl) (by kernel_rfl) key (by kernel_rfl)
theorem c33 (l:List Fx) (h:1<=l.length) (hl:l.length<=1000):PCall Tryd.prog G0 33 [.sl 5 (l.map encFx)] (.agg [.i (l.getD 0 default).t,.i (l.getD (l.length-1) default).t]):=by
 have key :
  (0:Int)<=0∧(0:Int) < (↑(List.map encFx l).length:Int)∧In64 ((↑(List.map encFx l).length:Int)-1)∧(0:Int)<=(↑(List.map encFx l).length:Int)-1∧(↑(List.map encFx l).length:Int)-1 < (↑(List.map encFx
  l).length:Int)∧nth (nthR (List.map encFx l) 0) 0=AV.i (cJ (List.map encFx l) 0 0)∧nth (nthR (List.map encFx l) ((↑(List.map encFx l).length:Int)-1).toNat) 0=AV.i (cJ (List.map encFx l) ((↑(List.map encFx l).length :
  Int)-1).toNat 0)∧AV.agg [AV.i (cJ (List.map encFx l) 0 0),AV.i (cJ (List.map encFx l) ((↑(List.map encFx l).length:Int)-1).toNat 0)]=AV.agg [AV.i (l.getD 0 default).t,AV.i (l.getD (l.length-1) default).t]:=by
   have hlm:(List.map encFx l).length=l.length:=List.length_map _
   have e1:((↑(List.map encFx l).length:Int)-1).toNat=l.length-1:=by omega
   have e2:nthR (List.map encFx l) 0=encFx (l.getD 0 default):=row_at encFx (by omega)
   have e3:nthR (List.map encFx l) (l.length-1)=encFx (l.getD (l.length-1) default):=row_at encFx (by omega)
   rw [e1]
   unfold cJ
   rw [e2,e3]
   exact ⟨by omega,by omega,by unfold In64;omega,by omega,by omega,rfl,rfl,rfl⟩
 exact c_of Tryd.f33 (mkB spR 33 [(1,3,rdC),(1,10,rdC)] noLa) (by kernel_rfl) (by kernel_rfl) (by kernel_rfl) (by kernel_rfl) key (by kernel_rfl)
def atI (l:List Fx) (tk:Int):Nat->Nat
 | 0=>0
 | m+1=>if (l.getD m default).t<=tk then m else atI l tk m
theorem atI_lt {l:List Fx} {tk:Int}:∀ {m:Nat},1<=m->atI l tk m < m
 | 0,h=>absurd h (by omega)
 | m+1,_=>by
  simp only [atI]
  split
  · omega
  · by_cases e:m=0
    · subst e;exact Nat.zero_lt_one
    · have:=atI_lt (l:=l) (tk:=tk) (m:=m) (by omega)
      omega
structure TrackOK (l:List Fx):Prop where
 n1:2<=l.length
 n2:l.length<=16
 b:∀ i,i < l.length->(0<=(l.getD i default).t∧(l.getD i default).t<=100000000)∧(-100000<=(l.getD i default).x∧(l.getD i default).x<=100000)∧(-100000<=(l.getD i default).y∧(l.getD i default).y<=100000)∧(0<=(l.getD i default).z∧(l.getD i default).z<=20000)∧1<=(l.getD i default).p∧(l.getD i default).p<=100
 up:∀ i,i+1 < l.length->(l.getD i default).t < (l.getD (i+1) default).t
def atA (l:List Fx) (tk:Int):Fx:=l.getD (atI l tk (l.length-1)) default
def atB (l:List Fx) (tk:Int):Fx:=l.getD (atI l tk (l.length-1)+1) default
def atV (a b:Fx) (tk:Int):List AV:=[.i (sBetween a.x b.x (tk-a.t) (b.t-a.t)),.i (sBetween a.y b.y (tk-a.t) (b.t-a.t)),.i (sBetween a.z b.z (tk-a.t) (b.t-a.t)),.i (b.x-a.x),.i (b.y-a.y),.i (sBetween a.p b.p (tk-a.t) (b.t-a.t))]
def sp126:Nat->List AV->Option AV
 | 71,[.int _ a,.int _ b,.int _ p,.int _ w]=>some (.i (sBetween a b p w))
 | 1097,[.int _ a,.int _ b,.int _ p,.int _ w]=>some (.i (sBetween a b p w))
 | n,x=>spR n x
def la126 (l:List Fx) (tk:Int):LA:={
 pre:=[.keep [0,1,4,5,17,18,19] [1],.bound 2],post:=[.keep [0,1,4,5,17,18,19] [1],.bound 2]
 Gh:=Nat
 st:=fun i=>⟨[(0,.sl 5 (l.map encFx)),(1,.i tk),(4,.ptr 1 0),(5,.i (atI l tk i)),(17,.sl 5 ((l.map encFx).take (l.length-1))),(18,.i ((l.length:Int)-1)),(19,.i i)],[(1,.box [.i 0,.i 0,.i 0,.i 0,.i 0,.i 0])],2⟩
 ok:=fun i=>i+1<=l.length
 ms:=fun i=>l.length-i }
abbrev zc50a (l:List Fx) (tk:Int) (g:Nat):=l.getD (↑(atI l tk g):Int).toNat default
abbrev zc50b (l:List Fx) (tk:Int) (g:Nat):=l.getD ((↑(atI l tk g):Int)+1).toNat default
abbrev zc50c:=[(1,ABlk.box [AV.i 0,AV.i 0,AV.i 0,AV.i 0,AV.i 0,AV.i 0])]
abbrev zc50d (l:List Fx) (tk:Int) (g:Nat):=(zc50b l tk g).t-(zc50a l tk g).t
abbrev zc50e (l:List Fx):=List.take (l.length-1) (List.map encFx l)
abbrev zc50f (l:List Fx):=(↑(List.map encFx l).length:Int)
theorem c50 (l:List Fx) (tk:Int) (h:TrackOK l) (htk : -1000<=tk∧tk<=200000000):PCall Tryd.prog G0 50 [.sl 5 (l.map encFx),.i tk] (.agg (atV (atA l tk) (atB l tk) tk)):=by
 have key :
  In64 ((zc50f l)-1)∧(0:Int)<=0∧(0:Int)<=(zc50f l)-1∧(zc50f l)-1<=(zc50f l)∧(∃ (g:Nat),g+1<=l.length∧AS.mk [(0,AV.sl 5 (List.map encFx l)),(1,AV.i tk),(4,AV.ptr 1 0),(5,AV.i 0),(17,AV.sl 5
  (List.take ((zc50f l)-1-0).toNat (List.drop 0 (List.map encFx l)))),(18,AV.i (↑(List.take ((zc50f l)-1-0).toNat (List.drop 0 (List.map encFx l))).length:Int)),(19,AV.i 0)] zc50c 2=AS.mk [(0,AV.sl 5 (List.map encFx
  l)),(1,AV.i tk),(4,AV.ptr 1 0),(5,AV.i (↑(atI l tk g):Int)),(17,AV.sl 5 (zc50e l)),(18,AV.i ((↑l.length:Int)-1)),(19,AV.i (g:Int))] zc50c 2)∧∀ (g:Nat),g+1<=l.length->(decide ((g:Int) < (↑l.length :
  Int)-1)=true->(0:Int)<=(g:Int)∧(g:Int) < (↑(zc50e l).length:Int)∧AV.agg (nthR (zc50e l) (g:Int).toNat)=AV.agg [AV.i (l.getD (g:Int).toNat default).t,AV.i (l.getD (g:Int).toNat default).x,AV.i
  (l.getD (g:Int).toNat default).y,AV.i (l.getD (g:Int).toNat default).z,AV.i (l.getD (g:Int).toNat default).p]∧(decide ((l.getD (g:Int).toNat default).t<=tk)=true->In64 ((g:Int)+1)∧∃ (g':Nat),g'+1 ≤
  l.length∧l.length-g' < l.length-g∧AS.mk [(0,AV.sl 5 (List.map encFx l)),(1,AV.i tk),(4,AV.ptr 1 0),(5,AV.i (g:Int)),(17,AV.sl 5 (zc50e l)),(18,AV.i ((↑l.length:Int)-1)),(19,AV.i ((g:Int)+1))] zc50c
  2=AS.mk [(0,AV.sl 5 (List.map encFx l)),(1,AV.i tk),(4,AV.ptr 1 0),(5,AV.i (↑(atI l tk g'):Int)),(17,AV.sl 5 (zc50e l)),(18,AV.i ((↑l.length:Int)-1)),(19,AV.i (↑g':Int))] zc50c 2)∧(decide ((l.getD (↑g :
  Int).toNat default).t<=tk)=false->In64 ((g:Int)+1)∧∃ (g':Nat),g'+1<=l.length∧l.length-g' < l.length-g∧AS.mk [(0,AV.sl 5 (List.map encFx l)),(1,AV.i tk),(4,AV.ptr 1 0),(5,AV.i (↑(atI l tk g):Int)),
  (17,AV.sl 5 (zc50e l)),(18,AV.i ((↑l.length:Int)-1)),(19,AV.i ((g:Int)+1))] zc50c 2=AS.mk [(0,AV.sl 5 (List.map encFx l)),(1,AV.i tk),(4,AV.ptr 1 0),(5,AV.i (↑(atI l tk g'):Int)),(17,AV.sl 5 (zc50e l)),
  (18,AV.i ((↑l.length:Int)-1)),(19,AV.i (↑g':Int))] zc50c 2))∧(decide ((g:Int) < (↑l.length:Int)-1)=false->(0:Int)<=(↑(atI l tk g):Int)∧(↑(atI l tk g):Int) < (zc50f l)∧In64 ((↑(atI l tk g):Int)+1)
  ∧ (0:Int)<=(↑(atI l tk g):Int)+1∧(↑(atI l tk g):Int)+1 < (zc50f l)∧AV.agg (nthR (List.map encFx l) (↑(atI l tk g):Int).toNat)=AV.agg [AV.i (zc50a l tk g).t,AV.i (zc50a l tk g).x,AV.i (zc50a l tk g).y,AV.i
  (zc50a l tk g).z,AV.i (zc50a l tk g).p]∧AV.agg (nthR (List.map encFx l) ((↑(atI l tk g):Int)+1).toNat)=AV.agg [AV.i (zc50b l tk g).t,AV.i (zc50b l tk g).x,AV.i (zc50b l tk g).y,AV.i (zc50b l tk g).z,AV.i (zc50b l tk
  g).p]∧In64 (tk-(zc50a l tk g).t)∧In64 (zc50d l tk g)∧PCall Tryd.prog G0 71 [AV.i (zc50a l tk g).x,AV.i (zc50b l tk g).x,AV.i (tk-(zc50a l tk g).t),AV.i (zc50d l tk g)] (AV.i (sBetween (zc50a l tk g).x (zc50b l tk g).x
  (tk-(zc50a l tk g).t) (zc50d l tk g)))∧PCall Tryd.prog G0 71 [AV.i (zc50a l tk g).y,AV.i (zc50b l tk g).y,AV.i (tk-(zc50a l tk g).t),AV.i (zc50d l tk g)] (AV.i (sBetween (zc50a l tk g).y (zc50b l tk g).y (tk-(zc50a l tk
  g).t) (zc50d l tk g)))∧PCall Tryd.prog G0 71 [AV.i (zc50a l tk g).z,AV.i (zc50b l tk g).z,AV.i (tk-(zc50a l tk g).t),AV.i (zc50d l tk g)] (AV.i (sBetween (zc50a l tk g).z (zc50b l tk g).z (tk-(zc50a l tk g).t) (zc50d l tk
  g)))∧In64 ((zc50b l tk g).x-(zc50a l tk g).x)∧In64 ((zc50b l tk g).y-(zc50a l tk g).y)∧PCall Tryd.prog G0 71 [AV.i (zc50a l tk g).p,AV.i (zc50b l tk g).p,AV.i (tk-(zc50a l tk g).t),AV.i (zc50d l tk g)] (AV.i
  (sBetween (zc50a l tk g).p (zc50b l tk g).p (tk-(zc50a l tk g).t) (zc50d l tk g)))∧AV.agg [AV.i (sBetween (zc50a l tk g).x (zc50b l tk g).x (tk-(zc50a l tk g).t) (zc50d l tk g)),AV.i (sBetween (zc50a l tk g).y (zc50b l tk
  g).y (tk-(zc50a l tk g).t) (zc50d l tk g)),AV.i (sBetween (zc50a l tk g).z (zc50b l tk g).z (tk-(zc50a l tk g).t) (zc50d l tk g)),AV.i ((zc50b l tk g).x-(zc50a l tk g).x),AV.i ((zc50b l tk g).y-(zc50a l tk g).y),AV.i
  (sBetween (zc50a l tk g).p (zc50b l tk g).p (tk-(zc50a l tk g).t) (zc50d l tk g))]=AV.agg [AV.i (sBetween (atA l tk).x (atB l tk).x (tk-(atA l tk).t) ((atB l tk).t-(atA l tk).t)),AV.i (sBetween (atA l tk).y (atB l tk).y
  (tk-(atA l tk).t) ((atB l tk).t-(atA l tk).t)),AV.i (sBetween (atA l tk).z (atB l tk).z (tk-(atA l tk).t) ((atB l tk).t-(atA l tk).t)),AV.i ((atB l tk).x-(atA l tk).x),AV.i ((atB l tk).y-(atA l tk).y),AV.i (sBetween
  (atA l tk).p (atB l tk).p (tk-(atA l tk).t) ((atB l tk).t-(atA l tk).t))]):=by
   delta zc50a zc50b zc50c zc50d zc50e zc50f
   have hlm:(List.map encFx l).length=l.length:=List.length_map _
   have hn:=h.n1
   have e1:List.take ((↑(List.map encFx l).length:Int)-1-0).toNat (List.drop 0 (List.map encFx l))=List.take (l.length-1) (List.map encFx l):=by
    rw [hlm,List.drop_zero]
    congr 1
    omega
   have e2:((List.take (l.length-1) (List.map encFx l)).length:Int)=(l.length:Int)-1:=by
    rw [List.length_take,hlm]
    omega
   have hl:=h.n2
   refine ⟨by unfold In64;omega,by omega,by omega,by omega,⟨0,by omega,?_⟩,fun g hg=>⟨fun hd=>?_,fun hd=>?_⟩⟩
   · rw [e1,e2]
     rfl
   · have hlt:=of_decide_eq_true hd
     simp only [Int.toNat_natCast]
     refine ⟨by omega,by rw [e2];omega,?_,fun hx=>⟨by unfold In64;omega,g+1,by omega,by omega,?_⟩,fun hx=>⟨by unfold In64;omega,g+1,by omega,by omega,?_⟩⟩
     · have:nthR (List.take (l.length-1) (List.map encFx l)) g=nthR (List.map encFx l) g:=by
        unfold nthR
        rw [List.getD_eq_getElem?_getD,List.getD_eq_getElem?_getD,List.getElem?_take_of_lt (by omega)]
       rw [this,row_at encFx (by omega)]
       rfl
     · rw [show atI l tk (g+1)=g from if_pos (of_decide_eq_true hx)]
       rfl
     · rw [show atI l tk (g+1)=atI l tk g from if_neg (of_decide_eq_false hx)]
       rfl
   · have hge:g=l.length-1:=by
      have:=of_decide_eq_false hd
      omega
     subst hge
     have hi:=atI_lt (l:=l) (tk:=tk) (m:=l.length-1) (by omega)
     have e3:((↑(atI l tk (l.length-1)):Int)+1).toNat=atI l tk (l.length-1)+1:=by omega
     have r1:nthR (List.map encFx l) (atI l tk (l.length-1))=encFx (atA l tk):=row_at encFx (by omega)
     have r2:nthR (List.map encFx l) (atI l tk (l.length-1)+1)=encFx (atB l tk):=row_at encFx (by omega)
     have bA:=h.b (atI l tk (l.length-1)) (by omega)
     have bB:=h.b (atI l tk (l.length-1)+1) (by omega)
     have up:=h.up (atI l tk (l.length-1)) (by omega)
     rw [e3,Int.toNat_natCast,r1,r2]
     rw [show l.getD (atI l tk (l.length-1)) default=atA l tk from rfl] at bA up ⊢
     rw [show l.getD (atI l tk (l.length-1)+1) default=atB l tk from rfl] at bB up ⊢
     generalize atA l tk=A at *
     generalize atB l tk=B at *
     exact ⟨by omega,by omega,by unfold In64;omega,by omega,by omega,rfl,rfl,by unfold In64;omega,by unfold In64;omega,c71 _ _ _ _ ⟨by omega,by omega,by omega,by omega,by omega,by omega,by omega⟩,c71 _ _ _ _ ⟨by omega,by omega,by omega,by omega,by omega,by omega,by omega⟩,c71 _ _ _ _ ⟨by omega,by omega,by omega,by omega,by omega,by omega,by omega⟩,by unfold In64;omega,by unfold In64;omega,c71 _ _ _ _ ⟨by omega,by omega,by omega,by omega,by omega,by omega,by omega⟩,rfl⟩
 exact c_of Tryd.f50 (fzB (mkB sp126 50 [(4,2,rdL 5 encFx l 5 true),(8,3,rdL 5 encFx l 5 true),(8,8,rdL 5 encFx l 5 true)] (fun i=>if i.beq 0 then some (la126 l tk) else none))) (by kernel_rfl) (by kernel_rfl) (by kernel_rfl) (by kernel_rfl) key (by kernel_rfl)
end Go.Proofs.YtnbhfmaamloodaaDoor
namespace Go.Proofs.YtnbhfmaamloodaaDoor
open Go Go.Av Go.RowKit
theorem floor_eq {n d:Int} (hd:0 < d):sFloor n d=n / d:=by
 have e1:=Int.mul_tdiv_add_tmod n d
 have e2:=Int.tmod_lt_of_pos n hd
 have e3 : -d < n.tmod d:=by
  have:=Int.lt_tmod_of_pos n hd
  omega
 have key:∀ q:Int,q * d<=n->n < (q+1) * d->q=n / d:=fun q h1 h2=>by
  have h3:=(Int.le_ediv_iff_mul_le hd).2 h1
  have h4:=(Int.ediv_lt_iff_lt_mul hd).2 h2
  omega
 have e4:d * n.tdiv d=n.tdiv d * d:=Int.mul_comm _ _
 unfold sFloor
 split
 · rename_i h
   refine key _ ?_ ?_
   · rw [Int.sub_mul,Int.one_mul]
     omega
   · rw [Int.sub_add_cancel]
     exact h
 · rename_i h
   have h5:0<=n.tmod d:=by omega
   refine key _ (by omega) ?_
   rw [Int.add_mul,Int.one_mul]
   omega
theorem bet_eq {a b p w:Int} (hw:0 < w):sBetween a b p w=(a * (w-p)+b * p) / w:=by
 unfold sBetween
 rw [floor_eq hw]
 have e:a * (w-p)+b * p=(b-a) * p+a * w:=by
  rw [Int.mul_sub,Int.sub_mul]
  omega
 rw [e,Int.add_mul_ediv_right _ _ (by omega)]
 omega
theorem bet_mono {a b a' b' p w:Int} (hw:0 < w) (h0:0<=p) (h1:p<=w) (ha:a<=a') (hb:b<=b'):sBetween a b p w<=sBetween a' b' p w:=by
 rw [bet_eq hw,bet_eq hw]
 refine Int.ediv_le_ediv hw ?_
 have e1:=Int.mul_le_mul_of_nonneg_right ha (show 0<=w-p by omega)
 have e2:=Int.mul_le_mul_of_nonneg_right hb h0
 omega
theorem bet_same {a p w:Int} (hw:0 < w):sBetween a a p w=a:=by
 unfold sBetween
 rw [floor_eq hw,Int.sub_self,Int.zero_mul,Int.zero_ediv]
 omega
theorem bet_lo {a b x p w:Int} (hw:0 < w) (h0:0<=p) (h1:p<=w) (ha:x<=a) (hb:x<=b):x<=sBetween a b p w:=by
 have:=bet_mono hw h0 h1 ha hb
 rwa [bet_same hw] at this
theorem bet_hi {a b x p w:Int} (hw:0 < w) (h0:0<=p) (h1:p<=w) (ha:a<=x) (hb:b<=x):sBetween a b p w<=x:=by
 have:=bet_mono hw h0 h1 ha hb
 rwa [bet_same hw] at this
theorem bet_part {a b p p' w:Int} (hw:0 < w) (hab:a<=b) (hp:p<=p'):sBetween a b p w<=sBetween a b p' w:=by
 unfold sBetween
 rw [floor_eq hw,floor_eq hw]
 have:=Int.ediv_le_ediv hw (Int.mul_le_mul_of_nonneg_left hp (show 0<=b-a by omega))
 omega
def val (E P:Nat->Int) (n g:Nat) (p:Int):Int :=
 if g=n then E (n-1) else if g=0 ∨ P g=p then E g else sBetween (E (g-1)) (E g) (p-P (g-1)) (P g-P (g-1))
structure Gat (P:Nat->Int) (n g:Nat) (p:Int):Prop where
 le:g<=n
 below:∀ j,j < g->P j < p
 at_:g < n->p<=P g
theorem gat_seg {P:Nat->Int} {n g:Nat} {p:Int} (h:Gat P n g p) (h1:¬ g=n) (h2:¬ (g=0 ∨ P g=p)):0 < P g-P (g-1)∧0<=p-P (g-1)∧p-P (g-1)<=P g-P (g-1):=by
 have a1:=h.at_ (by have:=h.le;omega)
 have a2:=h.below (g-1) (by omega)
 omega
theorem val_le {E E' P:Nat->Int} {n g:Nat} {p:Int} (hn:1<=n) (h:Gat P n g p) (hE:∀ i,i < n->E i<=E' i):val E P n g p<=val E' P n g p:=by
 unfold val
 split
 · exact hE _ (by omega)
 · rename_i h1
   have:=h.le
   split
   · exact hE _ (by omega)
   · rename_i h2
     have:=gat_seg h h1 h2
     exact bet_mono (by omega) (by omega) (by omega) (hE _ (by omega)) (hE _ (by omega))
theorem val_hi {E P:Nat->Int} {n g:Nat} {p:Int} (h:Gat P n g p) (hE:∀ i,i+1 < n->E i<=E (i+1)) (hg:g < n):val E P n g p<=E g:=by
 unfold val
 rw [if_neg (by omega)]
 split
 · exact Int.le_refl _
 · rename_i h2
   have:=gat_seg h (by omega) h2
   have h3:=hE (g-1) (by omega)
   rw [show g-1+1=g by omega] at h3
   exact bet_hi (by omega) (by omega) (by omega) h3 (Int.le_refl _)
theorem val_lo {E P:Nat->Int} {n g:Nat} {p:Int} (h:Gat P n g p) (hE:∀ i,i+1 < n->E i<=E (i+1)) (hg:1<=g):E (g-1)<=val E P n g p:=by
 unfold val
 split
 · rename_i e;rw [e];exact Int.le_refl _
 · rename_i h1
   have:=h.le
   have h3:=hE (g-1) (by omega)
   rw [show g-1+1=g by omega] at h3
   split
   · exact h3
   · rename_i h2
     have:=gat_seg h h1 h2
     exact bet_lo (by omega) (by omega) (by omega) (Int.le_refl _) h3
theorem up_chain {E:Nat->Int} {n:Nat} (hE:∀ i,i+1 < n->E i<=E (i+1)):∀ (k i:Nat),i+k < n->E i<=E (i+k)
 | 0,i,_=>Int.le_refl _
 | k+1,i,h=>by
  have h1:=up_chain hE k i (by omega)
  have h2:=hE (i+k) (by omega)
  rw [show i+(k+1)=i+k+1 by omega]
  omega
theorem val_up {E P:Nat->Int} {n g g':Nat} {p p':Int} (h:Gat P n g p) (h':Gat P n g' p') (hp:p<=p') (hE:∀ i,i+1 < n->E i<=E (i+1)):val E P n g p<=val E P n g' p':=by
 have hg:g<=g':=by
  rcases Nat.lt_or_ge g' g with h1 | h1
  · have a1:=h.below g' h1
    have a2:=h'.at_ (by have:=h.le;omega)
    omega
  · exact h1
 rcases Nat.lt_or_ge g g' with h1 | h1
 · have b1:=val_hi h hE (by have:=h'.le;omega)
   have b2:=val_lo h' hE (by omega)
   have b3:=up_chain hE (g'-1-g) g (by have:=h'.le;omega)
   rw [show g+(g'-1-g)=g'-1 by omega] at b3
   omega
 · have e:g'=g:=by omega
   subst e
   by_cases e1:g'=n
   · unfold val
     rw [if_pos e1,if_pos e1]
     exact Int.le_refl _
   · have hlt:g' < n:=by have:=h.le;omega
     have a1:=h.at_ hlt
     have a2:=h'.at_ hlt
     by_cases e2:g'=0 ∨ P g'=p'
     · rw [show val E P n g' p'=E g' by unfold val;rw [if_neg e1,if_pos e2]]
       exact val_hi h hE hlt
     · by_cases e3:P g'=p
       · exact absurd (Or.inr (by omega)) e2
       · have e4:¬ (g'=0 ∨ P g'=p):=by omega
         unfold val
         rw [if_neg e1,if_neg e1,if_neg e2,if_neg e4]
         have h3:=hE (g'-1) (by omega)
         rw [show g'-1+1=g' by omega] at h3
         have:=gat_seg h e1 e4
         exact bet_part (by omega) h3 (by omega)
theorem val_nn {E P:Nat->Int} {n g:Nat} {p x:Int} (hn:1<=n) (h:Gat P n g p) (hE:∀ i,i < n->x<=E i):x<=val E P n g p:=by
 unfold val
 split
 · exact hE _ (by omega)
 · rename_i h1
   have:=h.le
   split
   · exact hE _ (by omega)
   · rename_i h2
     have:=gat_seg h h1 h2
     exact bet_lo (by omega) (by omega) (by omega) (hE _ (by omega)) (hE _ (by omega))
theorem bandN_le {l:List Int} {d:Int}:∀ n,bandN l d n<=n
 | 0=>Nat.le_refl _
 | n+1=>by
  simp only [bandN]
  have:=bandN_le (l:=l) (d:=d) n
  split <;> omega
theorem bandN_up {l:List Int} {d d':Int} (h:d<=d'):∀ n,bandN l d n<=bandN l d' n
 | 0=>Nat.le_refl _
 | n+1=>by
  simp only [bandN,decide_eq_true_eq]
  have h1:=bandN_up (l:=l) h n
  have h2:=bandN_le (l:=l) (d:=d) n
  split
  · rw [if_pos (by omega)]
    exact Nat.le_refl _
  · split <;> omega
structure UpTy (t:Ty):Prop where
 u:∀ i k,i+1 < t.st.length->k < t.sq.length->eAt (t.sg i).e k<=eAt (t.sg (i+1)).e k
 d:∀ i k,i < t.st.length->k+1 < t.sq.length->eAt (t.sg i).e (k+1)<=eAt (t.sg i).e k
theorem sets_zero {t:Ty} (h:sTyS t=0):∀ i,i < t.st.length->fSetS t i=0:=by
 unfold sTyS at h
 split at h
 · rename_i h1;rw [h] at h1;exact absurd h1 (by decide)
 · obtain ⟨_,_,h4⟩:=ls_zero' h
   exact (ls_zero' h4).2.1
theorem up_of {t:Ty} (h:sTyS t=0):UpTy t:=by
 have hO:=ok_of h
 have key:∀ i k,i < t.st.length->k < t.sq.length->badS t i k=false:=fun i k hi hk=>by
  have h1:=(ls_zero' (sets_zero h i hi)).2.1 k (by rw [hO.el i hi];exact hk)
  cases hb:badS t i k with
  | false=>rfl
  | true=>rw [hb] at h1;exact absurd h1 (by decide)
 refine ⟨fun i k hi hk=>?_,fun i k hi hk=>?_⟩
 · have h1:=key (i+1) k hi hk
   unfold badS at h1
   rw [Bool.or_eq_false_iff] at h1
   have h2:=of_decide_eq_false h1.2
   rw [lastE,if_neg (by omega),Nat.add_sub_cancel] at h2
   omega
 · have h1:=key i (k+1) hi hk
   unfold badS up at h1
   rw [Bool.or_eq_false_iff,if_neg (by omega),Nat.add_sub_cancel] at h1
   have h2:=of_decide_eq_false h1.1
   omega
def enF (t:Ty) (d:Int) (i:Nat):Int:=eAt (t.sg i).e (bandN t.sq d t.sq.length)
def pwF (t:Ty) (i:Nat):Int:=(t.sg i).p
theorem emi_val (t:Ty) (p d:Int):emi t p d=val (enF t d) (pwF t) t.st.length (geN t p t.st.length) p:=rfl
theorem gat (t:Ty) (p:Int):Gat (pwF t) t.st.length (geN t p t.st.length) p:=⟨geN_le _,geN_below _,geN_at _⟩
theorem emi_nn {t:Ty} {p d:Int} (h:sTyS t=0):0<=emi t p d:=by
 have hO:=ok_of h
 rw [emi_val]
 exact val_nn hO.n1 (gat t p) fun i hi=>(hO.eb i _ hi (bandN_lt hO.q1)).1
theorem emi_far {t:Ty} {p d d':Int} (h:sTyS t=0) (hd:d<=d'):emi t p d'<=emi t p d:=by
 have hO:=ok_of h
 have hU:=up_of h
 rw [emi_val,emi_val]
 refine val_le hO.n1 (gat t p) fun i hi=>?_
 have h1:=bandN_up (l:=t.sq) hd t.sq.length
 have h2:=bandN_lt (l:=t.sq) (d:=d') hO.q1
 have:∀ k j,j+k < t.sq.length->eAt (t.sg i).e (j+k)<=eAt (t.sg i).e j:=by
  intro k
  induction k with
  | zero=>intro j _;exact Int.le_refl _
  | succ k ih =>
   intro j hj
   have a1:=ih j (by omega)
   have a2:=hU.d i (j+k) hi (by omega)
   rw [show j+(k+1)=j+k+1 by omega]
   omega
 have h3:=this (bandN t.sq d' t.sq.length-bandN t.sq d t.sq.length) (bandN t.sq d t.sq.length) (by omega)
 rw [show bandN t.sq d t.sq.length+(bandN t.sq d' t.sq.length-bandN t.sq d t.sq.length)=bandN t.sq d' t.sq.length by omega] at h3
 exact h3
theorem emi_more {t:Ty} {p p' d:Int} (h:sTyS t=0) (hp:p<=p'):emi t p d<=emi t p' d:=by
 have hO:=ok_of h
 have hU:=up_of h
 rw [emi_val,emi_val]
 exact val_up (gat t p) (gat t p') hp fun i hi=>hU.u i _ hi (bandN_lt hO.q1)
end Go.Proofs.YtnbhfmaamloodaaDoor
namespace Go.Proofs.YtnbhfmaamloodaaDoor
open Go Go.Av Go.RowKit
theorem prv_succ (i:Nat):prv (i+1)=i:=by
 unfold prv maxI
 split <;> omega
end Go.Proofs.YtnbhfmaamloodaaDoor
namespace Go.Proofs.YtnbhfmaamloodaaDoor
open Go Go.Av Go.RowKit
theorem scan_congr {f g:Nat->Int} {n:Nat} {fin:Int} (h:∀ k,k < n->f k=g k):sScan f n fin=sScan g n fin:=by
 unfold sScan
 rw [List.map_congr_left (fun k hk=>h k (List.mem_range.1 hk))]
theorem ls_congr {c:Int} {f g:Nat->Int} {n:Nat} {fin:Int} (h:∀ k,k < n->f k=g k):sLS c f n fin=sLS c g n fin:=by
 unfold sLS
 rw [scan_congr h]
theorem first_nest (a b c d:Int):sFirst [sFirst [a,b,c],d]=sFirst [a,b,c,d]:=by
 unfold sFirst
 by_cases ha:a=0
 · by_cases hb:b=0
   · by_cases hc:c=0
     · simp [sFirst,ha,hb,hc]
     · simp [sFirst,ha,hb,hc]
   · simp [sFirst,ha,hb]
 · simp [sFirst,ha]
theorem track_eq (l:List Fx):sTrackS l=sTrackR l:=by
 unfold sTrackS sTrackR
 refine ls_congr fun k _=>?_
 unfold fTrackS fTrackR sFix
 exact first_nest _ _ _ _
end Go.Proofs.YtnbhfmaamloodaaDoor
namespace Go.Proofs.YtnbhfmaamloodaaDoor
open Go Go.Av Go.RowKit
def lastT (l:List Fx):Int:=(l.getD (l.length-1) default).t
def firstT (l:List Fx):Int:=(l.getD 0 default).t
theorem track_ok {l:List Fx} (h:sTrackR l=0):TrackOK l∧lastT l-firstT l<=1000:=by
 obtain ⟨h1,h2,h3⟩:=ls_zero' h
 have hn:=len_ge (by rw [h1];rfl)
 rw [List.length_map] at hn h2
 have key:∀ i,i < l.length->(0<=(l.getD i default).t∧(l.getD i default).t<=100000000)∧sPlace (l.getD i default).x (l.getD i default).y (l.getD i default).z=0∧(1<=(l.getD i default).p∧(l.getD i default).p<=100)∧(if decide ((i:Int) > 0)=true then decide ((l.getD i default).t<=(l.getD (prv i) default).t) else false)=false:=fun i hi=>by
  have h4:=h2 i hi
  unfold fTrackR sPower at h4
  simp only [first_zero,within_zero] at h4
  exact ⟨h4.1,h4.2.1,h4.2.2.1,when_z (by decide) h4.2.2.2.1⟩
 refine ⟨⟨hn.1,hn.2,fun i hi=>?_,fun i hi=>?_⟩,?_⟩
 · obtain ⟨a,b,c,_⟩:=key i hi
   have d:=place_ok b
   exact ⟨a,d.1,d.2.1,d.2.2,c⟩
 · have h5:=(key (i+1) hi).2.2.2
   rw [prv_succ,if_pos (decide_eq_true (by omega))] at h5
   have:=of_decide_eq_false h5
   omega
 · have h6:=of_decide_eq_false (when_z (by decide) h3)
   rw [show lastOf (l.map encFx).length=l.length-1 by rw [List.length_map,lastOf];omega] at h6
   unfold lastT firstT
   omega
theorem atI_le {l:List Fx} {tk:Int} (h:firstT l<=tk):∀ m,(l.getD (atI l tk m) default).t<=tk
 | 0=>h
 | m+1=>by
  simp only [atI]
  split
  · assumption
  · exact atI_le h m
theorem atI_gt {l:List Fx} {tk:Int}:∀ m j,atI l tk m < j->j < m->tk < (l.getD j default).t
 | 0,j,_,h=>absurd h (by omega)
 | m+1,j,h1,h2=>by
  simp only [atI] at h1
  split at h1
  · omega
  · rename_i h3
    by_cases e:j=m
    · rw [e]
      omega
    · exact atI_gt m j h1 (by omega)
theorem at_seg {l:List Fx} {tk:Int} (h:TrackOK l) (h1:firstT l<=tk) (h2:tk < lastT l):(atA l tk).t<=tk∧tk < (atB l tk).t:=by
 have hn:=h.n1
 have hi:=atI_lt (l:=l) (tk:=tk) (m:=l.length-1) (by omega)
 refine ⟨atI_le h1 _,?_⟩
 by_cases e:atI l tk (l.length-1)+1=l.length-1
 · unfold atB
   rw [e]
   exact h2
 · exact atI_gt (l.length-1) _ (by omega) (by omega)
def aX (l:List Fx) (tk:Int):Int:=sBetween (atA l tk).x (atB l tk).x (tk-(atA l tk).t) ((atB l tk).t-(atA l tk).t)
def aY (l:List Fx) (tk:Int):Int:=sBetween (atA l tk).y (atB l tk).y (tk-(atA l tk).t) ((atB l tk).t-(atA l tk).t)
def aZ (l:List Fx) (tk:Int):Int:=sBetween (atA l tk).z (atB l tk).z (tk-(atA l tk).t) ((atB l tk).t-(atA l tk).t)
def aH (l:List Fx) (tk:Int):Int:=(atB l tk).x-(atA l tk).x
def aK (l:List Fx) (tk:Int):Int:=(atB l tk).y-(atA l tk).y
def aP (l:List Fx) (tk:Int):Int:=sBetween (atA l tk).p (atB l tk).p (tk-(atA l tk).t) ((atB l tk).t-(atA l tk).t)
structure AtOK (l:List Fx) (tk:Int):Prop where
 x : -100000<=aX l tk∧aX l tk<=100000
 y : -100000<=aY l tk∧aY l tk<=100000
 z:0<=aZ l tk∧aZ l tk<=20000
 h : -200000<=aH l tk∧aH l tk<=200000
 k : -200000<=aK l tk∧aK l tk<=200000
 p:1<=aP l tk∧aP l tk<=100
theorem at_ok {l:List Fx} {tk:Int} (h:TrackOK l) (h1:firstT l<=tk) (h2:tk < lastT l):AtOK l tk:=by
 have hs:=at_seg h h1 h2
 have hn:=h.n1
 have hi:=atI_lt (l:=l) (tk:=tk) (m:=l.length-1) (by omega)
 have bA:(0<=(atA l tk).t∧(atA l tk).t<=100000000)∧(-100000<=(atA l tk).x∧(atA l tk).x<=100000)∧(-100000<=(atA l tk).y∧(atA l tk).y<=100000)∧(0<=(atA l tk).z∧(atA l tk).z<=20000)∧1<=(atA l tk).p∧(atA l tk).p<=100:=h.b _ (by omega)
 have bB:(0<=(atB l tk).t∧(atB l tk).t<=100000000)∧(-100000<=(atB l tk).x∧(atB l tk).x<=100000)∧(-100000<=(atB l tk).y∧(atB l tk).y<=100000)∧(0<=(atB l tk).z∧(atB l tk).z<=20000)∧1<=(atB l tk).p∧(atB l tk).p<=100:=h.b _ (by omega)
 have w:0 < (atB l tk).t-(atA l tk).t:=by omega
 have p0:0<=tk-(atA l tk).t:=by omega
 have p1:tk-(atA l tk).t<=(atB l tk).t-(atA l tk).t:=by omega
 exact ⟨⟨bet_lo w p0 p1 (by omega) (by omega),bet_hi w p0 p1 (by omega) (by omega)⟩,⟨bet_lo w p0 p1 (by omega) (by omega),bet_hi w p0 p1 (by omega) (by omega)⟩,⟨bet_lo w p0 p1 (by omega) (by omega),bet_hi w p0 p1 (by omega) (by omega)⟩,
  by unfold aH;omega,by unfold aK;omega,⟨bet_lo w p0 p1 (by omega) (by omega),bet_hi w p0 p1 (by omega) (by omega)⟩⟩
def hrdA (t:Ty) (l:List Fx) (rx ry rz tk:Int):Int:=hrd t (aH l tk) (aK l tk) (aP l tk) (rx-aX l tk) (ry-aY l tk) (rz-aZ l tk)
theorem hrd_b {t:Ty} {a b p u v w:Int} (hT:sTyS t=0) (hp:1<=p∧p<=100):0<=hrd t a b p u v w∧hrd t a b p u v w<=100000000000:=by
 have hO:=ok_of hT
 have hS:=side_of hT
 have h8:=sec_8 (secX a b u v) (secY a b u v)
 have hd:=hS.1 (sec 4 0 (secX a b u v) (secY a b u v)).toNat (by omega)
 rw [<- cI_map] at hd
 have he:=emi_b (d:=u * u+v * v+w * w) hO hp.1 hp.2
 have hn:=emi_nn (p:=p) (d:=u * u+v * v+w * w) hT
 have h1:=mul_bound (A:=20000000000) (B:=2000) he.1 he.2 (by omega) hd.2
 have hv:hrdV t a b p u v w<=20000000000 * 2000:=h1.2
 have hv0:0<=hrdV t a b p u v w:=Int.mul_nonneg hn hd.1
 have h2:=mul_bound (A:=40000000000000) (B:=1000) (x:=hrdV t a b p u v w) (y:=t.side) (by omega) (by omega) (by omega) hS.2.2
 have h3:0<=hrdV t a b p u v w * t.side:=Int.mul_nonneg hv0 hS.2.1
 unfold hrd
 split
 · rw [Int.tdiv_eq_ediv_of_nonneg h3]
   omega
 · rw [Int.tdiv_eq_ediv_of_nonneg hv0]
   omega
def sumH (f:Int->Int) (a:Int):Nat->Int
 | 0=>0
 | n+1=>sumH f a n+f (a+n)
theorem sumH_b {f:Int->Int} {a:Int} {n:Nat} (h:∀ i:Nat,i < n->0<=f (a+i)∧f (a+i)<=100000000000):∀ i,i<=n->0<=sumH f a i∧sumH f a i<=100000000000 * i
 | 0,_=>by simp [sumH]
 | i+1,hi=>by
  have h1:=sumH_b h i (by omega)
  have h2:=h i (by omega)
  simp only [sumH]
  rw [Int.natCast_add,Int.mul_add]
  omega
end Go.Proofs.YtnbhfmaamloodaaDoor
namespace Go.Proofs.YtnbhfmaamloodaaDoor
open Go Go.Av Go.RowKit
theorem c32 (a b c d:Int) :PCall Tryd.prog G0 32 [.agg [.i a,.i b],.agg [.i c,.i d]] (.agg [.i (maxI a c),.i (minI b d)]):=by
 have key :
  AV.agg [AV.i (maxI a c),AV.i (minI b d)]=AV.agg [AV.i (maxI a c),AV.i (minI b d)]:=by
   rfl
 exact c_of Tryd.f32 (mkB spR 32 [] noLa) (by kernel_rfl) (by kernel_rfl) (by kernel_rfl) (by kernel_rfl) key (by kernel_rfl)
def sp99 (t:Ty) (l:List Fx):Nat->List AV->Option AV
 | 36,_=>some (.i (sTyS t))
 | 37,_=>some (.i (sTrackS l))
 | n,x=>spR n x
def chkH (t:Ty) (l:List Fx) (a b x y z:Int):Int:=sFirst [sTyS t,sTrackS l,sWhen (if (if decide (a < 0) then true else decide (a > b)) then true else decide (b > 100000000)) 14,sPlace x y z]
abbrev zc22a (a:Int) (b:Int):=if (if decide (a < 0)=true then true else decide (a > b))=true then true else decide (b > 100000000)
abbrev zc22b (a:Int) (b:Int):=!if decide (a < 0)=true then true else decide (a > b)
theorem c22 (t:Ty) (l:List Fx) (a b x y z:Int) (hn:t.st.length<=1000) (hs:t.sh.length<=1000) (hq:t.sq.length<=1000) (he:∀ s,s ∈ t.st->s.e.length<=1000) (hN:t.name.length<=1000000) (hl:l.length<=1000):PCall Tryd.prog G0 22 [.agg (encTy t),.sl 5 (l.map encFx),.agg [.i a,.i b],.agg [.i x,.i y,.i z]] (.i (chkH t l a b x y z)):=by
 have key :
  ((!decide (a < 0))=true->(!decide (a < 0))=true)∧((!decide (a < 0))=true->(!decide (a < 0))=true)∧((!decide (a < 0))=true->(!decide (a < 0))=true)∧((!decide (a < 0))=true->(!decide (a < 0))=true)∧(decide
  (a < 0)=false->(!decide (a < 0))=true)∧((zc22b a b)=true->(zc22b a b)=true)∧((zc22b a b)=true->(zc22b a b)=true)∧((if decide (a < 0)=true then true else decide (a > b))=false->(zc22b a b)=true)∧PCall
  Tryd.prog G0 36 [AV.agg (encTy t)] (AV.i (sTyS t))∧PCall Tryd.prog G0 37 [AV.sl 5 (List.map encFx l)] (AV.i (sTrackS l))∧PCall Tryd.prog G0 54 [AV.bool (zc22a a b),AV.i 14] (AV.i (sWhen (zc22a a b) (14:Int)))∧PCall
  Tryd.prog G0 38 [AV.agg [AV.i x,AV.i y,AV.i z]] (AV.i (sPlace x y z))∧PCall Tryd.prog G0 35 [AV.sl 1 [[AV.i (sTyS t)],[AV.i (sTrackS l)],[AV.i (sWhen (zc22a a b) (14:Int))],[AV.i (sPlace x y z)]]] (AV.i (sFirst [hdI [AV.i
  (sTyS t)],hdI [AV.i (sTrackS l)],hdI [AV.i (sWhen (zc22a a b) (14:Int))],hdI [AV.i (sPlace x y z)]]))∧AV.i (sFirst [hdI [AV.i (sTyS t)],hdI [AV.i (sTrackS l)],hdI [AV.i (sWhen (zc22a a b) (14:Int))],hdI [AV.i (sPlace x
  y z)]])=AV.i (chkH t l a b x y z):=by
   delta zc22a zc22b
   repeat' (first | apply And.intro | refine impB_iff.2 fun _=>?_ | intro _)
   all_goals first
    | assumption
    | exact c36 t hn hs hq he hN
    | exact c37 l (by rw [List.length_map];omega)
    | exact c54 _ _
    | exact c38 _ _ _
    | exact c35 [_,_,_,_] (by simp)
    | rfl
    | (simp_all;done)
 exact c_of Tryd.f22 (mkB (sp99 t l) 22 [] noLa) (by kernel_rfl) (by kernel_rfl) (by kernel_rfl) (by kernel_rfl) key (by kernel_rfl)
def fromA (l:List Fx) (a:Int):Int:=maxI a (firstT l)
def toB (l:List Fx) (b:Int):Int:=minI b (lastT l)
end Go.Proofs.YtnbhfmaamloodaaDoor
namespace Go.Proofs.YtnbhfmaamloodaaDoor
open Go Go.Av Go.RowKit
def zeroTy:List AV:=[.str [],.ex (.slice none 0 0),.i 0,.i 0,.i 0,.i 0,.i 0,.i 0,.i 0,.i 0,.i 0,.ex (.slice none 0 0),.ex (.slice none 0 0)]
end Go.Proofs.YtnbhfmaamloodaaDoor
namespace Go.Proofs.YtnbhfmaamloodaaDoor
open Go Go.Av Go.RowKit
def rHrd (t:Ty) (x y z a b p x2 y2 z2:Int):Int:=if chkHrd t x y z a b p x2 y2 z2 != 0 then 0 else hrd t a b p (x2-x) (y2-y) (z2-z)
structure Ask where
 p:Int
 d:Int
 x:Int
 y:Int
 z:Int
 a:Int
 b:Int
 q:Int
 x2:Int
 y2:Int
 z2:Int
 u:Int
 v:Int
 e:Int
def encAsk (k:Ask):List AV:=[.i k.p,.i k.d,.i k.x,.i k.y,.i k.z,.i k.a,.i k.b,.i k.q,.i k.x2,.i k.y2,.i k.z2,.i k.u,.i k.v,.i k.e]
theorem src_two (c e:Int):(if (c != 0)=true then [AV.i 0,AV.i c] else [AV.i e,AV.i 0])=[AV.i (if (c != 0)=true then 0 else e),AV.i c]:=by
 by_cases h:c=0
 · subst h;rfl
 · have h':(c != 0)=true:=by simpa using h
   rw [if_pos h',if_pos h']
theorem r_zero {c e:Int} (h:(c == 0)=true):(if (c != 0)=true then 0 else e)=e:=by
 have:c=0:=by simpa using h
 subst this
 rfl
structure ShortTy (t:Ty):Prop where
 n:t.name.length<=40
 s:t.sh.length<=9
 q:t.sq.length<=9
 st:t.st.length<=7
 e:∀ x,x ∈ t.st->x.e.length<=9
theorem short_of {t:Ty} (h:sShort t=true):ShortTy t:=by
 unfold sShort at h
 simp only [Bool.and_eq_true,List.all_eq_true,decide_eq_true_eq] at h
 exact ⟨h.2.1,h.2.2.1,h.2.2.2.1,h.2.2.2.2,h.1⟩
def rdT:List AV->Option AV:=fun _=>some (.bool true)
def noSym (r:Nat) (B:BA):BA:={ B with ra:=fun i=>if i.beq r then { B.ra i with ans:=(B.ra i).ans.map fun a=>{ a with sym:=false } } else B.ra i }
def b6 (t:Ty) (k:Ask):List (Nat × AV):=[(2,.elt 13 [encTy t] 0 0),(3,.elt 14 [encAsk k] 0 0),(4,.bool false)]
theorem c20t {t:Ty} (h:ShortTy t) (x y z a b p x2 y2 z2:Int):PCall Tryd.prog G0 20 [.agg (encTy t),.agg [.i x,.i y,.i z,.i a,.i b,.i p],.agg [.i x2,.i y2,.i z2]] (.tup [.i (rHrd t x y z a b p x2 y2 z2),.i (chkHrd t x y z a b p x2 y2 z2)]):=by
 have h:=c20 t x y z a b p x2 y2 z2 (by have:=h.st;omega) (by have:=h.s;omega) (by have:=h.q;omega) (fun x hx=>by have:=h.e x hx;omega) (by have:=h.n;omega)
 rw [srcHrd,src_two] at h
 exact h
theorem dir_z {x y:Int} (hx : -200000<=x∧x<=200000) (hy : -200000<=y∧y<=200000):sDir x y=0:=by
 unfold sDir
 simp only [first_zero,within_zero]
 exact ⟨hx,hy,rfl⟩
theorem hrd_z {t:Ty} {x y z a b p x2 y2 z2:Int} (h:sTyS t=0) (h1:sPlace x y z=0) (h2:sDir a b=0) (h3:sPower p=0) (h4:sPlace x2 y2 z2=0):chkHrd t x y z a b p x2 y2 z2=0∧rHrd t x y z a b p x2 y2 z2=hrd t a b p (x2-x) (y2-y) (z2-z):=by
 have h:chkHrd t x y z a b p x2 y2 z2=0:=by
  unfold chkHrd
  simp only [first_zero]
  exact ⟨h,h1,h2,h3,h4,rfl⟩
 exact ⟨h,r_zero (by rw [h];rfl)⟩
end Go.Proofs.YtnbhfmaamloodaaDoor
namespace Go.Proofs.YtnbhfmaamloodaaDoor
open Go Go.Av Go.RowKit
theorem c16t {t:Ty} (h:ShortTy t):PCall Tryd.prog G0 16 [.agg (encTy t)] (.i (sTyR t)):=c16 t (by have:=h.st;omega) (by have:=h.s;omega) (by have:=h.q;omega) (fun x hx=>by have:=h.e x hx;omega) (by have:=h.n;omega)
def rdF:List AV->Option AV:=fun _=>some (.bool false)
end Go.Proofs.YtnbhfmaamloodaaDoor
namespace Go.Proofs.YtnbhfmaamloodaaDoor
open Go Go.Av Go.RowKit
def outT (l:List Fx) (k:Int):Bool:=if decide (k < firstT l) then true else decide (k>=lastT l)
def chkAt (l:List Fx) (k:Int):Int:=if sTrackS l != 0 then sTrackS l else sWhen (outT l k) 7
def rAt (l:List Fx) (k:Int):List AV:=if sTrackS l != 0 then [.i 0,.i 0,.i 0,.i 0,.i 0,.i 0] else if outT l k then [.i 0,.i 0,.i 0,.i 0,.i 0,.i 0] else atV (atA l k) (atB l k) k
def sp56 (l:List Fx) (k:Int):Nat->List AV->Option AV
 | 37,_=>some (.i (sTrackS l))
 | 33,_=>some (.agg [.i (firstT l),.i (lastT l)])
 | 50,_=>some (.agg (atV (atA l k) (atB l k) k))
 | n,w=>spR n w
abbrev zc19a (l:List Fx) (k:Int):=[AV.i (sBetween (atA l k).x (atB l k).x (k-(atA l k).t) ((atB l k).t-(atA l k).t)),AV.i (sBetween (atA l k).y (atB l k).y (k-(atA l k).t) ((atB l k).t-(atA l k).t)),AV.i (sBetween (atA l k).z (atB l k).z (k-(atA l k).t) ((atB l k).t-(atA l k).t)),AV.i ((atB l k).x-(atA l k).x),AV.i ((atB l k).y-(atA l k).y),AV.i (sBetween (atA l k).p (atB l k).p (k-(atA l k).t) ((atB l k).t-(atA l k).t))]
theorem c19 (l:List Fx) (k:Int) (hl:l.length<=1000):PCall Tryd.prog G0 19 [.sl 5 (l.map encFx),.i k] (.tup [.agg (rAt l k),.i (chkAt l k)]):=by
 have key :
  PCall Tryd.prog G0 37 [AV.sl 5 (List.map encFx l)] (AV.i (sTrackS l))∧((sTrackS l != 0)=true->AV.tup [AV.agg [AV.i 0,AV.i 0,AV.i 0,AV.i 0,AV.i 0,AV.i 0],AV.i (sTrackS l)]=AV.tup [AV.agg (rAt l k),AV.i (chkAt l k)]) ∧
  ((sTrackS l != 0)=false->PCall Tryd.prog G0 33 [AV.sl 5 (List.map encFx l)] (AV.agg [AV.i (firstT l),AV.i (lastT l)])∧((!decide (k < firstT l))=true->(!decide (k < firstT l))=true)∧((!decide (k < firstT l))=true →
  (!decide (k < firstT l))=true)∧((!decide (k < firstT l))=true->(!decide (k < firstT l))=true)∧(decide (k < firstT l)=false->(!decide (k < firstT l))=true)∧((if decide (k < firstT l)=true then true else decide (k
  ≥ lastT l))=true->AV.tup [AV.agg [AV.i 0,AV.i 0,AV.i 0,AV.i 0,AV.i 0,AV.i 0],AV.i 7]=AV.tup [AV.agg (rAt l k),AV.i (chkAt l k)])∧((if decide (k < firstT l)=true then true else decide (k>=lastT l))=false->PCall
  Tryd.prog G0 50 [AV.sl 5 (List.map encFx l),AV.i k] (AV.agg (zc19a l k))∧AV.tup [AV.agg (zc19a l k),AV.i 0]=AV.tup [AV.agg (rAt l k),AV.i (chkAt l k)])):=by
   delta zc19a
   refine ⟨c37 l (by rw [List.length_map];omega),fun h=>?_,fun h=>?_⟩
   · unfold rAt chkAt
     rw [if_pos h,if_pos h]
   · have hz:sTrackS l=0:=by simpa using h
     rw [track_eq] at hz
     obtain ⟨hO,hsp⟩:=track_ok hz
     have h':¬ (sTrackS l != 0)=true:=by rw [h];exact Bool.false_ne_true
     have hn:=hO.n1
     refine ⟨c33 l (by omega) hl,fun h=>h,fun h=>h,fun h=>h,fun h=>by rw [h];rfl,fun ho=>?_,fun ho=>?_⟩
     · unfold rAt chkAt
       rw [if_neg h',if_neg h',if_pos (show outT l k=true from ho),show outT l k=true from ho]
       rfl
     · have ho':¬ outT l k=true:=by rw [show outT l k=false from ho];exact Bool.false_ne_true
       have h1:¬ k < firstT l∧¬ k>=lastT l:=by
        by_cases hx:k < firstT l
        · simp [hx] at ho
        · simp [hx] at ho
          exact ⟨hx,by omega⟩
       have b0:=(hO.b 0 (by omega)).1
       have b1:=(hO.b (l.length-1) (by omega)).1
       rw [show (l.getD 0 default).t=firstT l from rfl] at b0
       rw [show (l.getD (l.length-1) default).t=lastT l from rfl] at b1
       refine ⟨c50 l k hO ⟨by omega,by omega⟩,?_⟩
       unfold rAt chkAt
       rw [if_neg h',if_neg h',if_neg ho',show outT l k=false from ho]
       rfl
 exact c_of Tryd.f19 (fzB (mkB (sp56 l k) 19 [] noLa)) (by kernel_rfl) (by kernel_rfl) (by kernel_rfl) (by kernel_rfl) key (by kernel_rfl)
end Go.Proofs.YtnbhfmaamloodaaDoor
namespace Go.Proofs.YtnbhfmaamloodaaDoor
open Go Go.Av Go.RowKit Go.ChangeShapes Go.WideShapes
theorem laidOut:laidOutB Tryd.prog=true:=by kernel_rfl
theorem own:ownKnob Tryd.prog.godebug=none:=by kernel_rfl
def laid1:List (String × DataW Unit):=Rows.topBellCutRow.laid
theorem door_met (os:Os) (args:Array Value):laidMetH Tryd.prog laid1 ((World.laidAll Tryd.prog os laid1).forCall (fun _ _=>0) ⟨#[],args,[]⟩).memory:=by
 rw [MakeChecks.laidMetH_plain _ _ _ (by kernel_rfl)]
 exact laidMet_laidAll _ (by kernel_rfl) (by kernel_rfl)
theorem globs {W:World} (h:laidMetH Tryd.prog laid1 W):∀ g cells,lk g G0=some cells->GlobOK NoX W g cells:=by
 rw [MakeChecks.laidMetH_plain _ _ _ (by kernel_rfl)] at h
 obtain ⟨ps,hl,_⟩:=h
 have m0 := laid_glob (T := T0) tok (n := 8) (name := "flyover/sound.base") (d := Rows.laid_flyover_sound_base) (g := 0) (t := 118) (cells := nthR (G0.map (·.2)) 0) (by kernel_rfl) (by kernel_rfl) (by kernel_rfl) (by kernel_rfl) (by kernel_rfl) (by simp [nthR, G0]) (laid := laid1) (ps := ps) (by simp [laid1, Rows.topBellCutRow]) hl
 intro g cells hg
 obtain ⟨u,hu,e1⟩:=lk_mem hg
 subst e1
 simp only [G0,List.mem_cons,List.not_mem_nil,or_false,Prod.mk.injEq] at hu
 obtain ⟨rfl,rfl⟩:=hu
 exact m0
theorem wf64 {x:Int} (h:(Lit.int .i64 x).wf=true):In64 x:=by
 simp only [Lit.wf,Bool.and_eq_true,decide_eq_true_eq] at h
 exact h
theorem int_of {n:Nat} {r:List AV} (hn:shapeT T0 n 3=[.int .i64]) (hp:plainT T0 n 3=true) (h:ASh T0 n 3 r):∃ x:Int,r=encI x∧In64 x:=by
 have:=ash_shape n 3 r hp h
 rw [hn] at this
 obtain ⟨_,_,rfl,⟨x,rfl,hx⟩,rfl⟩:=this
 exact ⟨x,rfl,wf64 hx⟩
theorem sg_of {n m:Nat} {r:List AV} (hn:shapeT T0 n 79=[.int .i64,.sl m 3 1]) (hp:plainT T0 n 79=true) (hm:shapeT T0 m 3=[.int .i64]) (hq:plainT T0 m 3=true) (h:ASh T0 n 79 r):∃ s:Sg,r=encSg s∧True:=by
 have:=ash_shape n 79 r hp h
 rw [hn] at this
 obtain ⟨_,_,rfl,⟨x,rfl,_⟩,_,_,rfl,⟨rows,rfl,_,hr⟩,rfl⟩:=this
 obtain ⟨e,rfl,_⟩:=rows_enc (enc:=encI) (Q:=In64) (fun r hm'=>int_of hm hq (hr r hm'))
 exact ⟨⟨x,e⟩,rfl,trivial⟩
theorem ty_arg {a:AV} (h:ASh1 T0 8 26 a):∃ t:Ty,a=.agg (encTy t)∧t.st.length<=maxLen:=by
 obtain ⟨l,rfl,h2⟩:=ash1_agg (cs:=[.str,.sl 6 3 1,.int .i64,.int .i64,.int .i64,.int .i64,.int .i64,.int .i64,.int .i64,.int .i64,.int .i64,.sl 6 3 1,.sl 6 79 2])
  (ti:=⟨(.struct [(0,9,1),(1,22,1),(2,23,8),(10,3,1),(11,22,1),(12,24,1)]),13,160,true,[.str [],.ex (.slice none 0 0),.int .i64 0,.int .i64 0,.int .i64 0,.int .i64 0,.int .i64 0,.int .i64 0,.int .i64 0,.int .i64 0,.int .i64 0,.ex (.slice none 0 0),.ex (.slice none 0 0)],true⟩)
  (by kernel_rfl) rfl (by kernel_rfl) (by kernel_rfl) h
 obtain ⟨_,_,rfl,⟨nm,rfl,_⟩,_,_,rfl,⟨rs,rfl,_,hrs⟩,_,_,rfl,⟨d0,rfl,_⟩,_,_,rfl,⟨d1,rfl,_⟩,_,_,rfl,⟨d2,rfl,_⟩,_,_,rfl,⟨d3,rfl,_⟩,_,_,rfl,⟨d4,rfl,_⟩,_,_,rfl,⟨d5,rfl,_⟩,_,_,rfl,⟨d6,rfl,_⟩,_,_,rfl,⟨d7,rfl,_⟩,_,_,rfl,⟨sd,rfl,_⟩,_,_,rfl,⟨rq,rfl,_,hrq⟩,_,_,rfl,⟨rt,rfl,hlt,hrt⟩,rfl⟩:=h2
 obtain ⟨sh,rfl,_⟩:=rows_enc (enc:=encI) (Q:=In64) (fun r hm=>int_of (by kernel_rfl) (by kernel_rfl) (hrs r hm))
 obtain ⟨sq,rfl,_⟩:=rows_enc (enc:=encI) (Q:=In64) (fun r hm=>int_of (by kernel_rfl) (by kernel_rfl) (hrq r hm))
 obtain ⟨st,rfl,_⟩:=rows_enc (enc:=encSg) (Q:=fun _=>True) (fun r hm=>sg_of (m:=4) (by kernel_rfl) (by kernel_rfl) (by kernel_rfl) (by kernel_rfl) (hrt r hm))
 exact ⟨⟨nm,sh,d0,d1,d2,d3,d4,d5,d6,d7,sd,sq,st⟩,rfl,by simpa using hlt⟩
theorem fx_of {n:Nat} {r:List AV} (hn:shapeT T0 n 39=[.int .i64,.int .i64,.int .i64,.int .i64,.int .i64]) (hp:plainT T0 n 39=true) (h:ASh T0 n 39 r):∃ x:Fx,r=encFx x∧True:=by
 have:=ash_shape n 39 r hp h
 rw [hn] at this
 obtain ⟨_,_,rfl,⟨a,rfl,_⟩,_,_,rfl,⟨b,rfl,_⟩,_,_,rfl,⟨c,rfl,_⟩,_,_,rfl,⟨d,rfl,_⟩,_,_,rfl,⟨e,rfl,_⟩,rfl⟩:=this
 exact ⟨⟨a,b,c,d,e⟩,rfl,trivial⟩
theorem track_arg {a:AV} (h:ASh1 T0 8 27 a):∃ l:List Fx,a=.sl 5 (l.map encFx)∧l.length<=maxLen:=by
 obtain ⟨rows,rfl,hl,hr⟩:=ash1_one (c:=.sl 7 39 5) (ti:=⟨(.slice 39 5 40),1,24,false,[.ex (.slice none 0 0)],false⟩) (by kernel_rfl) rfl (by kernel_rfl) (by kernel_rfl) h
 obtain ⟨l,rfl,_⟩:=rows_enc (enc:=encFx) (Q:=fun _=>True) (fun r hm=>fx_of (by kernel_rfl) (by kernel_rfl) (hr r hm))
 exact ⟨l,rfl,by simpa using hl⟩
theorem wfu16 {x:Int} (h:(Lit.int .u16 x).wf=true):0<=x∧x<=65535:=by
 simp only [Lit.wf,Bool.and_eq_true] at h
 exact ⟨of_decide_eq_true h.1,of_decide_eq_true h.2⟩
theorem wfu8 {x:Int} (h:(Lit.int .u8 x).wf=true):0<=x∧x<=255:=by
 simp only [Lit.wf,Bool.and_eq_true] at h
 exact ⟨of_decide_eq_true h.1,of_decide_eq_true h.2⟩
theorem bell_arg {a:AV} (h:ASh1 T0 8 33 a):∃ x y z q0 q1 q2:Int,a=.agg [.i x,.i y,.i z,.int .u16 q0,.int .u16 q1,.int .u8 q2]∧(0<=q0∧q0<=65535)∧(0<=q1∧q1<=65535)∧(0<=q2∧q2<=255):=by
 obtain ⟨l,rfl,h2⟩:=ash1_agg (cs:=[.int .i64,.int .i64,.int .i64,.int .u16,.int .u16,.int .u8]) (ti:=⟨(.struct [(0,29,3),(3,31,2),(5,5,1)]),6,32,true,[.int .i64 0,.int .i64 0,.int .i64 0,.int .u16 0,.int .u16 0,.int .u8 0],true⟩) (by kernel_rfl) rfl (by kernel_rfl) (by kernel_rfl) h
 obtain ⟨_,_,rfl,⟨x,rfl,_⟩,_,_,rfl,⟨y,rfl,_⟩,_,_,rfl,⟨z,rfl,_⟩,_,_,rfl,⟨p,rfl,hp⟩,_,_,rfl,⟨q,rfl,hq⟩,_,_,rfl,⟨r,rfl,hr⟩,rfl⟩:=h2
 exact ⟨x,y,z,p,q,r,rfl,wfu16 hp,wfu16 hq,wfu8 hr⟩
end Go.Proofs.YtnbhfmaamloodaaDoor
namespace Go.Proofs.YtnbhfmaamloodaaDoor
open Go Go.Av Go.RowKit
def hrL (a:Int) (H:Nat->Int) (n:Nat):List (List AV):=(List.range n).map fun (i:Nat)=>[.i (a+i),.i (H i)]
def la144 (l:Nat) (a b:Int) (tc:List AV) (tr:AV) (rx ry rz:Int) (H:Nat->Int):LA:={
 pre:=[.keep [0,1,2,3,4,6] [0],.bound 1],post:=[.keep [0,1,2,3,4,6] [0],.bound 1]
 Gh:=Nat
 st:=fun i=>⟨[(0,.yld l),(1,.elt 2 [[.i a,.i b]] 0 0),(2,.elt 13 [tc] 0 0),(3,.elt 1 [[tr]] 0 0),(4,.elt 3 [[.i rx,.i ry,.i rz]] 0 0),(6,.i (a+i))],[(0,.ready l (hrL a H i))],1⟩
 ok:=fun i=>i<=(b-a).toNat
 ms:=fun i=>(b-a).toNat-i }
def sp144 (a:Int) (S:Nat->List AV) (hd:List AV->Int):Nat->List AV->Option AV
 | 50,[_,.int _ t]=>some (.agg (S (t-a).toNat))
 | 53,[_,.agg s,_]=>some (.i (hd s))
 | _,_=>none
def B144 (a b:Int) (tc:List AV) (tr:AV) (rx ry rz:Int) (S:Nat->List AV) (hd:List AV->Int) (l:Nat):BA :=
 mkB (sp144 a S hd) 58 [] (fun i=>if i.beq 0 then some (la144 l a b tc tr rx ry rz fun i=>hd (S i)) else none)
theorem s_of {f : Nat} {cap : List AV} {L : List (List AV)} (fn : Func) (B : Nat → BA) (hf : Tryd.prog.funcs[f]? = some fn) (hb : fn.body = some (bodyOf fn)) (hn : (fn.name == "runtime.NumGoroutine") = false) (hlen : Nat.ble (cap.length + 1) fn.ntmps = true) (hres : fn.results.toList = [])
 {q:Nat->Prop} (hq:∀ l,q l) (h:∀ l,VC (bodyE Tryd.prog T0 G0 fn.ntmps L) (B l) 10000 0 (bodyOf fn) (startI l cap) (seqQ l L)=q l):PSeq Tryd.prog G0 f cap L :=
 seq_of_VC tok mix hf hb hn (Nat.le_of_ble_eq_true hlen) hres B fun l=>vc_of (hq l) (h l)
theorem hr_succ (a:Int) (H:Nat->Int) (n:Nat):hrL a H n++[[.i (a+n),.i (H n)]]=hrL a H (n+1):=by
 simp [hrL,List.range_succ]
theorem hr_post (a:Int) (H:Nat->Int):∀ {n m:Nat},n < m->∃ post,hrL a H m=hrL a H n++[.i (a+n),.i (H n)]::post
 | n,m,h=>by
  refine ⟨(List.range' (n+1) (m-(n+1))).map fun (i:Nat)=>[.i (a+i),.i (H i)],?_⟩
  rw [<- List.singleton_append,<- List.append_assoc,hr_succ]
  unfold hrL
  rw [<- List.map_append,List.range_eq_range',List.range_eq_range',show List.range' (n+1) (m-(n+1))=List.range' (0+(n+1)) (m-(n+1)) by rw [Nat.zero_add],List.range'_append_1,show n+1+(m-(n+1))=m by omega]
theorem s144 (a b:Int) (c0 c1 c2 c3 c4 c5 c6 c7 c8 c9 c1010 c1011 c1012:AV) (rows:List (List AV)) (rx ry rz:Int) (S:Nat->List AV) (hd:List AV->Int) (ha : -1000000000<=a) (hb:b<=1000000000)
 (h1:∀ i:Nat,i < (b-a).toNat->PCall Tryd.prog G0 50 [.sl 5 rows,.i (a+i)] (.agg (S i)))
 (h2:∀ i:Nat,i < (b-a).toNat->PCall Tryd.prog G0 53 [.agg [c0,c1,c2,c3,c4,c5,c6,c7,c8,c9,c1010,c1011,c1012],.agg (S i),.agg [.i rx,.i ry,.i rz]] (.i (hd (S i)))) :
 PSeq Tryd.prog G0 58 [.elt 2 [[.i a,.i b]] 0 0,.elt 13 [[c0,c1,c2,c3,c4,c5,c6,c7,c8,c9,c1010,c1011,c1012]] 0 0,.elt 1 [[.sl 5 rows]] 0 0,.elt 3 [[.i rx,.i ry,.i rz]] 0 0] (hrL a (fun i=>hd (S i)) (b-a).toNat):=by
 have key:∀ l:Nat,
  (∃ (g:Nat),
  g<=(b-a).toNat ∧
  AS.mk
  [((0:Nat),AV.yld l),
  ((1:Nat),AV.elt (2:Nat) [[AV.int IntKind.i64 a,AV.int IntKind.i64 b]] (0:Nat) (0:Nat)),
  ((2:Nat),
  AV.elt (13:Nat) [[c0,c1,c2,c3,c4,c5,c6,c7,c8,c9,c1010,c1011,c1012]] (0:Nat) (0:Nat)),
  ((3:Nat),AV.elt (1:Nat) [[AV.sl (5:Nat) rows]] (0:Nat) (0:Nat)),
  ((4:Nat),
  AV.elt (3:Nat) [[AV.int IntKind.i64 rx,AV.int IntKind.i64 ry,AV.int IntKind.i64 rz]] (0:Nat)
  (0:Nat)),
  ((6:Nat),AV.int IntKind.i64 a)]
  [((0:Nat),ABlk.ready l [])] (1:Nat) =
  AS.mk
  [((0:Nat),AV.yld l),
  ((1:Nat),AV.elt (2:Nat) [[AV.int IntKind.i64 a,AV.int IntKind.i64 b]] (0:Nat) (0:Nat)),
  ((2:Nat),
  AV.elt (13:Nat) [[c0,c1,c2,c3,c4,c5,c6,c7,c8,c9,c1010,c1011,c1012]] (0:Nat) (0:Nat)),
  ((3:Nat),AV.elt (1:Nat) [[AV.sl (5:Nat) rows]] (0:Nat) (0:Nat)),
  ((4:Nat),
  AV.elt (3:Nat) [[AV.int IntKind.i64 rx,AV.int IntKind.i64 ry,AV.int IntKind.i64 rz]] (0:Nat)
  (0:Nat)),
  ((6:Nat),AV.int IntKind.i64 (a+(g:Int)))]
  [((0:Nat),ABlk.ready l (hrL a (fun (i:Nat)=>hd (S i)) g))] (1:Nat)) ∧
  ∀ (g:Nat),
  g<=(b-a).toNat →
  (decide (a+(g:Int) < b)=true →
  l=l ∧
  PCall Tryd.prog G0 (50:Nat) [AV.sl (5:Nat) rows,AV.int IntKind.i64 (a+(g:Int))]
  (AV.agg (S (a+(g:Int)-a).toNat)) ∧
  PCall Tryd.prog G0 (53:Nat)
  [AV.agg [c0,c1,c2,c3,c4,c5,c6,c7,c8,c9,c1010,c1011,c1012],
  AV.agg (S (a+(g:Int)-a).toNat),
  AV.agg [AV.int IntKind.i64 rx,AV.int IntKind.i64 ry,AV.int IntKind.i64 rz]]
  (AV.int IntKind.i64 (hd (S (a+(g:Int)-a).toNat))) ∧
  (∃ (post:List (List AV)),
  hrL a (fun (i:Nat)=>hd (S i)) (b-a).toNat =
  hrL a (fun (i:Nat)=>hd (S i)) g ++
  [AV.int IntKind.i64 (a+(g:Int)),
  AV.int IntKind.i64 (hd (S (a+(g:Int)-a).toNat))] ::
  post) ∧
  l=l ∧
  (hrL a (fun (i:Nat)=>hd (S i)) g ++
  [[AV.int IntKind.i64 (a+(g:Int)),
  AV.int IntKind.i64 (hd (S (a+(g:Int)-a).toNat))]]).length =
  (hrL a (fun (i:Nat)=>hd (S i)) g).length+(1:Nat) ∧
  (In64 (a+(g:Int)+(1:Int)) ∧
  ∃ (g':Nat),
  g'<=(b-a).toNat ∧
  (b-a).toNat-g' < (b-a).toNat-g ∧
  AS.mk
  [((0:Nat),AV.yld l),
  ((1:Nat),
  AV.elt (2:Nat) [[AV.int IntKind.i64 a,AV.int IntKind.i64 b]] (0:Nat)
  (0:Nat)),
  ((2:Nat),
  AV.elt (13:Nat) [[c0,c1,c2,c3,c4,c5,c6,c7,c8,c9,c1010,c1011,c1012]]
  (0:Nat) (0:Nat)),
  ((3:Nat),AV.elt (1:Nat) [[AV.sl (5:Nat) rows]] (0:Nat) (0:Nat)),
  ((4:Nat),
  AV.elt (3:Nat)
  [[AV.int IntKind.i64 rx,AV.int IntKind.i64 ry,AV.int IntKind.i64 rz]]
  (0:Nat) (0:Nat)),
  ((6:Nat),AV.int IntKind.i64 (a+(g:Int)+(1:Int)))]
  [((0:Nat),
  ABlk.ready l
  (hrL a (fun (i:Nat)=>hd (S i)) g ++
  [[AV.int IntKind.i64 (a+(g:Int)),
  AV.int IntKind.i64 (hd (S (a+(g:Int)-a).toNat))]]))]
  (1:Nat) =
  AS.mk
  [((0:Nat),AV.yld l),
  ((1:Nat),
  AV.elt (2:Nat) [[AV.int IntKind.i64 a,AV.int IntKind.i64 b]] (0:Nat)
  (0:Nat)),
  ((2:Nat),
  AV.elt (13:Nat) [[c0,c1,c2,c3,c4,c5,c6,c7,c8,c9,c1010,c1011,c1012]]
  (0:Nat) (0:Nat)),
  ((3:Nat),AV.elt (1:Nat) [[AV.sl (5:Nat) rows]] (0:Nat) (0:Nat)),
  ((4:Nat),
  AV.elt (3:Nat)
  [[AV.int IntKind.i64 rx,AV.int IntKind.i64 ry,AV.int IntKind.i64 rz]]
  (0:Nat) (0:Nat)),
  ((6:Nat),AV.int IntKind.i64 (a+(↑g':Int)))]
  [((0:Nat),ABlk.ready l (hrL a (fun (i:Nat)=>hd (S i)) g'))] (1:Nat)) ∧
  (ABlk.stop l=ABlk.ready l (hrL a (fun (i:Nat)=>hd (S i)) (b-a).toNat) ∨
  ABlk.stop l=ABlk.stop l)) ∧
  (decide (a+(g:Int) < b)=false →
  ABlk.ready l (hrL a (fun (i:Nat)=>hd (S i)) g) =
  ABlk.ready l (hrL a (fun (i:Nat)=>hd (S i)) (b-a).toNat) ∨
  ABlk.ready l (hrL a (fun (i:Nat)=>hd (S i)) g)=ABlk.stop l):=by
  intro l
  refine ⟨⟨0,by omega,by simp [hrL]⟩,fun g hg=>⟨fun hlt=>?_,fun hge=>?_⟩⟩
  · simp only [decide_eq_true_eq] at hlt
    have hl:g < (b-a).toNat:=by omega
    have e:(a+(g:Int)-a).toNat=g:=by omega
    simp only [e]
    have hs:=hr_succ a (fun i=>hd (S i)) g
    refine ⟨trivial,h1 g hl,h2 g hl,hr_post a (fun i=>hd (S i)) hl,trivial,by simp,⟨by unfold In64;omega,g+1,hl,by omega,?_⟩,.inr trivial⟩
    rw [hs,show a+(g:Int)+1=a+((g+1:Nat):Int) by omega]
  · simp only [decide_eq_false_iff_not] at hge
    have:g=(b-a).toNat:=by omega
    subst this
    exact .inl rfl
 exact s_of Tryd.f58 (B144 a b [c0,c1,c2,c3,c4,c5,c6,c7,c8,c9,c1010,c1011,c1012] (.sl 5 rows) rx ry rz S hd) (by kernel_rfl) (by kernel_rfl) (by kernel_rfl) (by kernel_rfl) (by kernel_rfl) key (fun l=>by kernel_rfl)
end Go.Proofs.YtnbhfmaamloodaaDoor
namespace Go.Proofs.YtnbhfmaamloodaaDoor
open Go Go.Av Go.RowKit
theorem hear_ok {t:Ty} {l:List Fx} {a b x y z:Int} (hT:sTyS t=0) (hO:TrackOK l) (hsp:lastT l-firstT l<=1000) (ha:0<=a∧a<=100000000) (hb:0<=b∧b<=100000000) :
 (0<=fromA l a∧fromA l a<=100000000)∧toB l b<=100000000∧(toB l b-fromA l a).toNat<=1000∧(∀ i:Nat,i < (toB l b-fromA l a).toNat->AtOK l (fromA l a+i))∧(∀ i:Nat,i < (toB l b-fromA l a).toNat->0<=hrdA t l x y z (fromA l a+i)∧hrdA t l x y z (fromA l a+i)<=100000000000):=by
 have hn:=hO.n1
 have b0:=hO.b 0 (by omega)
 have b1:=hO.b (l.length-1) (by omega)
 have hf:firstT l=(l.getD 0 default).t:=rfl
 have hl:lastT l=(l.getD (l.length-1) default).t:=rfl
 have f0:firstT l<=fromA l a∧fromA l a<=100000000:=by
  unfold fromA maxI
  split <;> omega
 have t0:toB l b<=lastT l∧toB l b<=100000000:=by
  unfold toB minI
  split <;> omega
 have hA:∀ i:Nat,i < (toB l b-fromA l a).toNat->AtOK l (fromA l a+i):=fun i hi=>at_ok hO (by omega) (by omega)
 exact ⟨by omega,t0.2,by omega,hA,fun i hi=>hrd_b hT (hA i hi).p⟩
theorem range_split {n x:Nat} {pre post:List Nat} (h:List.range n=pre++x::post):x=pre.length∧pre.length < n:=by
 have h1:(List.range n)[pre.length]?=some x:=by
  rw [h]
  simp
 have hl:pre.length < n:=by
  have:=congrArg List.length h
  simp at this
  omega
 rw [List.getElem?_range hl] at h1
 exact ⟨(Option.some.inj h1).symm,hl⟩
def hdV (t:Ty) (x y z:Int):List AV->Int
 | [.int _ a,.int _ b,.int _ c,.int _ d,.int _ e,.int _ p]=>hrd t d e p (x-a) (y-b) (z-c)
 | _=>0
theorem hear_seq {t:Ty} {l:List Fx} {a b x y z:Int} (hT:sTyS t=0) (hO:TrackOK l) (hA:∀ i:Nat,i < (b-a).toNat->AtOK l (a+i)) (ha:0<=a∧a<=100000000) (hb:b<=100000000) (hx : -100000<=x∧x<=100000) (hy : -100000<=y∧y<=100000) (hz:0<=z∧z<=20000) :
 PSeq Tryd.prog G0 58 [.elt 2 [[.i a,.i b]] 0 0,.elt 13 [encTy t] 0 0,.elt 1 [[.sl 5 (l.map encFx)]] 0 0,.elt 3 [[.i x,.i y,.i z]] 0 0] ((List.range (b-a).toNat).map fun (i:Nat)=>[.i (a+i),.i (hrdA t l x y z (a+i))]) :=
 s144 a b (.str t.name) (.sl 1 (t.sh.map encI)) (.i t.d0) (.i t.d1) (.i t.d2) (.i t.d3) (.i t.d4) (.i t.d5) (.i t.d6) (.i t.d7) (.i t.side) (.sl 1 (t.sq.map encI)) (.sl 2 (t.st.map encSg)) (l.map encFx) x y z
  (fun i=>atV (atA l (a+i)) (atB l (a+i)) (a+i)) (hdV t x y z) (by omega) (by omega) (fun i hi=>c50 l _ hO (by omega))
  (fun i hi=>c53 t _ _ _ _ _ _ _ _ _ (ok_of hT) (hA i hi).x (hA i hi).y (hA i hi).z (hA i hi).h (hA i hi).k (hA i hi).p hx hy hz (side_of hT).1 (side_of hT).2)
def fnH (t:Ty) (l:List Fx) (a b x y z:Int):AV:=.fn (.func 58) [] [.elt 2 [[.i a,.i b]] 0 0,.elt 13 [encTy t] 0 0,.elt 1 [[.sl 5 (l.map encFx)]] 0 0,.elt 3 [[.i x,.i y,.i z]] 0 0]
theorem c34 (t:Ty) (l:List Fx) (a b x y z:Int) :PCall Tryd.prog G0 34 [.agg (encTy t),.sl 5 (l.map encFx),.agg [.i a,.i b],.agg [.i x,.i y,.i z]] (fnH t l a b x y z):=by
 have key :
  AV.fn (Fn.func 58) [] [AV.elt 2 [[AV.i a,AV.i b]] 0 0,AV.elt 13 [(encTy t)] 0 0,AV.elt 1 [[AV.sl 5 (List.map encFx l)]] 0 0,AV.elt 3 [[AV.i x,AV.i y,AV.i z]] 0 0]=AV.fn (Fn.func 58) [] [AV.elt 2 [[AV.i a,AV.i b]] 0 0,
  AV.elt 13 [(encTy t)] 0 0,AV.elt 1 [[AV.sl 5 (List.map encFx l)]] 0 0,AV.elt 3 [[AV.i x,AV.i y,AV.i z]] 0 0]:=by
   rfl
 exact c_of Tryd.f34 (fzB (mkB spR 34 [] noLa)) (by kernel_rfl) (by kernel_rfl) (by kernel_rfl) (by kernel_rfl) key (by kernel_rfl)
def sp100 (t:Ty) (l:List Fx) (x y z:Int):Nat->List AV->Option AV
 | 33,_=>some (.agg [.i (firstT l),.i (lastT l)])
 | 32,[.agg [.int _ a,.int _ b],.agg [.int _ c,.int _ d]]=>some (.agg [.i (maxI a c),.i (minI b d)])
 | 34,[_,_,.agg [.int _ a,.int _ b],_]=>some (fnH t l a b x y z)
 | n,x=>spR n x
def fa100 (t:Ty) (l:List Fx) (a b x y z:Int):FA:={
 X:=Nat,xs:=List.range (toB l b-fromA l a).toNat,enc:=fun i=>[.i (fromA l a+i),.i (hrdA t l x y z (fromA l a+i))]
 post:=[.keep [] [1],.bound 2]
 Gh:=Nat
 st:=fun g=>⟨[(9,.ptr 1 0),(19,fnH t l (fromA l a) (toB l b) x y z)],[(1,.box [.i (sumH (hrdA t l x y z) (fromA l a) g)])],2⟩
 ok:=fun pre g=>g=pre.length }
abbrev zc23a (a:Int) (l:List Fx) (b:Int):=[AV.i (maxI a (firstT l)),AV.i (minI b (lastT l))]
theorem c23 (t:Ty) (l:List Fx) (a b x y z:Int) (hT:sTyS t=0) (hO:TrackOK l) (hsp:lastT l-firstT l<=1000) (ha:0<=a∧a<=100000000) (hb:0<=b∧b<=100000000) (hx : -100000<=x∧x<=100000) (hy : -100000<=y∧y<=100000) (hz:0<=z∧z<=20000):PCall Tryd.prog G0 23 [.agg (encTy t),.sl 5 (l.map encFx),.agg [.i a,.i b],.agg [.i x,.i y,.i z]] (.i (sumH (hrdA t l x y z) (fromA l a) (toB l b-fromA l a).toNat)):=by
 have key :
  PCall Tryd.prog G0 33 [AV.sl 5 (List.map encFx l)] (AV.agg [AV.i (firstT l),AV.i (lastT l)])∧PCall Tryd.prog G0 32 [AV.agg [AV.i a,AV.i b],AV.agg [AV.i (firstT l),AV.i (lastT l)]] (AV.agg (zc23a a l b))∧PCall Tryd.prog G0
  34 [AV.agg (encTy t),AV.sl 5 (List.map encFx l),AV.agg (zc23a a l b),AV.agg [AV.i x,AV.i y,AV.i z]] (AV.fn (Fn.func 58) [] [AV.elt 2 [(zc23a a l b)] 0 0,AV.elt 13 [(encTy t)] 0 0,AV.elt 1 [[AV.sl 5 (List.map encFx l)]] 0 0,
  AV.elt 3 [[AV.i x,AV.i y,AV.i z]] 0 0])∧PSeq Tryd.prog G0 58 [AV.elt 2 [(zc23a a l b)] 0 0,AV.elt 13 [(encTy t)] 0 0,AV.elt 1 [[AV.sl 5 (List.map encFx l)]] 0 0,AV.elt 3 [[AV.i x,AV.i y,AV.i z]] 0 0] (List.map (fa100 t l a
  b x y z).enc (List.range (toB l b-fromA l a).toNat))∧(∀ (x:Nat),2=2)∧(∃ (g:Nat),g=0∧AS.mk [(9,AV.ptr 1 0),(19,AV.fn (Fn.func 58) [] [AV.elt 2 [(zc23a a l b)] 0 0,AV.elt 13 [(encTy t)] 0 0,AV.elt 1 [[AV.sl 5
  (List.map encFx l)]] 0 0,AV.elt 3 [[AV.i x,AV.i y,AV.i z]] 0 0])] [(1,ABlk.box [AV.i 0])] 2=AS.mk [(9,AV.ptr 1 0),(19,AV.fn (Fn.func 58) [] [AV.elt 2 [[AV.i (fromA l a),AV.i (toB l b)]] 0 0,AV.elt 13 [(encTy t)] 0 0,
  AV.elt 1 [[AV.sl 5 (List.map encFx l)]] 0 0,AV.elt 3 [[AV.i x,AV.i y,AV.i z]] 0 0])] [(1,ABlk.box [AV.i (sumH (hrdA t l x y z) (fromA l a) g)])] 2)∧(∀ (pre:List Nat) (x_1:Nat) (post:List Nat) (g:Nat),List.range (toB
  l b-fromA l a).toNat=pre++x_1::post->g=pre.length->Exit.normal=Exit.normal∧false=false∧In64 (sumH (hrdA t l x y z) (fromA l a) g+hrdA t l x y z (fromA l a+(x_1:Int)))∧false=false∧∃ (g':Nat),g' =
  (pre++[x_1]).length∧AS.mk [(9,AV.ptr 1 0),(19,AV.fn (Fn.func 58) [] [AV.elt 2 [(zc23a a l b)] 0 0,AV.elt 13 [(encTy t)] 0 0,AV.elt 1 [[AV.sl 5 (List.map encFx l)]] 0 0,AV.elt 3 [[AV.i x,AV.i y,AV.i z]] 0 0])] [(1,
  ABlk.box [AV.i (sumH (hrdA t l x y z) (fromA l a) g+hrdA t l x y z (fromA l a+(x_1:Int)))])] 2=AS.mk [(9,AV.ptr 1 0),(19,AV.fn (Fn.func 58) [] [AV.elt 2 [[AV.i (fromA l a),AV.i (toB l b)]] 0 0,AV.elt 13 [(encTy t)] 0
  0,AV.elt 1 [[AV.sl 5 (List.map encFx l)]] 0 0,AV.elt 3 [[AV.i x,AV.i y,AV.i z]] 0 0])] [(1,ABlk.box [AV.i (sumH (hrdA t l x y z) (fromA l a) g')])] 2)∧∀ (g:Nat),g=(List.range (toB l b-fromA l a).toNat).length->AV.i
  (sumH (hrdA t l x y z) (fromA l a) g)=AV.i (sumH (hrdA t l x y z) (fromA l a) (toB l b-fromA l a).toNat):=by
   delta zc23a
   obtain ⟨f0,t0,hN,hA,hH⟩:=hear_ok (t:=t) (x:=x) (y:=y) (z:=z) hT hO hsp ha hb
   have hS:=sumH_b hH
   have hn:=hO.n1
   have hn2:=hO.n2
   refine ⟨c33 l (by omega) (by omega),c32 _ _ _ _,c34 t l _ _ _ _ _,hear_seq (a:=fromA l a) (b:=toB l b) hT hO hA f0 t0 hx hy hz,fun _=>rfl,⟨0,rfl,rfl⟩,fun pre i post g hr hg=>?_,fun g hg=>?_⟩
   · obtain ⟨e1,e2⟩:=range_split hr
     subst e1
     subst hg
     have s1:=hS (pre.length+1) e2
     refine ⟨rfl,rfl,(show In64 (sumH (hrdA t l x y z) (fromA l a) (pre.length+1)) from by unfold In64;omega),rfl,pre.length+1,by simp,rfl⟩
   · rw [hg,List.length_range]
 exact c_of Tryd.f23 ({ fzB (mkB (sp100 t l x y z) 23 [] noLa) with fa:=some (fa100 t l a b x y z),gs:=fun i=>if i.beq 2 then [.reno 9 1,.keep [9,19] [1],.bound 2] else [] }) (by kernel_rfl) (by kernel_rfl) (by kernel_rfl) (by kernel_rfl) key (by kernel_rfl)
def rExp (t:Ty) (l:List Fx) (a b x y z:Int):Int:=if chkH t l a b x y z != 0 then 0 else sumH (hrdA t l x y z) (fromA l a) (toB l b-fromA l a).toNat
def sp27 (t:Ty) (l:List Fx) (a b x y z:Int):Nat->List AV->Option AV
 | 22,_=>some (.i (chkH t l a b x y z))
 | 23,_=>some (.i (sumH (hrdA t l x y z) (fromA l a) (toB l b-fromA l a).toNat))
 | n,x=>spR n x
theorem chkH_ok {t:Ty} {l:List Fx} {a b x y z:Int} (h:chkH t l a b x y z=0):sTyS t=0∧TrackOK l∧lastT l-firstT l<=1000∧(0<=a∧a<=100000000)∧(0<=b∧b<=100000000)∧(-100000<=x∧x<=100000)∧(-100000<=y∧y<=100000)∧(0<=z∧z<=20000):=by
 unfold chkH at h
 simp only [first_zero] at h
 obtain ⟨h1,h2,h3,h4,_⟩:=h
 rw [track_eq] at h2
 obtain ⟨o1,o2⟩:=track_ok h2
 have p:=place_ok h4
 have h5:=when_z (by decide) h3
 by_cases c1:a < 0
 · rw [decide_eq_true c1] at h5
   cases h5
 · rw [decide_eq_false c1] at h5
   by_cases c2:a > b
   · rw [decide_eq_true c2] at h5
     cases h5
   · rw [decide_eq_false c2] at h5
     have h5:decide (b > 100000000)=false:=h5
     have h6:=of_decide_eq_false h5
     exact ⟨h1,o1,o2,by omega,by omega,p.1,p.2.1,p.2.2⟩
theorem c7 (t:Ty) (l:List Fx) (a b x y z:Int) (hn:t.st.length<=1000) (hs:t.sh.length<=1000) (hq:t.sq.length<=1000) (he:∀ s,s ∈ t.st->s.e.length<=1000) (hN:t.name.length<=1000000) (hl:l.length<=1000):PCall Tryd.prog G0 7 [.agg (encTy t),.sl 5 (l.map encFx),.agg [.i a,.i b],.agg [.i x,.i y,.i z]] (.tup [.i (rExp t l a b x y z),.i (chkH t l a b x y z)]):=by
 have key :
  PCall Tryd.prog G0 22 [AV.agg (encTy t),AV.sl 5 (List.map encFx l),AV.agg [AV.i a,AV.i b],AV.agg [AV.i x,AV.i y,AV.i z]] (AV.i (chkH t l a b x y z))∧((chkH t l a b x y z != 0)=true->AV.tup [AV.i 0,AV.i (chkH t l a b x y
  z)]=AV.tup [AV.i (rExp t l a b x y z),AV.i (chkH t l a b x y z)])∧((chkH t l a b x y z != 0)=false->PCall Tryd.prog G0 23 [AV.agg (encTy t),AV.sl 5 (List.map encFx l),AV.agg [AV.i a,AV.i b],AV.agg [AV.i x,AV.i y,AV.i
  z]] (AV.i (sumH (hrdA t l x y z) (fromA l a) (toB l b-fromA l a).toNat))∧AV.tup [AV.i (sumH (hrdA t l x y z) (fromA l a) (toB l b-fromA l a).toNat),AV.i 0]=AV.tup [AV.i (rExp t l a b x y z),AV.i (chkH t l a b x y z)]) :=
  by
   refine ⟨c22 t l a b x y z hn hs hq he hN hl,fun h=>?_,fun h=>?_⟩
   · rw [rExp,if_pos h]
   · have hz:chkH t l a b x y z=0:=by simpa using h
     obtain ⟨h1,h2,h3,h4,h5,h6,h7,h8⟩:=chkH_ok hz
     refine ⟨c23 t l a b x y z h1 h2 h3 h4 h5 h6 h7 h8,?_⟩
     rw [rExp,if_neg (by rw [h];decide),hz]
 exact c_of Tryd.f7 (fzB (mkB (sp27 t l a b x y z) 7 [] noLa)) (by kernel_rfl) (by kernel_rfl) (by kernel_rfl) (by kernel_rfl) key (by kernel_rfl)
def mxH (f:Int->Int) (a:Int):Nat->Int × Int
 | 0=>(-1,0)
 | n+1=>if decide (f (a+n) > (mxH f a n).1) then (f (a+n),a+n) else mxH f a n
theorem mxH_t {f:Int->Int} {a:Int} {n:Nat} (h:decide (f (a+n) > (mxH f a n).1)=true):mxH f a (n+1)=(f (a+n),a+n):=if_pos h
theorem mxH_f {f:Int->Int} {a:Int} {n:Nat} (h:decide (f (a+n) > (mxH f a n).1)=false):mxH f a (n+1)=mxH f a n:=if_neg (by rw [h];decide)
def mxV (f:Int->Int) (a b:Int):List AV:=if decide (a>=b) then [.i 0,.i 0,.i 7] else [.i (mxH f a (b-a).toNat).1,.i (mxH f a (b-a).toNat).2,.i 0]
def sp30 (t:Ty) (l:List Fx) (a b x y z:Int):Nat->List AV->Option AV
 | 22,_=>some (.i (chkH t l a b x y z))
 | n,w=>sp100 t l x y z n w
def fa30 (t:Ty) (l:List Fx) (a b x y z:Int):FA:={
 X:=Nat,xs:=List.range (toB l b-fromA l a).toNat,enc:=fun i=>[.i (fromA l a+i),.i (hrdA t l x y z (fromA l a+i))]
 post:=[.keep [] [1,2],.bound 3]
 Gh:=Nat
 st:=fun g=>⟨[(13,.ptr 1 0),(14,.ptr 2 0),(38,fnH t l (fromA l a) (toB l b) x y z)],[(1,.box [.i (mxH (hrdA t l x y z) (fromA l a) g).1]),(2,.box [.i (mxH (hrdA t l x y z) (fromA l a) g).2])],3⟩
 ok:=fun pre g=>g=pre.length }
def rMax (t:Ty) (l:List Fx) (a b x y z:Int):List AV:=if chkH t l a b x y z != 0 then [.i 0,.i 0,.i (chkH t l a b x y z)] else mxV (hrdA t l x y z) (fromA l a) (toB l b)
abbrev zc13a (a:Int) (l:List Fx) (b:Int):=[AV.i (maxI a (firstT l)),AV.i (minI b (lastT l))]
theorem c13 (t:Ty) (l:List Fx) (a b x y z:Int) (hn:t.st.length<=1000) (hs:t.sh.length<=1000) (hq:t.sq.length<=1000) (he:∀ s,s ∈ t.st->s.e.length<=1000) (hN:t.name.length<=1000000) (hl:l.length<=1000):PCall Tryd.prog G0 13 [.agg (encTy t),.sl 5 (l.map encFx),.agg [.i a,.i b],.agg [.i x,.i y,.i z]] (.tup (rMax t l a b x y z)):=by
 have key :
  PCall Tryd.prog G0 22 [AV.agg (encTy t),AV.sl 5 (List.map encFx l),AV.agg [AV.i a,AV.i b],AV.agg [AV.i x,AV.i y,AV.i z]] (AV.i (chkH t l a b x y z))∧((chkH t l a b x y z != 0)=true->AV.tup [AV.i 0,AV.i 0,AV.i (chkH t l
  a b x y z)]=AV.tup (rMax t l a b x y z))∧((chkH t l a b x y z != 0)=false->PCall Tryd.prog G0 33 [AV.sl 5 (List.map encFx l)] (AV.agg [AV.i (firstT l),AV.i (lastT l)])∧PCall Tryd.prog G0 32 [AV.agg [AV.i a,AV.i b],
  AV.agg [AV.i (firstT l),AV.i (lastT l)]] (AV.agg (zc13a a l b))∧(decide (maxI a (firstT l)>=minI b (lastT l))=true->AV.tup [AV.i 0,AV.i 0,AV.i 7]=AV.tup (rMax t l a b x y z))∧(decide (maxI a (firstT l)>=minI b (lastT
  l))=false->PCall Tryd.prog G0 34 [AV.agg (encTy t),AV.sl 5 (List.map encFx l),AV.agg (zc13a a l b),AV.agg [AV.i x,AV.i y,AV.i z]] (AV.fn (Fn.func 58) [] [AV.elt 2 [(zc13a a l b)] 0 0,AV.elt 13 [(encTy t)] 0 0,AV.elt 1
  [[AV.sl 5 (List.map encFx l)]] 0 0,AV.elt 3 [[AV.i x,AV.i y,AV.i z]] 0 0])∧PSeq Tryd.prog G0 58 [AV.elt 2 [(zc13a a l b)] 0 0,AV.elt 13 [(encTy t)] 0 0,AV.elt 1 [[AV.sl 5 (List.map encFx l)]] 0 0,AV.elt 3 [[AV.i x,AV.i y,
  AV.i z]] 0 0] (List.map (fa30 t l a b x y z).enc (List.range (toB l b-fromA l a).toNat))∧(∀ (x:Nat),2=2)∧(∃ (g:Nat),g=0∧AS.mk [(13,AV.ptr 1 0),(14,AV.ptr 2 0),(38,AV.fn (Fn.func 58) [] [AV.elt 2 [(zc13a a l
  b)] 0 0,AV.elt 13 [(encTy t)] 0 0,AV.elt 1 [[AV.sl 5 (List.map encFx l)]] 0 0,AV.elt 3 [[AV.i x,AV.i y,AV.i z]] 0 0])] [(1,ABlk.box [AV.i (-1)]),(2,ABlk.box [AV.i 0])] 3=AS.mk [(13,AV.ptr 1 0),(14,AV.ptr 2 0),(38,
  AV.fn (Fn.func 58) [] [AV.elt 2 [[AV.i (fromA l a),AV.i (toB l b)]] 0 0,AV.elt 13 [(encTy t)] 0 0,AV.elt 1 [[AV.sl 5 (List.map encFx l)]] 0 0,AV.elt 3 [[AV.i x,AV.i y,AV.i z]] 0 0])] [(1,ABlk.box [AV.i (mxH (hrdA t l x y z)
  (fromA l a) g).fst]),(2,ABlk.box [AV.i (mxH (hrdA t l x y z) (fromA l a) g).snd])] 3)∧(∀ (pre:List Nat) (x_1:Nat) (post:List Nat) (g:Nat),List.range (toB l b-fromA l a).toNat=pre++x_1::post->g=pre.length →
  Exit.normal=Exit.normal∧false=false∧(decide (hrdA t l x y z (fromA l a+(x_1:Int)) > (mxH (hrdA t l x y z) (fromA l a) g).fst)=true->false=false∧∃ (g':Nat),g'=(pre++[x_1]).length∧AS.mk [(13,AV.ptr 1 0),
  (14,AV.ptr 2 0),(38,AV.fn (Fn.func 58) [] [AV.elt 2 [(zc13a a l b)] 0 0,AV.elt 13 [(encTy t)] 0 0,AV.elt 1 [[AV.sl 5 (List.map encFx l)]] 0 0,AV.elt 3 [[AV.i x,AV.i y,AV.i z]] 0 0])] [(1,ABlk.box [AV.i (hrdA t l x y z
  (fromA l a+(x_1:Int)))]),(2,ABlk.box [AV.i (fromA l a+(x_1:Int))])] 3=AS.mk [(13,AV.ptr 1 0),(14,AV.ptr 2 0),(38,AV.fn (Fn.func 58) [] [AV.elt 2 [[AV.i (fromA l a),AV.i (toB l b)]] 0 0,AV.elt 13 [(encTy t)] 0
  0,AV.elt 1 [[AV.sl 5 (List.map encFx l)]] 0 0,AV.elt 3 [[AV.i x,AV.i y,AV.i z]] 0 0])] [(1,ABlk.box [AV.i (mxH (hrdA t l x y z) (fromA l a) g').fst]),(2,ABlk.box [AV.i (mxH (hrdA t l x y z) (fromA l a) g').snd])] 3) ∧
  (decide (hrdA t l x y z (fromA l a+(x_1:Int)) > (mxH (hrdA t l x y z) (fromA l a) g).fst)=false->false=false∧∃ (g':Nat),g'=(pre++[x_1]).length∧AS.mk [(13,AV.ptr 1 0),(14,AV.ptr 2 0),(38,AV.fn (Fn.func 58)
  [] [AV.elt 2 [(zc13a a l b)] 0 0,AV.elt 13 [(encTy t)] 0 0,AV.elt 1 [[AV.sl 5 (List.map encFx l)]] 0 0,AV.elt 3 [[AV.i x,AV.i y,AV.i z]] 0 0])] [(1,ABlk.box [AV.i (mxH (hrdA t l x y z) (fromA l a) g).fst]),(2,ABlk.box [AV.i
  (mxH (hrdA t l x y z) (fromA l a) g).snd])] 3=AS.mk [(13,AV.ptr 1 0),(14,AV.ptr 2 0),(38,AV.fn (Fn.func 58) [] [AV.elt 2 [[AV.i (fromA l a),AV.i (toB l b)]] 0 0,AV.elt 13 [(encTy t)] 0 0,AV.elt 1 [[AV.sl 5 (List.map encFx
  l)]] 0 0,AV.elt 3 [[AV.i x,AV.i y,AV.i z]] 0 0])] [(1,ABlk.box [AV.i (mxH (hrdA t l x y z) (fromA l a) g').fst]),(2,ABlk.box [AV.i (mxH (hrdA t l x y z) (fromA l a) g').snd])] 3))∧∀ (g:Nat),g=(List.range (toB l b -
  fromA l a).toNat).length->AV.tup [AV.i (mxH (hrdA t l x y z) (fromA l a) g).fst,AV.i (mxH (hrdA t l x y z) (fromA l a) g).snd,AV.i 0]=AV.tup (rMax t l a b x y z))):=by
   delta zc13a
   refine ⟨c22 t l a b x y z hn hs hq he hN hl,fun h=>?_,fun h=>?_⟩
   · rw [rMax,if_pos h]
   · have hz:chkH t l a b x y z=0:=by simpa using h
     obtain ⟨h1,h2,h3,h4,h5,h6,h7,h8⟩:=chkH_ok hz
     obtain ⟨f0,t0,hN',hA,hH⟩:=hear_ok (t:=t) (x:=x) (y:=y) (z:=z) h1 h2 h3 h4 h5
     have hn1:=h2.n1
     have hn2:=h2.n2
     rw [show rMax t l a b x y z=mxV (hrdA t l x y z) (fromA l a) (toB l b) from if_neg (by rw [h];decide)]
     refine ⟨c33 l (by omega) (by omega),c32 _ _ _ _,fun hq=>?_,fun hq=>⟨c34 t l _ _ _ _ _,hear_seq (a:=fromA l a) (b:=toB l b) h1 h2 hA f0 t0 h6 h7 h8,fun _=>rfl,⟨0,rfl,rfl⟩,fun pre i post g hr hg=>?_,fun g hg=>?_⟩⟩
     · rw [mxV,if_pos (show decide (fromA l a>=toB l b)=true from hq)]
     · obtain ⟨e1,e2⟩:=range_split hr
       subst e1
       subst hg
       refine ⟨rfl,rfl,fun hq=>⟨rfl,pre.length+1,by simp,?_⟩,fun hq=>⟨rfl,pre.length+1,by simp,?_⟩⟩
       · rw [mxH_t (f:=hrdA t l x y z) hq]
         rfl
       · rw [mxH_f (f:=hrdA t l x y z) hq]
         rfl
     · rw [hg,List.length_range,mxV,if_neg (by rw [show decide (fromA l a>=toB l b)=false from hq];decide)]
 exact c_of Tryd.f13 (gsB (fun i=>if i.beq 8 then [.reno 13 1,.reno 14 2,.keep [13,14,38] [1,2],.bound 3] else []) { fzB (mkB (sp30 t l a b x y z) 13 [] noLa) with fa:=some (fa30 t l a b x y z) }) (by kernel_rfl) (by kernel_rfl) (by kernel_rfl) (by kernel_rfl) key (by kernel_rfl)
end Go.Proofs.YtnbhfmaamloodaaDoor
namespace Go.Proofs.YtnbhfmaamloodaaDoor
open Go Go.Av Go.RowKit
def rdFq:List AV->Option AV:=fun _=>some (.bool false)
theorem min_b {a b L U:Int} (ha:L<=a∧a<=U) (hb:L<=b∧b<=U):L<=minI a b∧minI a b<=U:=by
 unfold minI
 split <;> omega
theorem max_b {a b L U:Int} (ha:L<=a∧a<=U) (hb:L<=b∧b<=U):L<=maxI a b∧maxI a b<=U:=by
 unfold maxI
 split <;> omega
theorem sq_b {u:Int} (h : -200000<=u∧u<=200000):0<=u * u∧u * u<=40000000000:=by
 have:=mul_bound (A:=200000) (B:=200000) h.1 h.2 h.1 h.2
 exact ⟨sq_nn u,by omega⟩
theorem en_in {E D S n:Int} (hE : -20000000000<=E∧E<=20000000000) (hD:0<=D∧D<=2000) (hS:0<=S∧S<=1000) (hn:0<=n∧n<=1000) :
 (In64 (E * D)∧In64 (E * D * S)∧In64 ((E * D * S).tdiv 1000000)∧In64 (n * (E * D * S).tdiv 1000000))∧(In64 (n * E)∧In64 (n * E * D)∧In64 (0-n * E * D)) ∧
 (In64 ((0-n * E * D).tdiv 1000)∧In64 ((0-n * E * D).tdiv 1000 * 1000)∧In64 ((0-n * E * D).tdiv 1000-1)∧In64 (0-sFloor (0-n * E * D) 1000)) ∧
 (-100000000000000<=n * (E * D * S).tdiv 1000000∧n * (E * D * S).tdiv 1000000<=100000000000000)∧(-100000000000000<=0-sFloor (0-n * E * D) 1000∧0-sFloor (0-n * E * D) 1000<=100000000000000):=by
 have h1:=mul_bound (A:=20000000000) (B:=2000) hE.1 hE.2 (by omega) hD.2
 have h2:=mul_bound (A:=40000000000000) (B:=1000) (x:=E * D) (y:=S) (by omega) (by omega) (by omega) hS.2
 have q1:=Int.mul_tdiv_add_tmod (E * D * S) 1000000
 have q2:=Int.tmod_lt_of_pos (E * D * S) (show (0:Int) < 1000000 by decide)
 have q3:=Int.lt_tmod_of_pos (E * D * S) (show (0:Int) < 1000000 by decide)
 have h3 : -40000000001<=(E * D * S).tdiv 1000000∧(E * D * S).tdiv 1000000<=40000000001:=by omega
 have h4:=mul_bound (A:=1000) (B:=40000000001) (x:=n) (by omega) hn.2 h3.1 h3.2
 have h5:=mul_bound (A:=1000) (B:=20000000000) (x:=n) (by omega) hn.2 hE.1 hE.2
 have h6:=mul_bound (A:=20000000000000) (B:=2000) (x:=n * E) (y:=D) (by omega) (by omega) (by omega) hD.2
 obtain ⟨f1,f2,f3,_,_⟩:=floor_in (n:=0-n * E * D) (d:=1000) (by decide) (by omega) (by omega)
 have f4:sFloor (0-n * E * D) 1000=(0-n * E * D) / 1000:=floor_eq (by decide)
 rw [f4]
 generalize n * (E * D * S).tdiv 1000000=v1 at *
 generalize (E * D * S).tdiv 1000000=v2 at *
 generalize E * D * S=v3 at *
 generalize E * D=v4 at *
 generalize n * E * D=v5 at *
 generalize n * E=v6 at *
 exact ⟨⟨by unfold In64;omega,by unfold In64;omega,by unfold In64;omega,by unfold In64;omega⟩,⟨by unfold In64;omega,by unfold In64;omega,by unfold In64;omega⟩,⟨f1,f2,f3,by unfold In64;omega⟩,by omega,by omega⟩
def nearI (n a b:Int):Int:=maxI (maxI 0 (minI a b-n)) (n-maxI a b)
def farI (n a b:Int):Int:=maxI (maxI a b-n) (n-minI a b)
theorem near_b {n a b:Int} (hn : -100000<=n∧n<=100000) (ha : -100000<=a∧a<=100000) (hb : -100000<=b∧b<=100000):(-200000<=nearI n a b∧nearI n a b<=200000)∧(-200000<=farI n a b∧farI n a b<=200000):=by
 have m1:=min_b ha hb
 have m2:=max_b ha hb
 exact ⟨max_b (max_b (by omega) (by omega)) (by omega),max_b (by omega) (by omega)⟩
theorem c66 (n a b:Int) (hn : -1000000000<=n∧n<=1000000000) (ha : -1000000000<=a∧a<=1000000000) (hb : -1000000000<=b∧b<=1000000000):PCall Tryd.prog G0 66 [.i n,.i a,.i b] (.agg [.i (nearI n a b),.i (farI n a b)]):=by
 have key :
  In64 (minI a b-n)∧In64 (n-maxI a b)∧In64 (maxI a b-n)∧In64 (n-minI a b)∧AV.agg [AV.i (maxI (maxI (0:Int) (minI a b-n)) (n-maxI a b)),AV.i (maxI (maxI a b-n) (n-minI a b))]=AV.agg [AV.i (nearI n a b),
  AV.i (farI n a b)]:=by
   have m1:=min_b ha hb
   have m2:=max_b ha hb
   exact ⟨by unfold In64;omega,by unfold In64;omega,by unfold In64;omega,by unfold In64;omega,rfl⟩
 exact c_of Tryd.f66 (mkB spR 66 [] noLa) (by kernel_rfl) (by kernel_rfl) (by kernel_rfl) (by kernel_rfl) key (by kernel_rfl)
def mnN (l:List Int):Nat->Int
 | 0=>l.getD 0 default
 | i+1=>minI (mnN l i) (l.getD (i+1) default)
def mxN (l:List Int):Nat->Int
 | 0=>l.getD 0 default
 | i+1=>maxI (mxN l i) (l.getD (i+1) default)
def la146 (l:List Int):LA:={
 pre:=[.keep [0,3,4] [],.bound 1],post:=[.keep [0,3,4] [],.bound 1]
 Gh:=Nat
 st:=fun i=>⟨[(0,.sl 1 (l.map encI)),(3,.i (mnN l i)),(4,.i ((i:Int)+1))],[],1⟩
 ok:=fun i=>i+1<=l.length
 ms:=fun i=>l.length-i }
def la147 (l:List Int):LA:={
 pre:=[.keep [0,3,4] [],.bound 1],post:=[.keep [0,3,4] [],.bound 1]
 Gh:=Nat
 st:=fun i=>⟨[(0,.sl 1 (l.map encI)),(3,.i (mxN l i)),(4,.i ((i:Int)+1))],[],1⟩
 ok:=fun i=>i+1<=l.length
 ms:=fun i=>l.length-i }
def cl146:Operand->Bool
 | .tmp t=>t.beq 7
 | _=>false
theorem c68 (l:List Int) (h:1<=l.length) (hl:l.length<=1000):PCall Tryd.prog G0 68 [.sl 1 (l.map encI)] (.i (mnN l (l.length-1))):=by
 have key :
  AV.bool (decide ((↑(List.map encI l).length:Int) < 1))=AV.bool false∧(0:Int)<=0∧(0:Int) < (↑(List.map encI l).length:Int)∧nth (nthR (List.map encI l) 0) 0=AV.i (cI (List.map encI l) 0)∧(∃ (g:Nat),g+1 ≤
  l.length∧AS.mk [(0,AV.sl 1 (List.map encI l)),(3,AV.i (cI (List.map encI l) 0)),(4,AV.i 1)] [] 1=AS.mk [(0,AV.sl 1 (List.map encI l)),(3,AV.i (mnN l g)),(4,AV.i ((g:Int)+1))] [] 1)∧∀ (g:Nat),g+1<=l.length
  → (decide ((g:Int)+1 < (↑(List.map encI l).length:Int))=true->(0:Int)<=(g:Int)+1∧(g:Int)+1 < (↑(List.map encI l).length:Int)∧nth (nthR (List.map encI l) ((g:Int)+1).toNat) 0=AV.i (cI (List.map
  encI l) ((g:Int)+1).toNat)∧In64 ((g:Int)+1+1)∧∃ (g':Nat),g'+1<=l.length∧l.length-g' < l.length-g∧AS.mk [(0,AV.sl 1 (List.map encI l)),(3,AV.i (minI (mnN l g) (cI (List.map encI l) ((g:Int) +
  1).toNat))),(4,AV.i ((g:Int)+1+1))] [] 1=AS.mk [(0,AV.sl 1 (List.map encI l)),(3,AV.i (mnN l g')),(4,AV.i ((↑g':Int)+1))] [] 1)∧(decide ((g:Int)+1 < (↑(List.map encI l).length:Int))=false->AV.i (mnN
  l g)=AV.i (mnN l (l.length-1))):=by
   have hlm:(List.map encI l).length=l.length:=List.length_map _
   refine ⟨congrArg AV.bool (decide_eq_false (by omega)),by omega,by omega,cI_at (by omega),⟨0,by omega,?_⟩,fun g hg=>⟨fun hd=>?_,fun hd=>?_⟩⟩
   · rw [cI_map]
     rfl
   · have hlt:=of_decide_eq_true hd
     have e:((g:Int)+1).toNat=g+1:=by omega
     rw [e]
     refine ⟨by omega,by omega,cI_at (by omega),by unfold In64;omega,g+1,by omega,by omega,?_⟩
     rw [cI_map]
     rfl
   · have:=of_decide_eq_false hd
     rw [show g=l.length-1 by omega]
 exact c_of Tryd.f68 ({ mkB spR 68 [(1,2,rdFq),(3,2,rdJ),(7,4,rdJ)] (fun i=>if i.beq 0 then some (la146 l) else none) with cl:=cl146 }) (by kernel_rfl) (by kernel_rfl) (by kernel_rfl) (by kernel_rfl) key (by kernel_rfl)
theorem c30 (l:List Int) (h:1<=l.length) (hl:l.length<=1000):PCall Tryd.prog G0 30 [.sl 1 (l.map encI)] (.i (mxN l (l.length-1))):=by
 have key :
  AV.bool (decide ((↑(List.map encI l).length:Int) < 1))=AV.bool false∧(0:Int)<=0∧(0:Int) < (↑(List.map encI l).length:Int)∧nth (nthR (List.map encI l) 0) 0=AV.i (cI (List.map encI l) 0)∧(∃ (g:Nat),g+1 ≤
  l.length∧AS.mk [(0,AV.sl 1 (List.map encI l)),(3,AV.i (cI (List.map encI l) 0)),(4,AV.i 1)] [] 1=AS.mk [(0,AV.sl 1 (List.map encI l)),(3,AV.i (mxN l g)),(4,AV.i ((g:Int)+1))] [] 1)∧∀ (g:Nat),g+1<=l.length
  → (decide ((g:Int)+1 < (↑(List.map encI l).length:Int))=true->(0:Int)<=(g:Int)+1∧(g:Int)+1 < (↑(List.map encI l).length:Int)∧nth (nthR (List.map encI l) ((g:Int)+1).toNat) 0=AV.i (cI (List.map
  encI l) ((g:Int)+1).toNat)∧In64 ((g:Int)+1+1)∧∃ (g':Nat),g'+1<=l.length∧l.length-g' < l.length-g∧AS.mk [(0,AV.sl 1 (List.map encI l)),(3,AV.i (maxI (mxN l g) (cI (List.map encI l) ((g:Int) +
  1).toNat))),(4,AV.i ((g:Int)+1+1))] [] 1=AS.mk [(0,AV.sl 1 (List.map encI l)),(3,AV.i (mxN l g')),(4,AV.i ((↑g':Int)+1))] [] 1)∧(decide ((g:Int)+1 < (↑(List.map encI l).length:Int))=false->AV.i (mxN
  l g)=AV.i (mxN l (l.length-1))):=by
   have hlm:(List.map encI l).length=l.length:=List.length_map _
   refine ⟨congrArg AV.bool (decide_eq_false (by omega)),by omega,by omega,cI_at (by omega),⟨0,by omega,?_⟩,fun g hg=>⟨fun hd=>?_,fun hd=>?_⟩⟩
   · rw [cI_map]
     rfl
   · have hlt:=of_decide_eq_true hd
     have e:((g:Int)+1).toNat=g+1:=by omega
     rw [e]
     refine ⟨by omega,by omega,cI_at (by omega),by unfold In64;omega,g+1,by omega,by omega,?_⟩
     rw [cI_map]
     rfl
   · have:=of_decide_eq_false hd
     rw [show g=l.length-1 by omega]
 exact c_of Tryd.f30 ({ mkB spR 30 [(1,2,rdFq),(3,2,rdJ),(7,4,rdJ)] (fun i=>if i.beq 0 then some (la147 l) else none) with cl:=cl146 }) (by kernel_rfl) (by kernel_rfl) (by kernel_rfl) (by kernel_rfl) key (by kernel_rfl)
theorem mnN_b {l:List Int} {L U:Int}:∀ {n:Nat},(∀ i,i<=n->L<=l.getD i default∧l.getD i default<=U)->L<=mnN l n∧mnN l n<=U
 | 0,h=>h 0 (Nat.le_refl _)
 | n+1,h=>min_b (mnN_b fun i hi=>h i (by omega)) (h (n+1) (Nat.le_refl _))
theorem mxN_b {l:List Int} {L U:Int}:∀ {n:Nat},(∀ i,i<=n->L<=l.getD i default∧l.getD i default<=U)->L<=mxN l n∧mxN l n<=U
 | 0,h=>h 0 (Nat.le_refl _)
 | n+1,h=>max_b (mxN_b fun i hi=>h i (by omega)) (h (n+1) (Nat.le_refl _))
def minD (t:Ty):Int:=mnN t.dir 7
def maxD (t:Ty):Int:=mxN t.dir 7
def sq3 (x y z:Int):Int:=x * x+y * y+z * z
def enNear (a b:Fx) (x y z:Int):Int:=sq3 (nearI x a.x b.x) (nearI y a.y b.y) (nearI z a.z b.z)
def enFar (a b:Fx) (x y z:Int):Int:=sq3 (farI x a.x b.x) (farI y a.y b.y) (farI z a.z b.z)
def enLow (t:Ty) (a b:Fx) (x y z:Int):Int:=(b.t-a.t) * (emi t (minI a.p b.p) (enFar a b x y z) * minD t * t.side).tdiv 1000000
def enHigh (t:Ty) (a b:Fx) (x y z:Int):Int:=0-sFloor (0-(b.t-a.t) * emi t (maxI a.p b.p) (enNear a b x y z) * maxD t) 1000
def sp105 (t:Ty):Nat->List AV->Option AV
 | 66,[.int _ n,.int _ a,.int _ b]=>some (.agg [.i (nearI n a b),.i (farI n a b)])
 | 67,[_,.int _ p,.int _ d]=>some (.i (emi t p d))
 | 68,_=>some (.i (minD t))
 | 30,_=>some (.i (maxD t))
 | n,x=>spR n x
structure FxOK (a:Fx):Prop where
 t:0<=a.t∧a.t<=100000000
 x : -100000<=a.x∧a.x<=100000
 y : -100000<=a.y∧a.y<=100000
 z:0<=a.z∧a.z<=20000
 p:1<=a.p∧a.p<=100
abbrev zc39a (x:Int) (a:Fx) (b:Fx) (y:Int) (z:Int):=nearI x a.x b.x * nearI x a.x b.x+nearI y a.y b.y * nearI y a.y b.y+nearI z a.z b.z * nearI z a.z b.z
abbrev zc39b (x:Int) (a:Fx) (b:Fx) (y:Int) (z:Int):=farI x a.x b.x * farI x a.x b.x+farI y a.y b.y * farI y a.y b.y+farI z a.z b.z * farI z a.z b.z
abbrev zc39c (b:Fx) (a:Fx) (t:Ty) (x:Int) (y:Int) (z:Int):=(0:Int)-(b.t-a.t) * emi t (maxI a.p b.p) (zc39a x a b y z) * maxD t
theorem c39 (t:Ty) (a b:Fx) (x y z:Int) (hT:sTyS t=0) (hA:FxOK a) (hB:FxOK b) (hn:0<=b.t-a.t∧b.t-a.t<=1000) (hx : -100000<=x∧x<=100000) (hy : -100000<=y∧y<=100000) (hz:0<=z∧z<=20000):PCall Tryd.prog G0 39 [.agg (encTy t),.agg (encFx a),.agg (encFx b),.agg [.i x,.i y,.i z]] (.agg [.i (enLow t a b x y z),.i (enHigh t a b x y z)]):=by
 have key :
  PCall Tryd.prog G0 66 [AV.i x,AV.i a.x,AV.i b.x] (AV.agg [AV.i (nearI x a.x b.x),AV.i (farI x a.x b.x)])∧PCall Tryd.prog G0 66 [AV.i y,AV.i a.y,AV.i b.y] (AV.agg [AV.i (nearI y a.y b.y),AV.i (farI y a.y b.y)])∧PCall
  Tryd.prog G0 66 [AV.i z,AV.i a.z,AV.i b.z] (AV.agg [AV.i (nearI z a.z b.z),AV.i (farI z a.z b.z)])∧In64 (b.t-a.t)∧(0:Int)<=0∧(0:Int) < (2:Int)∧(0:Int)<=0∧(0:Int) < (2:Int)∧In64 (nearI x a.x b.x *
  nearI x a.x b.x)∧(0:Int)<=0∧(0:Int) < (2:Int)∧(0:Int)<=0∧(0:Int) < (2:Int)∧In64 (nearI y a.y b.y * nearI y a.y b.y)∧In64 (nearI x a.x b.x * nearI x a.x b.x+nearI y a.y b.y * nearI y a.y b.y)∧(0 :
  Int)<=0∧(0:Int) < (2:Int)∧(0:Int)<=0∧(0:Int) < (2:Int)∧In64 (nearI z a.z b.z * nearI z a.z b.z)∧In64 (zc39a x a b y z)∧(0:Int)<=1∧(1:Int) < (2:Int)∧(0:Int)<=1∧(1:Int) < (2:Int)∧In64
  (farI x a.x b.x * farI x a.x b.x)∧(0:Int)<=1∧(1:Int) < (2:Int)∧(0:Int)<=1∧(1:Int) < (2:Int)∧In64 (farI y a.y b.y * farI y a.y b.y)∧In64 (farI x a.x b.x * farI x a.x b.x+farI y a.y b.y * farI y a.y b.y)
  ∧ (0:Int)<=1∧(1:Int) < (2:Int)∧(0:Int)<=1∧(1:Int) < (2:Int)∧In64 (farI z a.z b.z * farI z a.z b.z)∧In64 (zc39b x a b y z)∧In64 (emi t (minI a.p b.p) (zc39b x a b y z) * minD t)∧In64 (emi t (minI a.p
  b.p) (zc39b x a b y z) * minD t * t.side)∧¬(1000000:Int)=(0:Int)∧In64 ((emi t (minI a.p b.p) (zc39b x a b y z) * minD t * t.side).tdiv 1000000)∧PCall Tryd.prog G0 67 [AV.agg (encTy t),AV.i (minI a.p b.p),AV.i (zc39b x
  a b y z)] (AV.i (emi t (minI a.p b.p) (zc39b x a b y z)))∧PCall Tryd.prog G0 68 [AV.sl 1 [[AV.i t.d0],[AV.i t.d1],[AV.i t.d2],[AV.i t.d3],[AV.i t.d4],[AV.i t.d5],[AV.i t.d6],[AV.i t.d7]]] (AV.i (minD t))∧In64 ((b.t -
  a.t) * emi t (maxI a.p b.p) (zc39a x a b y z))∧In64 ((b.t-a.t) * emi t (maxI a.p b.p) (zc39a x a b y z) * maxD t)∧PCall Tryd.prog G0 67 [AV.agg (encTy t),AV.i (maxI a.p b.p),AV.i (zc39a x a b y z)] (AV.i (emi t (maxI a.p
  b.p) (zc39a x a b y z)))∧PCall Tryd.prog G0 30 [AV.sl 1 [[AV.i t.d0],[AV.i t.d1],[AV.i t.d2],[AV.i t.d3],[AV.i t.d4],[AV.i t.d5],[AV.i t.d6],[AV.i t.d7]]] (AV.i (maxD t))∧In64 ((b.t-a.t) * (emi t (minI a.p b.p) (zc39b
  x a b y z) * minD t * t.side).tdiv 1000000)∧In64 (zc39c b a t x y z)∧In64 ((0:Int)-sFloor (zc39c b a t x y z) (1000:Int))∧PCall Tryd.prog G0 69 [AV.i (zc39c b a t x y z),AV.i (1000:Int)] (AV.i (sFloor (zc39c b a t x
  y z) (1000:Int)))∧AV.agg [AV.i ((b.t-a.t) * (emi t (minI a.p b.p) (zc39b x a b y z) * minD t * t.side).tdiv 1000000),AV.i ((0:Int)-sFloor (zc39c b a t x y z) (1000:Int))]=AV.agg [AV.i (enLow t a b x y z),AV.i
  (enHigh t a b x y z)]:=by
   delta zc39a zc39b zc39c
   have hS:=side_of hT
   have hO:=ok_of hT
   obtain ⟨nx,fx⟩:=near_b hx hA.x hB.x
   obtain ⟨ny,fy⟩:=near_b hy hA.y hB.y
   obtain ⟨nz,fz⟩:=near_b (n:=z) (a:=a.z) (b:=b.z) (by omega) (by have:=hA.z;omega) (by have:=hB.z;omega)
   have hp1:=min_b hA.p hB.p
   have hp2:=max_b hA.p hB.p
   have d1:0<=minD t∧minD t<=2000:=mnN_b fun i hi=>hS.1 i (by omega)
   have d2:0<=maxD t∧maxD t<=2000:=mxN_b fun i hi=>hS.1 i (by omega)
   obtain ⟨⟨e1,e2,e3,e4⟩,_,_,_,_⟩:=en_in (emi_b (d:=enFar a b x y z) hO hp1.1 hp1.2) d1 hS.2 hn
   obtain ⟨_,⟨g1,g2,g3⟩,⟨g4,g5,g6,g7⟩,_,_⟩:=en_in (emi_b (d:=enNear a b x y z) hO hp2.1 hp2.2) d2 hS.2 hn
   have s1:=sq_b nx
   have s2:=sq_b ny
   have s3:=sq_b nz
   have s4:=sq_b fx
   have s5:=sq_b fy
   have s6:=sq_b fz
   have bA:=hA.t
   have bB:=hB.t
   have xA:=hA.x
   have xB:=hB.x
   have yA:=hA.y
   have yB:=hB.y
   have zA:=hA.z
   have zB:=hB.z
   exact ⟨c66 _ _ _ (by omega) (by omega) (by omega),c66 _ _ _ (by omega) (by omega) (by omega),c66 _ _ _ (by omega) (by omega) (by omega),by unfold In64;omega,by decide,by decide,by decide,by decide,by unfold In64;omega,by decide,by decide,by decide,by decide,by unfold In64;omega,by unfold In64;omega,by decide,by decide,by decide,by decide,by unfold In64;omega,by unfold In64;omega,by decide,by decide,by decide,by decide,by unfold In64;omega,by decide,by decide,by decide,by decide,by unfold In64;omega,by unfold In64;omega,by decide,by decide,by decide,by decide,by unfold In64;omega,by unfold In64;omega,e1,e2,by decide,e3,c67 t _ _ hO hp1.1 hp1.2,c68 t.dir (show 1<=(8:Nat) by decide) (show (8:Nat)<=1000 by decide),g1,g2,c67 t _ _ hO hp2.1 hp2.2,c30 t.dir (show 1<=(8:Nat) by decide) (show (8:Nat)<=1000 by decide),e4,g3,g7,c69 _ _ (by decide) g4 g5 g6,rfl⟩
 exact c_of Tryd.f39 (fzB (mkB (sp105 t) 39 [] noLa)) (by kernel_rfl) (by kernel_rfl) (by kernel_rfl) (by kernel_rfl) key (by kernel_rfl)
end Go.Proofs.YtnbhfmaamloodaaDoor
namespace Go.Proofs.YtnbhfmaamloodaaDoor
open Go Go.Av Go.RowKit
def fxAt (l:List Fx) (i:Nat):Fx:=l.getD i default
def lowN (t:Ty) (l:List Fx) (x y z:Int):Nat->Int
 | 0=>0
 | i+1=>lowN t l x y z i+enLow t (fxAt l i) (fxAt l (i+1)) x y z
def highN (t:Ty) (l:List Fx) (x y z:Int):Nat->Int
 | 0=>0
 | i+1=>highN t l x y z i+enHigh t (fxAt l i) (fxAt l (i+1)) x y z
theorem fx_ok {l:List Fx} (h:TrackOK l) {i:Nat} (hi:i < l.length):FxOK (fxAt l i):=by
 have:=h.b i hi
 exact ⟨this.1,this.2.1,this.2.2.1,this.2.2.2.1,this.2.2.2.2⟩
theorem seg_dt {l:List Fx} (h:TrackOK l) (hs:lastT l-firstT l<=1000) {i:Nat} (hi:i+1 < l.length):0<=(fxAt l (i+1)).t-(fxAt l i).t∧(fxAt l (i+1)).t-(fxAt l i).t<=1000:=by
 have hu:∀ j,j+1 < l.length->(l.getD j default).t<=(l.getD (j+1) default).t:=fun j hj=>by
  have:=h.up j hj
  omega
 have h1:=up_chain (E:=fun j=>(l.getD j default).t) hu i 0 (by omega)
 have h2:=up_chain (E:=fun j=>(l.getD j default).t) hu (l.length-1-(i+1)) (i+1) (by omega)
 have h3:=hu i hi
 have h1:firstT l<=(fxAt l i).t:=by
  rw [Nat.zero_add] at h1
  exact h1
 have h2:(fxAt l (i+1)).t<=lastT l:=by
  rw [show i+1+(l.length-1-(i+1))=l.length-1 by omega] at h2
  exact h2
 have h3:(fxAt l i).t<=(fxAt l (i+1)).t:=h3
 omega
theorem en_b {t:Ty} {a b:Fx} {x y z:Int} (hT:sTyS t=0) (hA:FxOK a) (hB:FxOK b) (hn:0<=b.t-a.t∧b.t-a.t<=1000):(-100000000000000<=enLow t a b x y z∧enLow t a b x y z<=100000000000000)∧(-100000000000000<=enHigh t a b x y z∧enHigh t a b x y z<=100000000000000):=by
 have hS:=side_of hT
 have hO:=ok_of hT
 have hp1:=min_b hA.p hB.p
 have hp2:=max_b hA.p hB.p
 have d1:0<=minD t∧minD t<=2000:=mnN_b fun i hi=>hS.1 i (by omega)
 have d2:0<=maxD t∧maxD t<=2000:=mxN_b fun i hi=>hS.1 i (by omega)
 exact ⟨(en_in (emi_b (d:=enFar a b x y z) hO hp1.1 hp1.2) d1 hS.2 hn).2.2.2.1,(en_in (emi_b (d:=enNear a b x y z) hO hp2.1 hp2.2) d2 hS.2 hn).2.2.2.2⟩
theorem sums_b {t:Ty} {l:List Fx} {x y z:Int} (hT:sTyS t=0) (hO:TrackOK l) (hs:lastT l-firstT l<=1000):∀ i:Nat,i+1<=l.length->(-100000000000000 * (i:Int)<=lowN t l x y z i∧lowN t l x y z i<=100000000000000 * i)∧(-100000000000000 * (i:Int)<=highN t l x y z i∧highN t l x y z i<=100000000000000 * i)
 | 0,_=>by simp [lowN,highN]
 | i+1,hi=>by
  have h1:=sums_b (x:=x) (y:=y) (z:=z) hT hO hs i (by omega)
  have h2:=en_b (x:=x) (y:=y) (z:=z) hT (fx_ok hO (i:=i) (by omega)) (fx_ok hO (i:=i+1) (by omega)) (seg_dt hO hs (by omega))
  simp only [lowN,highN]
  omega
def chkEn (t:Ty) (l:List Fx) (x y z:Int):Int:=sFirst [sTyS t,sTrackS l,sPlace x y z]
def rEnc (t:Ty) (l:List Fx) (x y z:Int):List AV:=if chkEn t l x y z != 0 then [.agg [.i 0,.i 0],.i (chkEn t l x y z)] else [.agg [.i (lowN t l x y z (l.length-1)),.i (highN t l x y z (l.length-1))],.i 0]
def sp31 (t:Ty) (l:List Fx) (x y z:Int):Nat->List AV->Option AV
 | 36,_=>some (.i (sTyS t))
 | 37,_=>some (.i (sTrackS l))
 | 39,[_,.agg [.int _ a1,.int _ a2,.int _ a3,.int _ a4,.int _ a5],.agg [.int _ b1,.int _ b2,.int _ b3,.int _ b4,.int _ b5],_]=>some (.agg [.i (enLow t ⟨a1,a2,a3,a4,a5⟩ ⟨b1,b2,b3,b4,b5⟩ x y z),.i (enHigh t ⟨a1,a2,a3,a4,a5⟩ ⟨b1,b2,b3,b4,b5⟩ x y z)])
 | n,w=>spR n w
def la31 (t:Ty) (l:List Fx) (x y z:Int):LA:={
 pre:=[.reno 6 1,.reno 9 2,.keep [1,3,5,6,9,26,27] [1,2],.bound 3],post:=[.reno 6 1,.reno 9 2,.keep [1,3,5,6,9,26,27] [1,2],.bound 3]
 Gh:=Nat
 st:=fun i=>⟨[(1,.sl 5 (l.map encFx)),(3,.elt 13 [encTy t] 0 0),(5,.elt 3 [[.i x,.i y,.i z]] 0 0),(6,.ptr 1 0),(9,.ptr 2 0),(26,.i ((l.map encFx).length-1)),(27,.i i)],[(1,.box [.i 0,.i 0]),(2,.box [.i (lowN t l x y z i),.i (highN t l x y z i)])],3⟩
 ok:=fun i=>i+1<=l.length
 ms:=fun i=>l.length-i }
abbrev zc14a (l:List Fx) (g:Nat):=l.getD ((g:Int)+1).toNat default
abbrev zc14d (l:List Fx) (g:Nat):=l.getD (g:Int).toNat default
abbrev zc14b (l:List Fx) (g:Nat):=Fx.mk (zc14d l g).t (zc14d l g).x (zc14d l g).y (zc14d l g).z (zc14d l g).p
abbrev zc14c (l:List Fx) (g:Nat):=Fx.mk (zc14a l g).t (zc14a l g).x (zc14a l g).y (zc14a l g).z (zc14a l g).p
abbrev zc14e (l:List Fx):=(↑(List.map encFx l).length:Int)
theorem c14 (t:Ty) (l:List Fx) (x y z:Int) (hn:t.st.length<=1000) (hs:t.sh.length<=1000) (hq:t.sq.length<=1000) (he:∀ s,s ∈ t.st->s.e.length<=1000) (hN:t.name.length<=1000000) (hl:l.length<=1000):PCall Tryd.prog G0 14 [.agg (encTy t),.sl 5 (l.map encFx),.agg [.i x,.i y,.i z]] (.tup (rEnc t l x y z)):=by
 have key :
  PCall Tryd.prog G0 36 [AV.agg (encTy t)] (AV.i (sTyS t))∧PCall Tryd.prog G0 37 [AV.sl 5 (List.map encFx l)] (AV.i (sTrackS l))∧PCall Tryd.prog G0 38 [AV.agg [AV.i x,AV.i y,AV.i z]] (AV.i (sPlace x y z))∧PCall Tryd.prog G0
  35 [AV.sl 1 [[AV.i (sTyS t)],[AV.i (sTrackS l)],[AV.i (sPlace x y z)]]] (AV.i (sFirst [hdI [AV.i (sTyS t)],hdI [AV.i (sTrackS l)],hdI [AV.i (sPlace x y z)]]))∧((sFirst [hdI [AV.i (sTyS t)],hdI [AV.i (sTrackS l)],hdI [AV.i
  (sPlace x y z)]] != 0)=true->AV.tup [AV.agg [AV.i 0,AV.i 0],AV.i (sFirst [hdI [AV.i (sTyS t)],hdI [AV.i (sTrackS l)],hdI [AV.i (sPlace x y z)]])]=AV.tup (rEnc t l x y z))∧((sFirst [hdI [AV.i (sTyS t)],hdI [AV.i (sTrackS
  l)],hdI [AV.i (sPlace x y z)]] != 0)=false->In64 ((zc14e l)-1)∧(∃ (g:Nat),g+1<=l.length∧AS.mk [(1,AV.sl 5 (List.map encFx l)),(3,AV.elt 13 [(encTy t)] 0 0),(5,AV.elt 3 [[AV.i x,AV.i y,AV.i z]] 0 0),(6,
  AV.ptr 1 0),(9,AV.ptr 2 0),(26,AV.i ((zc14e l)-1)),(27,AV.i 0)] [(1,ABlk.box [AV.i 0,AV.i 0]),(2,ABlk.box [AV.i 0,AV.i 0])] 3=AS.mk [(1,AV.sl 5 (List.map encFx l)),(3,AV.elt 13 [(encTy t)] 0 0),(5,AV.elt 3
  [[AV.i x,AV.i y,AV.i z]] 0 0),(6,AV.ptr 1 0),(9,AV.ptr 2 0),(26,AV.i ((zc14e l)-1)),(27,AV.i (g:Int))] [(1,ABlk.box [AV.i 0,AV.i 0]),(2,ABlk.box [AV.i (lowN t l x y z g),AV.i (highN t l x y z g)])] 3)∧∀ (g :
  Nat),g+1<=l.length->(decide ((g:Int) < (zc14e l)-1)=true->(0:Int)<=(g:Int)∧(g:Int) < (zc14e l)∧In64 ((g:Int)+1)∧(0:Int)<=(g:Int)+1∧(g:Int)+1 < (zc14e l)∧AV.agg (nthR (List.map encFx
  l) (g:Int).toNat)=AV.agg [AV.i (zc14d l g).t,AV.i (zc14d l g).x,AV.i (zc14d l g).y,AV.i (zc14d l g).z,AV.i (zc14d l g).p]∧AV.agg (nthR (List.map encFx l) ((g:Int)+1).toNat)=AV.agg [AV.i (zc14a l g).t,AV.i (zc14a
  l g).x,AV.i (zc14a l g).y,AV.i (zc14a l g).z,AV.i (zc14a l g).p]∧PCall Tryd.prog G0 39 [AV.agg (encTy t),AV.agg [AV.i (zc14d l g).t,AV.i (zc14d l g).x,AV.i (zc14d l g).y,AV.i (zc14d l g).z,AV.i (zc14d l g).p],AV.agg
  [AV.i (zc14a l g).t,AV.i (zc14a l g).x,AV.i (zc14a l g).y,AV.i (zc14a l g).z,AV.i (zc14a l g).p],AV.agg [AV.i x,AV.i y,AV.i z]] (AV.agg [AV.i (enLow t (zc14b l g) (zc14c l g) x y z),AV.i (enHigh t (zc14b l g) (zc14c l g) x
  y z)])∧In64 (lowN t l x y z g+enLow t (zc14b l g) (zc14c l g) x y z)∧In64 (highN t l x y z g+enHigh t (zc14b l g) (zc14c l g) x y z)∧In64 ((g:Int)+1)∧∃ (g':Nat),g'+1<=l.length∧l.length-g' < l.length-g ∧
  AS.mk [(1,AV.sl 5 (List.map encFx l)),(3,AV.elt 13 [(encTy t)] 0 0),(5,AV.elt 3 [[AV.i x,AV.i y,AV.i z]] 0 0),(6,AV.ptr 1 0),(9,AV.ptr 2 0),(26,AV.i ((zc14e l)-1)),(27,AV.i ((g:Int)+1))] [(1,ABlk.box [AV.i 0,
  AV.i 0]),(2,ABlk.box [AV.i (lowN t l x y z g+enLow t (zc14b l g) (zc14c l g) x y z),AV.i (highN t l x y z g+enHigh t (zc14b l g) (zc14c l g) x y z)])] 3=AS.mk [(1,AV.sl 5 (List.map encFx l)),(3,AV.elt 13 [(encTy t)] 0
  0),(5,AV.elt 3 [[AV.i x,AV.i y,AV.i z]] 0 0),(6,AV.ptr 1 0),(9,AV.ptr 2 0),(26,AV.i ((zc14e l)-1)),(27,AV.i (↑g':Int))] [(1,ABlk.box [AV.i 0,AV.i 0]),(2,ABlk.box [AV.i (lowN t l x y z g'),AV.i (highN t l x y z
  g')])] 3)∧(decide ((g:Int) < (zc14e l)-1)=false->AV.tup [AV.agg [AV.i (lowN t l x y z g),AV.i (highN t l x y z g)],AV.i 0]=AV.tup (rEnc t l x y z))):=by
   delta zc14a zc14b zc14c zc14d zc14e
   have hlm:(List.map encFx l).length=l.length:=List.length_map _
   refine ⟨c36 t hn hs hq he hN,c37 l (by omega),c38 _ _ _,c35 [_,_,_] (by simp),fun h=>?_,fun h=>?_⟩
   · have h':(chkEn t l x y z != 0)=true:=h
     rw [rEnc,if_pos h']
     rfl
   · have h':(chkEn t l x y z != 0)=false:=h
     have hz:chkEn t l x y z=0:=by simpa using h'
     have hz2:=hz
     unfold chkEn at hz2
     simp only [first_zero] at hz2
     obtain ⟨hT,hTr,hP,_⟩:=hz2
     rw [track_eq] at hTr
     obtain ⟨hO,hsp⟩:=track_ok hTr
     have p:=place_ok hP
     have hn1:=hO.n1
     have hn2:=hO.n2
     refine ⟨by unfold In64;omega,⟨0,by omega,rfl⟩,fun g hg=>⟨fun hd=>?_,fun hd=>?_⟩⟩
     · have hlt:=of_decide_eq_true hd
       rw [hlm] at hlt
       have e:((g:Int)+1).toNat=g+1:=by omega
       rw [e,Int.toNat_natCast]
       have b:=sums_b (x:=x) (y:=y) (z:=z) hT hO hsp (g+1) (by omega)
       refine ⟨by omega,by omega,by unfold In64;omega,by omega,by omega,by rw [row_at encFx (by omega)];rfl,by rw [row_at encFx (by omega)];rfl,c39 t (fxAt l g) (fxAt l (g+1)) x y z hT (fx_ok hO (by omega)) (fx_ok hO (by omega)) (seg_dt hO hsp (by omega)) p.1 p.2.1 p.2.2,
        (show In64 (lowN t l x y z (g+1)) from by unfold In64;omega),(show In64 (highN t l x y z (g+1)) from by unfold In64;omega),by unfold In64;omega,g+1,by omega,by omega,rfl⟩
     · have:=of_decide_eq_false hd
       rw [hlm] at this
       rw [show g=l.length-1 by omega,rEnc,if_neg (by rw [h'];decide)]
 exact c_of Tryd.f14 (fzB (mkB (sp31 t l x y z) 14 [(8,4,rdL 5 encFx l 5 true),(8,9,rdL 5 encFx l 5 true)] (fun i=>if i.beq 0 then some (la31 t l x y z) else none))) (by kernel_rfl) (by kernel_rfl) (by kernel_rfl) (by kernel_rfl) key (by kernel_rfl)
end Go.Proofs.YtnbhfmaamloodaaDoor
namespace Go.Proofs.YtnbhfmaamloodaaDoor
open Go Go.Av Go.RowKit
theorem sumH_add (f:Int->Int) (a:Int) (m:Nat):∀ n:Nat,sumH f a (m+n)=sumH f a m+sumH f (a+m) n
 | 0=>by simp [sumH]
 | n+1=>by
  have h:=sumH_add f a m n
  rw [show m+(n+1)=m+n+1 by omega]
  simp only [sumH]
  rw [h,show a+((m+n:Nat):Int)=a+m+n by omega]
  omega
theorem sumH_cut (f:Int->Int) {a c b:Int} (h1:a<=c) (h2:c<=b):sumH f a (c-a).toNat+sumH f c (b-c).toNat=sumH f a (b-a).toNat:=by
 have h:=sumH_add f a (c-a).toNat (b-c).toNat
 rw [show (c-a).toNat+(b-c).toNat=(b-a).toNat by omega,show a+(((c-a).toNat:Nat):Int)=c by omega] at h
 exact h.symm
theorem sumH_nn {f:Int->Int} {a:Int}:∀ {n:Nat},(∀ i:Nat,i < n->0<=f (a+i))->0<=sumH f a n
 | 0,_=>Int.le_refl _
 | n+1,h=>by
  have h1:=sumH_nn (f:=f) (a:=a) (n:=n) fun i hi=>h i (by omega)
  have h2:=h n (by omega)
  simp only [sumH]
  omega
theorem sumH_lo {f:Int->Int} {a c:Int}:∀ {n:Nat},(∀ i:Nat,i < n->c<=f (a+i))->(n:Int) * c<=sumH f a n
 | 0,_=>by simp [sumH]
 | n+1,h=>by
  have h1:=sumH_lo (f:=f) (a:=a) (c:=c) (n:=n) fun i hi=>h i (by omega)
  have h2:=h n (by omega)
  simp only [sumH]
  rw [Int.natCast_add,Int.add_mul]
  omega
theorem sumH_hi {f:Int->Int} {a c:Int}:∀ {n:Nat},(∀ i:Nat,i < n->f (a+i)<=c)->sumH f a n<=(n:Int) * c
 | 0,_=>by simp [sumH]
 | n+1,h=>by
  have h1:=sumH_hi (f:=f) (a:=a) (c:=c) (n:=n) fun i hi=>h i (by omega)
  have h2:=h n (by omega)
  simp only [sumH]
  rw [Int.natCast_add,Int.add_mul]
  omega
theorem mxH_law {f:Int->Int} {a:Int}:∀ {n:Nat},1<=n->(∀ i:Nat,i < n->0<=f (a+i)) →
 ∃ k:Nat,k < n∧(mxH f a n).1=f (a+k)∧(mxH f a n).2=a+k∧(∀ i:Nat,i < n->f (a+i)<=f (a+k))∧∀ i:Nat,i < k->f (a+i) < f (a+k)
 | 0,h,_=>absurd h (by decide)
 | 1,_,h=>by
  have h0:=h 0 (by decide)
  have e:mxH f a (0+1)=(f (a+((0:Nat):Int)),a+((0:Nat):Int)):=mxH_t (decide_eq_true (show f (a+((0:Nat):Int)) > -1 by omega))
  refine ⟨0,by decide,congrArg Prod.fst e,congrArg Prod.snd e,fun i hi=>?_,fun i hi=>absurd hi (by omega)⟩
  rw [show i=0 by omega]
  exact Int.le_refl _
 | n+2,_,h=>by
  obtain ⟨k,h1,h2,h3,h4,h5⟩:=mxH_law (f:=f) (a:=a) (n:=n+1) (by omega) fun i hi=>h i (by omega)
  by_cases hd:f (a+((n+1:Nat):Int)) > (mxH f a (n+1)).1
  · rw [mxH_t (decide_eq_true hd)]
    rw [h2] at hd
    refine ⟨n+1,by omega,rfl,rfl,fun i hi=>?_,fun i hi=>?_⟩
    · by_cases e:i=n+1
      · rw [e]
        exact Int.le_refl _
      · have:=h4 i (by omega)
        omega
    · have:=h4 i hi
      omega
  · rw [mxH_f (decide_eq_false hd)]
    rw [h2] at hd
    refine ⟨k,by omega,h2,h3,fun i hi=>?_,h5⟩
    by_cases e:i=n+1
    · rw [e]
      omega
    · exact h4 i (by omega)
theorem trk_mono {l:List Fx} (h:TrackOK l):∀ d i,i+d < l.length->(fxAt l i).t<=(fxAt l (i+d)).t
 | 0,_,_=>Int.le_refl _
 | d+1,i,hi=>by
  have h1:=trk_mono h d i (by omega)
  have h2:(fxAt l (i+d)).t < (fxAt l (i+d+1)).t:=h.up (i+d) (by omega)
  rw [show i+(d+1)=i+d+1 by omega]
  omega
theorem trk_lt {l:List Fx} (h:TrackOK l) {i:Nat} (hi:i+1 < l.length):(fxAt l i).t < (fxAt l (i+1)).t:=h.up i hi
theorem atI_in {l:List Fx} {tk:Int} {i:Nat} (h:TrackOK l) (h1:(fxAt l i).t<=tk) (h2:tk < (fxAt l (i+1)).t):∀ m,i+1<=m->m < l.length->atI l tk m=i
 | 0,h3,_=>absurd h3 (by omega)
 | m+1,h3,h4=>by
  simp only [atI]
  by_cases e:m=i
  · rw [e]
    exact if_pos h1
  · have h5:=trk_mono h (m-(i+1)) (i+1) (by omega)
    rw [show i+1+(m-(i+1))=m by omega] at h5
    have h6:¬ (l.getD m default).t<=tk:=by
     have:(fxAt l m).t=(l.getD m default).t:=rfl
     omega
    rw [if_neg h6]
    exact atI_in h h1 h2 m (by omega) (by omega)
theorem mnN_le {l:List Int}:∀ {n k:Nat},k<=n->mnN l n<=l.getD k default
 | 0,k,h=>by
  rw [show k=0 by omega]
  exact Int.le_refl _
 | n+1,k,h=>by
  simp only [mnN]
  unfold minI
  by_cases e:k=n+1
  · rw [e]
    split <;> omega
  · have:=mnN_le (l:=l) (n:=n) (k:=k) (by omega)
    split <;> omega
theorem mxN_ge {l:List Int}:∀ {n k:Nat},k<=n->l.getD k default<=mxN l n
 | 0,k,h=>by
  rw [show k=0 by omega]
  exact Int.le_refl _
 | n+1,k,h=>by
  simp only [mxN]
  unfold maxI
  by_cases e:k=n+1
  · rw [e]
    split <;> omega
  · have:=mxN_ge (l:=l) (n:=n) (k:=k) (by omega)
    split <;> omega
theorem sq_up {u v:Int} (h1:u<=v) (h2 : -u<=v):u * u<=v * v:=by
 rcases Int.le_total 0 u with h | h
 · exact Int.mul_le_mul h1 h1 h (by omega)
 · have:=Int.mul_le_mul h2 h2 (by omega:0 <= -u) (by omega)
   rwa [Int.neg_mul_neg] at this
theorem sq_low {u v:Int} (h0:0<=v) (h:v<=u ∨ v <= -u):v * v<=u * u:=by
 rcases h with h | h
 · exact Int.mul_le_mul h h h0 (by omega)
 · have:=Int.mul_le_mul h h h0 (by omega)
   rwa [Int.neg_mul_neg] at this
theorem near_sq {n a b x:Int} (h1:minI a b<=x) (h2:x<=maxI a b):nearI n a b * nearI n a b<=(n-x) * (n-x)∧(n-x) * (n-x)<=farI n a b * farI n a b:=by
 refine ⟨?_,sq_up ?_ ?_⟩
 · by_cases h0:nearI n a b=0
   · rw [h0]
     simpa using sq_nn (n-x)
   · refine sq_low ?_ ?_
     · unfold nearI maxI
       unfold minI maxI at *
       split <;> split <;> omega
     · revert h0
       unfold nearI maxI
       unfold minI maxI at *
       intro h0
       split <;> omega
 · unfold farI
   unfold minI maxI at *
   split <;> omega
 · unfold farI
   unfold minI maxI at *
   split <;> omega
theorem bet_in {a b p w:Int} (hw:0 < w) (h0:0<=p) (h1:p<=w):minI a b<=sBetween a b p w∧sBetween a b p w<=maxI a b:=by
 have m1:minI a b<=a∧minI a b<=b:=by
  unfold minI
  split <;> omega
 have m2:a<=maxI a b∧b<=maxI a b:=by
  unfold maxI
  split <;> omega
 exact ⟨bet_lo hw h0 h1 m1.1 m1.2,bet_hi hw h0 h1 m2.1 m2.2⟩
theorem hrd_in2 {t:Ty} {a b p u v w E F:Int} (hT:sTyS t=0) (h0:0<=E) (h1:E<=emi t p (u * u+v * v+w * w)) (h2:emi t p (u * u+v * v+w * w)<=F) :
 (E * minD t * t.side).tdiv 1000000<=hrd t a b p u v w∧1000 * hrd t a b p u v w<=F * maxD t:=by
 have hS:=side_of hT
 have h8:=sec_8 (secX a b u v) (secY a b u v)
 have hd:=hS.1 (sec 4 0 (secX a b u v) (secY a b u v)).toNat (by omega)
 have m1:minD t<=t.dir.getD (sec 4 0 (secX a b u v) (secY a b u v)).toNat default:=mnN_le (by omega)
 have m2:t.dir.getD (sec 4 0 (secX a b u v) (secY a b u v)).toNat default<=maxD t:=mxN_ge (by omega)
 have m0:0<=minD t:=(mnN_b (U:=2000) fun i hi=>hS.1 i (by omega)).1
 have e:hrdV t a b p u v w=emi t p (u * u+v * v+w * w) * t.dir.getD (sec 4 0 (secX a b u v) (secY a b u v)).toNat default:=by
  unfold hrdV
  exact congrArg _ (cI_map t.dir _)
 unfold hrd
 rw [e]
 generalize t.dir.getD (sec 4 0 (secX a b u v) (secY a b u v)).toNat default=D at *
 generalize emi t p (u * u+v * v+w * w)=G at *
 have k1:E * minD t<=G * D:=Int.mul_le_mul h1 m1 m0 (by omega)
 have k2:G * D<=F * maxD t:=Int.mul_le_mul h2 m2 hd.1 (by omega)
 have k0:0<=E * minD t:=Int.mul_nonneg h0 m0
 generalize E * minD t=X at *
 generalize G * D=Y at *
 generalize F * maxD t=Z at *
 have q1:X * t.side<=Y * t.side:=Int.mul_le_mul_of_nonneg_right k1 hS.2.1
 have q2:Y * t.side<=Y * 1000:=Int.mul_le_mul_of_nonneg_left hS.2.2 (by omega)
 have q0:0<=X * t.side:=Int.mul_nonneg k0 hS.2.1
 generalize X * t.side=X1 at *
 generalize Y * t.side=Y1 at *
 rw [Int.tdiv_eq_ediv_of_nonneg q0]
 split
 · rw [Int.tdiv_eq_ediv_of_nonneg (by omega:0<=Y1)]
   omega
 · rw [Int.tdiv_eq_ediv_of_nonneg (by omega:0<=Y)]
   omega
theorem seg_in {t:Ty} {l:List Fx} {x y z:Int} {i:Nat} (hT:sTyS t=0) (hO:TrackOK l) (hi:i+1 < l.length) {tk:Int} (h1:(fxAt l i).t<=tk) (h2:tk < (fxAt l (i+1)).t) :
 (emi t (minI (fxAt l i).p (fxAt l (i+1)).p) (enFar (fxAt l i) (fxAt l (i+1)) x y z) * minD t * t.side).tdiv 1000000<=hrdA t l x y z tk∧1000 * hrdA t l x y z tk<=emi t (maxI (fxAt l i).p (fxAt l (i+1)).p) (enNear (fxAt l i) (fxAt l (i+1)) x y z) * maxD t:=by
 have e:=atI_in hO h1 h2 (l.length-1) (by omega) (by omega)
 have ea:atA l tk=fxAt l i:=by
  unfold atA
  rw [e]
  rfl
 have eb:atB l tk=fxAt l (i+1):=by
  unfold atB
  rw [e]
  rfl
 have w:0 < (fxAt l (i+1)).t-(fxAt l i).t:=by omega
 have p0:0<=tk-(fxAt l i).t:=by omega
 have p1:tk-(fxAt l i).t<=(fxAt l (i+1)).t-(fxAt l i).t:=by omega
 have bx:=bet_in (a:=(fxAt l i).x) (b:=(fxAt l (i+1)).x) w p0 p1
 have bY:=bet_in (a:=(fxAt l i).y) (b:=(fxAt l (i+1)).y) w p0 p1
 have bz:=bet_in (a:=(fxAt l i).z) (b:=(fxAt l (i+1)).z) w p0 p1
 have bp:=bet_in (a:=(fxAt l i).p) (b:=(fxAt l (i+1)).p) w p0 p1
 have sx:=near_sq (n:=x) bx.1 bx.2
 have sy:=near_sq (n:=y) bY.1 bY.2
 have sz:=near_sq (n:=z) bz.1 bz.2
 unfold hrdA aX aY aZ aP
 rw [ea,eb]
 refine hrd_in2 hT (emi_nn hT) ?_ ?_
 · refine Int.le_trans (emi_far hT ?_) (emi_more hT bp.1)
   unfold enFar sq3
   omega
 · refine Int.le_trans (emi_far hT ?_) (emi_more hT bp.2)
   unfold enNear sq3
   omega
theorem seg_enc {t:Ty} {l:List Fx} {x y z:Int} {i:Nat} (hT:sTyS t=0) (hO:TrackOK l) (hi:i+1 < l.length) :
 enLow t (fxAt l i) (fxAt l (i+1)) x y z<=sumH (hrdA t l x y z) (fxAt l i).t ((fxAt l (i+1)).t-(fxAt l i).t).toNat∧sumH (hrdA t l x y z) (fxAt l i).t ((fxAt l (i+1)).t-(fxAt l i).t).toNat<=enHigh t (fxAt l i) (fxAt l (i+1)) x y z:=by
 have hu:=trk_lt hO hi
 have key:∀ j:Nat,j < ((fxAt l (i+1)).t-(fxAt l i).t).toNat->_:=fun j hj=>seg_in (x:=x) (y:=y) (z:=z) hT hO hi (tk:=(fxAt l i).t+j) (by omega) (by omega)
 have en:((((fxAt l (i+1)).t-(fxAt l i).t).toNat:Nat):Int)=(fxAt l (i+1)).t-(fxAt l i).t:=by omega
 constructor
 · have h:=sumH_lo (f:=hrdA t l x y z) (a:=(fxAt l i).t) (n:=((fxAt l (i+1)).t-(fxAt l i).t).toNat) fun j hj=>(key j hj).1
   rw [en] at h
   exact h
 · unfold enHigh
   rw [floor_eq (by decide)]
   have h:=sumH_hi (f:=fun k=>1000 * hrdA t l x y z k) (a:=(fxAt l i).t) (n:=((fxAt l (i+1)).t-(fxAt l i).t).toNat) fun j hj=>(key j hj).2
   rw [en] at h
   have e:∀ n:Nat,sumH (fun k=>1000 * hrdA t l x y z k) (fxAt l i).t n=1000 * sumH (hrdA t l x y z) (fxAt l i).t n:=by
    intro n
    induction n with
    | zero=>rfl
    | succ n ih =>
     simp only [sumH]
     rw [ih]
     omega
   rw [e,<- Int.mul_assoc] at h
   generalize sumH (hrdA t l x y z) (fxAt l i).t ((fxAt l (i+1)).t-(fxAt l i).t).toNat=S at *
   rw [show 0-((fxAt l (i+1)).t-(fxAt l i).t) * emi t (maxI (fxAt l i).p (fxAt l (i+1)).p) (enNear (fxAt l i) (fxAt l (i+1)) x y z) * maxD t = -(((fxAt l (i+1)).t-(fxAt l i).t) * emi t (maxI (fxAt l i).p (fxAt l (i+1)).p) (enNear (fxAt l i) (fxAt l (i+1)) x y z) * maxD t) by omega]
   generalize ((fxAt l (i+1)).t-(fxAt l i).t) * emi t (maxI (fxAt l i).p (fxAt l (i+1)).p) (enNear (fxAt l i) (fxAt l (i+1)) x y z) * maxD t=Z at *
   omega
theorem encl {t:Ty} {l:List Fx} {x y z:Int} (hT:sTyS t=0) (hO:TrackOK l):∀ i:Nat,i < l.length →
 lowN t l x y z i<=sumH (hrdA t l x y z) (firstT l) ((fxAt l i).t-firstT l).toNat∧sumH (hrdA t l x y z) (firstT l) ((fxAt l i).t-firstT l).toNat<=highN t l x y z i
 | 0,_=>by
  rw [show ((fxAt l 0).t-firstT l).toNat=0 by
   have:(fxAt l 0).t=firstT l:=rfl
   omega]
  exact ⟨Int.le_refl _,Int.le_refl _⟩
 | i+1,hi=>by
  have h1:=encl (x:=x) (y:=y) (z:=z) hT hO i (by omega)
  have h2:=seg_enc (x:=x) (y:=y) (z:=z) hT hO hi
  have h3:firstT l<=(fxAt l i).t:=by
   have:=trk_mono hO i 0 (by omega)
   rw [Nat.zero_add] at this
   exact this
  have h4:=trk_lt hO hi
  have h5:=sumH_cut (hrdA t l x y z) h3 (Int.le_of_lt h4)
  simp only [lowN,highN]
  omega
theorem enc_ok {t:Ty} {l:List Fx} {x y z:Int} (hT:sTyS t=0) (hO:TrackOK l) :
 lowN t l x y z (l.length-1)<=sumH (hrdA t l x y z) (firstT l) (lastT l-firstT l).toNat∧sumH (hrdA t l x y z) (firstT l) (lastT l-firstT l).toNat<=highN t l x y z (l.length-1) :=
 encl hT hO (l.length-1) (by have:=hO.n1;omega)
theorem hrdA_b {t:Ty} {l:List Fx} {x y z tk:Int} (hT:sTyS t=0) (hO:TrackOK l) (h1:firstT l<=tk) (h2:tk < lastT l):0<=hrdA t l x y z tk∧hrdA t l x y z tk<=100000000000:=hrd_b hT (at_ok hO h1 h2).p
end Go.Proofs.YtnbhfmaamloodaaDoor
namespace Go.Proofs.YtnbhfmaamloodaaDoor
open Go Go.Av Go.RowKit
def lsum:List Int->Int
 | []=>0
 | x::l=>x+lsum l
theorem lsum_app:∀ (a b:List Int),lsum (a++b)=lsum a+lsum b
 | [],b=>by simp [lsum]
 | x::a,b=>by
  simp only [List.cons_append,lsum,lsum_app a b]
  omega
theorem lsum_rot (l:List Int) (k:Nat):lsum (l.drop k++l.take k)=lsum l:=by
 rw [lsum_app,Int.add_comm,<- lsum_app,List.take_append_drop]
theorem sumI_take (l:List Int):∀ i,i<=l.length->sumI l i=lsum (l.take i)
 | 0,_=>by simp [sumI,lsum]
 | i+1,h=>by
  have h1:=sumI_take l i (by omega)
  simp only [sumI]
  rw [h1,List.take_add_one,lsum_app]
  rw [List.getD_eq_getElem?_getD,List.getElem?_eq_getElem (by omega:i < l.length)]
  simp [lsum]
theorem sumI_all (l:List Int):sumI l l.length=lsum l:=by
 rw [sumI_take l l.length (Nat.le_refl _),List.take_length]
def hL (f:Int->Int) (a:Int) (n:Nat):List Int:=(List.range n).map fun i:Nat=>f (a+i)
theorem hL_len (f:Int->Int) (a:Int) (n:Nat):(hL f a n).length=n:=by simp [hL]
theorem hL_at {f:Int->Int} {a:Int} {n i:Nat} (h:i < n):(hL f a n).getD i default=f (a+i):=by
 simp [hL,List.getD_eq_getElem?_getD,h]
theorem hL_succ (f:Int->Int) (a:Int) (n:Nat):hL f a (n+1)=hL f a n++[f (a+n)]:=by simp [hL,List.range_succ]
theorem hL_sum (f:Int->Int) (a:Int):∀ n,lsum (hL f a n)=sumH f a n
 | 0=>rfl
 | n+1=>by
  rw [hL_succ,lsum_app,hL_sum f a n]
  simp [lsum,sumH]
def ixI (l:List Int) (v:Int):Nat->Nat->Int
 | 0,_ => -1
 | m+1,i=>if l.getD i default=v then (i:Int) else ixI l v m (i+1)
theorem ixI_hit {l:List Int} {v:Int} {k:Nat} (h:l.getD k default=v):∀ m i,i<=k->k < i+m->(∀ j,i<=j->j < k->l.getD j default ≠ v)->ixI l v m i=k
 | 0,i,h1,h2,_=>absurd h2 (by omega)
 | m+1,i,h1,h2,h3=>by
  simp only [ixI]
  by_cases e:i=k
  · rw [e,if_pos h]
  · rw [if_neg (h3 i (Nat.le_refl _) (by omega))]
    exact ixI_hit h m (i+1) (by omega) (by omega) fun j hj hk=>h3 j (by omega) hk
theorem mxN_in {l:List Int}:∀ n,∃ k,k<=n∧mxN l n=l.getD k default
 | 0=>⟨0,Nat.le_refl _,rfl⟩
 | n+1=>by
  obtain ⟨k,h1,h2⟩:=mxN_in (l:=l) n
  simp only [mxN]
  unfold maxI
  split
  · exact ⟨n+1,Nat.le_refl _,rfl⟩
  · exact ⟨k,by omega,h2⟩
theorem mx_same {f:Int->Int} {a:Int} {n:Nat} (hn:1<=n) (h:∀ i:Nat,i < n->0<=f (a+i)) :
 mxN (hL f a n) (n-1)=(mxH f a n).1∧a+ixI (hL f a n) (mxN (hL f a n) (n-1)) n 0=(mxH f a n).2:=by
 obtain ⟨k,h1,h2,h3,h4,h5⟩:=mxH_law hn h
 have e:mxN (hL f a n) (n-1)=f (a+k):=by
  obtain ⟨j,g1,g2⟩:=mxN_in (l:=hL f a n) (n-1)
  have g3:=mxN_ge (l:=hL f a n) (n:=n-1) (k:=k) (by omega)
  rw [hL_at (by omega)] at g2 g3
  have:=h4 j (by omega)
  omega
 refine ⟨by rw [e,h2],?_⟩
 rw [e,ixI_hit (k:=k) (by rw [hL_at h1]) n 0 (by omega) (by omega) fun j _ hj=>?_,h3]
 rw [hL_at (by omega)]
 have:=h5 j hj
 omega
def baseL:List Int:=[10,13,16,20,25,32,40,50,63,79]
def p10:Nat->Int
 | 0=>1
 | k+1=>10 * p10 k
def thr (k:Nat):Int:=p10 (k / 10) * baseL.getD (k % 10) 0
theorem thr_next:∀ k,k < 120->thr k<=thr (k+1):=by decide +kernel
theorem thr_mono {j:Nat}:∀ {k:Nat},j<=k->k<=120->thr j<=thr k
 | 0,h,_=>by have e:j=0:=by omega
             rw [e];exact Int.le_refl _
 | k+1,h,hk=>by
  by_cases e:j=k+1
  · rw [e];exact Int.le_refl _
  · exact Int.le_trans (thr_mono (j:=j) (k:=k) (by omega) (by omega)) (thr_next k (by omega))
def lvN (e:Int):Nat->Int
 | 0 => -1
 | k+1=>if decide (thr k<=e)=true then (k:Int) else lvN e k
def lvl (e:Int):Int:=lvN e 121
theorem lv_bd (e:Int):∀ k, -1<=lvN e k∧lvN e k < k
 | 0=>⟨Int.le_refl _,show (-1:Int) < 0 by decide⟩
 | k+1=>by
  have:=lv_bd e k
  rw [lvN]
  split <;> omega
theorem lv_same {e:Int} {k:Nat} (h:e < thr k):∀ {m:Nat},k<=m->m<=121->lvN e m=lvN e k
 | 0,h1,_=>by have e:k=0:=by omega
              rw [e]
 | m+1,h1,h2=>by
  by_cases e1:k=m+1
  · rw [e1]
  · have:=thr_mono (j:=k) (k:=m) (by omega) (by omega)
    rw [lvN,if_neg (by rw [decide_eq_true_eq];omega)]
    exact lv_same h (by omega) (by omega)
theorem lv_all {e:Int} {k:Nat} (h:∀ j,j < k->thr j<=e):lvN e k=(k:Int)-1:=by
 cases k with
 | zero=>rfl
 | succ k =>
  rw [lvN,if_pos (by rw [decide_eq_true_eq];exact h k (by omega))]
  omega
theorem lvl_stop {e:Int} {k:Nat} (h:∀ j,j < k->thr j<=e) (hk:k<=121) (hs:k=121 ∨ e < thr k):lvl e=(k:Int)-1:=by
 unfold lvl
 rcases hs with rfl | hs
 · exact lv_all h
 · rw [lv_same hs hk (Nat.le_refl _),lv_all h]
theorem mul_bd {a b A B:Int} (h1:0<=a) (h2:a<=A) (h3:0<=b) (h4:b<=B):0<=a * b∧a * b<=A * B :=
 ⟨Int.mul_nonneg h1 h3,Int.mul_le_mul h2 h4 h3 (Int.le_trans h1 h2)⟩
theorem p10_bd:∀ k,k < 13->1<=p10 k∧p10 k<=1000000000000:=by decide +kernel
theorem base_bd:∀ k,k < 10->10<=baseL.getD k 0∧baseL.getD k 0<=79:=by decide +kernel
def fEn (x:Int):Int:=sWithin x 0 10000000000000
theorem all_ext {p:Nat->Prop} {g:Nat} (h:∀ j,j < g->p j) (hg:p g):∀ j,j < g+1->p j:=fun j hj=>by
 by_cases e:j=g
 · rw [e];exact hg
 · exact h j (by omega)
theorem lv_mono {e e':Int} (h:e<=e'):∀ k,lvN e k<=lvN e' k
 | 0=>Int.le_refl _
 | k+1=>by
  have h1:=lv_mono h k
  have h2:=lv_bd e k
  rw [lvN,lvN]
  by_cases q:thr k<=e
  · rw [if_pos (decide_eq_true q),if_pos (decide_eq_true (Int.le_trans q h))]
    exact Int.le_refl _
  · rw [if_neg (by rw [decide_eq_true_eq];exact q)]
    split
    · omega
    · exact h1
theorem lvl_mono {e e':Int} (h:e<=e'):lvl e<=lvl e':=lv_mono h 121
def chkE (l:List Int):Int:=if decide ((l.length:Int) > 1024)=true then 5 else sFirst (l.map fEn)
theorem chkE_z {l:List Int} (hl:l.length<=1024) (h:∀ k,k < l.length->0<=l.getD k default∧l.getD k default<=10000000000000):chkE l=0:=by
 unfold chkE
 rw [if_neg (by rw [decide_eq_true_eq];omega)]
 clear hl
 induction l with
 | nil=>rfl
 | cons x l ih =>
  simp only [List.map_cons,first_zero]
  refine ⟨?_,ih fun k hk=>h (k+1) (by simp only [List.length_cons];omega)⟩
  unfold fEn
  rw [within_zero]
  exact h 0 (by simp)
theorem chkE_ok {l:List Int} (h:chkE l=0):l.length<=1024∧∀ k,k < l.length->0<=l.getD k default∧l.getD k default<=10000000000000:=by
 unfold chkE at h
 split at h
 · cases h
 · rename_i h1
   rw [decide_eq_true_eq] at h1
   exact ⟨by omega,ranged_of h⟩
theorem sumW_c {l:List Int} (h:∀ k,k < l.length->0<=l.getD k default∧l.getD k default<=10000000000000) (hl:l.length<=1024):∀ i,i<=l.length->sumW l i=sumI l i
 | 0,_=>rfl
 | i+1,hi=>by
  have h1:=sumW_c h hl i (by omega)
  have h2:=sumI_bound h i (by omega)
  have h3:=h i (by omega)
  simp only [sumW,sumI]
  rw [h1]
  exact in64_wrap (by unfold In64;omega)
end Go.Proofs.YtnbhfmaamloodaaDoor
namespace Go.Proofs.YtnbhfmaamloodaaDoor
open Go Go.Av Go.RowKit
def la0 (l:LA):Nat->Option LA:=fun i=>if i.beq 0 then some l else none
def spY:Nat->List AV->Option AV
 | 26,[.int _ x]=>some (.i (fEn x))
 | 56,[.int _ x,.int _ lo,.int _ hi]=>some (.i (sWithin x lo hi))
 | 29,[.bool b,.int _ e]=>some (.i (sWhen b e))
 | 57,[.int _ x]=>some (.i (thr x.toNat))
 | n,x=>spR n x
def bsK (k:Nat):Int:=baseL.getD (k % 10) 0
theorem bs_at {k:Nat}:nth (nthR [[AV.i 10],[.i 13],[.i 16],[.i 20],[.i 25],[.i 32],[.i 40],[.i 50],[.i 63],[.i 79]] ((k:Int).tmod 10).toNat) 0=.i (bsK k):=by
 have h:∀ j,j < 10->nth (nthR [[AV.i 10],[.i 13],[.i 16],[.i 20],[.i 25],[.i 32],[.i 40],[.i 50],[.i 63],[.i 79]] j) 0=.i (baseL.getD j 0):=fun j hj=>by
  match j,hj with
  | 0,_=>rfl
  | 1,_=>rfl
  | 2,_=>rfl
  | 3,_=>rfl
  | 4,_=>rfl
  | 5,_=>rfl
  | 6,_=>rfl
  | 7,_=>rfl
  | 8,_=>rfl
  | 9,_=>rfl
 have e:((k:Int).tmod 10).toNat=k % 10:=rfl
 rw [e]
 exact h _ (Nat.mod_lt _ (by decide))
theorem tm_bd (k:Nat):0<=(k:Int).tmod 10∧(k:Int).tmod 10 < 10:=by
 have e:(k:Int).tmod 10=((k % 10:Nat):Int):=rfl
 rw [e]
 omega
theorem td_e (k:Nat):(k:Int).tdiv 10=((k / 10:Nat):Int):=rfl
theorem pb_bd {k i:Nat} (hk:k < 121) (hi:i<=k / 10):0<=p10 i * bsK k∧p10 i * bsK k<=79000000000000:=by
 have h1:=p10_bd i (by omega)
 have h2:10<=bsK k∧bsK k<=79:=base_bd _ (Nat.mod_lt _ (by decide))
 have h3:=mul_bd (show 0<=p10 i by omega) h1.2 (show 0<=bsK k by omega) h2.2
 omega
def la57 (k:Nat):LA:={
 pre:=[.keep [3,9,10] [],.bound 1],post:=[.keep [3,9,10] [],.bound 1]
 Gh:=Nat
 st:=fun i=>⟨[(3,.i (p10 i * bsK k)),(9,.i (k / 10:Nat)),(10,.i i)],[],1⟩
 ok:=fun i=>i<=k / 10
 ms:=fun i=>k / 10-i }
def rdK10 (k:Nat):List AV->Option AV:=fun _=>some (.i (bsK k))
def litI (n:Int):List AV->Option AV:=fun _=>some (.i n)
theorem c57 (k:Nat) (hk:k < 121):PCall Tryd.prog G0 57 [.i k] (.i (thr k)):=by
 have key :
  ¬(10:Int)=(0:Int)∧(0:Int)<=(k:Int).tmod (10:Int)∧(k:Int).tmod (10:Int) < (10:Int)∧nth (nthR [[AV.i 10],[AV.i 13],[AV.i 16],[AV.i 20],[AV.i 25],[AV.i 32],[AV.i 40],[AV.i 50],[AV.i 63],[AV.i 79]]
  ((k:Int).tmod (10:Int)).toNat) 0=AV.i (bsK k)∧¬(10:Int)=(0:Int)∧In64 ((k:Int).tdiv 10)∧AV.i ((k:Int).tdiv 10)=AV.i (↑(k / 10):Int)∧(∃ (g:Nat),g<=k / 10∧AS.mk [(3,AV.i (bsK k)),(9,AV.i (↑(k /
  10):Int)),(10,AV.i 0)] [] 1=AS.mk [(3,AV.i (p10 g * bsK k)),(9,AV.i (↑(k / 10):Int)),(10,AV.i (g:Int))] [] 1)∧∀ (g:Nat),g<=k / 10->(decide ((g:Int) < (↑(k / 10):Int))=true->In64 (p10 g * bsK k * 10) ∧
  In64 ((g:Int)+1)∧∃ (g':Nat),g'<=k / 10∧k / 10-g' < k / 10-g∧AS.mk [(3,AV.i (p10 g * bsK k * 10)),(9,AV.i (↑(k / 10):Int)),(10,AV.i ((g:Int)+1))] [] 1=AS.mk [(3,AV.i (p10 g' * bsK k)),(9,AV.i (↑(k
  / 10):Int)),(10,AV.i (↑g':Int))] [] 1)∧(decide ((g:Int) < (↑(k / 10):Int))=false->AV.i (p10 g * bsK k)=AV.i (thr k)):=by
   have ht:=tm_bd k
   have hte:=td_e k
   refine ⟨by decide,ht.1,ht.2,bs_at,by decide,by rw [hte];unfold In64;omega,congrArg AV.i hte,⟨0,Nat.zero_le _,by rw [show p10 0 * bsK k=bsK k from Int.one_mul _];rfl⟩,fun g hg=>⟨fun hd=>?_,fun hd=>?_⟩⟩
   · have hlt:g < k / 10:=by have:=of_decide_eq_true hd;omega
     have hb:=pb_bd hk hg
     refine ⟨by unfold In64;omega,by unfold In64;omega,g+1,by omega,by omega,?_⟩
     rw [show p10 (g+1) * bsK k=p10 g * bsK k * 10 by rw [p10,Int.mul_assoc,Int.mul_comm 10]]
     rfl
   · have hge:g=k / 10:=by have:=of_decide_eq_false hd;omega
     subst hge
     rfl
 exact c_of Tryd.f57 (mkB spY 57 [(1,3,rdK10 k),(2,1,litI (k / 10:Nat))] (la0 (la57 k))) (by kernel_rfl) (by kernel_rfl) (by kernel_rfl) (by kernel_rfl) key (by kernel_rfl)
def la27 (e:Int):LA:={
 pre:=[.keep [0,3] [],.bound 1],post:=[.keep [0,3] [],.bound 1]
 Gh:=Nat
 st:=fun i=>⟨[(0,.i e),(3,.i ((i:Int)-1))],[],1⟩
 ok:=fun i=>i<=121∧∀ j,j < i->thr j<=e
 ms:=fun i=>121-i }
theorem c27 (e:Int) :PCall Tryd.prog G0 27 [.i e] (.i (lvl e)):=by
 have key :
  (∃ (g:Nat),(g<=121∧∀ (j:Nat),j < g->thr j<=e)∧AS.mk [(0,AV.i e),(3,AV.i (-1))] [] 1=AS.mk [(0,AV.i e),(3,AV.i ((g:Int)-1))] [] 1)∧∀ (g:Nat),(g<=121∧∀ (j:Nat),j < g->thr j<=e)->(decide ((↑g :
  Int)-1 < 120)=true->decide ((g:Int)-1 < 120)=true)∧(decide ((g:Int)-1 < 120)=true->In64 ((g:Int)-1+1))∧(decide ((g:Int)-1 < 120)=true->decide ((g:Int)-1 < 120)=true)∧(decide ((↑g :
  Int)-1 < 120)=true->decide ((g:Int)-1 < 120)=true)∧(decide ((g:Int)-1 < 120)=true->decide ((g:Int)-1 < 120)=true)∧(decide ((g:Int)-1 < 120)=true->decide ((g:Int)-1 < 120)=true)∧impB
  (decide ((g:Int)-1 < 120)) (PCall Tryd.prog G0 57 [AV.i ((g:Int)-1+1)] (AV.i (thr ((g:Int)-1+1).toNat)))∧((if decide ((g:Int)-1 < 120)=true then decide (thr ((g:Int)-1+1).toNat<=e) else false) =
  true->In64 ((g:Int)-1+1)∧∃ (g':Nat),(g'<=121∧∀ (j:Nat),j < g'->thr j<=e)∧121-g' < 121-g∧AS.mk [(0,AV.i e),(3,AV.i ((g:Int)-1+1))] [] 1=AS.mk [(0,AV.i e),(3,AV.i ((↑g':Int)-1))] [] 1)
  ∧ ((if decide ((g:Int)-1 < 120)=true then decide (thr ((g:Int)-1+1).toNat<=e) else false)=false->AV.i ((g:Int)-1)=AV.i (lvl e)):=by
   refine ⟨⟨0,⟨by omega,by intros;omega⟩,rfl⟩,fun g ⟨hg,ha⟩=>⟨fun h=>h,fun _=>by unfold In64;omega,fun h=>h,fun h=>h,fun h=>h,fun h=>h,impB_iff.2 fun hb=>?_,fun h1=>?_,fun h1=>?_⟩⟩
   · have:=of_decide_eq_true hb
     rw [show ((g:Int)-1+1)=(g:Int) by omega,Int.toNat_natCast]
     exact c57 g (by omega)
   · have h2:(g:Int)-1 < 120:=by
      refine Classical.byContradiction fun h=>?_
      rw [if_neg (by rw [decide_eq_true_eq];exact h)] at h1
      cases h1
     rw [if_pos (decide_eq_true h2),show ((g:Int)-1+1).toNat=g by omega] at h1
     have h3:=of_decide_eq_true h1
     refine ⟨by unfold In64;omega,g+1,⟨by omega,all_ext ha h3⟩,by omega,?_⟩
     rw [show (((g+1:Nat):Int)-1)=(g:Int)-1+1 by omega]
   · refine congrArg AV.i (lvl_stop ha hg ?_).symm
     by_cases h2:(g:Int)-1 < 120
     · rw [if_pos (decide_eq_true h2),show ((g:Int)-1+1).toNat=g by omega] at h1
       have:=of_decide_eq_false h1
       exact .inr (by omega)
     · exact .inl (by omega)
 exact c_of Tryd.f27 (mkB spY 27 [] (la0 (la27 e))) (by kernel_rfl) (by kernel_rfl) (by kernel_rfl) (by kernel_rfl) key (by kernel_rfl)
theorem c28 (es:List Int) (hl:es.length<=1000000):PCall Tryd.prog G0 28 [.sl 1 (rInt es)] (.i (sFirst es)):=by
 have key :
  (∃ (g:Nat),(g<=es.length∧∀ (k:Nat),k < g->es.getD k (0:Int)=(0:Int))∧AS.mk [(0,AV.sl 1 (rInt es)),(5,AV.sl 1 (rInt es)),(6,AV.i (↑(rInt es).length:Int)),(7,AV.i 0)] [] 1=AS.mk [(0,AV.sl 1 (rInt es)),
  (5,AV.sl 1 (rInt es)),(6,AV.i (↑es.length:Int)),(7,AV.i (g:Int))] [] 1)∧∀ (g:Nat),(g<=es.length∧∀ (k:Nat),k < g->es.getD k (0:Int)=(0:Int))->(decide ((g:Int) < (↑es.length:Int))=true->(0:Int)
  ≤ (g:Int)∧(g:Int) < (↑(rInt es).length:Int)∧nth (nthR (rInt es) (g:Int).toNat) 0=AV.i (es.getD (g:Int).toNat (0:Int))∧((es.getD (g:Int).toNat (0:Int) != 0)=true->AV.i (es.getD (g:Int).toNat (0 :
  Int))=AV.i (sFirst es))∧((es.getD (g:Int).toNat (0:Int) != 0)=false->In64 ((g:Int)+1)∧∃ (g':Nat),(g'<=es.length∧∀ (k:Nat),k < g'->es.getD k (0:Int)=(0:Int))∧es.length-g' < es.length-g ∧
  AS.mk [(0,AV.sl 1 (rInt es)),(5,AV.sl 1 (rInt es)),(6,AV.i (↑es.length:Int)),(7,AV.i ((g:Int)+1))] [] 1=AS.mk [(0,AV.sl 1 (rInt es)),(5,AV.sl 1 (rInt es)),(6,AV.i (↑es.length:Int)),(7,AV.i (↑g':Int))] []
  1))∧(decide ((g:Int) < (↑es.length:Int))=false->AV.i 0=AV.i (sFirst es)):=by
   refine ⟨⟨0,⟨by omega,by intros;omega⟩,by simp [rInt_len]⟩,fun g ⟨h1,h2⟩=>⟨fun hd=>?_,fun hd=>?_⟩⟩
   · have hlt:g < es.length:=by simpa using hd
     refine ⟨by omega,by rw [rInt_len];omega,by simp [rInt_at hlt,nth],fun hne=>?_,fun hz=>⟨?_,g+1,⟨hlt,fun k hk=>?_⟩,by omega,rfl⟩⟩
     · rw [first_hit hlt h2 (by simpa using hne)];rfl
     · unfold In64;omega
     · by_cases e:k=g
       · subst e;simpa using hz
       · exact h2 k (by omega)
   · have hge:g=es.length:=by simp at hd;omega
     rw [first_end (hge ▸ h2)]
 exact c_of Tryd.f28 (mkB spY 28 [(3,1,rdI es)] (la0 (la87 es))) (by kernel_rfl) (by kernel_rfl) (by kernel_rfl) (by kernel_rfl) key (by kernel_rfl)
def la55 (l:List Int):LA:={
 pre:=[.own 5 42 1,.reno 5 1,.keep [1,5,8,9,10] [1],.bound 2],post:=[.reno 5 1,.keep [1,5,8,9,10] [1],.bound 2]
 Gh:=Nat
 st:=fun i=>⟨[(1,.fn (.func 26) [] []),(5,.own 1 (((l.take i).map fEn).map encI).length),(8,.sl 1 (l.map encI)),(9,.i (l.map encI).length),(10,.i i)],[(1,.buf 42 1 (((l.take i).map fEn).map encI))],2⟩
 ok:=fun i=>i<=(l.map encI).length
 ms:=fun i=>(l.map encI).length-i }
theorem c55 (l:List Int) (hl:l.length<=1024):PCall Tryd.prog G0 55 [.sl 1 (l.map encI),.fn (.func 26) [] []] (.fresh 42 1 ((l.map fEn).map encI)):=by
 have key :
  (∃ (g:Nat),g<=(List.map encI l).length∧AS.mk [(1,AV.fn (Fn.func 26) [] []),(5,AV.own 1 0),(8,AV.sl 1 (List.map encI l)),(9,AV.i (↑(List.map encI l).length:Int)),(10,AV.i 0)] [(1,ABlk.buf 42 1 [])] 2=AS.mk [(1,
  AV.fn (Fn.func 26) [] []),(5,AV.own 1 (List.map encI (List.map fEn (List.take g l))).length),(8,AV.sl 1 (List.map encI l)),(9,AV.i (↑(List.map encI l).length:Int)),(10,AV.i (g:Int))] [(1,ABlk.buf 42 1 (List.map encI
  (List.map fEn (List.take g l))))] 2)∧∀ (g:Nat),g<=(List.map encI l).length->(decide ((g:Int) < (↑(List.map encI l).length:Int))=true->(0:Int)<=(g:Int)∧(g:Int) < (↑(List.map encI l).length:Int)∧nth
  (nthR (List.map encI l) (g:Int).toNat) 0=AV.i (l.getD (g:Int).toNat default)∧(List.map encI (List.map fEn (List.take g l))).length+1<=9223372036854775807∧((List.map encI (List.map fEn (List.take g l))).length+1) *
  8<=140737488355328∧PCall Tryd.prog G0 26 [AV.i (l.getD (g:Int).toNat default)] (AV.i (fEn (l.getD (g:Int).toNat default)))∧In64 ((g:Int)+1)∧∃ (g':Nat),g'<=(List.map encI l).length∧(List.map encI l).length -
  g' < (List.map encI l).length-g∧AS.mk [(1,AV.fn (Fn.func 26) [] []),(5,AV.own 1 ((List.map encI (List.map fEn (List.take g l))).length+1)),(8,AV.sl 1 (List.map encI l)),(9,AV.i (↑(List.map encI l).length:Int)),(10,
  AV.i ((g:Int)+1))] [(1,ABlk.buf 42 1 (List.map encI (List.map fEn (List.take g l))++[[AV.i (fEn (l.getD (g:Int).toNat default))]]))] 2=AS.mk [(1,AV.fn (Fn.func 26) [] []),(5,AV.own 1 (List.map encI (List.map fEn
  (List.take g' l))).length),(8,AV.sl 1 (List.map encI l)),(9,AV.i (↑(List.map encI l).length:Int)),(10,AV.i (↑g':Int))] [(1,ABlk.buf 42 1 (List.map encI (List.map fEn (List.take g' l))))] 2)∧(decide ((g:Int) <
  (↑(List.map encI l).length:Int))=false->AV.fresh 42 1 (List.map encI (List.map fEn (List.take g l)))=AV.fresh 42 1 (List.map encI (List.map fEn l))):=by
   simp only [List.length_map]
   refine ⟨⟨0,by omega,rfl⟩,fun g hg=>⟨fun hd=>?_,fun hd=>?_⟩⟩
   · have hlt:=lt_of_dec hd
     simp only [Int.toNat_natCast]
     refine ⟨by omega,by omega,by rw [row_at _ hlt];rfl,by rw [List.length_take];omega,by rw [List.length_take];omega,c26 _,by unfold In64;omega,g+1,hlt,by omega,?_⟩
     have h2:=take_succ_map encI fEn hlt
     simp only [encI] at h2
     rw [show (l.take g).length+1=(l.take (g+1)).length by simp only [List.length_take];omega,h2]
     rfl
   · rw [ge_of_dec hd hg,List.take_length]
 exact c_of Tryd.f55 (mkB spY 55 [(4,1,rdOr [rdL 1 encI l 1 false])] (la0 (la55 l))) (by kernel_rfl) (by kernel_rfl) (by kernel_rfl) (by kernel_rfl) key (by kernel_rfl)
def sp24 (l:List Int):Nat->List AV->Option AV
 | 55,_=>some (.sl 1 ((l.map fEn).map encI))
 | 28,_=>some (.i (sFirst (l.map fEn)))
 | _,_=>none
theorem c24 (l:List Int) (hl:l.length<=1000000):PCall Tryd.prog G0 24 [.sl 1 (l.map encI)] (.i (chkE l)):=by
 have key :
  (decide ((↑(List.map encI l).length:Int) > 1024)=true->AV.i 5=AV.i (chkE l))∧(decide ((↑(List.map encI l).length:Int) > 1024)=false->PCall Tryd.prog G0 55 [AV.sl 1 (List.map encI l),AV.fn (Fn.func 26) [] []] (AV.sl 1
  (List.map encI (List.map fEn l)))∧PCall Tryd.prog G0 28 [AV.sl 1 (List.map encI (List.map fEn l))] (AV.i (sFirst (List.map fEn l)))∧AV.i (sFirst (List.map fEn l))=AV.i (chkE l)):=by
   rw [List.length_map]
   refine ⟨fun h=>?_,fun h=>?_⟩
   · rw [chkE,if_pos h]
   · have h2:=of_decide_eq_false h
     refine ⟨(c55 l (by omega)).un,c28 (l.map fEn) (by simp;omega),?_⟩
     rw [chkE,if_neg (by rw [h];decide)]
 exact c_of Tryd.f24 (mkB (sp24 l) 24 [] noLa) (by kernel_rfl) (by kernel_rfl) (by kernel_rfl) (by kernel_rfl) key (by kernel_rfl)
def laS (l:List Int):LA:={
 pre:=[.keep [3,6,7,8] [],.bound 1],post:=[.keep [3,6,7,8] [],.bound 1]
 Gh:=Nat
 st:=fun i=>⟨[(3,.i (sumW l i)),(6,.sl 1 (l.map encI)),(7,.i (l.map encI).length),(8,.i i)],[],1⟩
 ok:=fun i=>i<=(l.map encI).length
 ms:=fun i=>(l.map encI).length-i }
theorem c25 (l:List Int) (hl:l.length<=1000000):PCall Tryd.prog G0 25 [.sl 1 (l.map encI)] (.i (sumW l l.length)):=by
 have key :
  (∃ (g:Nat),g<=(List.map encI l).length∧AS.mk [(3,AV.i 0),(6,AV.sl 1 (List.map encI l)),(7,AV.i (↑(List.map encI l).length:Int)),(8,AV.i 0)] [] 1=AS.mk [(3,AV.i (sumW l g)),(6,AV.sl 1 (List.map encI l)),(7,AV.i
  (↑(List.map encI l).length:Int)),(8,AV.i (g:Int))] [] 1)∧∀ (g:Nat),g<=(List.map encI l).length->(decide ((g:Int) < (↑(List.map encI l).length:Int))=true->(0:Int)<=(g:Int)∧(g:Int) < (↑(List.map encI
  l).length:Int)∧nth (nthR (List.map encI l) (g:Int).toNat) 0=AV.i (l.getD (g:Int).toNat default)∧In64 ((g:Int)+1)∧∃ (g':Nat),g'<=(List.map encI l).length∧(List.map encI l).length-g' < (List.map encI
  l).length-g∧AS.mk [(3,AV.i (IntKind.i64.wrap (sumW l g+l.getD (g:Int).toNat default))),(6,AV.sl 1 (List.map encI l)),(7,AV.i (↑(List.map encI l).length:Int)),(8,AV.i ((g:Int)+1))] [] 1=AS.mk [(3,AV.i (sumW
  l g')),(6,AV.sl 1 (List.map encI l)),(7,AV.i (↑(List.map encI l).length:Int)),(8,AV.i (↑g':Int))] [] 1)∧(decide ((g:Int) < (↑(List.map encI l).length:Int))=false->AV.i (sumW l g)=AV.i (sumW l l.length)):=by
   simp only [List.length_map]
   refine ⟨⟨0,by omega,rfl⟩,fun g hg=>⟨fun hd=>?_,fun hd=>?_⟩⟩
   · have hlt:=lt_of_dec hd
     simp only [Int.toNat_natCast]
     exact ⟨by omega,by omega,by rw [row_at _ hlt];rfl,by unfold In64;omega,g+1,hlt,by omega,rfl⟩
   · rw [ge_of_dec hd hg]
 exact c_of Tryd.f25 (wrapAt 5 2 (mkB spY 25 [(4,1,rdOr [rdL 1 encI l 1 false])] (la0 (laS l)))) (by kernel_rfl) (by kernel_rfl) (by kernel_rfl) (by kernel_rfl) key (by kernel_rfl)
def sE (l:List Int):Int:=if chkE l != 0 then chkE l else if decide (sumW l l.length > 10000000000000) then 4 else 0
def sV (l:List Int):Int:=if chkE l != 0 then 0 else if decide (sumW l l.length > 10000000000000) then 0 else sumW l l.length
def sp10 (l:List Int):Nat->List AV->Option AV
 | 24,_=>some (.i (chkE l))
 | 25,_=>some (.i (sumW l l.length))
 | _,_=>none
theorem c10 (l:List Int) (hl:l.length<=1000000):PCall Tryd.prog G0 10 [.sl 1 (l.map encI)] (.tup [.i (sV l),.i (sE l)]):=by
 have key :
  PCall Tryd.prog G0 24 [AV.sl 1 (List.map encI l)] (AV.i (chkE l))∧((chkE l != 0)=true->AV.tup [AV.i 0,AV.i (chkE l)]=AV.tup [AV.i (sV l),AV.i (sE l)])∧((chkE l != 0)=false->PCall Tryd.prog G0 25 [AV.sl 1 (List.map
  encI l)] (AV.i (sumW l l.length))∧(decide (sumW l l.length > 10000000000000)=true->AV.tup [AV.i 0,AV.i 4]=AV.tup [AV.i (sV l),AV.i (sE l)])∧(decide (sumW l l.length > 10000000000000)=false->AV.tup [AV.i (sumW l
  l.length),AV.i 0]=AV.tup [AV.i (sV l),AV.i (sE l)])):=by
   refine ⟨c24 l hl,fun h=>?_,fun h=>?_⟩
   · rw [sV,sE,if_pos h,if_pos h]
   · have h':¬ (chkE l != 0)=true:=by rw [h];decide
     refine ⟨c25 l hl,fun h2=>?_,fun h2=>?_⟩
     · rw [sV,sE,if_neg h',if_neg h',if_pos h2,if_pos h2]
     · have h2':¬ decide (sumW l l.length > 10000000000000)=true:=by rw [h2];decide
       rw [sV,sE,if_neg h',if_neg h',if_neg h2',if_neg h2']
 exact c_of Tryd.f10 (mkB (sp10 l) 10 [] noLa) (by kernel_rfl) (by kernel_rfl) (by kernel_rfl) (by kernel_rfl) key (by kernel_rfl)
theorem ixI_none {l:List Int} {v:Int}:∀ m i,(∀ j,i<=j->j < i+m->l.getD j default ≠ v)->ixI l v m i = -1
 | 0,_,_=>rfl
 | m+1,i,h=>by
  simp only [ixI]
  rw [if_neg (h i (Nat.le_refl _) (by omega))]
  exact ixI_none m (i+1) fun j h1 h2=>h j (by omega) (by omega)
def la31i (l:List Int) (q:Int):LA:={
 pre:=[.keep [0,1,6,7,8] [],.bound 1],post:=[.keep [0,1,6,7,8] [],.bound 1]
 Gh:=Nat
 st:=fun i=>⟨[(0,.sl 1 (l.map encI)),(1,.i q),(6,.sl 1 (l.map encI)),(7,.i (l.map encI).length),(8,.i i)],[],1⟩
 ok:=fun i=>i<=(l.map encI).length∧∀ k,k < i->l.getD k default ≠ q
 ms:=fun i=>(l.map encI).length-i }
theorem c31 (l:List Int) (q:Int) (hl:l.length<=1000000):PCall Tryd.prog G0 31 [.sl 1 (l.map encI),.i q] (.i (ixI l q l.length 0)):=by
 have key :
  (∃ (g:Nat),(g<=(List.map encI l).length∧∀ (k:Nat),k < g->l.getD k default ≠ q)∧AS.mk [(0,AV.sl 1 (List.map encI l)),(1,AV.i q),(6,AV.sl 1 (List.map encI l)),(7,AV.i (↑(List.map encI l).length:Int)),(8,AV.i
  0)] [] 1=AS.mk [(0,AV.sl 1 (List.map encI l)),(1,AV.i q),(6,AV.sl 1 (List.map encI l)),(7,AV.i (↑(List.map encI l).length:Int)),(8,AV.i (g:Int))] [] 1)∧∀ (g:Nat),(g<=(List.map encI l).length∧∀ (k:Nat),k <
  g->l.getD k default ≠ q)->(decide ((g:Int) < (↑(List.map encI l).length:Int))=true->(0:Int)<=(g:Int)∧(g:Int) < (↑(List.map encI l).length:Int)∧nth (nthR (List.map encI l) (g:Int).toNat) 0=AV.i (l.getD
  (g:Int).toNat default)∧((q == l.getD (g:Int).toNat default)=true->AV.i (g:Int)=AV.i (ixI l q l.length 0))∧((q == l.getD (g:Int).toNat default)=false->In64 ((g:Int)+1)∧∃ (g':Nat),(g'<=(List.map
  encI l).length∧∀ (k:Nat),k < g'->l.getD k default ≠ q)∧(List.map encI l).length-g' < (List.map encI l).length-g∧AS.mk [(0,AV.sl 1 (List.map encI l)),(1,AV.i q),(6,AV.sl 1 (List.map encI l)),(7,AV.i (↑(List.map
  encI l).length:Int)),(8,AV.i ((g:Int)+1))] [] 1=AS.mk [(0,AV.sl 1 (List.map encI l)),(1,AV.i q),(6,AV.sl 1 (List.map encI l)),(7,AV.i (↑(List.map encI l).length:Int)),(8,AV.i (↑g':Int))] [] 1))∧(decide
  ((g:Int) < (↑(List.map encI l).length:Int))=false->AV.i (-1)=AV.i (ixI l q l.length 0)):=by
   simp only [List.length_map]
   refine ⟨⟨0,⟨by omega,by intros;omega⟩,rfl⟩,fun g ⟨hg,ha⟩=>⟨fun hd=>?_,fun hd=>?_⟩⟩
   · have hlt:=lt_of_dec hd
     simp only [Int.toNat_natCast]
     refine ⟨by omega,by omega,by rw [row_at _ hlt];rfl,fun he=>?_,fun hne=>⟨by unfold In64;omega,g+1,⟨hlt,all_ext ha ?_⟩,by omega,rfl⟩⟩
     · have e:q=l.getD g default:=by simpa using he
       exact congrArg AV.i (ixI_hit (k:=g) e.symm l.length 0 (by omega) (by omega) fun j _ hj=>ha j hj).symm
     · intro e
       rw [e] at hne
       simp at hne
   · have hge:=ge_of_dec hd hg
     refine congrArg AV.i (ixI_none l.length 0 fun j _ hj=>ha j (by omega)).symm
 exact c_of Tryd.f31 (mkB spY 31 [(4,4,rdOr [rdL 1 encI l 1 false])] (la0 (la31i l q))) (by kernel_rfl) (by kernel_rfl) (by kernel_rfl) (by kernel_rfl) key (by kernel_rfl)
def mxE (l:List Int):Int:=sFirst [chkE l,sWhen ((l.length:Int) == 0) 12]
def mxM (l:List Int):Int:=if mxE l != 0 then 0 else mxN l (l.length-1)
def mxI (l:List Int):Int:=if mxE l != 0 then 0 else ixI l (mxN l (l.length-1)) l.length 0
def sp12 (l:List Int):Nat->List AV->Option AV
 | 24,_=>some (.i (chkE l))
 | 28,[.sl _ rows]=>some (.i (sFirst (rows.map hdI)))
 | 30,_=>some (.i (mxN l (l.length-1)))
 | 31,_=>some (.i (ixI l (mxN l (l.length-1)) l.length 0))
 | n,x=>spY n x
theorem c12 (l:List Int) (hl:l.length<=1000):PCall Tryd.prog G0 12 [.sl 1 (l.map encI)] (.tup [.i (mxM l),.i (mxI l),.i (mxE l)]):=by
 have key :
  PCall Tryd.prog G0 24 [AV.sl 1 (List.map encI l)] (AV.i (chkE l))∧PCall Tryd.prog G0 29 [AV.bool ((↑(List.map encI l).length:Int) == 0),AV.i 12] (AV.i (sWhen ((↑(List.map encI l).length:Int) == 0) (12:Int)))∧PCall
  Tryd.prog G0 28 [AV.sl 1 [[AV.i (chkE l)],[AV.i (sWhen ((↑(List.map encI l).length:Int) == 0) (12:Int))]]] (AV.i (sFirst [hdI [AV.i (chkE l)],hdI [AV.i (sWhen ((↑(List.map encI l).length:Int) == 0) (12:Int))]])) ∧
  ((sFirst [hdI [AV.i (chkE l)],hdI [AV.i (sWhen ((↑(List.map encI l).length:Int) == 0) (12:Int))]] != 0)=true->AV.tup [AV.i 0,AV.i 0,AV.i (sFirst [hdI [AV.i (chkE l)],hdI [AV.i (sWhen ((↑(List.map encI l).length:Int) ==
  0) (12:Int))]])]=AV.tup [AV.i (mxM l),AV.i (mxI l),AV.i (mxE l)])∧((sFirst [hdI [AV.i (chkE l)],hdI [AV.i (sWhen ((↑(List.map encI l).length:Int) == 0) (12:Int))]] != 0)=false->PCall Tryd.prog G0 30 [AV.sl 1
  (List.map encI l)] (AV.i (mxN l (l.length-1)))∧PCall Tryd.prog G0 31 [AV.sl 1 (List.map encI l),AV.i (mxN l (l.length-1))] (AV.i (ixI l (mxN l (l.length-1)) l.length 0))∧AV.tup [AV.i (mxN l (l.length-1)),AV.i (ixI l
  (mxN l (l.length-1)) l.length 0),AV.i 0]=AV.tup [AV.i (mxM l),AV.i (mxI l),AV.i (mxE l)]):=by
   rw [List.length_map]
   refine ⟨c24 l (by omega),c29 _ _,c28 [_,_] (by simp),fun h=>?_,fun h=>?_⟩
   · have h:(mxE l != 0)=true:=h
     rw [mxM,mxI,if_pos h,if_pos h]
     rfl
   · have h:(mxE l != 0)=false:=h
     have h':¬ (mxE l != 0)=true:=by rw [h];decide
     have hz:=bne_f h
     have hy:=hz
     unfold mxE at hy
     rw [first_zero,first_zero] at hy
     have h1:=when_z (by decide) hy.2.1
     have h2:1<=l.length:=by
      have:¬ (l.length:Int)=0:=by simpa using h1
      omega
     refine ⟨c30 l h2 hl,c31 l _ (by omega),?_⟩
     rw [mxM,mxI,if_neg h',if_neg h',hz]
 exact c_of Tryd.f12 (mkB (sp12 l) 12 [] noLa) (by kernel_rfl) (by kernel_rfl) (by kernel_rfl) (by kernel_rfl) key (by kernel_rfl)
def sp11 (e:Int):Nat->List AV->Option AV
 | 26,_=>some (.i (fEn e))
 | 27,_=>some (.i (lvl e))
 | n,x=>spY n x
theorem c11 (e:Int) (he:fEn e=0):PCall Tryd.prog G0 11 [.i e] (.tup [.i (lvl e),.i 0]):=by
 have key :
  PCall Tryd.prog G0 26 [AV.i e] (AV.i (fEn e))∧((fEn e != 0)=true->AV.tup [AV.i 0,AV.i (fEn e)]=AV.tup [AV.i (lvl e),AV.i 0])∧((fEn e != 0)=false->PCall Tryd.prog G0 27 [AV.i e] (AV.i (lvl e))∧AV.tup [AV.i (lvl e),
  AV.i 0]=AV.tup [AV.i (lvl e),AV.i 0]):=by
   exact ⟨c26 e,fun h=>absurd he (bne_t h),fun _=>⟨c27 e,rfl⟩⟩
 exact c_of Tryd.f11 (mkB (sp11 e) 11 [] noLa) (by kernel_rfl) (by kernel_rfl) (by kernel_rfl) (by kernel_rfl) key (by kernel_rfl)
end Go.Proofs.YtnbhfmaamloodaaDoor
namespace Go.Proofs.YtnbhfmaamloodaaDoor
open Go Go.Av Go.RowKit
def la8 (t:Ty):LA:={
 pre:=[.reno 3 1,.reno 2 3,.ownb 1 12 67 2,.renc 1 12 2,.keep [2,3,22,23,24] [1,2,3],.bound 4],post:=[.renc 1 12 2,.keep [2,3,22,23,24] [1,2,3],.bound 4]
 Gh:=Nat
 st:=fun i=>⟨[(2,.ptr 3 0),(3,.ptr 1 0),(22,.sl 2 (t.st.map encSg)),(23,.i t.st.length),(24,.i i)],[(1,.box [.str t.name,.sl 1 (t.sh.map encI),.i t.d0,.i t.d1,.i t.d2,.i t.d3,.i t.d4,.i t.d5,.i t.d6,.i t.d7,.i t.side,.sl 1 (t.sq.map encI),.own 2 ((t.st.take i).map encSg).length]),(2,.buf 67 2 ((t.st.take i).map encSg)),(3,.box zeroTy)],4⟩
 ok:=fun i=>i<=t.st.length
 ms:=fun i=>t.st.length-i }
abbrev zc8a:=[AV.str [],AV.ex (Value.slice none 0 0),AV.i 0,AV.i 0,AV.i 0,AV.i 0,AV.i 0,AV.i 0,AV.i 0,AV.i 0,AV.i 0,AV.ex (Value.slice none 0 0),AV.ex (Value.slice none 0 0)]
theorem c8 (t:Ty) (hl:t.st.length<=1000) (h2:t.sh.length<=1000) (h3:t.sq.length<=1000) (h4:∀ s,s ∈ t.st->s.e.length<=1000):PCall Tryd.prog G0 8 [.agg (encTy t)] (.agg (encTy t)):=by
 have key :
  0+(List.map encI t.sh).length<=9223372036854775807∧(0+(List.map encI t.sh).length) * 8<=140737488355328∧0+(List.map encI t.sq).length<=9223372036854775807∧(0+(List.map encI t.sq).length) * 8<=140737488355328∧(∃
  (g:Nat),g<=t.st.length∧AS.mk [(2,AV.ptr 3 0),(3,AV.ptr 1 0),(22,AV.sl 2 (List.map encSg t.st)),(23,AV.i (↑(List.map encSg t.st).length:Int)),(24,AV.i 0)] [(1,ABlk.box [AV.str t.name,AV.sl 1 ([]++List.map encI
  t.sh),AV.i t.d0,AV.i t.d1,AV.i t.d2,AV.i t.d3,AV.i t.d4,AV.i t.d5,AV.i t.d6,AV.i t.d7,AV.i t.side,AV.sl 1 ([]++List.map encI t.sq),AV.own 2 0]),(2,ABlk.buf 67 2 []),(3,ABlk.box zc8a)] 4=AS.mk [(2,AV.ptr 3 0),
  (3,AV.ptr 1 0),(22,AV.sl 2 (List.map encSg t.st)),(23,AV.i (↑t.st.length:Int)),(24,AV.i (g:Int))] [(1,ABlk.box [AV.str t.name,AV.sl 1 (List.map encI t.sh),AV.i t.d0,AV.i t.d1,AV.i t.d2,AV.i t.d3,AV.i t.d4,AV.i
  t.d5,AV.i t.d6,AV.i t.d7,AV.i t.side,AV.sl 1 (List.map encI t.sq),AV.own 2 (List.map encSg (List.take g t.st)).length]),(2,ABlk.buf 67 2 (List.map encSg (List.take g t.st))),(3,ABlk.box zc8a)] 4)∧∀ (g:Nat),g ≤
  t.st.length->(decide ((g:Int) < (↑t.st.length:Int))=true->(0:Int)<=(g:Int)∧(g:Int) < (↑(List.map encSg t.st).length:Int)∧AV.agg (nthR (List.map encSg t.st) (g:Int).toNat)=AV.agg [AV.i (t.st.getD (↑g :
  Int).toNat default).p,AV.sl 1 (List.map encI (t.st.getD (g:Int).toNat default).e)]∧0+(List.map encI (t.st.getD (g:Int).toNat default).e).length<=9223372036854775807∧(0+(List.map encI (t.st.getD (g:Int).toNat
  default).e).length) * 8<=140737488355328∧(List.map encSg (List.take g t.st)).length+1<=9223372036854775807∧((List.map encSg (List.take g t.st)).length+1) * 32<=140737488355328∧In64 ((g:Int)+1)∧∃ (g':Nat),g' ≤
  t.st.length∧t.st.length-g' < t.st.length-g∧AS.mk [(2,AV.ptr 3 0),(3,AV.ptr 1 0),(22,AV.sl 2 (List.map encSg t.st)),(23,AV.i (↑t.st.length:Int)),(24,AV.i ((g:Int)+1))] [(1,ABlk.box [AV.str t.name,AV.sl 1
  (List.map encI t.sh),AV.i t.d0,AV.i t.d1,AV.i t.d2,AV.i t.d3,AV.i t.d4,AV.i t.d5,AV.i t.d6,AV.i t.d7,AV.i t.side,AV.sl 1 (List.map encI t.sq),AV.own 2 ((List.map encSg (List.take g t.st)).length+1)]),(2,ABlk.buf 67 2
  (List.map encSg (List.take g t.st)++[[AV.i (t.st.getD (g:Int).toNat default).p,AV.sl 1 ([]++List.map encI (t.st.getD (g:Int).toNat default).e)]])),(3,ABlk.box zc8a)] 4=AS.mk [(2,AV.ptr 3 0),(3,AV.ptr 1 0),(22,
  AV.sl 2 (List.map encSg t.st)),(23,AV.i (↑t.st.length:Int)),(24,AV.i (↑g':Int))] [(1,ABlk.box [AV.str t.name,AV.sl 1 (List.map encI t.sh),AV.i t.d0,AV.i t.d1,AV.i t.d2,AV.i t.d3,AV.i t.d4,AV.i t.d5,AV.i t.d6,AV.i
  t.d7,AV.i t.side,AV.sl 1 (List.map encI t.sq),AV.own 2 (List.map encSg (List.take g' t.st)).length]),(2,ABlk.buf 67 2 (List.map encSg (List.take g' t.st))),(3,ABlk.box zc8a)] 4)∧(decide ((g:Int) < (↑t.st.length:Int))
  = false->AV.agg [AV.str t.name,AV.sl 1 (List.map encI t.sh),AV.i t.d0,AV.i t.d1,AV.i t.d2,AV.i t.d3,AV.i t.d4,AV.i t.d5,AV.i t.d6,AV.i t.d7,AV.i t.side,AV.sl 1 (List.map encI t.sq),AV.sl 2 (List.map encSg (List.take g
  t.st))]=AV.agg (encTy t)):=by
   delta zc8a
   simp only [List.length_map]
   refine ⟨by omega,by omega,by omega,by omega,⟨0,by omega,rfl⟩,fun g hg=>⟨fun hd=>?_,fun hd=>?_⟩⟩
   · have hlt:=lt_of_dec hd
     have hmem:t.st.getD g default ∈ t.st:=by
      rw [List.getD_eq_getElem?_getD,List.getElem?_eq_getElem hlt]
      exact List.getElem_mem _
     have h5:=h4 _ hmem
     simp only [Int.toNat_natCast]
     refine ⟨by omega,by omega,by rw [row_at encSg hlt];rfl,by omega,by omega,by rw [List.length_take];omega,by rw [List.length_take];omega,by unfold In64;omega,g+1,hlt,by omega,?_⟩
     have h6:=take_succ encSg hlt
     simp only [encSg] at h6
     rw [show (t.st.take g).length+1=(t.st.take (g+1)).length by simp only [List.length_take];omega]
     simp only [List.nil_append,encSg]
     rw [h6]
     rfl
   · rw [ge_of_dec hd hg,List.take_length]
     rfl
 exact c_of Tryd.f8 ({ modA 5 10 (fun a=>{ a with fz:=false }) (mkB spR 8 [(4,1,rdL 2 encSg t.st 2 true)] (la0 (la8 t))) with bx:=fun i=>if i.beq 0 then [.frzc 1 12] else [] }) (by kernel_rfl) (by kernel_rfl) (by kernel_rfl) (by kernel_rfl) key (by kernel_rfl)
def g2 (t:Ty) (l:List Fx):Bool:=if sShort t=true then decide ((l.length:Int)<=6) else false
def g3 (t:Ty) (l:List Fx):Bool:=if g2 t l=true then sTyR t == 0 else false
def g4 (t:Ty) (l:List Fx):Bool:=if g3 t l=true then sTrackR l == 0 else false
def g5 (t:Ty) (l:List Fx) (x y z:Int):Bool:=if g4 t l=true then sPlace x y z == 0 else false
def g6 (t:Ty) (l:List Fx) (x y z n:Int):Bool:=if g5 t l x y z=true then decide (lastT l-firstT l<=n) else false
def sp4b (t:Ty) (l:List Fx) (x y z:Int):Nat->List AV->Option AV
 | 15,_=>some (.bool (sShort t))
 | 16,_=>some (.i (sTyR t))
 | 17,_=>some (.i (sTrackR l))
 | 18,_=>some (.i (sPlace x y z))
 | n,w=>spR n w
def litB (b:Bool):List AV->Option AV:=fun _=>some (.bool b)
abbrev zc4ba (t:Ty) (l:List Fx) (x:Int) (y:Int) (z:Int):=g5 t l x y z=true->g5 t l x y z=true
theorem c4b (t:Ty) (l:List Fx) (x y z n:Int) (hl:t.st.length<=9223372036854775807) (hm:l.length<=9223372036854775807):PCall Tryd.prog G0 4 [.agg (encTy t),.sl 5 (l.map encFx),.agg [.i x,.i y,.i z],.i n] (.bool (g6 t l x y z n)):=by
 have key :
  (sShort t=true->sShort t=true)∧(sShort t=true->sShort t=true)∧(sShort t=true->sShort t=true)∧(g2 t l=true->g2 t l=true)∧(g2 t l=true->g2 t l=true)∧(g2 t l=true->g2 t l=true)∧(g3 t l=true
  → g3 t l=true)∧(g3 t l=true->g3 t l=true)∧(g3 t l=true->g3 t l=true)∧(g4 t l=true->g4 t l=true)∧(g4 t l=true->g4 t l=true)∧(g4 t l=true->g4 t l=true)∧(zc4ba t l x y z)∧(zc4ba t l x y z) ∧
  (g5 t l x y z=true->In64 ((↑(List.map encFx l).length:Int)-1))∧(zc4ba t l x y z)∧(zc4ba t l x y z)∧(g5 t l x y z=true->(0:Int)<=(↑(List.map encFx l).length:Int)-1)∧(g5 t l x y z=true->(↑(List.map encFx
  l).length:Int)-1 < (↑(List.map encFx l).length:Int))∧(zc4ba t l x y z)∧(zc4ba t l x y z)∧(zc4ba t l x y z)∧(g5 t l x y z=true->(0:Int)<=0)∧(g5 t l x y z=true->(0:Int) < (↑(List.map encFx l).length:Int))
  ∧ (zc4ba t l x y z)∧(zc4ba t l x y z)∧(zc4ba t l x y z)∧(zc4ba t l x y z)∧(g5 t l x y z=true->In64 (lastT l-firstT l))∧(zc4ba t l x y z)∧(zc4ba t l x y z)∧(zc4ba t l x y z)∧PCall Tryd.prog G0 15 [AV.agg (encTy
  t)] (AV.bool (sShort t))∧AV.bool (if sShort t=true then decide ((↑(List.map encFx l).length:Int)<=6) else false)=AV.bool (g2 t l)∧impB (g2 t l) (PCall Tryd.prog G0 16 [AV.agg (encTy t)] (AV.i (sTyR t)))∧AV.bool (if g2
  t l=true then sTyR t == 0 else false)=AV.bool (g3 t l)∧impB (g3 t l) (PCall Tryd.prog G0 17 [AV.sl 5 (List.map encFx l)] (AV.i (sTrackR l)))∧AV.bool (if g3 t l=true then sTrackR l == 0 else false)=AV.bool (g4 t l) ∧
  impB (g4 t l) (PCall Tryd.prog G0 18 [AV.agg [AV.i x,AV.i y,AV.i z]] (AV.i (sPlace x y z)))∧AV.bool (if g4 t l=true then sPlace x y z == 0 else false)=AV.bool (g5 t l x y z)∧impB (g5 t l x y z) (nth (nthR (List.map encFx
  l) ((↑(List.map encFx l).length:Int)-1).toNat) 0=AV.i (lastT l))∧impB (g5 t l x y z) (nth (nthR (List.map encFx l) 0) 0=AV.i (firstT l))∧AV.bool (if g5 t l x y z=true then decide (lastT l-firstT l<=n) else false) =
  AV.bool (g6 t l x y z n)∧AV.bool (g6 t l x y z n)=AV.bool (g6 t l x y z n):=by
   delta zc4ba
   have hlm:(List.map encFx l).length=l.length:=List.length_map _
   rw [hlm]
   have i2:g2 t l=true->ShortTy t∧l.length<=6:=fun h=>by
    unfold g2 at h
    by_cases e:sShort t=true
    · rw [if_pos e] at h
      have:=of_decide_eq_true h
      exact ⟨short_of e,by omega⟩
    · rw [if_neg e] at h
      cases h
   have i3:g3 t l=true->g2 t l=true:=fun h=>by
    unfold g3 at h
    by_cases e:g2 t l=true
    · exact e
    · rw [if_neg e] at h
      cases h
   have i4:g4 t l=true->g3 t l=true:=fun h=>by
    unfold g4 at h
    by_cases e:g3 t l=true
    · exact e
    · rw [if_neg e] at h
      cases h
   have j4:g4 t l=true->sTrackR l=0:=fun h=>by
    have h':=h
    unfold g4 at h'
    rw [if_pos (i4 h)] at h'
    simpa using h'
   have i5:g5 t l x y z=true->g4 t l=true:=fun h=>by
    unfold g5 at h
    by_cases e:g4 t l=true
    · exact e
    · rw [if_neg e] at h
      cases h
   have k5:g5 t l x y z=true->TrackOK l:=fun h=>(track_ok (j4 (i5 h))).1
   have m5:g5 t l x y z=true->2<=l.length∧l.length<=6:=fun h=>⟨(k5 h).n1,(i2 (i3 (i4 (i5 h)))).2⟩
   have e1:2<=l.length->((l.length:Int)-1).toNat=l.length-1:=fun h=>by omega
   refine ⟨fun h=>h,fun h=>h,fun h=>h,fun h=>h,fun h=>h,fun h=>h,fun h=>h,fun h=>h,fun h=>h,fun h=>h,fun h=>h,fun h=>h,fun h=>h,fun h=>h,fun h=>?_,fun h=>h,fun h=>h,fun h=>?_,fun h=>?_,fun h=>h,fun h=>h,fun h=>h,fun _=>Int.le_refl _,fun h=>?_,fun h=>h,fun h=>h,fun h=>h,fun h=>h,fun h=>?_,fun h=>h,fun h=>h,fun h=>h,c15 t hl,rfl,impB_iff.2 fun h=>c16t (i2 h).1,rfl,impB_iff.2 fun h=>c17 l (by have:=(i2 (i3 h)).2;omega),rfl,impB_iff.2 fun _=>c18 x y z,rfl,impB_iff.2 fun h=>?_,impB_iff.2 fun h=>?_,rfl,rfl⟩
   · have:=m5 h
     unfold In64
     omega
   · have:=m5 h
     omega
   · omega
   · have:=m5 h
     omega
   · have a:=((k5 h).b 0 (by have:=m5 h;omega)).1
     have b:=((k5 h).b (l.length-1) (by have:=m5 h;omega)).1
     unfold In64 lastT firstT
     omega
   · have:=m5 h
     rw [e1 this.1,row_at encFx (by omega)]
     rfl
   · have:=m5 h
     rw [row_at encFx (by omega)]
     rfl
 exact c_of Tryd.f4 (fzB (mkB (sp4b t l x y z) 4 [(1,6,litB (g2 t l)),(1,11,litB (g3 t l)),(1,16,litB (g4 t l)),(1,21,litB (g5 t l x y z)),(1,29,litI (lastT l)),(1,33,litI (firstT l)),(1,37,litB (g6 t l x y z n))] noLa)) (by kernel_rfl) (by kernel_rfl) (by kernel_rfl) (by kernel_rfl) key (by kernel_rfl)
end Go.Proofs.YtnbhfmaamloodaaDoor
