/-
  What the source's bands return. Plain laws of types: sectors of turned directions, what lies between two settings, emissions that grow and fall, bands that add up. What is asked of a type; what the source returns of it. No condition but the theorems' own.
-/
import Derived.Test.YthkngjifljcocaaGreatDoorPB
import Derived.Test.YthkngjifljcocaaGreatDoorAvD
import Derived.Test.YthkngjifljcocaaGreatDoorPA
namespace Go.Proofs.YthkngjifljcocaaGreatDoor
open Go Go.Av Go.RowKit
def gsB(g:Nat->List GS)(B:BA):BA:={ B with gs:=fun i=>B.gs i++g i }
theorem Jfd{n d:Int}(hd:0 < d):Qb n d=n / d:=by
 have e1:=Int.mul_tdiv_add_tmod n d
 have e2:=Int.tmod_lt_of_pos n hd
 have e3 : -d < n.tmod d:=by
  have:=Int.lt_tmod_of_pos n hd
  omega
 have key:∀ q:Int,q * d<=n->n < (q+1) * d->q=n / d:=fun q h1 h2=>by
  have h3:=(Int.le_ediv_iff_mul_le hd).2 h1
  have h4:=(Int.ediv_lt_iff_lt_mul hd).2 h2
  omega
 have e4:d * n.tdiv d=n.tdiv d * d:=Int.mul_comm _ _
 unfold Qb
 split
 . rename_i h
   refine key _ ?_ ?_
   . rw[Int.sub_mul,Int.one_mul]
     omega
   rw[Int.sub_add_cancel]
   exact h
 rename_i h
 have h5:0<=n.tmod d:=by omega
 refine key _ (by omega) ?_
 rw[Int.add_mul,Int.one_mul]
 omega
theorem Jl5{a b p w:Int}(hw:0 < w):Jo a b p w=(a * (w-p)+b * p) / w:=by
 unfold Jo
 rw[Jfd hw]
 have e:a * (w-p)+b * p=(b-a) * p+a * w:=by
  rw[Int.mul_sub,Int.sub_mul]
  omega
 rw[e,Int.add_mul_ediv_right _ _ (by omega)]
 omega
theorem Jfm{a b a' b' p w:Int}(hw:0 < w)(h0:0<=p)(h1:p<=w)(ha:a<=a')(hb:b<=b'):Jo a b p w<=Jo a' b' p w:=by
 rw[Jl5 hw,Jl5 hw]
 refine Int.ediv_le_ediv hw ?_
 have e1:=Int.mul_le_mul_of_nonneg_right ha (show 0<=w-p by omega)
 have e2:=Int.mul_le_mul_of_nonneg_right hb h0
 omega
theorem Jfl{a p w:Int}(hw:0 < w):Jo a a p w=a:=by
 unfold Jo
 rw[Jfd hw,Int.sub_self,Int.zero_mul,Int.zero_ediv]
 omega
theorem Jc6{a b x p w:Int}(hw:0 < w)(h0:0<=p)(h1:p<=w)(ha:x<=a)(hb:x<=b):x<=Jo a b p w:=by
 have:=Jfm hw h0 h1 ha hb
 rwa [Jfl hw]at this
theorem Jfn{a b x p w:Int}(hw:0 < w)(h0:0<=p)(h1:p<=w)(ha:a<=x)(hb:b<=x):Jo a b p w<=x:=by
 have:=Jfm hw h0 h1 ha hb
 rwa [Jfl hw]at this
def val(E P:Nat->Int)(n g:Nat)(p:Int):Int :=
 if g=n then E (n-1)else if g=0 ∨ P g=p then E g else Jo (E (g-1)) (E g) (p-P (g-1)) (P g-P (g-1))
structure Gat(P:Nat->Int)(n g:Nat)(p:Int):Prop where
 le:g<=n
 below:∀ j,j < g->P j < p
 at_:g < n->p<=P g
theorem Jn3{P:Nat->Int}{n g:Nat}{p:Int}(h:Gat P n g p)(h1:¬ g=n)(h2:¬ (g=0 ∨ P g=p)):0 < P g-P (g-1)/\0<=p-P (g-1)/\p-P (g-1)<=P g-P (g-1):=by
 have a1:=h.at_ (by have:=h.le;omega)
 have a2:=h.below (g-1) (by omega)
 omega
theorem val_nn{E P:Nat->Int}{n g:Nat}{p x:Int}(hn:1<=n)(h:Gat P n g p)(hE:∀ i,i < n->x<=E i):x<=val E P n g p:=by
 unfold val
 split
 . exact hE _ (by omega)
 rename_i h1
 have:=h.le
 split
 . exact hE _ (by omega)
 rename_i h2
 have:=Jn3 h h1 h2
 exact Jc6 (by omega) (by omega) (by omega) (hE _ (by omega)) (hE _ (by omega))
structure UpTy(t:Ty):Prop where
 u:∀ i k,i+1 < t.st.length->k < t.sq.length->eAt (t.sg i).e k<=eAt (t.sg (i+1)).e k
 d:∀ i k,i < t.st.length->k+1 < t.sq.length->eAt (t.sg i).e (k+1)<=eAt (t.sg i).e k
def enF(t:Ty)(d:Int)(i:Nat):Int:=eAt (t.sg i).e (Q2 t.sq d t.sq.length)
def pwF(t:Ty)(i:Nat):Int:=(t.sg i).p
theorem Jof(t:Ty)(p d:Int):emi t p d=val (enF t d) (pwF t) t.st.length (geN t p t.st.length) p:=rfl
theorem gat(t:Ty)(p:Int):Gat (pwF t) t.st.length (geN t p t.st.length) p:=⟨JcT _,Vf _,Jim _⟩
theorem emi_nn{t:Ty}{p d:Int}(h:Xr t=0):0<=emi t p d:=by
 have hO:=Jkg h
 rw[Jof]
 exact val_nn hO.n1 (gat t p) fun i hi=>(hO.eb i _ hi (WA hO.q1)).1
def rEmi(t:Ty)(p d:Int):Int:=if Wc t p d != 0 then 0 else emi t p d
structure Ask where
 p:Int
 d:Int
 x:Int
 y:Int
 z:Int
 a:Int
 b:Int
 q:Int
 x2:Int
 y2:Int
 z2:Int
 u:Int
 v:Int
 e:Int
def encAsk(k:Ask):List AV:=[.i k.p,.i k.d,.i k.x,.i k.y,.i k.z,.i k.a,.i k.b,.i k.q,.i k.x2,.i k.y2,.i k.z2,.i k.u,.i k.v,.i k.e]
theorem Jm2(c e:Int):(if(c != 0)=true then[AV.i 0,AV.i c]else[AV.i e,AV.i 0])=[AV.i (if(c != 0)=true then 0 else e),AV.i c]:=by
 by_cases h:c=0
 . subst h;rfl
 have h':(c != 0)=true:=by simpa using h
 rw[if_pos h',if_pos h']
structure ShortTy(t:Ty):Prop where
 n:t.name.length<=40
 s:t.sh.length<=9
 q:t.sq.length<=9
 st:t.st.length<=7
 e:∀ x,x ∈ t.st->x.e.length<=9
theorem JjR{t:Ty}(h:J6 t=true):ShortTy t:=by
 unfold J6 at h
 simp only[Kd,List.all_eq_true,Ko]at h
 exact⟨h.2.1,h.2.2.1,h.2.2.2.1,h.2.2.2.2,h.1⟩
def rdT:List AV->Option AV:=fun _=>some (.bool true)
def JnH(r:Nat)(B:BA):BA:={ B with ra:=fun i=>if i.beq r then { B.ra i with ans:=(B.ra i).ans.map fun a=>{ a with sym:=false } }else B.ra i }
def b6(t:Ty)(k:Ask):List (Nat × AV):=[(2,.elt 13 [Jd t] 0 0),(3,.elt 14 [encAsk k] 0 0),(4,.bool false)]
theorem c20t{t:Ty}(h:ShortTy t)(p d:Int):P0 20 [.agg (Jd t),.i p,.i d] (.tup [.i (rEmi t p d),.i (Wc t p d)]):=by
 have h:=c20 t p d (by have:=h.st;omega) (by have:=h.s;omega) (by have:=h.q;omega) (fun x hx=>by have:=h.e x hx;omega) (by have:=h.n;omega)
 rw[JaS,Jm2]at h
 exact h
theorem c52t{t:Ty}(h:ShortTy t):P0 52 [.agg (Jd t)] (.i (JeN t)):=c52 t (by have:=h.st;omega) (by have:=h.s;omega) (by have:=h.q;omega) (fun x hx=>by have:=h.e x hx;omega) (by have:=h.n;omega)
def rdF:List AV->Option AV:=fun _=>some (.bool false)
def md(g:List GS)(l:List (Nat × AV)):Option (List GS × AS):=some (g++[.keep (l.map (·.1)) [],.bound 1],⟨l,[],1⟩)
def cJ(rows:List (List AV))(i j:Nat):Int:=match nth (Ji rows i) j with
 | .int _ n=>n
 | _=>0
def rdC:List AV->Option AV
 | [.elt _ rows i j]=>some (.i (cJ rows i j))
 | _=>none
theorem c50(l:List Fx) :P0 50 [.sl 5 (l.map Jg)] (.bool (decide (l.length<=17))):=by
 have key :
  AV.bool (decide (((List.map Jg l).length:Int)<=17))=AV.bool (decide (l.length<=17)):=by
   rw[Kb]
   exact congrArg AV.bool (decide_eq_decide.2 (by omega))
 exact Jw Tryz.f50 (mkB spR 50 [] J1) key (by kernel_rfl)
theorem c78(l:List Fx)(h:1<=l.length)(hl:l.length<=1000):P0 78 [.sl 5 (l.map Jg)] (.agg [.i (l.getD 0 default).t,.i (l.getD (l.length-1) default).t]):=by
 have key :
  (0:Int)<=0/\(0:Int) < ((List.map Jg l).length:Int)/\Jc (((List.map Jg l).length:Int)-1)/\(0:Int)<=((List.map Jg l).length:Int)-1/\((List.map Jg l).length:Int)-1 < ((List.map Jg
  l).length:Int)/\nth (Ji (List.map Jg l) 0) 0=AV.i (cJ (List.map Jg l) 0 0)/\nth (Ji (List.map Jg l) (((List.map Jg l).length:Int)-1).toNat) 0=AV.i (cJ (List.map Jg l) ((↑(List.map Jg l).length :
  Int)-1).toNat 0)/\AV.agg [AV.i (cJ (List.map Jg l) 0 0),AV.i (cJ (List.map Jg l) (((List.map Jg l).length:Int)-1).toNat 0)]=AV.agg [AV.i (l.getD 0 default).t,AV.i (l.getD (l.length-1) default).t]:=by
   have hlm:(List.map Jg l).length=l.length:=Kb _
   have e1:(((List.map Jg l).length:Int)-1).toNat=l.length-1:=by omega
   have e2:Ji (List.map Jg l) 0=Jg (l.getD 0 default):=Jl Jg (by omega)
   have e3:Ji (List.map Jg l) (l.length-1)=Jg (l.getD (l.length-1) default):=Jl Jg (by omega)
   rw[e1]
   unfold cJ
   rw[e2,e3]
   exact⟨by omega,by omega,by unfold Jc;omega,by omega,by omega,rfl,rfl,rfl⟩
 exact Jw Tryz.f78 (mkB spR 78 [(1,3,rdC),(1,10,rdC)] J1) key (by kernel_rfl)
def atI(l:List Fx)(tk:Int):Nat->Nat
 | 0=>0
 | m+1=>if(l.getD m default).t<=tk then m else atI l tk m
theorem Jfp{l:List Fx}{tk:Int}:∀ {m:Nat},1<=m->atI l tk m < m
 | 0,h=>absurd h (by omega)
 | m+1,_=>by
  simp only[atI]
  split
  . omega
  by_cases e:m=0
  . subst e;exact Nat.zero_lt_one
  have:=Jfp (l:=l) (tk:=tk) (m:=m) (by omega)
  omega
structure TrackOK(l:List Fx):Prop where
 n1:2<=l.length
 n2:l.length<=16
 b:∀ i,i < l.length->(0<=(l.getD i default).t/\(l.getD i default).t<=100000000)/\(-100000<=(l.getD i default).x/\(l.getD i default).x<=100000)/\(-100000<=(l.getD i default).y/\(l.getD i default).y<=100000)/\(0<=(l.getD i default).z/\(l.getD i default).z<=20000)/\1<=(l.getD i default).p/\(l.getD i default).p<=100
 up:∀ i,i+1 < l.length->(l.getD i default).t < (l.getD (i+1) default).t
def atA(l:List Fx)(tk:Int):Fx:=l.getD (atI l tk (l.length-1)) default
def atB(l:List Fx)(tk:Int):Fx:=l.getD (atI l tk (l.length-1)+1) default
def atV(a b:Fx)(tk:Int):List AV:=[.i (Jo a.x b.x (tk-a.t) (b.t-a.t)),.i (Jo a.y b.y (tk-a.t) (b.t-a.t)),.i (Jo a.z b.z (tk-a.t) (b.t-a.t)),.i (b.x-a.x),.i (b.y-a.y),.i (Jo a.p b.p (tk-a.t) (b.t-a.t))]
def sp126:Nat->List AV->Option AV
 | 96,[.int _ a,.int _ b,.int _ p,.int _ w]=>some (.i (Jo a b p w))
 | 1097,[.int _ a,.int _ b,.int _ p,.int _ w]=>some (.i (Jo a b p w))
 | n,x=>spR n x
def la126(l:List Fx)(tk:Int):LA:={
 pre:=[.keep [0,1,4,5,17,18,19] [1],.bound 2],post:=[.keep [0,1,4,5,17,18,19] [1],.bound 2]
 Gh:=Nat
 st:=fun i=>⟨[(0,.sl 5 (l.map Jg)),(1,.i tk),(4,.ptr 1 0),(5,.i (atI l tk i)),(17,.sl 5 ((l.map Jg).take (l.length-1))),(18,.i ((l.length:Int)-1)),(19,.i i)],[(1,.box [.i 0,.i 0,.i 0,.i 0,.i 0,.i 0])],2⟩
 ok:=fun i=>i+1<=l.length
 ms:=fun i=>l.length-i }
abbrev JgV(l:List Fx)(tk:Int)(g:Nat):=(↑(atI l tk g):Int)
abbrev WB(l:List Fx)(tk:Int)(g:Nat):=l.getD (JgV l tk g).toNat default
abbrev Jaz(l:List Fx)(tk:Int)(g:Nat):=l.getD ((JgV l tk g)+1).toNat default
abbrev Jpf:=[(1,ABlk.box [AV.i 0,AV.i 0,AV.i 0,AV.i 0,AV.i 0,AV.i 0])]
abbrev JfB(l:List Fx)(tk:Int)(g:Nat):=(Jaz l tk g).t-(WB l tk g).t
abbrev Jjc(l:List Fx):=List.map Jg l
abbrev Jpe(l:List Fx):=List.take (l.length-1) (Jjc l)
abbrev Jpd(l:List Fx):=(l.length:Int)
abbrev Z23f(l:List Fx)(tk:Int)(g':Nat):=[(0,AV.sl 5 (Jjc l)),(1,AV.i tk),(4,AV.ptr 1 0),(5,AV.i (↑(atI l tk g'):Int)),(17,AV.sl 5 (Jpe l)),(18,AV.i ((Jpd l)-1)),(19,AV.i (g':Int))]
abbrev JmG(l:List Fx)(g:Nat):=l.getD (g:Int).toNat default
abbrev JmF(l:List Fx):=((Jjc l).length:Int)
abbrev JfA(tk:Int)(l:List Fx)(g:Nat):=tk-(WB l tk g).t
abbrev Z23l(l:List Fx):=List.take ((JmF l)-1-0).toNat (List.drop 0 (Jjc l))
theorem c125(l:List Fx)(tk:Int)(h:TrackOK l)(htk : -1000<=tk/\tk<=200000000):P0 125 [.sl 5 (l.map Jg),.i tk] (.agg (atV (atA l tk) (atB l tk) tk)):=by
 have key :
  Jc ((JmF l)-1)/\(0:Int)<=0/\(0:Int)<=(JmF l)-1/\(JmF l)-1<=(JmF l)/\(∃ (g:Nat),g+1<=l.length/\AS.mk [(0,AV.sl 5 (Jjc l)),(1,AV.i tk),(4,AV.ptr 1 0),(5,AV.i 0),(17,AV.sl 5 (Z23l l)),(18,AV.i
  ((Z23l l).length:Int)),(19,AV.i 0)] Jpf 2=AS.mk [(0,AV.sl 5 (Jjc l)),(1,AV.i tk),(4,AV.ptr 1 0),(5,AV.i (JgV l tk g)),(17,AV.sl 5 (Jpe l)),(18,AV.i ((Jpd l)-1)),(19,AV.i (g:Int))] Jpf 2)/\∀ (g :
  Nat),g+1<=l.length->(decide ((g:Int) < (Jpd l)-1)=true->(0:Int)<=(g:Int)/\(g:Int) < ((Jpe l).length:Int)/\AV.agg (Ji (Jpe l) (g:Int).toNat)=AV.agg [AV.i (JmG l g).t,AV.i (JmG l g).x,AV.i
  (JmG l g).y,AV.i (JmG l g).z,AV.i (JmG l g).p]/\(decide ((JmG l g).t<=tk)=true->Jc ((g:Int)+1)/\∃ (g':Nat),g'+1<=l.length/\l.length-g' < l.length-g/\AS.mk [(0,AV.sl 5 (Jjc l)),(1,AV.i tk),(4,
  AV.ptr 1 0),(5,AV.i (g:Int)),(17,AV.sl 5 (Jpe l)),(18,AV.i ((Jpd l)-1)),(19,AV.i ((g:Int)+1))] Jpf 2=AS.mk (Z23f l tk g') Jpf 2)/\(decide ((JmG l g).t<=tk)=false->Jc ((g:Int)+1)/\∃ (g':Nat),
  g'+1<=l.length/\l.length-g' < l.length-g/\AS.mk [(0,AV.sl 5 (Jjc l)),(1,AV.i tk),(4,AV.ptr 1 0),(5,AV.i (JgV l tk g)),(17,AV.sl 5 (Jpe l)),(18,AV.i ((Jpd l)-1)),(19,AV.i ((g:Int)+1))] Jpf 2=AS.mk
  (Z23f l tk g') Jpf 2))/\(decide ((g:Int) < (Jpd l)-1)=false->(0:Int)<=(JgV l tk g)/\(JgV l tk g) < (JmF l)/\Jc ((JgV l tk g)+1)/\(0:Int)<=(JgV l tk g)+1/\(JgV l tk g)+1 < (JmF l)/\AV.agg (Ji
  (Jjc l) (JgV l tk g).toNat)=AV.agg [AV.i (WB l tk g).t,AV.i (WB l tk g).x,AV.i (WB l tk g).y,AV.i (WB l tk g).z,AV.i (WB l tk g).p]/\AV.agg (Ji (Jjc l) ((JgV l tk g)+1).toNat)=AV.agg [AV.i (Jaz l tk
  g).t,AV.i (Jaz l tk g).x,AV.i (Jaz l tk g).y,AV.i (Jaz l tk g).z,AV.i (Jaz l tk g).p]/\Jc (JfA tk l g)/\Jc (JfB l tk g)/\P0 96 [AV.i (WB l tk g).x,AV.i (Jaz l tk g).x,AV.i (JfA tk l g),AV.i (JfB l tk g)]
  (AV.i (Jo (WB l tk g).x (Jaz l tk g).x (JfA tk l g) (JfB l tk g)))/\P0 96 [AV.i (WB l tk g).y,AV.i (Jaz l tk g).y,AV.i (JfA tk l g),AV.i (JfB l tk g)] (AV.i (Jo (WB l tk g).y (Jaz l tk g).y (JfA tk l
  g) (JfB l tk g)))/\P0 96 [AV.i (WB l tk g).z,AV.i (Jaz l tk g).z,AV.i (JfA tk l g),AV.i (JfB l tk g)] (AV.i (Jo (WB l tk g).z (Jaz l tk g).z (JfA tk l g) (JfB l tk g)))/\Jc ((Jaz l tk g).x-(WB l tk
  g).x)/\Jc ((Jaz l tk g).y-(WB l tk g).y)/\P0 96 [AV.i (WB l tk g).p,AV.i (Jaz l tk g).p,AV.i (JfA tk l g),AV.i (JfB l tk g)] (AV.i (Jo (WB l tk g).p (Jaz l tk g).p (JfA tk l g) (JfB l tk g)))/\AV.agg
  [AV.i (Jo (WB l tk g).x (Jaz l tk g).x (JfA tk l g) (JfB l tk g)),AV.i (Jo (WB l tk g).y (Jaz l tk g).y (JfA tk l g) (JfB l tk g)),AV.i (Jo (WB l tk g).z (Jaz l tk g).z (JfA tk l g) (JfB l tk g)),
  AV.i ((Jaz l tk g).x-(WB l tk g).x),AV.i ((Jaz l tk g).y-(WB l tk g).y),AV.i (Jo (WB l tk g).p (Jaz l tk g).p (JfA tk l g) (JfB l tk g))]=AV.agg [AV.i (Jo (atA l tk).x (atB l tk).x (tk-(atA l tk).t)
  ((atB l tk).t-(atA l tk).t)),AV.i (Jo (atA l tk).y (atB l tk).y (tk-(atA l tk).t) ((atB l tk).t-(atA l tk).t)),AV.i (Jo (atA l tk).z (atB l tk).z (tk-(atA l tk).t) ((atB l tk).t-(atA l tk).t)),AV.i ((atB l
  tk).x-(atA l tk).x),AV.i ((atB l tk).y-(atA l tk).y),AV.i (Jo (atA l tk).p (atB l tk).p (tk-(atA l tk).t) ((atB l tk).t-(atA l tk).t))]):=by
   delta WB Jaz Jpf JfB Jjc Z23f JmG Jpe JmF JfA JgV Z23l Jpd
   have hlm:(List.map Jg l).length=l.length:=Kb _
   have hn:=h.n1
   have e1:List.take (((List.map Jg l).length:Int)-1-0).toNat (List.drop 0 (List.map Jg l))=List.take (l.length-1) (List.map Jg l):=by
    rw[hlm,List.drop_zero]
    congr 1
    omega
   have e2:((List.take (l.length-1) (List.map Jg l)).length:Int)=(l.length:Int)-1:=by
    rw[Kg,hlm]
    omega
   have hl:=h.n2
   refine⟨by unfold Jc;omega,by omega,by omega,by omega,⟨0,by omega,?_⟩,fun g hg=>⟨fun hd=>?_,fun hd=>?_⟩⟩
   . rw[e1,e2]
     rfl
   . have hlt:=Ky hd
     simp only[Km]
     refine⟨by omega,by rw[e2];omega,?_,fun hx=>⟨by unfold Jc;omega,g+1,by omega,by omega,?_⟩,fun hx=>⟨by unfold Jc;omega,g+1,by omega,by omega,?_⟩⟩
     . have:Ji (List.take (l.length-1) (List.map Jg l)) g=Ji (List.map Jg l) g:=by
        unfold Ji
        rw[Ka,Ka,List.getElem?_take_of_lt (by omega)]
       rw[this,Jl Jg (by omega)]
       rfl
     . rw[show atI l tk (g+1)=g from if_pos (Ky hx)]
       rfl
     rw[show atI l tk (g+1)=atI l tk g from if_neg (Kz hx)]
     rfl
   have hge:g=l.length-1:=by
    have:=Kz hd
    omega
   subst hge
   have hi:=Jfp (l:=l) (tk:=tk) (m:=l.length-1) (by omega)
   have e3:((↑(atI l tk (l.length-1)):Int)+1).toNat=atI l tk (l.length-1)+1:=by omega
   have r1:Ji (List.map Jg l) (atI l tk (l.length-1))=Jg (atA l tk):=Jl Jg (by omega)
   have r2:Ji (List.map Jg l) (atI l tk (l.length-1)+1)=Jg (atB l tk):=Jl Jg (by omega)
   have bA:=h.b (atI l tk (l.length-1)) (by omega)
   have bB:=h.b (atI l tk (l.length-1)+1) (by omega)
   have up:=h.up (atI l tk (l.length-1)) (by omega)
   rw[e3,Km,r1,r2]
   rw[show l.getD (atI l tk (l.length-1)) default=atA l tk from rfl]at bA up ⊢
   rw[show l.getD (atI l tk (l.length-1)+1) default=atB l tk from rfl]at bB up ⊢
   generalize atA l tk=A at *
   generalize atB l tk=B at *
   exact⟨by omega,by omega,by unfold Jc;omega,by omega,by omega,rfl,rfl,by unfold Jc;omega,by unfold Jc;omega,c96 _ _ _ _ ⟨by omega,by omega,by omega,by omega,by omega,by omega,by omega⟩,c96 _ _ _ _ ⟨by omega,by omega,by omega,by omega,by omega,by omega,by omega⟩,c96 _ _ _ _ ⟨by omega,by omega,by omega,by omega,by omega,by omega,by omega⟩,by unfold Jc;omega,by unfold Jc;omega,c96 _ _ _ _ ⟨by omega,by omega,by omega,by omega,by omega,by omega,by omega⟩,rfl⟩
 exact Jw Tryz.f125 (fzB (mkB sp126 125 [(4,2,rdL 5 Jg l 5 true),(8,3,rdL 5 Jg l 5 true),(8,8,rdL 5 Jg l 5 true)] (fun i=>if i.beq 0 then some (la126 l tk)else none))) key (by kernel_rfl)
def kI(p:List St)(al:Int):Nat->Nat
 | 0=>0
 | j+1=>if decide ((p.getD j default).a<=al)=true then j else kI p al j
theorem Jkb(i:Nat):prv (i+1)=i:=by
 unfold prv QN
 split <;> omega
theorem JfR{f g:Nat->Int}{n:Nat}{fin:Int}(h:∀ k,k < n->f k=g k):JC f n fin=JC g n fin:=by
 unfold JC
 rw[List.map_congr_left (fun k hk=>h k (List.mem_range.1 hk))]
theorem Jkn{c:Int}{f g:Nat->Int}{n:Nat}{fin:Int}(h:∀ k,k < n->f k=g k):sLS c f n fin=sLS c g n fin:=by
 unfold sLS
 rw[JfR h]
theorem Jgb(a b c d:Int):sFirst [sFirst [a,b,c],d]=sFirst [a,b,c,d]:=by
 unfold sFirst
 by_cases ha:a=0
 . by_cases hb:b=0
   . by_cases hc:c=0
     . simp[sFirst,ha,hb,hc]
     simp[sFirst,ha,hb,hc]
   simp[sFirst,ha,hb]
 simp[sFirst,ha]
theorem Jbl(l:List Fx):Qd l=QO l:=by
 unfold Qd QO
 refine Jkn fun k _=>?_
 unfold XS Xu Jno
 exact Jgb _ _ _ _
def Qf(l:List Fx):Int:=(l.getD (l.length-1) default).t
def Jp(l:List Fx):Int:=(l.getD 0 default).t
theorem JeG{l:List Fx}(h:QO l=0):TrackOK l/\Qf l-Jp l<=1000:=by
 obtain⟨h1,h2,h3⟩:=Uk h
 have hn:=Jh4 (by rw[h1];rfl)
 rw[Kb]at hn h2
 have key:∀ i,i < l.length->(0<=(l.getD i default).t/\(l.getD i default).t<=100000000)/\JO (l.getD i default).x (l.getD i default).y (l.getD i default).z=0/\(1<=(l.getD i default).p/\(l.getD i default).p<=100)/\(if decide ((i:Int) > 0)=true then decide ((l.getD i default).t<=(l.getD (prv i) default).t)else false)=false:=fun i hi=>by
  have h4:=h2 i hi
  unfold Xu JN at h4
  simp only[first_zero,within_zero]at h4
  exact⟨h4.1,h4.2.1,h4.2.2.1,Qp (by decide) h4.2.2.2.1⟩
 refine⟨⟨hn.1,hn.2,fun i hi=>?_,fun i hi=>?_⟩,?_⟩
 . obtain⟨a,b,c,_⟩:=key i hi
   have d:=JeV b
   exact⟨a,d.1,d.2.1,d.2.2,c⟩
 . have h5:=(key (i+1) hi).2.2.2
   rw[Jkb,if_pos (decide_eq_true (by omega))]at h5
   have:=Kz h5
   omega
 have h6:=Kz (Qp (by decide) h3)
 rw[show VM (l.map Jg).length=l.length-1 by rw[Kb,VM];omega]at h6
 unfold Qf Jp
 omega
theorem Jl6{l:List Fx}{tk:Int}(h:Jp l<=tk):∀ m,(l.getD (atI l tk m) default).t<=tk
 | 0=>h
 | m+1=>by
  simp only[atI]
  split
  . assumption
  exact Jl6 h m
theorem Jl7{l:List Fx}{tk:Int}:∀ m j,atI l tk m < j->j < m->tk < (l.getD j default).t
 | 0,j,_,h=>absurd h (by omega)
 | m+1,j,h1,h2=>by
  simp only[atI]at h1
  split at h1
  . omega
  rename_i h3
  by_cases e:j=m
  . rw[e]
    omega
  exact Jl7 m j h1 (by omega)
theorem at_seg{l:List Fx}{tk:Int}(h:TrackOK l)(h1:Jp l<=tk)(h2:tk < Qf l):(atA l tk).t<=tk/\tk < (atB l tk).t:=by
 have hn:=h.n1
 have hi:=Jfp (l:=l) (tk:=tk) (m:=l.length-1) (by omega)
 refine⟨Jl6 h1 _,?_⟩
 by_cases e:atI l tk (l.length-1)+1=l.length-1
 . unfold atB
   rw[e]
   exact h2
 exact Jl7 (l.length-1) _ (by omega) (by omega)
def aX(l:List Fx)(tk:Int):Int:=Jo (atA l tk).x (atB l tk).x (tk-(atA l tk).t) ((atB l tk).t-(atA l tk).t)
def aY(l:List Fx)(tk:Int):Int:=Jo (atA l tk).y (atB l tk).y (tk-(atA l tk).t) ((atB l tk).t-(atA l tk).t)
def aZ(l:List Fx)(tk:Int):Int:=Jo (atA l tk).z (atB l tk).z (tk-(atA l tk).t) ((atB l tk).t-(atA l tk).t)
def aH(l:List Fx)(tk:Int):Int:=(atB l tk).x-(atA l tk).x
def aK(l:List Fx)(tk:Int):Int:=(atB l tk).y-(atA l tk).y
def aP(l:List Fx)(tk:Int):Int:=Jo (atA l tk).p (atB l tk).p (tk-(atA l tk).t) ((atB l tk).t-(atA l tk).t)
structure AtOK(l:List Fx)(tk:Int):Prop where
 x : -100000<=aX l tk/\aX l tk<=100000
 y : -100000<=aY l tk/\aY l tk<=100000
 z:0<=aZ l tk/\aZ l tk<=20000
 h : -200000<=aH l tk/\aH l tk<=200000
 k : -200000<=aK l tk/\aK l tk<=200000
 p:1<=aP l tk/\aP l tk<=100
theorem at_ok{l:List Fx}{tk:Int}(h:TrackOK l)(h1:Jp l<=tk)(h2:tk < Qf l):AtOK l tk:=by
 have hs:=at_seg h h1 h2
 have hn:=h.n1
 have hi:=Jfp (l:=l) (tk:=tk) (m:=l.length-1) (by omega)
 have bA:(0<=(atA l tk).t/\(atA l tk).t<=100000000)/\(-100000<=(atA l tk).x/\(atA l tk).x<=100000)/\(-100000<=(atA l tk).y/\(atA l tk).y<=100000)/\(0<=(atA l tk).z/\(atA l tk).z<=20000)/\1<=(atA l tk).p/\(atA l tk).p<=100:=h.b _ (by omega)
 have bB:(0<=(atB l tk).t/\(atB l tk).t<=100000000)/\(-100000<=(atB l tk).x/\(atB l tk).x<=100000)/\(-100000<=(atB l tk).y/\(atB l tk).y<=100000)/\(0<=(atB l tk).z/\(atB l tk).z<=20000)/\1<=(atB l tk).p/\(atB l tk).p<=100:=h.b _ (by omega)
 have w:0 < (atB l tk).t-(atA l tk).t:=by omega
 have p0:0<=tk-(atA l tk).t:=by omega
 have p1:tk-(atA l tk).t<=(atB l tk).t-(atA l tk).t:=by omega
 exact⟨⟨Jc6 w p0 p1 (by omega) (by omega),Jfn w p0 p1 (by omega) (by omega)⟩,⟨Jc6 w p0 p1 (by omega) (by omega),Jfn w p0 p1 (by omega) (by omega)⟩,⟨Jc6 w p0 p1 (by omega) (by omega),Jfn w p0 p1 (by omega) (by omega)⟩,
  by unfold aH;omega,by unfold aK;omega,⟨Jc6 w p0 p1 (by omega) (by omega),Jfn w p0 p1 (by omega) (by omega)⟩⟩
def JcS(t:Ty)(l:List Fx)(rx ry rz tk:Int):Int:=hrd t (aH l tk) (aK l tk) (aP l tk) (rx-aX l tk) (ry-aY l tk) (rz-aZ l tk)
theorem hrd_b{t:Ty}{a b p u v w:Int}(hT:Xr t=0)(hp:1<=p/\p<=100):0<=hrd t a b p u v w/\hrd t a b p u v w<=100000000000:=by
 have hO:=Jkg hT
 have hS:=Jdu hT
 have h8:=Jnb (Qk a b u v) (Qj a b u v)
 have hd:=hS.1 (sec 4 0 (Qk a b u v) (Qj a b u v)).toNat (by omega)
 rw[<- JZ]at hd
 have he:=emi_b (d:=u * u+v * v+w * w) hO hp.1 hp.2
 have hn:=emi_nn (p:=p) (d:=u * u+v * v+w * w) hT
 have h1:=JW (A:=20000000000) (B:=2000) he.1 he.2 (by omega) hd.2
 have hv:JcR t a b p u v w<=20000000000 * 2000:=h1.2
 have hv0:0<=JcR t a b p u v w:=Int.mul_nonneg hn hd.1
 have h2:=JW (A:=40000000000000) (B:=1000) (x:=JcR t a b p u v w) (y:=t.side) (by omega) (by omega) (by omega) hS.2.2
 have h3:0<=JcR t a b p u v w * t.side:=Int.mul_nonneg hv0 hS.2.1
 unfold hrd
 split
 . rw[Int.tdiv_eq_ediv_of_nonneg h3]
   omega
 rw[Int.tdiv_eq_ediv_of_nonneg hv0]
 omega
def Jdr(f:Int->Int)(a:Int):Nat->Int
 | 0=>0
 | n+1=>Jdr f a n+f (a+n)
theorem Jhg{f:Int->Int}{a:Int}{n:Nat}(h:∀ i:Nat,i < n->0<=f (a+i)/\f (a+i)<=100000000000):∀ i,i<=n->0<=Jdr f a i/\Jdr f a i<=100000000000 * i
 | 0,_=>by simp[Jdr]
 | i+1,hi=>by
  have h1:=Jhg h i (by omega)
  have h2:=h i (by omega)
  simp only[Jdr]
  rw[Int.natCast_add,Int.mul_add]
  omega
theorem c111(a b c d:Int) :P0 111 [.agg [.i a,.i b],.agg [.i c,.i d]] (.agg [.i (QN a c),.i (Jdj b d)]):=by
 have key :
  AV.agg [AV.i (QN a c),AV.i (Jdj b d)]=AV.agg [AV.i (QN a c),AV.i (Jdj b d)]:=by
   rfl
 exact Jw Tryz.f111 (mkB spR 111 [] J1) key (by kernel_rfl)
def sp99(t:Ty)(l:List Fx):Nat->List AV->Option AV
 | 45,_=>some (.i (Xr t))
 | 107,_=>some (.i (Qd l))
 | n,x=>spR n x
def J5(l:List Fx)(a:Int):Int:=QN a (Jp l)
def toB(l:List Fx)(b:Int):Int:=Jdj b (Qf l)
def hrL(a:Int)(H:Nat->Int)(n:Nat):List (List AV):=(List.range n).map fun(i:Nat)=>[.i (a+i),.i (H i)]
def la144(l:Nat)(a b:Int)(tc:List AV)(tr:AV)(rx ry rz:Int)(H:Nat->Int):LA:={
 pre:=[.keep [0,1,2,3,4,6] [0],.bound 1],post:=[.keep [0,1,2,3,4,6] [0],.bound 1]
 Gh:=Nat
 st:=fun i=>⟨[(0,.yld l),(1,.elt 2 [[.i a,.i b]] 0 0),(2,.elt 13 [tc] 0 0),(3,.elt 1 [[tr]] 0 0),(4,.elt 3 [[.i rx,.i ry,.i rz]] 0 0),(6,.i (a+i))],[(0,.ready l (hrL a H i))],1⟩
 ok:=fun i=>i<=(b-a).toNat
 ms:=fun i=>(b-a).toNat-i }
def sp144(a:Int)(S:Nat->List AV)(hd:List AV->Int):Nat->List AV->Option AV
 | 125,[_,.int _ t]=>some (.agg (S (t-a).toNat))
 | 124,[_,.agg s,_]=>some (.i (hd s))
 | _,_=>none
def B144(a b:Int)(tc:List AV)(tr:AV)(rx ry rz:Int)(S:Nat->List AV)(hd:List AV->Int)(l:Nat):BA :=
 mkB (sp144 a S hd) 123 [] (fun i=>if i.beq 0 then some (la144 l a b tc tr rx ry rz fun i=>hd (S i))else none)
theorem s_of {f : Nat} {cap : List AV} {L : List (List AV)} (fn : Func) (B : Nat → BA) {q : Nat → Prop} (hq : ∀ l, q l) (h : ∀ l, VC (QD Tryz.prog T0 G0 fn.ntmps L) (B l) 10000 0 (VO fn) (Jco l cap) (seqQ l L) = q l) (hf : Tryz.prog.funcs[f]? = some fn := by kernel_rfl) (hb : fn.body = some (VO fn) := by kernel_rfl) (hn : (fn.name == "runtime.NumGoroutine") = false := by kernel_rfl) (hlen : Nat.ble (cap.length + 1) fn.ntmps = true := by kernel_rfl) (hres : fn.results.toList = [] := by kernel_rfl) : PSeq Tryz.prog G0 f cap L :=
 Jcs tok mix hf hb hn (Kl hlen) hres B fun l=>Jg3 (hq l) (h l)
theorem Jih(a:Int)(H:Nat->Int)(n:Nat):hrL a H n++[[.i (a+n),.i (H n)]]=hrL a H (n+1):=by
 simp[hrL,List.range_succ]
theorem JnZ(a:Int)(H:Nat->Int):∀ {n m:Nat},n < m->∃ post,hrL a H m=hrL a H n++[.i (a+n),.i (H n)]::post
 | n,m,h=>by
  refine⟨(List.range' (n+1) (m-(n+1))).map fun(i:Nat)=>[.i (a+i),.i (H i)],?_⟩
  rw[<- List.singleton_append,<- List.append_assoc,Jih]
  unfold hrL
  rw[<- K8,List.range_eq_range',List.range_eq_range',show List.range' (n+1) (m-(n+1))=List.range' (0+(n+1)) (m-(n+1)) by rw[Nat.zero_add],List.range'_append_1,show n+1+(m-(n+1))=m by omega]
theorem s144(a b:Int)(c0 c1 c2 c3 c4 c5 c6 c7 c8 c9 c1010 c1011 c1012:AV)(rows:List (List AV))(rx ry rz:Int)(S:Nat->List AV)(hd:List AV->Int)(ha : -1000000000<=a)(hb:b<=1000000000)
 (h1:∀ i:Nat,i < (b-a).toNat->P0 125 [.sl 5 rows,.i (a+i)] (.agg (S i)))
 (h2:∀ i:Nat,i < (b-a).toNat->P0 124 [.agg [c0,c1,c2,c3,c4,c5,c6,c7,c8,c9,c1010,c1011,c1012],.agg (S i),.agg [.i rx,.i ry,.i rz]] (.i (hd (S i)))) :
 PSeq Tryz.prog G0 123 [.elt 2 [[.i a,.i b]] 0 0,.elt 13 [[c0,c1,c2,c3,c4,c5,c6,c7,c8,c9,c1010,c1011,c1012]] 0 0,.elt 1 [[.sl 5 rows]] 0 0,.elt 3 [[.i rx,.i ry,.i rz]] 0 0] (hrL a (fun i=>hd (S i)) (b-a).toNat):=by
 have key:∀ l:Nat,
  (∃ (g:Nat),
  g<=(b-a).toNat /\
  AS.mk
  [((0:Nat),AV.yld l),
  ((1:Nat),AV.elt (2:Nat) [[AV.i a,AV.i b]] (0:Nat) (0:Nat)),
  ((2:Nat),
  AV.elt (13:Nat) [[c0,c1,c2,c3,c4,c5,c6,c7,c8,c9,c1010,c1011,c1012]] (0:Nat) (0:Nat)),
  ((3:Nat),AV.elt (1:Nat) [[AV.sl (5:Nat) rows]] (0:Nat) (0:Nat)),
  ((4:Nat),
  AV.elt (3:Nat) [[AV.i rx,AV.i ry,AV.i rz]] (0:Nat)
  (0:Nat)),
  ((6:Nat),AV.i a)]
  [((0:Nat),ABlk.ready l [])] (1:Nat) =
  AS.mk
  [((0:Nat),AV.yld l),
  ((1:Nat),AV.elt (2:Nat) [[AV.i a,AV.i b]] (0:Nat) (0:Nat)),
  ((2:Nat),
  AV.elt (13:Nat) [[c0,c1,c2,c3,c4,c5,c6,c7,c8,c9,c1010,c1011,c1012]] (0:Nat) (0:Nat)),
  ((3:Nat),AV.elt (1:Nat) [[AV.sl (5:Nat) rows]] (0:Nat) (0:Nat)),
  ((4:Nat),
  AV.elt (3:Nat) [[AV.i rx,AV.i ry,AV.i rz]] (0:Nat)
  (0:Nat)),
  ((6:Nat),AV.i (a+(g:Int)))]
  [((0:Nat),ABlk.ready l (hrL a (fun(i:Nat)=>hd (S i)) g))] (1:Nat)) /\
  ∀ (g:Nat),
  g<=(b-a).toNat →
  (decide (a+(g:Int) < b)=true →
  l=l /\
  P0 (125:Nat) [AV.sl (5:Nat) rows,AV.i (a+(g:Int))]
  (AV.agg (S (a+(g:Int)-a).toNat)) /\
  P0 (124:Nat)
  [AV.agg [c0,c1,c2,c3,c4,c5,c6,c7,c8,c9,c1010,c1011,c1012],
  AV.agg (S (a+(g:Int)-a).toNat),
  AV.agg [AV.i rx,AV.i ry,AV.i rz]]
  (AV.i (hd (S (a+(g:Int)-a).toNat))) /\
  (∃ (post:List (List AV)),
  hrL a (fun(i:Nat)=>hd (S i)) (b-a).toNat =
  hrL a (fun(i:Nat)=>hd (S i)) g ++
  [AV.i (a+(g:Int)),
  AV.i (hd (S (a+(g:Int)-a).toNat))] ::
  post) /\
  l=l /\
  (hrL a (fun(i:Nat)=>hd (S i)) g ++
  [[AV.i (a+(g:Int)),
  AV.i (hd (S (a+(g:Int)-a).toNat))]]).length =
  (hrL a (fun(i:Nat)=>hd (S i)) g).length+(1:Nat) /\
  (Jc (a+(g:Int)+(1:Int)) /\
  ∃ (g':Nat),
  g'<=(b-a).toNat /\
  (b-a).toNat-g' < (b-a).toNat-g /\
  AS.mk
  [((0:Nat),AV.yld l),
  ((1:Nat),
  AV.elt (2:Nat) [[AV.i a,AV.i b]] (0:Nat)
  (0:Nat)),
  ((2:Nat),
  AV.elt (13:Nat) [[c0,c1,c2,c3,c4,c5,c6,c7,c8,c9,c1010,c1011,c1012]]
  (0:Nat) (0:Nat)),
  ((3:Nat),AV.elt (1:Nat) [[AV.sl (5:Nat) rows]] (0:Nat) (0:Nat)),
  ((4:Nat),
  AV.elt (3:Nat)
  [[AV.i rx,AV.i ry,AV.i rz]]
  (0:Nat) (0:Nat)),
  ((6:Nat),AV.i (a+(g:Int)+(1:Int)))]
  [((0:Nat),
  ABlk.ready l
  (hrL a (fun(i:Nat)=>hd (S i)) g ++
  [[AV.i (a+(g:Int)),
  AV.i (hd (S (a+(g:Int)-a).toNat))]]))]
  (1:Nat) =
  AS.mk
  [((0:Nat),AV.yld l),
  ((1:Nat),
  AV.elt (2:Nat) [[AV.i a,AV.i b]] (0:Nat)
  (0:Nat)),
  ((2:Nat),
  AV.elt (13:Nat) [[c0,c1,c2,c3,c4,c5,c6,c7,c8,c9,c1010,c1011,c1012]]
  (0:Nat) (0:Nat)),
  ((3:Nat),AV.elt (1:Nat) [[AV.sl (5:Nat) rows]] (0:Nat) (0:Nat)),
  ((4:Nat),
  AV.elt (3:Nat)
  [[AV.i rx,AV.i ry,AV.i rz]]
  (0:Nat) (0:Nat)),
  ((6:Nat),AV.i (a+(g':Int)))]
  [((0:Nat),ABlk.ready l (hrL a (fun(i:Nat)=>hd (S i)) g'))] (1:Nat)) /\
  (ABlk.stop l=ABlk.ready l (hrL a (fun(i:Nat)=>hd (S i)) (b-a).toNat) ∨
  ABlk.stop l=ABlk.stop l)) /\
  (decide (a+(g:Int) < b)=false →
  ABlk.ready l (hrL a (fun(i:Nat)=>hd (S i)) g) =
  ABlk.ready l (hrL a (fun(i:Nat)=>hd (S i)) (b-a).toNat) ∨
  ABlk.ready l (hrL a (fun(i:Nat)=>hd (S i)) g)=ABlk.stop l):=by
  intro l
  refine⟨⟨0,by omega,by simp[hrL]⟩,fun g hg=>⟨fun hlt=>?_,fun hge=>?_⟩⟩
  . simp only[Ko]at hlt
    have hl:g < (b-a).toNat:=by omega
    have e:(a+(g:Int)-a).toNat=g:=by omega
    simp only[e]
    have hs:=Jih a (fun i=>hd (S i)) g
    refine⟨trivial,h1 g hl,h2 g hl,JnZ a (fun i=>hd (S i)) hl,trivial,by simp,⟨by unfold Jc;omega,g+1,hl,by omega,?_⟩,.inr trivial⟩
    rw[hs,show a+(g:Int)+1=a+((g+1:Nat):Int) by omega]
  . simp only[decide_eq_false_iff_not]at hge
    have:g=(b-a).toNat:=by omega
    subst this
    exact .inl rfl
 exact s_of Tryz.f123 (B144 a b [c0,c1,c2,c3,c4,c5,c6,c7,c8,c9,c1010,c1011,c1012] (.sl 5 rows) rx ry rz S hd) key (fun l=>by kernel_rfl)
theorem Jn0{t:Ty}{l:List Fx}{a b x y z:Int}(hT:Xr t=0)(hO:TrackOK l)(hsp:Qf l-Jp l<=1000)(ha:0<=a/\a<=100000000)(hb:0<=b/\b<=100000000) :
 (0<=J5 l a/\J5 l a<=100000000)/\toB l b<=100000000/\(toB l b-J5 l a).toNat<=1000/\(∀ i:Nat,i < (toB l b-J5 l a).toNat->AtOK l (J5 l a+i))/\(∀ i:Nat,i < (toB l b-J5 l a).toNat->0<=JcS t l x y z (J5 l a+i)/\JcS t l x y z (J5 l a+i)<=100000000000):=by
 have hn:=hO.n1
 have b0:=hO.b 0 (by omega)
 have b1:=hO.b (l.length-1) (by omega)
 have hf:Jp l=(l.getD 0 default).t:=rfl
 have hl:Qf l=(l.getD (l.length-1) default).t:=rfl
 have f0:Jp l<=J5 l a/\J5 l a<=100000000:=by
  unfold J5 QN
  split <;> omega
 have t0:toB l b<=Qf l/\toB l b<=100000000:=by
  unfold toB Jdj
  split <;> omega
 have hA:∀ i:Nat,i < (toB l b-J5 l a).toNat->AtOK l (J5 l a+i):=fun i hi=>at_ok hO (by omega) (by omega)
 exact⟨by omega,t0.2,by omega,hA,fun i hi=>hrd_b hT (hA i hi).p⟩
theorem JdK{n x:Nat}{pre post:List Nat}(h:List.range n=pre++x::post):x=pre.length/\pre.length < n:=by
 have h1:(List.range n)[pre.length]?=some x:=by
  rw[h]
  simp
 have hl:pre.length < n:=by
  have:=congrArg List.length h
  simp at this
  omega
 rw[List.getElem?_range hl]at h1
 exact⟨(Option.some.inj h1).symm,hl⟩
def hdV(t:Ty)(x y z:Int):List AV->Int
 | [.int _ a,.int _ b,.int _ c,.int _ d,.int _ e,.int _ p]=>hrd t d e p (x-a) (y-b) (z-c)
 | _=>0
theorem JkD{t:Ty}{l:List Fx}{a b x y z:Int}(hT:Xr t=0)(hO:TrackOK l)(hA:∀ i:Nat,i < (b-a).toNat->AtOK l (a+i))(ha:0<=a/\a<=100000000)(hb:b<=100000000)(hx : -100000<=x/\x<=100000)(hy : -100000<=y/\y<=100000)(hz:0<=z/\z<=20000) :
 PSeq Tryz.prog G0 123 [.elt 2 [[.i a,.i b]] 0 0,.elt 13 [Jd t] 0 0,.elt 1 [[.sl 5 (l.map Jg)]] 0 0,.elt 3 [[.i x,.i y,.i z]] 0 0] ((List.range (b-a).toNat).map fun(i:Nat)=>[.i (a+i),.i (JcS t l x y z (a+i))]) :=
 s144 a b (.str t.name) (.sl 1 (t.sh.map Jh)) (.i t.d0) (.i t.d1) (.i t.d2) (.i t.d3) (.i t.d4) (.i t.d5) (.i t.d6) (.i t.d7) (.i t.side) (.sl 1 (t.sq.map Jh)) (.sl 2 (t.st.map Jv)) (l.map Jg) x y z
  (fun i=>atV (atA l (a+i)) (atB l (a+i)) (a+i)) (hdV t x y z) (by omega) (by omega) (fun i hi=>c125 l _ hO (by omega))
  (fun i hi=>c124 t _ _ _ _ _ _ _ _ _ (Jkg hT) (hA i hi).x (hA i hi).y (hA i hi).z (hA i hi).h (hA i hi).k (hA i hi).p hx hy hz (Jdu hT).1 (Jdu hT).2)
def fnH(t:Ty)(l:List Fx)(a b x y z:Int):AV:=.fn (.func 123) [] [.elt 2 [[.i a,.i b]] 0 0,.elt 13 [Jd t] 0 0,.elt 1 [[.sl 5 (l.map Jg)]] 0 0,.elt 3 [[.i x,.i y,.i z]] 0 0]
theorem c110(t:Ty)(l:List Fx)(a b x y z:Int) :P0 110 [.agg (Jd t),.sl 5 (l.map Jg),.agg [.i a,.i b],.agg [.i x,.i y,.i z]] (fnH t l a b x y z):=by
 have key :
  AV.fn (Fn.func 123) [] [AV.elt 2 [[AV.i a,AV.i b]] 0 0,AV.elt 13 [(Jd t)] 0 0,AV.elt 1 [[AV.sl 5 (List.map Jg l)]] 0 0,AV.elt 3 [[AV.i x,AV.i y,AV.i z]] 0 0]=AV.fn (Fn.func 123) [] [AV.elt 2 [[AV.i a,AV.i b]] 0 0,
  AV.elt 13 [(Jd t)] 0 0,AV.elt 1 [[AV.sl 5 (List.map Jg l)]] 0 0,AV.elt 3 [[AV.i x,AV.i y,AV.i z]] 0 0]:=by
   rfl
 exact Jw Tryz.f110 (fzB (mkB spR 110 [] J1)) key (by kernel_rfl)
def sp100(t:Ty)(l:List Fx)(x y z:Int):Nat->List AV->Option AV
 | 78,_=>some (.agg [.i (Jp l),.i (Qf l)])
 | 111,[.agg [.int _ a,.int _ b],.agg [.int _ c,.int _ d]]=>some (.agg [.i (QN a c),.i (Jdj b d)])
 | 110,[_,_,.agg [.int _ a,.int _ b],_]=>some (fnH t l a b x y z)
 | n,x=>spR n x
def fa100(t:Ty)(l:List Fx)(a b x y z:Int):FA:={
 X:=Nat,xs:=List.range (toB l b-J5 l a).toNat,enc:=fun i=>[.i (J5 l a+i),.i (JcS t l x y z (J5 l a+i))]
 post:=[.keep [] [1],.bound 2]
 Gh:=Nat
 st:=fun g=>⟨[(9,.ptr 1 0),(19,fnH t l (J5 l a) (toB l b) x y z)],[(1,.box [.i (Jdr (JcS t l x y z) (J5 l a) g)])],2⟩
 ok:=fun pre g=>g=pre.length }
abbrev Jpc(a:Int)(l:List Fx)(b:Int):=[AV.i (QN a (Jp l)),AV.i (Jdj b (Qf l))]
abbrev JmE(l:List Fx):=[AV.sl 5 (List.map Jg l)]
theorem c77(t:Ty)(l:List Fx)(a b x y z:Int)(hT:Xr t=0)(hO:TrackOK l)(hsp:Qf l-Jp l<=1000)(ha:0<=a/\a<=100000000)(hb:0<=b/\b<=100000000)(hx : -100000<=x/\x<=100000)(hy : -100000<=y/\y<=100000)(hz:0<=z/\z<=20000):P0 77 [.agg (Jd t),.sl 5 (l.map Jg),.agg [.i a,.i b],.agg [.i x,.i y,.i z]] (.i (Jdr (JcS t l x y z) (J5 l a) (toB l b-J5 l a).toNat)):=by
 have key :
  P0 78 (JmE l) (AV.agg [AV.i (Jp l),AV.i (Qf l)])/\P0 111 [AV.agg [AV.i a,AV.i b],AV.agg [AV.i (Jp l),AV.i (Qf l)]] (AV.agg (Jpc a l b))/\P0 110 [AV.agg (Jd t),AV.sl 5 (List.map Jg l),AV.agg (Jpc a l
  b),AV.agg [AV.i x,AV.i y,AV.i z]] (AV.fn (Fn.func 123) [] [AV.elt 2 [(Jpc a l b)] 0 0,AV.elt 13 [(Jd t)] 0 0,AV.elt 1 [(JmE l)] 0 0,AV.elt 3 [[AV.i x,AV.i y,AV.i z]] 0 0])/\PSeq Tryz.prog G0 123 [AV.elt 2 [(Jpc a l
  b)] 0 0,AV.elt 13 [(Jd t)] 0 0,AV.elt 1 [(JmE l)] 0 0,AV.elt 3 [[AV.i x,AV.i y,AV.i z]] 0 0] (List.map (fa100 t l a b x y z).enc (List.range (toB l b-J5 l a).toNat))/\(∀ (x:Nat),2=2)/\(∃ (g:Nat),g=0 /\
  AS.mk [(9,AV.ptr 1 0),(19,AV.fn (Fn.func 123) [] [AV.elt 2 [(Jpc a l b)] 0 0,AV.elt 13 [(Jd t)] 0 0,AV.elt 1 [(JmE l)] 0 0,AV.elt 3 [[AV.i x,AV.i y,AV.i z]] 0 0])] [(1,ABlk.box [AV.i 0])] 2=AS.mk [(9,AV.ptr 1 0),
  (19,AV.fn (Fn.func 123) [] [AV.elt 2 [[AV.i (J5 l a),AV.i (toB l b)]] 0 0,AV.elt 13 [(Jd t)] 0 0,AV.elt 1 [(JmE l)] 0 0,AV.elt 3 [[AV.i x,AV.i y,AV.i z]] 0 0])] [(1,ABlk.box [AV.i (Jdr (JcS t l x y z) (J5 l a)
  g)])] 2)/\(∀ (pre:List Nat) (x_1:Nat) (post:List Nat) (g:Nat),List.range (toB l b-J5 l a).toNat=pre++x_1::post->g=pre.length->Exit.normal=Exit.normal/\false=false/\Jc (Jdr (JcS t l x y z) (J5 l
  a) g+JcS t l x y z (J5 l a+(x_1:Int)))/\false=false/\∃ (g':Nat),g'=(pre++[x_1]).length/\AS.mk [(9,AV.ptr 1 0),(19,AV.fn (Fn.func 123) [] [AV.elt 2 [(Jpc a l b)] 0 0,AV.elt 13 [(Jd t)] 0 0,AV.elt 1
  [(JmE l)] 0 0,AV.elt 3 [[AV.i x,AV.i y,AV.i z]] 0 0])] [(1,ABlk.box [AV.i (Jdr (JcS t l x y z) (J5 l a) g+JcS t l x y z (J5 l a+(x_1:Int)))])] 2=AS.mk [(9,AV.ptr 1 0),(19,AV.fn (Fn.func 123) [] [AV.elt 2
  [[AV.i (J5 l a),AV.i (toB l b)]] 0 0,AV.elt 13 [(Jd t)] 0 0,AV.elt 1 [(JmE l)] 0 0,AV.elt 3 [[AV.i x,AV.i y,AV.i z]] 0 0])] [(1,ABlk.box [AV.i (Jdr (JcS t l x y z) (J5 l a) g')])] 2)/\∀ (g:Nat),g =
  (List.range (toB l b-J5 l a).toNat).length->AV.i (Jdr (JcS t l x y z) (J5 l a) g)=AV.i (Jdr (JcS t l x y z) (J5 l a) (toB l b-J5 l a).toNat):=by
   delta Jpc JmE
   obtain⟨f0,t0,hN,hA,hH⟩:=Jn0 (t:=t) (x:=x) (y:=y) (z:=z) hT hO hsp ha hb
   have hS:=Jhg hH
   have hn:=hO.n1
   have hn2:=hO.n2
   refine⟨c78 l (by omega) (by omega),c111 _ _ _ _,c110 t l _ _ _ _ _,JkD (a:=J5 l a) (b:=toB l b) hT hO hA f0 t0 hx hy hz,fun _=>rfl,⟨0,rfl,rfl⟩,fun pre i post g hr hg=>?_,fun g hg=>?_⟩
   . obtain⟨e1,e2⟩:=JdK hr
     subst e1
     subst hg
     have s1:=hS (pre.length+1) e2
     refine⟨rfl,rfl,(show Jc (Jdr (JcS t l x y z) (J5 l a) (pre.length+1))from by unfold Jc;omega),rfl,pre.length+1,by simp,rfl⟩
   rw[hg,List.length_range]
 exact Jw Tryz.f77 ({ fzB (mkB (sp100 t l x y z) 77 [] J1)with fa:=some (fa100 t l a b x y z),gs:=fun i=>if i.beq 2 then[.reno 9 1,.keep [9,19] [1],.bound 2]else[] }) key (by kernel_rfl)
structure Fl where
 n:List UInt8
 y:List UInt8
 tr:List Fx
 deriving Inhabited
def Je(f:Fl):List AV:=[.str f.n,.str f.y,.sl 5 (f.tr.map Jg)]
theorem Js{α:Type}[Inhabited α]{l:List α}{i:Nat}(h:i < l.length):l.getD i default ∈ l:=by
 rw[Ka,Kj h]
 exact List.getElem_mem h
def fiN(p:Nat->Bool):Nat->Nat
 | 0=>0
 | n+1=>if fiN p n < n then fiN p n else if p n then n else n+1
theorem fi_none{p:Nat->Bool}:∀ {i:Nat},(∀ j,j < i->p j=false)->fiN p i=i
 | 0,_=>rfl
 | i+1,h=>by
  have h1:fiN p i=i:=fi_none fun j hj=>h j (by omega)
  simp only[fiN]
  rw[h1,if_neg (by omega),if_neg (by rw[h i (by omega)];exact Bool.false_ne_true)]
theorem fi_some{p:Nat->Bool}{i:Nat}(h:∀ j,j < i->p j=false)(hp:p i=true):∀ {m:Nat},i < m->fiN p m=i
 | 0,h0=>absurd h0 (by omega)
 | m+1,h0=>by
  simp only[fiN]
  by_cases e:i=m
  . subst e
    rw[fi_none h,if_neg (by omega),if_pos hp]
  rw[fi_some h hp (m:=m) (by omega),if_pos (by omega)]
def fiI(p:Nat->Bool)(n:Nat):Int:=if fiN p n=n then -1 else fiN p n
theorem Xm{p q:Nat->Bool}:∀ {n:Nat},(∀ j,j < n->p j=q j)->fiN p n=fiN q n
 | 0,_=>rfl
 | n+1,h=>by
  simp only[fiN]
  rw[Xm (n:=n) (fun j hj=>h j (by omega)),h n (by omega)]
theorem XH{p q:Nat->Bool}{n:Nat}(h:∀ j,j < n->p j=q j):fiI p n=fiI q n:=by
 unfold fiI
 rw[Xm h]
theorem Jea{p:Nat->Bool}:∀ n,fiN p n<=n
 | 0=>Kr _
 | n+1=>by
  have:=Jea (p:=p) n
  simp only[fiN]
  split
  . omega
  split <;> omega
theorem Ja5{p:Nat->Bool}:∀ {n:Nat},fiN p n < n->p (fiN p n)=true
 | n+1,h=>by
  simp only[fiN]at h ⊢
  split
  . rename_i h1
    exact Ja5 h1
  rename_i h1
  rw[if_neg h1]at h
  split
  . assumption
  rename_i h2
  rw[if_neg h2]at h
  omega
theorem Wa{p:Nat->Bool}:∀ {n:Nat},¬ fiN p n < n->∀ j,j < n->p j=false
 | n+1,h,j,hj=>by
  simp only[fiN]at h
  split at h
  . omega
  rename_i h1
  split at h
  . omega
  rename_i h2
  by_cases e:j=n
  . rw[e];simpa using h2
  exact Wa h1 j (by omega)
theorem fi_ex{p:Nat->Bool}{n j:Nat}(hj:j < n)(hp:p j=true):fiN p n < n:=by
 refine Classical.byContradiction fun h=>?_
 rw[Wa h j hj]at hp
 cases hp
theorem fiI_dec{p:Nat->Bool}{n:Nat}:decide (fiI p n>=0)=decide (fiN p n < n):=by
 have:=Jea (p:=p) n
 unfold fiI
 refine decide_eq_decide.2 ?_
 split <;> omega
theorem Vx{α:Type}[Inhabited α]{l:List α}{q:α->Bool}{i:Nat}(hi:i<=l.length):(l.take i).any q=decide (fiN (fun j=>q (l.getD j default)) i < i):=by
 rw[Bool.eq_iff_iff,Ko]
 constructor
 . intro h
   obtain⟨x,hx,hq⟩:=List.any_eq_true.1 h
   obtain⟨j,hj,rfl⟩:=List.mem_iff_getElem.1 hx
   rw[Kg]at hj
   refine fi_ex (j:=j) (by omega) ?_
   rw[List.getElem_take]at hq
   rw[Ka,Kj (by omega)]
   exact hq
 intro h
 have hq:=Ja5 h
 refine List.any_eq_true.2 ⟨_,?_,hq⟩
 generalize fiN (fun j=>q (l.getD j default)) i=j at h
 rw[Ka,Kj (show j < l.length by omega)]
 refine List.mem_iff_getElem.2 ⟨j,by rw[Kg];omega,by rw[List.getElem_take];rfl⟩
def pR(rows:List (List AV))(s:List UInt8)(i:Nat):Bool:=match nth (Ji rows i) 0 with
 | .str x=>x == s
 | _=>false
def pT(ts:List Ty)(s:List UInt8)(i:Nat):Bool:=(ts.getD i default).name == s
def pF(fs:List Fl)(s:List UInt8)(i:Nat):Bool:=(fs.getD i default).n == s
theorem pR_ty{ts:List Ty}{s:List UInt8}{i:Nat}(h:i < ts.length):pR (ts.map Jd) s i=pT ts s i:=by
 unfold pR
 rw[Jl Jd h]
 rfl
theorem pR_fl{fs:List Fl}{s:List UInt8}{i:Nat}(h:i < fs.length):pR (fs.map Je) s i=pF fs s i:=by
 unfold pR
 rw[Jl Je h]
 rfl
def rdN(f:Nat->List UInt8):List AV->Option AV
 | [.elt _ _ i _]=>some (.str (f i))
 | _=>none
def la131(ts:List Ty)(s:List UInt8):LA:={
 pre:=[.keep [0,1,5] [],.bound 1],post:=[.keep [0,1,5] [],.bound 1]
 Gh:=Nat
 st:=fun i=>⟨[(0,.sl 13 (ts.map Jd)),(1,.str s),(5,.i i)],[],1⟩
 ok:=fun i=>i<=ts.length/\∀ j,j < i->pT ts s j=false
 ms:=fun i=>ts.length-i }
theorem c54(ts:List Ty)(s:List UInt8)(hl:ts.length<=1000):P0 54 [.sl 13 (ts.map Jd),.str s] (.i (fiI (pT ts s) ts.length)):=by
 have key :
  (∃ (g:Nat),(g<=ts.length/\∀ (j:Nat),j < g->pT ts s j=false)/\AS.mk [(0,AV.sl 13 (List.map Jd ts)),(1,AV.str s),(5,AV.i 0)] [] 1=AS.mk [(0,AV.sl 13 (List.map Jd ts)),(1,AV.str s),(5,AV.i (g:Int))] []
  1)/\∀ (g:Nat),(g<=ts.length/\∀ (j:Nat),j < g->pT ts s j=false)->(decide ((g:Int) < ((List.map Jd ts).length:Int))=true->(0:Int)<=(g:Int)/\(g:Int) < ((List.map Jd ts).length:Int)/\nth (Ji
  (List.map Jd ts) (g:Int).toNat) 0=AV.str (ts.getD (g:Int).toNat default).name/\(((ts.getD (g:Int).toNat default).name == s)=true->AV.i (g:Int)=AV.i (fiI (pT ts s) ts.length))/\(((ts.getD (g:Int).toNat
  default).name == s)=false->Jc ((g:Int)+1)/\∃ (g':Nat),(g'<=ts.length/\∀ (j:Nat),j < g'->pT ts s j=false)/\ts.length-g' < ts.length-g/\AS.mk [(0,AV.sl 13 (List.map Jd ts)),(1,AV.str s),(5,AV.i
  ((g:Int)+1))] [] 1=AS.mk [(0,AV.sl 13 (List.map Jd ts)),(1,AV.str s),(5,AV.i (g':Int))] [] 1))/\(decide ((g:Int) < ((List.map Jd ts).length:Int))=false->AV.i (-1)=AV.i (fiI (pT ts s) ts.length)) :=
  by
   have hlm:(List.map Jd ts).length=ts.length:=Kb _
   refine⟨⟨0,⟨by omega,by intros;omega⟩,rfl⟩,fun g ⟨hg,ha⟩=>⟨fun hd=>?_,fun hd=>?_⟩⟩
   . rw[hlm]at hd
     have hlt:=Jm hd
     refine⟨by omega,by omega,by rw[show Ji (List.map Jd ts) ((g:Int)).toNat=Jd (ts.getD g default)from Jl Jd hlt];rfl,fun hx=>?_,fun hx=>⟨by unfold Jc;omega,g+1,⟨hlt,fun j hj=>?_⟩,by omega,rfl⟩⟩
     . rw[fiI,fi_some ha (show pT ts s g=true from hx) hlt,if_neg (by omega)]
     by_cases e:j=g
     . rw[e];exact hx
     exact ha j (by omega)
   rw[hlm]at hd
   have e:=Jt hd hg
   subst e
   rw[fiI,fi_none ha,if_pos rfl]
 exact Jw Tryz.f54 (mkB spR 54 [(4,4,rdN fun i=>(ts.getD i default).name)] (fun j=>if j.beq 0 then some (la131 ts s)else none)) key (by kernel_rfl)
def la83(fs:List Fl)(s:List UInt8):LA:={
 pre:=[.keep [0,1,5] [],.bound 1],post:=[.keep [0,1,5] [],.bound 1]
 Gh:=Nat
 st:=fun i=>⟨[(0,.sl 3 (fs.map Je)),(1,.str s),(5,.i i)],[],1⟩
 ok:=fun i=>i<=fs.length/\∀ j,j < i->pF fs s j=false
 ms:=fun i=>fs.length-i }
abbrev Jln(fs:List Fl):=List.map Je fs
theorem c56(fs:List Fl)(s:List UInt8)(hl:fs.length<=1000):P0 56 [.sl 3 (fs.map Je),.str s] (.i (fiI (pF fs s) fs.length)):=by
 have key :
  (∃ (g:Nat),(g<=fs.length/\∀ (j:Nat),j < g->pF fs s j=false)/\AS.mk [(0,AV.sl 3 (Jln fs)),(1,AV.str s),(5,AV.i 0)] [] 1=AS.mk [(0,AV.sl 3 (Jln fs)),(1,AV.str s),(5,AV.i (g:Int))] [] 1)/\∀ (g:Nat),(g
  ≤ fs.length/\∀ (j:Nat),j < g->pF fs s j=false)->(decide ((g:Int) < ((Jln fs).length:Int))=true->(0:Int)<=(g:Int)/\(g:Int) < ((Jln fs).length:Int)/\nth (Ji (Jln fs) (g:Int).toNat) 0=AV.str
  (fs.getD (g:Int).toNat default).n/\(((fs.getD (g:Int).toNat default).n == s)=true->AV.i (g:Int)=AV.i (fiI (pF fs s) fs.length))/\(((fs.getD (g:Int).toNat default).n == s)=false->Jc ((g:Int)+1)/\∃ (g' :
  Nat),(g'<=fs.length/\∀ (j:Nat),j < g'->pF fs s j=false)/\fs.length-g' < fs.length-g/\AS.mk [(0,AV.sl 3 (Jln fs)),(1,AV.str s),(5,AV.i ((g:Int)+1))] [] 1=AS.mk [(0,AV.sl 3 (Jln fs)),(1,AV.str s),(5,
  AV.i (g':Int))] [] 1))/\(decide ((g:Int) < ((Jln fs).length:Int))=false->AV.i (-1)=AV.i (fiI (pF fs s) fs.length)):=by
   delta Jln
   have hlm:(List.map Je fs).length=fs.length:=Kb _
   refine⟨⟨0,⟨by omega,by intros;omega⟩,rfl⟩,fun g ⟨hg,ha⟩=>⟨fun hd=>?_,fun hd=>?_⟩⟩
   . rw[hlm]at hd
     have hlt:=Jm hd
     refine⟨by omega,by omega,by rw[show Ji (List.map Je fs) ((g:Int)).toNat=Je (fs.getD g default)from Jl Je hlt];rfl,fun hx=>?_,fun hx=>⟨by unfold Jc;omega,g+1,⟨hlt,fun j hj=>?_⟩,by omega,rfl⟩⟩
     . rw[fiI,fi_some ha (show pF fs s g=true from hx) hlt,if_neg (by omega)]
     by_cases e:j=g
     . rw[e];exact hx
     exact ha j (by omega)
   rw[hlm]at hd
   have e:=Jt hd hg
   subst e
   rw[fiI,fi_none ha,if_pos rfl]
 exact Jw Tryz.f56 (mkB spR 56 [(4,4,rdN fun i=>(fs.getD i default).n)] (fun j=>if j.beq 0 then some (la83 fs s)else none)) key (by kernel_rfl)
theorem c109(t:Ty)(s:List UInt8) :P0 109 [.agg (Jd t),.elt 1 [[.str s]] 0 0] (.bool (t.name == s)):=by
 have key :
  AV.bool (t.name == s)=AV.bool (t.name == s):=by
   rfl
 exact Jw Tryz.f109 (mkB spR 109 [] J1) key (by kernel_rfl)
def sp170:Nat->List AV->Option AV
 | 109,[.agg (.str n::_),.elt _ [[.str s]] _ _]=>some (.bool (n == s))
 | n,x=>spR n x
def la170(ts:List Ty)(s:List UInt8):LA:={
 pre:=[.keep [0,1,7,8] [],.bound 1],post:=[.keep [0,1,7,8] [],.bound 1]
 Gh:=Nat
 st:=fun i=>⟨[(0,.sl 13 (ts.map Jd)),(1,.fn (.func 109) [] [.elt 1 [[.str s]] 0 0]),(7,.i ts.length),(8,.i i)],[],1⟩
 ok:=fun i=>i<=ts.length/\∀ j,j < i->pT ts s j=false
 ms:=fun i=>ts.length-i }
abbrev Jdh(ts:List Ty)(g:Nat):=ts.getD (g:Int).toNat default
abbrev Z26b(ts:List Ty)(g:Nat):=[AV.str (Jdh ts g).name,AV.sl 1 (List.map Jh (Jdh ts g).sh),AV.i (Jdh ts g).d0,AV.i (Jdh ts g).d1,AV.i (Jdh ts g).d2,AV.i (Jdh ts g).d3,AV.i (Jdh ts g).d4,AV.i (Jdh ts g).d5,AV.i (Jdh ts g).d6,AV.i (Jdh ts g).d7,AV.i (Jdh ts g).side,AV.sl 1 (List.map Jh (Jdh ts g).sq),AV.sl 2 (List.map Jv (Jdh ts g).st)]
abbrev JmD(ts:List Ty):=List.map Jd ts
abbrev Z26d(s:List UInt8):=[AV.elt 1 [[AV.str s]] 0 0]
theorem c108(ts:List Ty)(s:List UInt8)(hl:ts.length<=1000):P0 108 [.sl 13 (ts.map Jd),.fn (.func 109) [] [.elt 1 [[.str s]] 0 0]] (.i (fiI (pT ts s) ts.length)):=by
 have key :
  (∃ (g:Nat),(g<=ts.length/\∀ (j:Nat),j < g->pT ts s j=false)/\AS.mk [(0,AV.sl 13 (JmD ts)),(1,AV.fn (Fn.func 109) [] (Z26d s)),(7,AV.i ((JmD ts).length:Int)),(8,AV.i 0)] [] 1=AS.mk [(0,AV.sl 13 (JmD ts)),
  (1,AV.fn (Fn.func 109) [] (Z26d s)),(7,AV.i (ts.length:Int)),(8,AV.i (g:Int))] [] 1)/\∀ (g:Nat),(g<=ts.length/\∀ (j:Nat),j < g->pT ts s j=false)->(decide ((g:Int) < (ts.length:Int))=true->(0:Int)
  ≤ (g:Int)/\(g:Int) < ((JmD ts).length:Int)/\AV.agg (Ji (JmD ts) (g:Int).toNat)=AV.agg (Z26b ts g)/\P0 109 [AV.agg (Z26b ts g),AV.elt 1 [[AV.str s]] 0 0] (AV.bool ((Jdh ts g).name == s))/\(((Jdh ts g).name
  == s)=true->AV.i (g:Int)=AV.i (fiI (pT ts s) ts.length))/\(((Jdh ts g).name == s)=false->Jc ((g:Int)+1)/\∃ (g':Nat),(g'<=ts.length/\∀ (j:Nat),j < g'->pT ts s j=false)/\ts.length-g' < ts.length-g
  /\ AS.mk [(0,AV.sl 13 (JmD ts)),(1,AV.fn (Fn.func 109) [] (Z26d s)),(7,AV.i (ts.length:Int)),(8,AV.i ((g:Int)+1))] [] 1=AS.mk [(0,AV.sl 13 (JmD ts)),(1,AV.fn (Fn.func 109) [] (Z26d s)),(7,AV.i (↑ts.length :
  Int)),(8,AV.i (g':Int))] [] 1))/\(decide ((g:Int) < (ts.length:Int))=false->AV.i (-1)=AV.i (fiI (pT ts s) ts.length)):=by
   delta Jdh Z26b JmD Z26d
   have hlm:(List.map Jd ts).length=ts.length:=Kb _
   refine⟨⟨0,⟨by omega,by intros;omega⟩,by rw[hlm];rfl⟩,fun g ⟨hg,ha⟩=>⟨fun hd=>?_,fun hd=>?_⟩⟩
   . have hlt:=Jm hd
     refine⟨by omega,by omega,congrArg AV.agg (Jl Jd hlt),c109 (ts.getD g default) s,fun hx=>?_,fun hx=>⟨by unfold Jc;omega,g+1,⟨hlt,fun j hj=>?_⟩,by omega,rfl⟩⟩
     . rw[fiI,fi_some ha (show pT ts s g=true from hx) hlt,if_neg (by omega)]
     by_cases e:j=g
     . rw[e];exact hx
     exact ha j (by omega)
   have e:=Jt hd hg
   subst e
   rw[fiI,fi_none ha,if_pos rfl]
 exact Jw Tryz.f108 (mkB sp170 108 [(4,4,rdL 13 Jd ts 13 true)] (fun j=>if j.beq 0 then some (la170 ts s)else none)) key (by kernel_rfl)
def sp156(ts:List Ty):Nat->List AV->Option AV
 | 108,[_,.fn _ _ [.elt _ [[.str s]] _ _]]=>some (.i (fiI (pT ts s) ts.length))
 | n,x=>spR n x
theorem c76(ts:List Ty)(s:List UInt8)(hl:ts.length<=1000):P0 76 [.sl 13 (ts.map Jd),.str s] (.i (fiI (pT ts s) ts.length)):=by
 have key :
  P0 108 [AV.sl 13 (List.map Jd ts),AV.fn (Fn.func 109) [] [AV.elt 1 [[AV.str s]] 0 0]] (AV.i (fiI (pT ts s) ts.length))/\AV.i (fiI (pT ts s) ts.length)=AV.i (fiI (pT ts s) ts.length):=by
   exact⟨c108 ts s hl,rfl⟩
 exact Jw Tryz.f76 (mkB (sp156 ts) 76 [] J1) key (by kernel_rfl)
def Jhr(f:Fl):Bool:=!(if(if !decide (f.tr.length<=17)then true else decide ((f.n.length:Int) > 40))then true else decide ((f.y.length:Int) > 40))
def szOK(n m:Int):Bool:=if(if decide (n<=4)then true else n == 9)then(if decide (m<=4)then true else m == 17)else false
def sSF(ts:List Ty)(fs:List Fl):Bool:=(List.range ts.length).all (fun i=>J6 (ts.getD i default)) && ((List.range fs.length).all (fun i=>Jhr (fs.getD i default)) && szOK ts.length fs.length)
def Jjq(r:List AV):Int:=cI [r] 0
def Joi:List AV->Sg
 | [.int _ p,.sl _ rows]=>⟨p,rows.map Jjq⟩
 | _=>default
def V0:List AV->Ty
 | [.str n,.sl _ sh,.int _ a,.int _ b,.int _ c,.int _ d,.int _ e,.int _ f,.int _ g,.int _ h,.int _ s,.sl _ sq,.sl _ st]=>⟨n,sh.map Jjq,a,b,c,d,e,f,g,h,s,sq.map Jjq,st.map Joi⟩
 | _=>default
theorem Qr{α:Type}{enc:α->List AV}{dec:List AV->α}(h:∀ x,dec (enc x)=x)(l:List α):(l.map enc).map dec=l:=by
 rw[K9]
 conv=>rhs;rw[<- List.map_id l]
 exact List.map_congr_left fun x _=>h x
theorem Wx(x:Int):Jjq (Jh x)=x:=rfl
theorem Jiz(s:Sg):Joi (Jv s)=s:=by
 show Sg.mk s.p ((s.e.map Jh).map Jjq)=s
 rw[Qr Wx]
theorem Ur(t:Ty):V0 (Jd t)=t:=by
 show Ty.mk t.name ((t.sh.map Jh).map Jjq) t.d0 t.d1 t.d2 t.d3 t.d4 t.d5 t.d6 t.d7 t.side ((t.sq.map Jh).map Jjq) ((t.st.map Jv).map Joi)=t
 rw[Qr Wx,Qr Wx,Qr Jiz]
def decFx(r:List AV):Fx:=⟨cJ [r] 0 0,cJ [r] 0 1,cJ [r] 0 2,cJ [r] 0 3,cJ [r] 0 4⟩
theorem JiA(x:Fx):decFx (Jg x)=x:=rfl
def VG(rows:List (List AV)):List Fx:=rows.map decFx
theorem Vj(l:List Fx):VG (l.map Jg)=l:=Qr JiA l
def spF:Nat->List AV->Option AV
 | 49,[.agg c]=>some (.bool (J6 (V0 c)))
 | 50,[.sl _ rows]=>some (.bool (decide (rows.length<=17)))
 | 45,[.agg c]=>some (.i (Xr (V0 c)))
 | 52,[.agg c]=>some (.i (JeN (V0 c)))
 | 107,[.sl _ rows]=>some (.i (Qd (VG rows)))
 | 57,[.sl _ rows]=>some (.i (QO (VG rows)))
 | 54,[.sl _ rows,.str s]=>some (.i (fiI (pR rows s) rows.length))
 | 56,[.sl _ rows,.str s]=>some (.i (fiI (pR rows s) rows.length))
 | n,x=>spR n x
def la60(ts:List Ty)(fs:List Fl)(b:Nat):Option LA :=
 if b.beq 0 then some {
  pre:=[.keep [0,1,5] [],.bound 1],post:=[.keep [0,1,5] [],.bound 1]
  Gh:=Nat
  st:=fun i=>⟨[(0,.sl 13 (ts.map Jd)),(1,.sl 3 (fs.map Je)),(5,.i i)],[],1⟩
  ok:=fun i=>i<=ts.length/\∀ j,j < i->J6 (ts.getD j default)=true
  ms:=fun i=>ts.length-i }
 else some {
  pre:=[.keep [0,1,6] [],.bound 1],post:=[.keep [0,1,6] [],.bound 1]
  Gh:=Nat
  st:=fun i=>⟨[(0,.sl 13 (ts.map Jd)),(1,.sl 3 (fs.map Je)),(6,.i i)],[],1⟩
  ok:=fun i=>i<=fs.length/\∀ j,j < i->Jhr (fs.getD j default)=true
  ms:=fun i=>fs.length-i }
abbrev Jlm(fs:List Fl)(g:Nat):=fs.getD (g:Int).toNat default
abbrev Jjy(fs:List Fl)(g:Nat):=List.map Jg (Jlm fs g).tr
abbrev JeB(ts:List Ty)(g:Nat):=ts.getD (g:Int).toNat default
abbrev Jgt(fs:List Fl):=List.map Je fs
abbrev JaK(fs:List Fl):=((Jgt fs).length:Int)
abbrev Jpa(g:Nat):=(g:Int)+1
abbrev Z27s(g':Nat)(fs:List Fl):=(g'<=fs.length/\∀ (j:Nat),j < g'->Jhr (fs.getD j default)=true)
abbrev Jgu(ts:List Ty):=List.map Jd ts
abbrev Z27d(fs:List Fl)(g:Nat)(ts:List Ty):=(decide ((↑(Jlm fs g).y.length:Int) > 40)=false->Jc (Jpa g)/\∃ (g':Nat),(Z27s g' fs)/\fs.length-g' < fs.length-g/\AS.mk [(0,AV.sl 13 (Jgu ts)),(1,AV.sl 3 (Jgt fs)),(6,AV.i (Jpa g))] [] 1=AS.mk [(0,AV.sl 13 (Jgu ts)),(1,AV.sl 3 (Jgt fs)),(6,AV.i (g':Int))] [] 1)
abbrev JgU(ts:List Ty):=((Jgu ts).length:Int)
abbrev Z27f(g:Nat)(fs:List Fl)(ts:List Ty):=(true=false->Jc (Jpa g)/\∃ (g':Nat),(Z27s g' fs)/\fs.length-g' < fs.length-g/\AS.mk [(0,AV.sl 13 (Jgu ts)),(1,AV.sl 3 (Jgt fs)),(6,AV.i (Jpa g))] [] 1=AS.mk [(0,AV.sl 13 (Jgu ts)),(1,AV.sl 3 (Jgt fs)),(6,AV.i (g':Int))] [] 1)
abbrev Z27g(ts:List Ty)(g:Nat):=[AV.str (JeB ts g).name,AV.sl 1 (List.map Jh (JeB ts g).sh),AV.i (JeB ts g).d0,AV.i (JeB ts g).d1,AV.i (JeB ts g).d2,AV.i (JeB ts g).d3,AV.i (JeB ts g).d4,AV.i (JeB ts g).d5,AV.i (JeB ts g).d6,AV.i (JeB ts g).d7,AV.i (JeB ts g).side,AV.sl 1 (List.map Jh (JeB ts g).sq),AV.sl 2 (List.map Jv (JeB ts g).st)]
abbrev Jll(fs:List Fl)(g:Nat):=Ji (Jgt fs) (g:Int).toNat
abbrev Jjx:=true=false->false=true
abbrev Jjb(fs:List Fl)(g:Nat):=(Jjy fs g).length<=17
abbrev Jpb(ts:List Ty):=decide ((JgU ts)<=4)
abbrev Z27o(ts:List Ty)(g:Nat):=V0 (List.take 13 (List.drop 0 (Jd (JeB ts g))))
abbrev Z27p(fs:List Fl)(g:Nat):=(↑(Jlm fs g).n.length:Int) > 40
abbrev Z27q(g:Nat)(ts:List Ty):=(g<=ts.length/\∀ (j:Nat),j < g->J6 (ts.getD j default)=true)
abbrev Z27r(g:Nat)(fs:List Fl):=(g<=fs.length/\∀ (j:Nat),j < g->Jhr (fs.getD j default)=true)
abbrev Z27u(fs:List Fl)(g:Nat)(ts:List Ty):=decide ((↑(Jlm fs g).y.length:Int) > 40)=true->AV.bool false=AV.bool (sSF ts fs)
theorem c21(ts:List Ty)(fs:List Fl)(hl:ts.length<=maxLen)(hm:fs.length<=maxLen)(hst:∀ t,t ∈ ts->t.st.length<=maxLen):P0 21 [.sl 13 (ts.map Jd),.sl 3 (fs.map Je)] (.bool (sSF ts fs)):=by
 have key :
  (∃ (g:Nat),(Z27q g ts)/\AS.mk [(0,AV.sl 13 (Jgu ts)),(1,AV.sl 3 (Jgt fs)),(5,AV.i 0)] [] 1=AS.mk [(0,AV.sl 13 (Jgu ts)),(1,AV.sl 3 (Jgt fs)),(5,AV.i (g:Int))] [] 1)/\∀ (g:Nat),(Z27q g ts)->(decide ((↑g :
  Int) < (JgU ts))=true->(0:Int)<=(g:Int)/\(g:Int) < (JgU ts)/\AV.agg (Ji (Jgu ts) (g:Int).toNat)=AV.agg (Z27g ts g)/\P0 49 [AV.agg (Z27g ts g)] (AV.bool (J6 (Z27o ts g)))/\((!J6 (Z27o ts g))=true
  → AV.bool false=AV.bool (sSF ts fs))/\((!J6 (Z27o ts g))=false->Jc (Jpa g)/\∃ (g':Nat),(g'<=ts.length/\∀ (j:Nat),j < g'->J6 (ts.getD j default)=true)/\ts.length-g' < ts.length-g/\AS.mk [(0,AV.sl
  13 (Jgu ts)),(1,AV.sl 3 (Jgt fs)),(5,AV.i (Jpa g))] [] 1=AS.mk [(0,AV.sl 13 (Jgu ts)),(1,AV.sl 3 (Jgt fs)),(5,AV.i (g':Int))] [] 1))/\(decide ((g:Int) < (JgU ts))=false->(∃ (g:Nat),(Z27r g fs)/\AS.mk
  [(0,AV.sl 13 (Jgu ts)),(1,AV.sl 3 (Jgt fs)),(6,AV.i 0)] [] 1=AS.mk [(0,AV.sl 13 (Jgu ts)),(1,AV.sl 3 (Jgt fs)),(6,AV.i (g:Int))] [] 1)/\∀ (g:Nat),(Z27r g fs)->(decide ((g:Int) < (JaK fs))=true →
  ((!decide (Jjb fs g))=true->(true=true->(0:Int)<=(g:Int)/\(g:Int) < (JaK fs)/\Jjx/\Jjx/\nth (Jll fs g) 2=AV.sl 5 (Jjy fs g)/\P0 50 [AV.sl 5 (Jjy fs g)] (AV.bool (decide (Jjb fs g)))/\(AV.bool !decide
  (Jjb fs g))=AV.bool true/\AV.bool true=AV.bool true/\(true=true->AV.bool false=AV.bool (sSF ts fs))/\(Z27f g fs ts))/\(true=false->(0:Int)<=(g:Int)/\(g:Int) < (JaK fs)/\Jjx/\(0:Int)<=(g:Int) /\
  (g:Int) < (JaK fs)/\nth (Jll fs g) 2=AV.sl 5 (Jjy fs g)/\P0 50 [AV.sl 5 (Jjy fs g)] (AV.bool (decide (Jjb fs g)))/\(AV.bool !decide (Jjb fs g))=AV.bool true/\AV.bool true=AV.bool false/\nth (Jll fs g) 1 =
  AV.str (Jlm fs g).y/\(Z27u fs g ts)/\(Z27d fs g ts)))/\((!decide (Jjb fs g))=false->(decide (Z27p fs g)=true->(0:Int)<=(g:Int)/\(g:Int) < (JaK fs)/\(0:Int)<=(g:Int)/\(g:Int) < (JaK fs)/\Jjx/\nth
  (Jll fs g) 2=AV.sl 5 (Jjy fs g)/\P0 50 [AV.sl 5 (Jjy fs g)] (AV.bool (decide (Jjb fs g)))/\(AV.bool !decide (Jjb fs g))=AV.bool false/\nth (Jll fs g) 0=AV.str (Jlm fs g).n/\AV.bool (decide (Z27p fs g))=AV.bool
  true/\(true=true->AV.bool false=AV.bool (sSF ts fs))/\(Z27f g fs ts))/\(decide (Z27p fs g)=false->(0:Int)<=(g:Int)/\(g:Int) < (JaK fs)/\(0:Int)<=(g:Int)/\(g:Int) < (JaK fs)/\(0:Int)<=(g:Int)
  /\ (g:Int) < (JaK fs)/\nth (Jll fs g) 2=AV.sl 5 (Jjy fs g)/\P0 50 [AV.sl 5 (Jjy fs g)] (AV.bool (decide (Jjb fs g)))/\(AV.bool !decide (Jjb fs g))=AV.bool false/\nth (Jll fs g) 0=AV.str (Jlm fs g).n/\AV.bool
  (decide (Z27p fs g))=AV.bool false/\nth (Jll fs g) 1=AV.str (Jlm fs g).y/\(Z27u fs g ts)/\(Z27d fs g ts))))/\(decide ((g:Int) < (JaK fs))=false->(decide ((JgU ts)<=4)=true->(true=true->(decide ((JaK fs) ≤
  4)=true->Jjx/\Jjx/\AV.bool (Jpb ts)=AV.bool true/\AV.bool true=AV.bool true/\AV.bool (decide ((JaK fs)<=4))=AV.bool true/\AV.bool true=AV.bool (sSF ts fs))/\(decide ((JaK fs)<=4)=false->Jjx/\AV.bool
  (Jpb ts)=AV.bool true/\AV.bool true=AV.bool true/\AV.bool (decide ((JaK fs)<=4))=AV.bool false/\AV.bool ((JaK fs) == 17)=AV.bool (sSF ts fs)))/\(true=false->Jjx/\(false=true->false=true)/\AV.bool (Jpb
  ts)=AV.bool true/\AV.bool true=AV.bool false/\AV.bool false=AV.bool (sSF ts fs)))/\(decide ((JgU ts)<=4)=false->(((JgU ts) == 9)=true->(decide ((JaK fs)<=4)=true->Jjx/\AV.bool (Jpb ts)=AV.bool false /\
  AV.bool ((JgU ts) == 9)=AV.bool true/\AV.bool (decide ((JaK fs)<=4))=AV.bool true/\AV.bool true=AV.bool (sSF ts fs))/\(decide ((JaK fs)<=4)=false->AV.bool (Jpb ts)=AV.bool false/\AV.bool ((JgU ts) == 9) =
  AV.bool true/\AV.bool (decide ((JaK fs)<=4))=AV.bool false/\AV.bool ((JaK fs) == 17)=AV.bool (sSF ts fs)))/\(((JgU ts) == 9)=false->(false=true->false=true)/\AV.bool (Jpb ts)=AV.bool false/\AV.bool ((JgU
  ts) == 9)=AV.bool false/\AV.bool false=AV.bool (sSF ts fs))))):=by
   delta Jjy JeB JaK Z27d JgU Z27f Z27g Jlm Jll Jjx Jjb Jgu Jgt Jpb Z27o Z27p Z27q Z27r Z27s Jpa Z27u
   have hlm:(List.map Jd ts).length=ts.length:=Kb _
   have hfm:(List.map Je fs).length=fs.length:=Kb _
   have hM:maxLen<=9223372036854775807:=by unfold maxLen;omega
   refine⟨⟨0,⟨by omega,by intros;omega⟩,rfl⟩,fun g ⟨hg,ha⟩=>⟨fun hd=>?_,fun hd=>?_⟩⟩
   . rw[hlm]at hd
     have hlt:=Jm hd
     have e1:V0 (List.take 13 (List.drop 0 (Jd (ts.getD ((g:Int)).toNat default))))=ts.getD g default:=Ur _
     rw[e1]
     refine⟨by omega,by omega,congrArg AV.agg (Jl Jd hlt),c49 (ts.getD g default) (by have:=hst _ (Js hlt);omega),fun hx=>?_,fun hx=>⟨by unfold Jc;omega,g+1,⟨hlt,fun j hj=>?_⟩,by omega,rfl⟩⟩
     . unfold sSF
       rw[List.all_eq_false.2 ⟨g,List.mem_range.2 hlt,by simpa using hx⟩]
       rfl
     by_cases e:j=g
     . rw[e];simpa using hx
     exact ha j (by omega)
   rw[hlm]at hd
   have e:=Jt hd hg
   subst e
   have hA:(List.range ts.length).all (fun i=>J6 (ts.getD i default))=true:=List.all_eq_true.2 fun i hi=>ha i (List.mem_range.1 hi)
   refine⟨⟨0,⟨by omega,by intros;omega⟩,rfl⟩,fun g ⟨hg,ha⟩=>⟨fun hd=>?_,fun hd=>?_⟩⟩
   . rw[hfm]at hd
     have hlt:=Jm hd
     have hrow:Ji (List.map Je fs) ((g:Int)).toNat=Je (fs.getD g default):=Jl Je hlt
     have hbad:Jhr (fs.getD g default)=false->AV.bool false=AV.bool (sSF ts fs):=fun h=>by
      unfold sSF
      rw[hA,List.all_eq_false.2 ⟨g,List.mem_range.2 hlt,by rw[h];exact Bool.false_ne_true⟩]
      rfl
     have hgood:Jhr (fs.getD g default)=true->∃ g',(g'<=fs.length/\∀ j,j < g'->Jhr (fs.getD j default)=true)/\fs.length-g' < fs.length-g/\AS.mk [(0,AV.sl 13 (List.map Jd ts)),(1,AV.sl 3 (List.map Je fs)),(6,AV.i ((g:Int)+1))] [] 1=AS.mk [(0,AV.sl 13 (List.map Jd ts)),(1,AV.sl 3 (List.map Je fs)),(6,AV.i (g':Int))] [] 1:=fun h=>⟨g+1,⟨hlt,fun j hj=>by
      by_cases e:j=g
      . rw[e];exact h
      . exact ha j (by omega)⟩,by omega,rfl⟩
     have k26:=c50 (fs.getD g default).tr
     rw[hrow,hfm]
     have e3:Jhr (fs.getD g default)=!(if(if !decide ((fs.getD g default).tr.length<=17)then true else decide (((fs.getD g default).n.length:Int) > 40))then true else decide (((fs.getD g default).y.length:Int) > 40)):=rfl
     have k0:(0:Int)<=g:=by omega
     have k1:(g:Int) < (fs.length:Int):=by omega
     simp only[Kb,Km]
     generalize decide ((fs.getD g default).tr.length<=17)=a at *
     generalize decide (((fs.getD g default).n.length:Int) > 40)=b at *
     generalize decide (((fs.getD g default).y.length:Int) > 40)=c at *
     have kI:Jc ((g:Int)+1):=by unfold Jc;omega
     cases a <;> cases b <;> cases c <;> simp only[Bool.not_true,Bool.not_false,Bool.false_eq_true,if_true,if_false,true_implies,false_implies,and_true,true_and,reduceCtorEq]at e3 ⊢
     all_goals (repeat' (first | exact kI | apply And.intro | intro _))
     all_goals first
      | exact k0
      | exact k1
      | exact k26
      | rfl
      | exact hbad e3
      | exact hgood e3
   rw[hfm]at hd
   have e:=Jt hd hg
   subst e
   have hB:(List.range fs.length).all (fun i=>Jhr (fs.getD i default))=true:=List.all_eq_true.2 fun i hi=>ha i (List.mem_range.1 hi)
   have e3:sSF ts fs=szOK ts.length fs.length:=by
    unfold sSF
    rw[hA,hB]
    rfl
   rw[hlm,hfm,e3]
   unfold szOK
   generalize decide ((ts.length:Int)<=4)=a
   generalize ((ts.length:Int) == 9)=b
   generalize decide ((fs.length:Int)<=4)=c
   generalize ((fs.length:Int) == 17)=d
   cases a <;> cases b <;> cases c <;> cases d <;> simp
 exact Jw Tryz.f21 ({ mkB spF 21 [(4,3,rdL 13 Jd ts 13 true),(9,4,rdL 3 Je fs 1 false),(9,12,rdL 3 Je fs 1 false),(9,21,rdL 3 Je fs 1 false)] (la60 ts fs)with split:=fun i=>if i.beq 9 then 1 else if i.beq 11 then 1 else 0 }) key (by kernel_rfl)
def VN(es:List (AV × AV)):AV->Bool
 | .str s=>es.any fun p=>match p.1 with
  | .str x=>x == s
  | _=>false
 | _=>false
def rdK:BL->List AV->Option AV:=fun bs ins=>match ins with
 | [.ref id,k]=>match Jr bs id with
  | .map es=>some (.bool (VN es k))
  | _=>none
 | _=>none
theorem Qu(a b:List UInt8):(a == b)=(b == a):=by
 rw[Bool.eq_iff_iff,beq_iff_eq,beq_iff_eq]
 exact eq_comm
def U7(s:List UInt8):AV × AV:=(.str s,.bool true)
def knT(ts:List Ty):List (AV × AV):=ts.map fun t=>U7 t.name
def knF(fs:List Fl):List (AV × AV):=fs.map fun f=>U7 f.n
theorem QQ{α:Type}(f:α->List UInt8)(s:List UInt8)(l:List α):VN (l.map fun a=>U7 (f a)) (.str s)=l.any fun a=>f a == s:=by
 show((l.map fun a=>U7 (f a)).any fun p=>match p.1 with
  | .str x=>x == s
  | _=>false)=_
 rw[List.any_map]
 rfl
theorem XO{α:Type}(f:α->List UInt8)(s:List UInt8):∀ l:List α,J7 (.str s) (l.map fun a=>U7 (f a))=some (if(l.any fun a=>f a == s)=true then some (.bool true)else none)
 | []=>rfl
 | a::l=>by
  have ih:=XO f s l
  simp only[List.map_cons,U7,J7,Qw,List.any_cons]at ih ⊢
  rw[Qu s (f a)]
  by_cases h:(f a == s)=true
  . simp only[h,Bool.true_or,if_true]
  have h:=Bool.eq_false_iff.2 h
  simp only[h,Bool.false_or]
  exact ih
theorem UN{α:Type}(f:α->List UInt8)(s:List UInt8):∀ l:List α,(l.any fun a=>f a == s)=false->Q6 (.str s) (.bool true) (l.map fun a=>U7 (f a))=some ((l.map fun a=>U7 (f a))++[U7 s])
 | [],_=>rfl
 | a::l,h=>by
  rw[List.any_cons,Bool.or_eq_false_iff]at h
  have ih:=UN f s l h.2
  simp only[List.map_cons,U7,Q6,Qw]at ih ⊢
  rw[Qu s (f a),h.1]
  simp only[ih,List.cons_append]
theorem Xj{α:Type}(f:α->List UInt8)(s:List UInt8)(l:List α):Um false (.bool false) (J7 (.str s) (l.map fun a=>U7 (f a)))=.bool (VN (l.map fun a=>U7 (f a)) (.str s)):=by
 rw[XO,QQ]
 cases l.any fun a=>f a == s <;> rfl
theorem QJ{α:Type}(f:α->List UInt8)(s:List UInt8)(l:List α):(J7 (.str s) (l.map fun a=>U7 (f a))).isSome=true:=by
 rw[XO]
 rfl
theorem Jii{ts:List Ty}{s:List UInt8}{i:Nat}(hi:i<=ts.length):VN (knT (ts.take i)) (.str s)=decide (fiI (pT ts s) i>=0):=by
 unfold knT
 rw[QQ,Vx hi,fiI_dec]
 rfl
theorem has_fl{fs:List Fl}{s:List UInt8}{i:Nat}(hi:i<=fs.length):VN (knF (fs.take i)) (.str s)=decide (fiI (pF fs s) i>=0):=by
 unfold knF
 rw[QQ,Vx hi,fiI_dec]
 rfl
theorem put_ty{ts:List Ty}{g:Nat}(hg:g < ts.length)(h:VN (knT (ts.take g)) (.str (ts.getD g default).name)=false):Q6 (.str (ts.getD g default).name) (.bool true) (knT (ts.take g))=some (knT (ts.take (g+1))):=by
 unfold knT at h ⊢
 rw[QQ]at h
 rw[UN _ _ _ h,List.take_add_one,K8]
 simp[List.getD_eq_getElem?_getD,hg]
theorem put_fl{fs:List Fl}{g:Nat}(hg:g < fs.length)(h:VN (knF (fs.take g)) (.str (fs.getD g default).n)=false):Q6 (.str (fs.getD g default).n) (.bool true) (knF (fs.take g))=some (knF (fs.take (g+1))):=by
 unfold knF at h ⊢
 rw[QQ]at h
 rw[UN _ _ _ h,List.take_add_one,K8]
 simp[List.getD_eq_getElem?_getD,hg]
def fTy(ts:List Ty)(i:Nat):Int:=sFirst [Xr (ts.getD i default),sWhen (VN (knT (ts.take i)) (.str (ts.getD i default).name)) 9]
def fFl(ts:List Ty)(fs:List Fl)(i:Nat):Int:=sFirst [sWhen (!sName (fs.getD i default).n) 8,sWhen (VN (knF (fs.take i)) (.str (fs.getD i default).n)) 9,sWhen (!VN (knT ts) (.str (fs.getD i default).y)) 10,Qd (fs.getD i default).tr]
def VH(ts:List Ty)(fs:List Fl):Int:=if decide ((ts.length:Int) > 8)then 5 else JC (fTy ts) ts.length (if decide ((fs.length:Int) > 16)then 5 else JC (fFl ts fs) fs.length 0)
def la70(ts:List Ty)(fs:List Fl)(b:Nat):Option LA :=
 if b.beq 0 then some {
  pre:=[.keep [1,5,6,18,19,20] [5,6],.bound 7],post:=[.keep [1,5,6,18,19,20] [5,6],.bound 7]
  Gh:=Nat
  st:=fun i=>⟨[(1,.sl 3 (fs.map Je)),(5,.ref 5),(6,.ref 6),(18,.sl 13 (ts.map Jd)),(19,.i ts.length),(20,.i i)],[(5,.map (knT (ts.take i))),(6,.map [])],7⟩
  ok:=fun i=>i<=ts.length/\∀ j,j < i->fTy ts j=0
  ms:=fun i=>ts.length-i }
 else some {
  pre:=[.keep [5,6,43,44,45] [5,6],.bound 7],post:=[.keep [5,6,43,44,45] [5,6],.bound 7]
  Gh:=Nat
  st:=fun i=>⟨[(5,.ref 5),(6,.ref 6),(43,.sl 3 (fs.map Je)),(44,.i fs.length),(45,.i i)],[(5,.map (knT ts)),(6,.map (knF (fs.take i)))],7⟩
  ok:=fun i=>i<=fs.length/\∀ j,j < i->fFl ts fs j=0
  ms:=fun i=>fs.length-i }
def atK(B:BA):BA:=Jjn 7 5 (fun a=>{ a with rdb:=rdK }) (Jjn 17 8 (fun a=>{ a with rdb:=rdK }) (Jjn 17 13 (fun a=>{ a with rdb:=rdK }) B))
abbrev Jbf(fs:List Fl)(g:Nat):=fs.getD (g:Int).toNat default
abbrev Jp3(g:Nat)(fs:List Fl):=VN (knF (List.take g fs)) (AV.str (Jbf fs g).n)
abbrev Z28j(ts:List Ty)(fs:List Fl)(g:Nat):=sWhen (!VN (knT ts) (AV.str (Jbf fs g).y)) (10:Int)
abbrev Jp2(fs:List Fl)(g:Nat):=List.map Jg (Jbf fs g).tr
abbrev Z28a(fs:List Fl)(g:Nat)(ts:List Ty):=[hdI [AV.i (sWhen (!sName (Jbf fs g).n) (8:Int))],hdI [AV.i (sWhen (Jp3 g fs) (9:Int))],hdI [AV.i (Z28j ts fs g)],hdI [AV.i (Qd (VG (Jp2 fs g)))]]
abbrev Jja(ts:List Ty)(g:Nat):=ts.getD (g:Int).toNat default
abbrev Jp4(g:Nat)(ts:List Ty):=VN (knT (List.take g ts)) (AV.str (Jja ts g).name)
abbrev Z28c(ts:List Ty)(g:Nat):=[hdI [AV.i (Xr (V0 (Jd (Jja ts g))))],hdI [AV.i (sWhen (Jp4 g ts) (9:Int))]]
abbrev Ji9(fs:List Fl):=List.map Je fs
abbrev Z28h(ts:List Ty):=((List.map Jd ts).length:Int)
abbrev Z28k(fs:List Fl):=((Ji9 fs).length:Int)
theorem c72(ts:List Ty)(fs:List Fl)(hl:ts.length<=1000)(hm:fs.length<=1000)(hS:∀ t,t ∈ ts->ShortTy t)(hF:∀ f,f ∈ fs->f.n.length<=1000/\f.y.length<=1000/\f.tr.length<=1000):P0 72 [.sl 13 (ts.map Jd),.sl 3 (fs.map Je)] (.i (VH ts fs)):=by
 have key :
  (decide ((Z28h ts) > 8)=true->AV.i 5=AV.i (VH ts fs))/\(decide ((Z28h ts) > 8)=false->(∃ (g:Nat),(g<=ts.length/\∀ (j:Nat),j < g->fTy ts j=(0:Int))/\AS.mk [(1,AV.sl 3 (Ji9 fs)),(5,AV.ref 5),(6,AV.ref
  6),(18,AV.sl 13 (List.map Jd ts)),(19,AV.i (Z28h ts)),(20,AV.i 0)] [(5,ABlk.map []),(6,ABlk.map [])] 7=AS.mk [(1,AV.sl 3 (Ji9 fs)),(5,AV.ref 5),(6,AV.ref 6),(18,AV.sl 13 (List.map Jd ts)),(19,AV.i
  (ts.length:Int)),(20,AV.i (g:Int))] [(5,ABlk.map (knT (List.take g ts))),(6,ABlk.map [])] 7)/\∀ (g:Nat),(g<=ts.length/\∀ (j:Nat),j < g->fTy ts j=(0:Int))->(decide ((g:Int) < (ts.length:Int))=true →
  (0:Int)<=(g:Int)/\(g:Int) < (Z28h ts)/\AV.agg (Ji (List.map Jd ts) (g:Int).toNat)=AV.agg (Jd (Jja ts g))/\(J7 (AV.str (Jja ts g).name) (knT (List.take g ts))).isSome=true/\P0 45 [AV.agg (Jd (Jja
  ts g))] (AV.i (Xr (V0 (Jd (Jja ts g)))))/\Um false (AV.bool false) (J7 (AV.str (Jja ts g).name) (knT (List.take g ts)))=AV.bool (Jp4 g ts)/\P0 90 [AV.bool (Jp4 g ts),AV.i 9] (AV.i (sWhen (Jp4 g ts) (9 :
  Int)))/\P0 44 [AV.sl 1 [[AV.i (Xr (V0 (Jd (Jja ts g))))],[AV.i (sWhen (Jp4 g ts) (9:Int))]]] (AV.i (sFirst (Z28c ts g)))/\((sFirst (Z28c ts g) != 0)=true->AV.i (sFirst (Z28c ts g))=AV.i (VH ts fs))/\((sFirst
  (Z28c ts g) != 0)=false->(Q6 (AV.str (Jja ts g).name) (AV.bool true) (knT (List.take g ts))).isSome=true/\Jc ((g:Int)+1)/\∃ (g':Nat),(g'<=ts.length/\∀ (j:Nat),j < g'->fTy ts j=(0:Int))/\ts.length-g'
  < ts.length-g/\AS.mk [(1,AV.sl 3 (Ji9 fs)),(5,AV.ref 5),(6,AV.ref 6),(18,AV.sl 13 (List.map Jd ts)),(19,AV.i (ts.length:Int)),(20,AV.i ((g:Int)+1))] [(5,ABlk.map ((Q6 (AV.str (Jja ts g).name) (AV.bool
  true) (knT (List.take g ts))).getD [])),(6,ABlk.map [])] 7=AS.mk [(1,AV.sl 3 (Ji9 fs)),(5,AV.ref 5),(6,AV.ref 6),(18,AV.sl 13 (List.map Jd ts)),(19,AV.i (ts.length:Int)),(20,AV.i (g':Int))] [(5,ABlk.map
  (knT (List.take g' ts))),(6,ABlk.map [])] 7))/\(decide ((g:Int) < (ts.length:Int))=false->(decide ((Z28k fs) > 16)=true->AV.i 5=AV.i (VH ts fs))/\(decide ((Z28k fs) > 16)=false->(∃ (g_1:Nat),(g_1 ≤
  fs.length/\∀ (j:Nat),j < g_1->fFl ts fs j=(0:Int))/\AS.mk [(5,AV.ref 5),(6,AV.ref 6),(43,AV.sl 3 (Ji9 fs)),(44,AV.i (Z28k fs)),(45,AV.i 0)] [(5,ABlk.map (knT (List.take g ts))),(6,ABlk.map [])] 7=AS.mk [(5,
  AV.ref 5),(6,AV.ref 6),(43,AV.sl 3 (Ji9 fs)),(44,AV.i (fs.length:Int)),(45,AV.i (g_1:Int))] [(5,ABlk.map (knT ts)),(6,ABlk.map (knF (List.take g_1 fs)))] 7)/\∀ (g:Nat),(g<=fs.length/\∀ (j:Nat),j < g->fFl
  ts fs j=(0:Int))->(decide ((g:Int) < (fs.length:Int))=true->(0:Int)<=(g:Int)/\(g:Int) < (Z28k fs)/\AV.agg (Ji (Ji9 fs) (g:Int).toNat)=AV.agg [AV.str (Jbf fs g).n,AV.str (Jbf fs g).y,AV.sl 5
  (Jp2 fs g)]/\(J7 (AV.str (Jbf fs g).n) (knF (List.take g fs))).isSome=true/\(J7 (AV.str (Jbf fs g).y) (knT ts)).isSome=true/\P0 88 [AV.str (Jbf fs g).n] (AV.bool (sName (Jbf fs g).n))/\P0 90 [AV.bool !sName (Jbf
  fs g).n,AV.i 8] (AV.i (sWhen (!sName (Jbf fs g).n) (8:Int)))/\Um false (AV.bool false) (J7 (AV.str (Jbf fs g).n) (knF (List.take g fs)))=AV.bool (Jp3 g fs)/\P0 90 [AV.bool (Jp3 g fs),AV.i 9] (AV.i (sWhen (Jp3 g
  fs) (9:Int)))/\Um false (AV.bool false) (J7 (AV.str (Jbf fs g).y) (knT ts))=AV.bool (VN (knT ts) (AV.str (Jbf fs g).y))/\P0 90 [AV.bool !VN (knT ts) (AV.str (Jbf fs g).y),AV.i 10] (AV.i (Z28j ts fs g))/\P0 107
  [AV.sl 5 (Jp2 fs g)] (AV.i (Qd (VG (Jp2 fs g))))/\P0 44 [AV.sl 1 [[AV.i (sWhen (!sName (Jbf fs g).n) (8:Int))],[AV.i (sWhen (Jp3 g fs) (9:Int))],[AV.i (Z28j ts fs g)],[AV.i (Qd (VG (Jp2 fs g)))]]] (AV.i
  (sFirst (Z28a fs g ts)))/\((sFirst (Z28a fs g ts) != 0)=true->AV.i (sFirst (Z28a fs g ts))=AV.i (VH ts fs))/\((sFirst (Z28a fs g ts) != 0)=false->(Q6 (AV.str (Jbf fs g).n) (AV.bool true) (knF (List.take g
  fs))).isSome=true/\Jc ((g:Int)+1)/\∃ (g':Nat),(g'<=fs.length/\∀ (j:Nat),j < g'->fFl ts fs j=(0:Int))/\fs.length-g' < fs.length-g/\AS.mk [(5,AV.ref 5),(6,AV.ref 6),(43,AV.sl 3 (Ji9 fs)),(44,AV.i
  (fs.length:Int)),(45,AV.i ((g:Int)+1))] [(5,ABlk.map (knT ts)),(6,ABlk.map ((Q6 (AV.str (Jbf fs g).n) (AV.bool true) (knF (List.take g fs))).getD []))] 7=AS.mk [(5,AV.ref 5),(6,AV.ref 6),(43,AV.sl 3 (Ji9
  fs)),(44,AV.i (fs.length:Int)),(45,AV.i (g':Int))] [(5,ABlk.map (knT ts)),(6,ABlk.map (knF (List.take g' fs)))] 7))/\(decide ((g:Int) < (fs.length:Int))=false->AV.i 0=AV.i (VH ts fs))))):=by
   delta Z28a Jbf Z28c Jja Jp4 Jp3 Ji9 Z28h Jp2 Z28j Z28k
   have hlm:(List.map Jd ts).length=ts.length:=Kb _
   have hfm:(List.map Je fs).length=fs.length:=Kb _
   rw[hlm,hfm]
   simp only[Ur,Vj]
   refine⟨fun h=>?_,fun h=>⟨⟨0,⟨by omega,by intros;omega⟩,rfl⟩,fun g ⟨hg,ha⟩=>⟨fun hd=>?_,fun hd=>?_⟩⟩⟩
   . unfold VH
     rw[if_pos h]
   . have hlt:=Jm hd
     have hs:=hS _ (Js hlt)
     have h8:¬ decide ((ts.length:Int) > 8)=true:=by rw[h];exact Bool.false_ne_true
     have hput:fTy ts g=0->Q6 (.str (ts.getD g default).name) (.bool true) (knT (ts.take g))=some (knT (ts.take (g+1))):=fun hz=>by
      unfold fTy at hz
      rw[first_zero,first_zero]at hz
      exact put_ty hlt (Qp (by decide) hz.2.1)
     refine⟨by omega,by omega,congrArg AV.agg (Jl Jd hlt),QJ Ty.name _ _,c45 (ts.getD g default) (by have:=hs.st;omega) (by have:=hs.s;omega) (by have:=hs.q;omega) (fun x hx=>by have:=hs.e x hx;omega) (by have:=hs.n;omega),Xj Ty.name _ _,c90 _ _,c44 [_,_] (by simp),fun hx=>?_,fun hx=>?_⟩
     . have hne:fTy ts g ≠ 0:=Uv hx
       refine Xd ?_
       unfold VH
       rw[if_neg h8,J4 hlt ha hne]
       rfl
     have hz:fTy ts g=0:=QE hx
     have hp:=hput hz
     refine⟨by rw[show Q6 (AV.str (ts.getD ((g:Int)).toNat default).name) (AV.bool true) (knT (List.take g ts))=_ from hp];rfl,by unfold Jc;omega,g+1,⟨hlt,fun j hj=>?_⟩,by omega,?_⟩
     . by_cases e:j=g
       . rw[e];exact hz
       exact ha j (by omega)
     rw[show Q6 (AV.str (ts.getD ((g:Int)).toNat default).name) (AV.bool true) (knT (List.take g ts))=_ from hp]
     rfl
   have e:=Jt hd hg
   subst e
   have h8:¬ decide ((ts.length:Int) > 8)=true:=by rw[h];exact Bool.false_ne_true
   have hc:VH ts fs=if decide ((fs.length:Int) > 16)then 5 else JC (fFl ts fs) fs.length 0:=by
    unfold VH
    rw[if_neg h8,scan_end ha]
   refine⟨fun h=>?_,fun h=>⟨⟨0,⟨by omega,by intros;omega⟩,by rw[Kw];rfl⟩,fun g ⟨hg,ha⟩=>⟨fun hd=>?_,fun hd=>?_⟩⟩⟩
   . rw[hc,if_pos h]
   . have hlt:=Jm hd
     have hs:=hF _ (Js hlt)
     have h8:¬ decide ((fs.length:Int) > 16)=true:=by rw[h];exact Bool.false_ne_true
     have hput:fFl ts fs g=0->Q6 (.str (fs.getD g default).n) (.bool true) (knF (fs.take g))=some (knF (fs.take (g+1))):=fun hz=>by
      unfold fFl at hz
      rw[first_zero,first_zero]at hz
      exact put_fl hlt (Qp (by decide) hz.2.1)
     refine⟨by omega,by omega,congrArg AV.agg (Jl Je hlt),QJ Fl.n _ _,QJ Ty.name _ _,c88 (fs.getD g default).n (by omega),c90 _ _,Xj Fl.n _ _,c90 _ _,Xj Ty.name _ _,c90 _ _,?_,c44 [_,_,_,_] (by simp),fun hx=>?_,fun hx=>?_⟩
     . exact c107 (fs.getD g default).tr (by rw[Kb];omega)
     . have hne:fFl ts fs g ≠ 0:=Uv hx
       refine Xd ?_
       rw[hc,if_neg h8,J4 hlt ha hne]
       rfl
     have hz:fFl ts fs g=0:=QE hx
     have hp:=hput hz
     refine⟨by rw[show Q6 (AV.str (fs.getD ((g:Int)).toNat default).n) (AV.bool true) (knF (List.take g fs))=_ from hp];rfl,by unfold Jc;omega,g+1,⟨hlt,fun j hj=>?_⟩,by omega,?_⟩
     . by_cases e:j=g
       . rw[e];exact hz
       exact ha j (by omega)
     rw[show Q6 (AV.str (fs.getD ((g:Int)).toNat default).n) (AV.bool true) (knF (List.take g fs))=_ from hp]
     rfl
   have e:=Jt hd hg
   subst e
   have h8:¬ decide ((fs.length:Int) > 16)=true:=by rw[h];exact Bool.false_ne_true
   rw[hc,if_neg h8,scan_end ha]
 exact Jw Tryz.f72 (atK (fzB (mkB spF 72 [(6,1,rdL 13 Jd ts 13 true),(16,1,rdL 3 Je fs 3 true)] (la70 ts fs)))) key (by kernel_rfl)
def gTy(ts:List Ty)(i:Nat):Int:=sFirst [JeN (ts.getD i default),sWhen (decide (fiI (pT ts (ts.getD i default).name) i>=0)) 9]
def gFl(ts:List Ty)(fs:List Fl)(i:Nat):Int:=sFirst [sWhen (!sName (fs.getD i default).n) 8,sWhen (decide (fiI (pF fs (fs.getD i default).n) i>=0)) 9,sWhen (decide (fiI (pT ts (fs.getD i default).y) ts.length < 0)) 10,QO (fs.getD i default).tr]
def Jdk(ts:List Ty)(fs:List Fl):Int:=if decide ((ts.length:Int) > 8)then 5 else JC (gTy ts) ts.length (if decide ((fs.length:Int) > 16)then 5 else JC (gFl ts fs) fs.length 0)
theorem JhG{ts:List Ty}{s:List UInt8}{g j:Nat}(hj:j < g):pT (ts.take g) s j=pT ts s j:=by
 unfold pT
 rw[Ka,Ka,List.getElem?_take,if_pos hj]
theorem JhH{fs:List Fl}{s:List UInt8}{g j:Nat}(hj:j < g):pF (fs.take g) s j=pF fs s j:=by
 unfold pF
 rw[Ka,Ka,List.getElem?_take,if_pos hj]
theorem fiT{ts:List Ty}{s:List UInt8}{g:Nat}(hg:g<=ts.length):fiI (pR ((ts.take g).map Jd) s) ((ts.take g).map Jd).length=fiI (pT ts s) g:=by
 have e:((ts.take g).map Jd).length=g:=by rw[Kb,Kg];omega
 rw[e]
 exact XH fun j hj=>(pR_ty (by rw[Kg];omega)).trans (JhG hj)
theorem fiF{fs:List Fl}{s:List UInt8}{g:Nat}(hg:g<=fs.length):fiI (pR ((fs.take g).map Je) s) ((fs.take g).map Je).length=fiI (pF fs s) g:=by
 have e:((fs.take g).map Je).length=g:=by rw[Kb,Kg];omega
 rw[e]
 exact XH fun j hj=>(pR_fl (by rw[Kg];omega)).trans (JhH hj)
theorem c54t{ts:List Ty}{g:Nat}(s:List UInt8)(hl:ts.length<=1000)(hg:g<=ts.length):P0 54 [.sl 13 ((ts.take g).map Jd),.str s] (.i (fiI (pT ts s) g)):=by
 have h:=c54 (ts.take g) s (by rw[Kg];omega)
 rw[show(ts.take g).length=g by rw[Kg];omega,XH (fun j hj=>JhG hj)]at h
 exact h
theorem c56t{fs:List Fl}{g:Nat}(s:List UInt8)(hl:fs.length<=1000)(hg:g<=fs.length):P0 56 [.sl 3 ((fs.take g).map Je),.str s] (.i (fiI (pF fs s) g)):=by
 have h:=c56 (fs.take g) s (by rw[Kg];omega)
 rw[show(fs.take g).length=g by rw[Kg];omega,XH (fun j hj=>JhH hj)]at h
 exact h
def la66(ts:List Ty)(fs:List Fl)(b:Nat):Option LA :=
 if b.beq 0 then some {
  pre:=[.keep [0,1,5] [],.bound 1],post:=[.keep [0,1,5] [],.bound 1]
  Gh:=Nat
  st:=fun i=>⟨[(0,.sl 13 (ts.map Jd)),(1,.sl 3 (fs.map Je)),(5,.i i)],[],1⟩
  ok:=fun i=>i<=ts.length/\∀ j,j < i->gTy ts j=0
  ms:=fun i=>ts.length-i }
 else some {
  pre:=[.keep [0,1,7] [],.bound 1],post:=[.keep [0,1,7] [],.bound 1]
  Gh:=Nat
  st:=fun i=>⟨[(0,.sl 13 (ts.map Jd)),(1,.sl 3 (fs.map Je)),(7,.i i)],[],1⟩
  ok:=fun i=>i<=fs.length/\∀ j,j < i->gFl ts fs j=0
  ms:=fun i=>fs.length-i }
abbrev JeA(fs:List Fl)(g:Nat):=fs.getD (g:Int).toNat default
abbrev Jo9(g:Nat):=(g:Int)-0
abbrev Jfz(fs:List Fl):=List.map Je fs
abbrev Z29k(g:Nat)(fs:List Fl):=List.take (Jo9 g).toNat (List.drop (Int.toNat (0:Int)) (Jfz fs))
abbrev Z29c(g:Nat)(fs:List Fl):=decide (fiI (pR (Z29k g fs) (JeA fs g).n) (Z29k g fs).length>=0)
abbrev Jbe(ts:List Ty):=List.map Jd ts
abbrev Z29l(ts:List Ty)(fs:List Fl)(g:Nat):=decide (fiI (pR (Jbe ts) (JeA fs g).y) (Jbe ts).length < 0)
abbrev Jp1(fs:List Fl)(g:Nat):=List.map Jg (JeA fs g).tr
abbrev Z29a(fs:List Fl)(g:Nat)(ts:List Ty):=[hdI [AV.i (sWhen (!sName (JeA fs g).n) (8:Int))],hdI [AV.i (sWhen (Z29c g fs) (9:Int))],hdI [AV.i (sWhen (Z29l ts fs g) (10:Int))],hdI [AV.i (QO (VG (Jp1 fs g)))]]
abbrev Z29j(g:Nat)(ts:List Ty):=List.take (Jo9 g).toNat (List.drop (Int.toNat (0:Int)) (Jbe ts))
abbrev Jjw(ts:List Ty)(g:Nat):=ts.getD (g:Int).toNat default
abbrev Z29b(g:Nat)(ts:List Ty):=decide (fiI (pR (Z29j g ts) (Jjw ts g).name) (Z29j g ts).length>=0)
abbrev Z29e(ts:List Ty)(g:Nat):=[hdI [AV.i (JeN (V0 (Jd (Jjw ts g))))],hdI [AV.i (sWhen (Z29b g ts) (9:Int))]]
abbrev Jjv(fs:List Fl):=((Jfz fs).length:Int)
abbrev JmC(ts:List Ty):=((Jbe ts).length:Int)
abbrev Z29o(fs:List Fl)(g:Nat):=Ji (Jfz fs) (g:Int).toNat
theorem c22(ts:List Ty)(fs:List Fl)(hl:ts.length<=1000)(hm:fs.length<=1000)(hS:∀ t,t ∈ ts->ShortTy t)(hF:∀ f,f ∈ fs->f.n.length<=1000/\f.y.length<=1000/\f.tr.length<=1000):P0 22 [.sl 13 (ts.map Jd),.sl 3 (fs.map Je)] (.i (Jdk ts fs)):=by
 have key :
  (decide ((JmC ts) > 8)=true->AV.i 5=AV.i (Jdk ts fs))/\(decide ((JmC ts) > 8)=false->(∃ (g:Nat),(g<=ts.length/\∀ (j:Nat),j < g->gTy ts j=(0:Int))/\AS.mk [(0,AV.sl 13 (Jbe ts)),(1,AV.sl 3 (Jfz fs)),
  (5,AV.i 0)] [] 1=AS.mk [(0,AV.sl 13 (Jbe ts)),(1,AV.sl 3 (Jfz fs)),(5,AV.i (g:Int))] [] 1)/\∀ (g:Nat),(g<=ts.length/\∀ (j:Nat),j < g->gTy ts j=(0:Int))->(decide ((g:Int) < (JmC ts))=true->(0 :
  Int)<=(g:Int)/\(g:Int) < (JmC ts)/\(0:Int)<=0/\(0:Int)<=(g:Int)/\(g:Int)<=(JmC ts)/\(0:Int)<=(g:Int)/\(g:Int) < (JmC ts)/\AV.agg (Ji (Jbe ts) (g:Int).toNat)=AV.agg (Jd (Jjw ts g))
  /\ P0 52 [AV.agg (Jd (Jjw ts g))] (AV.i (JeN (V0 (Jd (Jjw ts g)))))/\nth (Ji (Jbe ts) (g:Int).toNat) 0=AV.str (Jjw ts g).name/\P0 54 [AV.sl 13 (List.take (Jo9 g).toNat (List.drop 0 (Jbe ts))),AV.str (Jjw
  ts g).name] (AV.i (fiI (pR (Z29j g ts) (Jjw ts g).name) (List.take (Jo9 g).toNat (List.drop 0 (Jbe ts))).length))/\P0 53 [AV.bool (Z29b g ts),AV.i 9] (AV.i (sWhen (Z29b g ts) (9:Int)))/\P0 51 [AV.sl 1 [[AV.i (JeN (V0
  (Jd (Jjw ts g))))],[AV.i (sWhen (Z29b g ts) (9:Int))]]] (AV.i (sFirst (Z29e ts g)))/\((sFirst (Z29e ts g) != 0)=true->AV.i (sFirst (Z29e ts g))=AV.i (Jdk ts fs))/\((sFirst (Z29e ts g) != 0)=false->Jc ((g:Int)
  + 1)/\∃ (g':Nat),(g'<=ts.length/\∀ (j:Nat),j < g'->gTy ts j=(0:Int))/\ts.length-g' < ts.length-g/\AS.mk [(0,AV.sl 13 (Jbe ts)),(1,AV.sl 3 (Jfz fs)),(5,AV.i ((g:Int)+1))] [] 1=AS.mk [(0,AV.sl 13
  (Jbe ts)),(1,AV.sl 3 (Jfz fs)),(5,AV.i (g':Int))] [] 1))/\(decide ((g:Int) < (JmC ts))=false->(decide ((Jjv fs) > 16)=true->AV.i 5=AV.i (Jdk ts fs))/\(decide ((Jjv fs) > 16)=false->(∃ (g:Nat),(g ≤
  fs.length/\∀ (j:Nat),j < g->gFl ts fs j=(0:Int))/\AS.mk [(0,AV.sl 13 (Jbe ts)),(1,AV.sl 3 (Jfz fs)),(7,AV.i 0)] [] 1=AS.mk [(0,AV.sl 13 (Jbe ts)),(1,AV.sl 3 (Jfz fs)),(7,AV.i (g:Int))] [] 1)/\∀ (g :
  Nat),(g<=fs.length/\∀ (j:Nat),j < g->gFl ts fs j=(0:Int))->(decide ((g:Int) < (Jjv fs))=true->(0:Int)<=(g:Int)/\(g:Int) < (Jjv fs)/\(0:Int)<=0/\(0:Int)<=(g:Int)/\(g:Int)<=(Jjv fs)/\(0
  : Int)<=(g:Int)/\(g:Int) < (Jjv fs)/\(0:Int)<=(g:Int)/\(g:Int) < (Jjv fs)/\(0:Int)<=(g:Int)/\(g:Int) < (Jjv fs)/\nth (Z29o fs g) 0=AV.str (JeA fs g).n/\P0 55 [AV.str (JeA fs g).n] (AV.i (sWhen
  (!sName (JeA fs g).n) (8:Int)))/\nth (Z29o fs g) 0=AV.str (JeA fs g).n/\P0 56 [AV.sl 3 (List.take (Jo9 g).toNat (List.drop 0 (Jfz fs))),AV.str (JeA fs g).n] (AV.i (fiI (pR (Z29k g fs) (JeA fs g).n) (List.take (Jo9
  g).toNat (List.drop 0 (Jfz fs))).length))/\P0 53 [AV.bool (Z29c g fs),AV.i 9] (AV.i (sWhen (Z29c g fs) (9:Int)))/\nth (Z29o fs g) 1=AV.str (JeA fs g).y/\P0 54 [AV.sl 13 (Jbe ts),AV.str (JeA fs g).y] (AV.i (fiI (pR
  (Jbe ts) (JeA fs g).y) (Jbe ts).length))/\P0 53 [AV.bool (Z29l ts fs g),AV.i 10] (AV.i (sWhen (Z29l ts fs g) (10:Int)))/\nth (Z29o fs g) 2=AV.sl 5 (Jp1 fs g)/\P0 57 [AV.sl 5 (Jp1 fs g)] (AV.i (QO (VG (Jp1 fs
  g))))/\P0 51 [AV.sl 1 [[AV.i (sWhen (!sName (JeA fs g).n) (8:Int))],[AV.i (sWhen (Z29c g fs) (9:Int))],[AV.i (sWhen (Z29l ts fs g) (10:Int))],[AV.i (QO (VG (Jp1 fs g)))]]] (AV.i (sFirst (Z29a fs g ts))) /\
  ((sFirst (Z29a fs g ts) != 0)=true->AV.i (sFirst (Z29a fs g ts))=AV.i (Jdk ts fs))/\((sFirst (Z29a fs g ts) != 0)=false->Jc ((g:Int)+1)/\∃ (g':Nat),(g'<=fs.length/\∀ (j:Nat),j < g'->gFl ts fs j=(0 :
  Int))/\fs.length-g' < fs.length-g/\AS.mk [(0,AV.sl 13 (Jbe ts)),(1,AV.sl 3 (Jfz fs)),(7,AV.i ((g:Int)+1))] [] 1=AS.mk [(0,AV.sl 13 (Jbe ts)),(1,AV.sl 3 (Jfz fs)),(7,AV.i (g':Int))] [] 1))/\(decide
  ((g:Int) < (Jjv fs))=false->AV.i 0=AV.i (Jdk ts fs))))):=by
   delta Z29a Z29b Z29c JeA Z29e Jbe Jfz Jjw Jjv Z29j Z29k Z29l JmC Jp1 Z29o Jo9
   have hlm:(List.map Jd ts).length=ts.length:=Kb _
   have hfm:(List.map Je fs).length=fs.length:=Kb _
   simp only[Ur,Vj,Int.sub_zero,Km,Int.toNat_zero,List.drop_zero,<- List.map_take]
   have hfi:∀ s,fiI (pR (List.map Jd ts) s) (List.map Jd ts).length=fiI (pT ts s) ts.length:=fun s=>by
    rw[hlm]
    exact XH fun j hj=>pR_ty hj
   simp only[hfi]
   rw[hlm,hfm]
   refine⟨fun h=>?_,fun h=>⟨⟨0,⟨by omega,by intros;omega⟩,rfl⟩,fun g ⟨hg,ha⟩=>⟨fun hd=>?_,fun hd=>?_⟩⟩⟩
   . unfold Jdk
     rw[if_pos h]
   . have hlt:=Jm hd
     have hs:=hS _ (Js hlt)
     have h8:¬ decide ((ts.length:Int) > 8)=true:=by rw[h];exact Bool.false_ne_true
     rw[fiT (K7 hlt)]
     have hrow:Ji (List.map Jd ts) g=Jd (ts.getD g default):=Jl Jd hlt
     rw[hrow]
     refine⟨by omega,by omega,by omega,by omega,by omega,by omega,by omega,rfl,c52t hs,rfl,c54t _ hl (K7 hlt),c53 _ _,c51 [_,_] (by simp),fun hx=>?_,fun hx=>?_⟩
     . have hne:gTy ts g ≠ 0:=Uv hx
       refine Xd ?_
       unfold Jdk
       rw[if_neg h8,J4 hlt ha hne]
       rfl
     have hz:gTy ts g=0:=QE hx
     refine⟨by unfold Jc;omega,g+1,⟨hlt,fun j hj=>?_⟩,by omega,rfl⟩
     by_cases e:j=g
     . rw[e];exact hz
     exact ha j (by omega)
   have e:=Jt hd hg
   subst e
   have h8:¬ decide ((ts.length:Int) > 8)=true:=by rw[h];exact Bool.false_ne_true
   have hc:Jdk ts fs=if decide ((fs.length:Int) > 16)then 5 else JC (gFl ts fs) fs.length 0:=by
    unfold Jdk
    rw[if_neg h8,scan_end ha]
   refine⟨fun h=>?_,fun h=>⟨⟨0,⟨by omega,by intros;omega⟩,rfl⟩,fun g ⟨hg,ha⟩=>⟨fun hd=>?_,fun hd=>?_⟩⟩⟩
   . rw[hc,if_pos h]
   . have hlt:=Jm hd
     have hs:=hF _ (Js hlt)
     have h8:¬ decide ((fs.length:Int) > 16)=true:=by rw[h];exact Bool.false_ne_true
     rw[fiF (K7 hlt)]
     have hrow:Ji (List.map Je fs) g=Je (fs.getD g default):=Jl Je hlt
     rw[hrow]
     refine⟨by omega,by omega,by omega,by omega,by omega,by omega,by omega,by omega,by omega,by omega,by omega,rfl,c55 (fs.getD g default).n (by omega),rfl,c56t _ hm (K7 hlt),c53 _ _,rfl,c54 _ _ hl,c53 _ _,rfl,?_,c51 [_,_,_,_] (by simp),fun hx=>?_,fun hx=>?_⟩
     . exact c57 (fs.getD g default).tr (by rw[Kb];omega)
     . have hne:gFl ts fs g ≠ 0:=Uv hx
       refine Xd ?_
       rw[hc,if_neg h8,J4 hlt ha hne]
       rfl
     have hz:gFl ts fs g=0:=QE hx
     refine⟨by unfold Jc;omega,g+1,⟨hlt,fun j hj=>?_⟩,by omega,rfl⟩
     by_cases e:j=g
     . rw[e];exact hz
     exact ha j (by omega)
   have e:=Jt hd hg
   subst e
   have h8:¬ decide ((fs.length:Int) > 16)=true:=by rw[h];exact Bool.false_ne_true
   rw[hc,if_neg h8,scan_end ha]
 exact Jw Tryz.f22 (fzB (mkB spF 22 [(6,3,rdL 13 Jd ts 13 true),(6,12,rdL 13 Jd ts 1 false),(14,4,rdL 3 Je fs 1 false),(14,13,rdL 3 Je fs 1 false),(14,22,rdL 3 Je fs 1 false),(14,30,rdL 3 Je fs 1 false)] (la66 ts fs))) key (by kernel_rfl)
theorem not_ge(a:Int):(!decide (a>=0))=decide (a < 0):=by
 by_cases h:a>=0
 . rw[decide_eq_true h,decide_eq_false (by omega)];rfl
 rw[decide_eq_false h,decide_eq_true (by omega)];rfl
theorem Jop(ts:List Ty)(fs:List Fl):VH ts fs=Jdk ts fs:=by
 unfold VH Jdk
 split
 . rfl
 have e1:JC (fFl ts fs) fs.length 0=JC (gFl ts fs) fs.length 0:=Qq fun k hk=>by
  unfold fFl gFl
  have h1:=Jii (ts:=ts) (s:=(fs.getD k default).y) (Kr _)
  rw[Kw]at h1
  rw[has_fl (K7 hk),h1,not_ge,Jbl]
 rw[e1]
 exact Qq fun k hk=>by
  unfold fTy gTy
  rw[Jii (K7 hk),ty_eq]
theorem chkF_z{ts:List Ty}{fs:List Fl}(h:VH ts fs=0):ts.length<=8/\fs.length<=16/\(∀ i,i < ts.length->Xr (ts.getD i default)=0)/\∀ i,i < fs.length->fiN (pT ts (fs.getD i default).y) ts.length < ts.length/\Qd (fs.getD i default).tr=0:=by
 unfold VH at h
 split at h
 . cases h
 rename_i h1
 obtain⟨h2,h3⟩:=JL h
 split at h3
 . cases h3
 rename_i h4
 obtain⟨h5,_⟩:=JL h3
 simp only[Ko]at h1 h4
 refine⟨by omega,by omega,fun i hi=>?_,fun i hi=>?_⟩
 . have:=h2 i hi
   unfold fTy at this
   rw[first_zero]at this
   exact this.1
 have:=h5 i hi
 unfold fFl at this
 rw[first_zero,first_zero,first_zero,first_zero]at this
 have h6:=Qp (by decide) this.2.2.1
 have h7:=Jii (ts:=ts) (s:=(fs.getD i default).y) (Kr _)
 rw[Kw]at h7
 rw[h7,fiI_dec]at h6
 exact⟨by simpa using h6,this.2.2.2.1⟩
def JpB(t:Ty)(l:List Fx)(x y z:Int):Int:=Jdr (JcS t l x y z) (Jp l) (Qf l-Jp l).toNat
def tyF(ts:List Ty)(f:Fl):Ty:=ts.getD (fiN (pT ts f.y) ts.length) default
def JaB(ts:List Ty)(x y z:Int)(f:Fl):Int:=JpB (tyF ts f) f.tr x y z
structure Ex where
 f:Fl
 e:Int
 deriving Inhabited
def JP(x:Ex):List AV:=[.str x.f.n,.str x.f.y,.sl 5 (x.f.tr.map Jg),.i x.e]
def Wi(ts:List Ty)(x y z:Int)(f:Fl):Ex:=⟨f,JaB ts x y z f⟩
structure FlOK(ts:List Ty)(f:Fl):Prop where
 i:fiN (pT ts f.y) ts.length < ts.length
 t:Xr (tyF ts f)=0
 o:TrackOK f.tr
 s:Qf f.tr-Jp f.tr<=1000
def Jeg:List AV->Fl
 | .str n::.str y::.sl _ rows::_=>⟨n,y,VG rows⟩
 | _=>default
theorem Jah(f:Fl):Jeg (Je f)=f:=by
 show Fl.mk f.n f.y (VG (f.tr.map Jg))=f
 rw[Vj]
theorem c77x{t:Ty}{l:List Fx}{x y z:Int}(hT:Xr t=0)(hO:TrackOK l)(hsp:Qf l-Jp l<=1000)(hx : -100000<=x/\x<=100000)(hy : -100000<=y/\y<=100000)(hz:0<=z/\z<=20000):P0 77 [.agg (Jd t),.sl 5 (l.map Jg),.agg [.i (Jp l),.i (Qf l)],.agg [.i x,.i y,.i z]] (.i (JpB t l x y z)):=by
 have n1:=hO.n1
 have h:=c77 t l (Jp l) (Qf l) x y z hT hO hsp (hO.b 0 (by omega)).1 (hO.b (l.length-1) (by omega)).1 hx hy hz
 rw[show J5 l (Jp l)=Jp l from if_neg (by omega),show toB l (Qf l)=Qf l from if_neg (by omega)]at h
 exact h
def sp155(ts:List Ty)(x y z:Int):Nat->List AV->Option AV
 | 76,[_,.str s]=>some (.i (fiI (pT ts s) ts.length))
 | 78,[.sl _ rows]=>some (.agg [.i (Jp (VG rows)),.i (Qf (VG rows))])
 | 77,[.agg c,.sl _ rows,_,_]=>some (.i (JpB (V0 c) (VG rows) x y z))
 | n,w=>spF n w
abbrev Jo8(f:Fl):=VG (List.map Jg f.tr)
theorem c75(ts:List Ty)(f:Fl)(x y z:Int)(hl:ts.length<=1000)(hF:FlOK ts f)(hx : -100000<=x/\x<=100000)(hy : -100000<=y/\y<=100000)(hz:0<=z/\z<=20000):P0 75 [.agg (Je f),.elt 1 [[.sl 13 (ts.map Jd)]] 0 0,.elt 3 [[.i x,.i y,.i z]] 0 0] (.agg (JP (Wi ts x y z f))):=by
 have key :
  (0:Int)<=fiI (pT ts f.y) ts.length/\fiI (pT ts f.y) ts.length < ((List.map Jd ts).length:Int)/\P0 76 [AV.sl 13 (List.map Jd ts),AV.str f.y] (AV.i (fiI (pT ts f.y) ts.length))/\AV.agg (Ji (List.map Jd ts) (fiI
  (pT ts f.y) ts.length).toNat)=AV.agg (Jd (tyF ts f))/\P0 78 [AV.sl 5 (List.map Jg f.tr)] (AV.agg [AV.i (Jp (Jo8 f)),AV.i (Qf (Jo8 f))])/\P0 77 [AV.agg (Jd (tyF ts f)),AV.sl 5 (List.map Jg f.tr),AV.agg
  [AV.i (Jp (Jo8 f)),AV.i (Qf (Jo8 f))],AV.agg [AV.i x,AV.i y,AV.i z]] (AV.i (JpB (V0 (Jd (tyF ts f))) (Jo8 f) x y z))/\AV.agg [AV.str f.n,AV.str f.y,AV.sl 5 (List.map Jg f.tr),AV.i (JpB (V0 (Jd
  (tyF ts f))) (Jo8 f) x y z)]=AV.agg [AV.str (Wi ts x y z f).f.n,AV.str (Wi ts x y z f).f.y,AV.sl 5 (List.map Jg (Wi ts x y z f).f.tr),AV.i (JaB ts x y z f)]:=by
   delta Jo8
   simp only[Ur,Vj]
   have hI:fiI (pT ts f.y) ts.length=(fiN (pT ts f.y) ts.length:Nat):=if_neg (by have:=hF.i;omega)
   have h156:=c76 ts f.y hl
   rw[hI]at h156 ⊢
   have h1:=hF.i
   have n1:=hF.o.n1
   have n2:=hF.o.n2
   exact⟨by omega,by rw[Kb];omega,h156,congrArg AV.agg (Jl Jd hF.i),c78 f.tr (by omega) (by omega),c77x hF.t hF.o hF.s hx hy hz,rfl⟩
 exact Jw Tryz.f75 (fzB (mkB (sp155 ts x y z) 75 [(1,7,fun _=>some (.agg (Jd (tyF ts f))))] J1)) key (by kernel_rfl)
def sp154(ts:List Ty)(x y z:Int):Nat->List AV->Option AV
 | 75,[.agg c,_,_]=>some (.agg (JP (Wi ts x y z (Jeg c))))
 | n,w=>spF n w
def fn155(ts:List Ty)(x y z:Int):AV:=.fn (.func 75) [] [.elt 1 [[.sl 13 (ts.map Jd)]] 0 0,.elt 3 [[.i x,.i y,.i z]] 0 0]
def la154(ts:List Ty)(fs:List Fl)(x y z:Int):LA:={
 pre:=[.own 5 152 4,.reno 5 1,.keep [1,5,8,9,10] [1],.bound 2],post:=[.reno 5 1,.keep [1,5,8,9,10] [1],.bound 2]
 Gh:=Nat
 st:=fun i=>⟨[(1,fn155 ts x y z),(5,.own 1 (((fs.take i).map (Wi ts x y z)).map JP).length),(8,.sl 3 (fs.map Je)),(9,.i (fs.map Je).length),(10,.i i)],[(1,.buf 152 4 (((fs.take i).map (Wi ts x y z)).map JP))],2⟩
 ok:=fun i=>i<=(fs.map Je).length
 ms:=fun i=>(fs.map Je).length-i }
abbrev Jo7(fs:List Fl)(g:Nat):=fs.getD (g:Int).toNat default
abbrev Z31b(ts:List Ty)(x:Int)(y:Int)(z:Int):=[AV.elt 1 [[AV.sl 13 (List.map Jd ts)]] 0 0,AV.elt 3 [[AV.i x,AV.i y,AV.i z]] 0 0]
abbrev JgT(fs:List Fl):=List.map Je fs
abbrev JmB(fs:List Fl):=((JgT fs).length:Int)
abbrev Jo6(ts:List Ty)(x:Int)(y:Int)(z:Int)(g:Nat)(fs:List Fl):=List.map JP (List.map (Wi ts x y z) (List.take g fs))
abbrev Z31f(fs:List Fl)(g:Nat)(ts:List Ty)(x:Int)(y:Int)(z:Int):=[AV.str (Jo7 fs g).n,AV.str (Jo7 fs g).y,AV.sl 5 (List.map Jg (VG (List.map Jg (Jo7 fs g).tr))),AV.i (JaB ts x y z (Jeg (Je (Jo7 fs g))))]
theorem c74(ts:List Ty)(fs:List Fl)(x y z:Int)(hl:ts.length<=1000)(hm:fs.length<=1000)(hF:∀ f,f ∈ fs->FlOK ts f)(hx : -100000<=x/\x<=100000)(hy : -100000<=y/\y<=100000)(hz:0<=z/\z<=20000):P0 74 [.sl 3 (fs.map Je),fn155 ts x y z] (.fresh 152 4 ((fs.map (Wi ts x y z)).map JP)):=by
 have key :
  (∃ (g:Nat),g<=(JgT fs).length/\AS.mk [(1,AV.fn (Fn.func 75) [] (Z31b ts x y z)),(5,AV.own 1 0),(8,AV.sl 3 (JgT fs)),(9,AV.i (JmB fs)),(10,AV.i 0)] [(1,ABlk.buf 152 4 [])] 2=AS.mk [(1,AV.fn (Fn.func 75) [] (Z31b
  ts x y z)),(5,AV.own 1 (Jo6 ts x y z g fs).length),(8,AV.sl 3 (JgT fs)),(9,AV.i (JmB fs)),(10,AV.i (g:Int))] [(1,ABlk.buf 152 4 (Jo6 ts x y z g fs))] 2)/\∀ (g:Nat),g<=(JgT fs).length->(decide ((g:Int) <
  (JmB fs))=true->(0:Int)<=(g:Int)/\(g:Int) < (JmB fs)/\AV.agg (Ji (JgT fs) (g:Int).toNat)=AV.agg (Je (Jo7 fs g))/\(Jo6 ts x y z g fs).length+1<=9223372036854775807/\((Jo6 ts x y z g fs).length+1)
  * 64<=140737488355328/\P0 75 [AV.agg (Je (Jo7 fs g)),AV.elt 1 [[AV.sl 13 (List.map Jd ts)]] 0 0,AV.elt 3 [[AV.i x,AV.i y,AV.i z]] 0 0] (AV.agg (Z31f fs g ts x y z))/\Jc ((g:Int)+1)/\∃ (g':Nat),g'<=(JgT
  fs).length/\(JgT fs).length-g' < (JgT fs).length-g/\AS.mk [(1,AV.fn (Fn.func 75) [] (Z31b ts x y z)),(5,AV.own 1 ((Jo6 ts x y z g fs).length+1)),(8,AV.sl 3 (JgT fs)),(9,AV.i (JmB fs)),(10,AV.i ((g:Int) +
  1))] [(1,ABlk.buf 152 4 (List.map JP (List.map (Wi ts x y z) (List.take g fs))++[(Z31f fs g ts x y z)]))] 2=AS.mk [(1,AV.fn (Fn.func 75) [] (Z31b ts x y z)),(5,AV.own 1 (List.map JP (List.map (Wi ts x y z)
  (List.take g' fs))).length),(8,AV.sl 3 (JgT fs)),(9,AV.i (JmB fs)),(10,AV.i (g':Int))] [(1,ABlk.buf 152 4 (List.map JP (List.map (Wi ts x y z) (List.take g' fs))))] 2)/\(decide ((g:Int) < (JmB fs))=false →
  AV.fresh 152 4 (Jo6 ts x y z g fs)=AV.fresh 152 4 (List.map JP (List.map (Wi ts x y z) fs))):=by
   delta Jo7 Z31b JmB Jo6 JgT Z31f
   simp only[Vj,Jah]
   have hlm:(List.map Je fs).length=fs.length:=Kb _
   refine⟨⟨0,by omega,rfl⟩,fun g hg=>⟨fun hd=>?_,fun hd=>?_⟩⟩
   . rw[hlm]at hd
     have hlt:=Jm hd
     have hmem:=Js hlt
     have h2:=Jx JP (Wi ts x y z) hlt
     have h7:(List.map JP (List.map (Wi ts x y z) (List.take g fs))).length=g:=by rw[Kb,Kb,Kg];omega
     have h8:(List.map JP (List.map (Wi ts x y z) (List.take (g+1) fs))).length=g+1:=by rw[Kb,Kb,Kg];omega
     refine⟨by omega,by omega,congrArg AV.agg (Jl Je hlt),by omega,by omega,c75 ts (fs.getD g default) x y z hl (hF _ hmem) hx hy hz,by unfold Jc;omega,g+1,by omega,by omega,?_⟩
     rw[h8,<- h2,h7]
     rfl
   rw[Jt hd hg,hlm,Kw]
 exact Jw Tryz.f74 (fzB (mkB (sp154 ts x y z) 74 [(4,1,rdL 3 Je fs 3 true)] (fun i=>if i.beq 0 then some (la154 ts fs x y z)else none))) key (by kernel_rfl)
theorem c80(a:Ex) :P0 80 [.agg (JP a)] (.i a.e):=by
 have key :
  AV.i a.e=AV.i a.e:=by
   rfl
 exact Jw Tryz.f80 (mkB spF 80 [] J1) key (by kernel_rfl)
def sp157:Nat->List AV->Option AV
 | 80,[.agg c]=>some (.i (cJ [c] 0 3))
 | n,w=>spF n w
def la157(l:List Ex):LA:={
 pre:=[.own 5 3 1,.reno 5 1,.keep [1,5,8,9,10] [1],.bound 2],post:=[.reno 5 1,.keep [1,5,8,9,10] [1],.bound 2]
 Gh:=Nat
 st:=fun i=>⟨[(1,.fn (.func 80) [] []),(5,.own 1 (((l.take i).map Ex.e).map Jh).length),(8,.sl 4 (l.map JP)),(9,.i (l.map JP).length),(10,.i i)],[(1,.buf 3 1 (((l.take i).map Ex.e).map Jh))],2⟩
 ok:=fun i=>i<=(l.map JP).length
 ms:=fun i=>(l.map JP).length-i }
abbrev Jo5(g:Nat)(l:List Ex):=List.map Jh (List.map Ex.e (List.take g l))
abbrev JgS(l:List Ex):=List.map JP l
abbrev JmA(l:List Ex):=((JgS l).length:Int)
abbrev Z32d(l:List Ex)(g:Nat):=JP (l.getD (g:Int).toNat default)
theorem c79(l:List Ex)(hl:l.length<=1000):P0 79 [.sl 4 (l.map JP),.fn (.func 80) [] []] (.fresh 3 1 ((l.map Ex.e).map Jh)):=by
 have key :
  (∃ (g:Nat),g<=(JgS l).length/\AS.mk [(1,AV.fn (Fn.func 80) [] []),(5,AV.own 1 0),(8,AV.sl 4 (JgS l)),(9,AV.i (JmA l)),(10,AV.i 0)] [(1,ABlk.buf 3 1 [])] 2=AS.mk [(1,AV.fn (Fn.func 80) [] []),(5,AV.own 1 (Jo5
  g l).length),(8,AV.sl 4 (JgS l)),(9,AV.i (JmA l)),(10,AV.i (g:Int))] [(1,ABlk.buf 3 1 (Jo5 g l))] 2)/\∀ (g:Nat),g<=(JgS l).length->(decide ((g:Int) < (JmA l))=true->(0:Int)<=(g:Int)/\(g:Int) <
  (JmA l)/\AV.agg (Ji (JgS l) (g:Int).toNat)=AV.agg (Z32d l g)/\(Jo5 g l).length+1<=9223372036854775807/\((Jo5 g l).length+1) * 8<=140737488355328/\P0 80 [AV.agg (Z32d l g)] (AV.i (cJ [(Z32d l g)] 0 3))/\Jc
  ((g:Int)+1)/\∃ (g':Nat),g'<=(JgS l).length/\(JgS l).length-g' < (JgS l).length-g/\AS.mk [(1,AV.fn (Fn.func 80) [] []),(5,AV.own 1 ((Jo5 g l).length+1)),(8,AV.sl 4 (JgS l)),(9,AV.i (JmA l)),(10,AV.i
  ((g:Int)+1))] [(1,ABlk.buf 3 1 (List.map Jh (List.map Ex.e (List.take g l))++[[AV.i (cJ [(Z32d l g)] 0 3)]]))] 2=AS.mk [(1,AV.fn (Fn.func 80) [] []),(5,AV.own 1 (List.map Jh (List.map Ex.e (List.take g'
  l))).length),(8,AV.sl 4 (JgS l)),(9,AV.i (JmA l)),(10,AV.i (g':Int))] [(1,ABlk.buf 3 1 (List.map Jh (List.map Ex.e (List.take g' l))))] 2)/\(decide ((g:Int) < (JmA l))=false->AV.fresh 3 1 (Jo5 g l)=AV.fresh
  3 1 (List.map Jh (List.map Ex.e l))):=by
   delta Jo5 JmA JgS Z32d
   have hlm:(List.map JP l).length=l.length:=Kb _
   refine⟨⟨0,by omega,rfl⟩,fun g hg=>⟨fun hd=>?_,fun hd=>?_⟩⟩
   . rw[hlm]at hd
     have hlt:=Jm hd
     have h2:=Jx Jh Ex.e hlt
     have h7:(List.map Jh (List.map Ex.e (List.take g l))).length=g:=by rw[Kb,Kb,Kg];omega
     have h8:(List.map Jh (List.map Ex.e (List.take (g+1) l))).length=g+1:=by rw[Kb,Kb,Kg];omega
     refine⟨by omega,by omega,congrArg AV.agg (Jl JP hlt),by omega,by omega,c80 (l.getD g default),by unfold Jc;omega,g+1,by omega,by omega,?_⟩
     rw[h8,<- h2,h7]
     rfl
   rw[Jt hd hg,hlm,Kw]
 exact Jw Tryz.f79 (fzB (mkB sp157 79 [(4,1,rdL 4 JP l 4 true)] (fun i=>if i.beq 0 then some (la157 l)else none))) key (by kernel_rfl)
def Jjr(r:List AV):Int:=cJ [r] 0 3
theorem mapE(l:List Ex):(l.map JP).map Jjr=l.map Ex.e:=by
 rw[K9]
 exact List.map_congr_left fun _ _=>rfl
theorem Jkm(ts:List Ty)(x y z:Int)(fs:List Fl):(fs.map (Wi ts x y z)).map Ex.e=fs.map (JaB ts x y z):=by
 rw[K9]
 exact List.map_congr_left fun _ _=>rfl
def sp128:Nat->List AV->Option AV
 | 79,[.sl _ rows,_]=>some (.fresh 3 1 ((rows.map Jjr).map Jh))
 | n,w=>spF n w
theorem c35(l:List Ex)(hl:l.length<=1000):P0 35 [.sl 4 (l.map JP)] (.fresh 3 1 (((l.map JP).map Jjr).map Jh)):=by
 have key :
  P0 79 [AV.sl 4 (List.map JP l),AV.fn (Fn.func 80) [] []] (AV.fresh 3 1 (List.map Jh (List.map Jjr (List.map JP l))))/\AV.fresh 3 1 (List.map Jh (List.map Jjr (List.map JP l)))=AV.fresh 3 1
  (List.map Jh (List.map Jjr (List.map JP l))):=by
   rw[mapE]
   exact⟨c79 l hl,rfl⟩
 exact Jw Tryz.f35 (mkB sp128 35 [] J1) key (by kernel_rfl)
def Us(ts:List Ty)(fs:List Fl)(x y z:Int):Int:=sFirst [VH ts fs,JO x y z]
def rP(ts:List Ty)(fs:List Fl)(x y z:Int):List Ex:=if Us ts fs x y z != 0 then[]else fs.map (Wi ts x y z)
theorem Jn8{ts:List Ty}{fs:List Fl}(h:VH ts fs=0):∀ f,f ∈ fs->FlOK ts f:=fun f hf=>by
 obtain⟨_,_,h3,h4⟩:=chkF_z h
 obtain⟨i,hi,e⟩:=List.mem_iff_getElem.1 hf
 have e2:fs.getD i default=f:=by rw[Ka,Kj hi,e];rfl
 obtain⟨h5,h6⟩:=h4 i hi
 rw[e2]at h5 h6
 rw[Jbl]at h6
 obtain⟨h7,h8⟩:=JeG h6
 exact⟨h5,h3 _ h5,h7,h8⟩
def sp127(ts:List Ty)(fs:List Fl)(x y z:Int):Nat->List AV->Option AV
 | 72,_=>some (.i (VH ts fs))
 | 74,_=>some (.sl 4 ((fs.map (Wi ts x y z)).map JP))
 | n,w=>spF n w
theorem c34(ts:List Ty)(fs:List Fl)(x y z:Int)(hl:ts.length<=1000)(hm:fs.length<=1000)(hS:∀ t,t ∈ ts->ShortTy t)(hF:∀ f,f ∈ fs->f.n.length<=1000/\f.y.length<=1000/\f.tr.length<=1000):P0 34 [.sl 13 (ts.map Jd),.sl 3 (fs.map Je),.agg [.i x,.i y,.i z]] (.tup [.sl 4 ((rP ts fs x y z).map JP),.i (Us ts fs x y z)]):=by
 have key :
  P0 72 [AV.sl 13 (List.map Jd ts),AV.sl 3 (List.map Je fs)] (AV.i (VH ts fs))/\P0 73 [AV.agg [AV.i x,AV.i y,AV.i z]] (AV.i (JO x y z))/\P0 44 [AV.sl 1 [[AV.i (VH ts
  fs)],[AV.i (JO x y z)]]] (AV.i (sFirst [hdI [AV.i (VH ts fs)],hdI [AV.i (JO x y z)]]))/\((sFirst [hdI [AV.i (VH ts fs)],hdI [AV.i (JO x y z)]] != 0)=true->AV.tup [AV.sl 4 [],AV.i (sFirst [hdI [AV.i (VH ts
  fs)],hdI [AV.i (JO x y z)]])]=AV.tup [AV.sl 4 (List.map JP (rP ts fs x y z)),AV.i (Us ts fs x y z)])/\((sFirst [hdI [AV.i (VH ts fs)],hdI [AV.i (JO x y z)]] != 0)=false->P0 74 [AV.sl 3
  (List.map Je fs),AV.fn (Fn.func 75) [] [AV.elt 1 [[AV.sl 13 (List.map Jd ts)]] 0 0,AV.elt 3 [[AV.i x,AV.i y,AV.i z]] 0 0]] (AV.sl 4 (List.map JP (List.map (Wi ts x y z) fs)))/\AV.tup [AV.sl 4 (List.map JP
  (List.map (Wi ts x y z) fs)),AV.i 0]=AV.tup [AV.sl 4 (List.map JP (rP ts fs x y z)),AV.i (Us ts fs x y z)]):=by
   refine⟨c72 ts fs hl hm hS hF,c73 x y z,c44 [_,_] (by simp),fun h=>?_,fun h=>?_⟩
   . have h:(Us ts fs x y z != 0)=true:=h
     show AV.tup [AV.sl 4 [],AV.i (Us ts fs x y z)]=_
     rw[rP,if_pos h]
     rfl
   have h:(Us ts fs x y z != 0)=false:=h
   have hz:=QE h
   have hz':=hz
   unfold Us at hz'
   rw[first_zero,first_zero]at hz'
   obtain⟨a,b,_⟩:=hz'
   have p:=JeV b
   refine⟨(c74 ts fs x y z hl hm (Jn8 a) p.1 p.2.1 p.2.2).un,?_⟩
   rw[rP,if_neg (by rw[h];decide),hz]
 exact Jw Tryz.f34 (gsB (fun i=>if i.beq 3 then[.nil 6 4]else[]) (fzB (mkB (sp127 ts fs x y z) 34 [] J1))) key (by kernel_rfl)
def sp61(ts:List Ty)(fs:List Fl)(x y z:Int):Nat->List AV->Option AV
 | 34,_=>some (.tup [.sl 4 ((rP ts fs x y z).map JP),.i (Us ts fs x y z)])
 | 35,[.sl _ rows]=>some (.sl 1 ((rows.map Jjr).map Jh))
 | 37,[.sl _ rows]=>some (.i (JaE (rows.map Jjq)))
 | 1129,[.sl _ rows,_]=>some (.agg (Ji rows (rows.length-1)))
 | n,w=>spF n w
def Jnz(ts:List Ty)(fs:List Fl)(x y z:Int):Int:=if Us ts fs x y z != 0 then 0 else JaE (fs.map (JaB ts x y z))
def JnA(ts:List Ty)(fs:List Fl)(x y z:Int):List Int:=if Us ts fs x y z != 0 then[]else fs.map (JaB ts x y z)
abbrev Z34a(ts:List Ty)(fs:List Fl)(x:Int)(y:Int)(z:Int):=List.map Jh (List.map Jjr (List.map JP (rP ts fs x y z)))
theorem c17(ts:List Ty)(fs:List Fl)(x y z:Int)(hl:ts.length<=1000)(hm:fs.length<=1000)(hS:∀ t,t ∈ ts->ShortTy t)(hF:∀ f,f ∈ fs->f.n.length<=1000/\f.y.length<=1000/\f.tr.length<=1000):P0 17 [.sl 13 (ts.map Jd),.sl 3 (fs.map Je),.agg [.i x,.i y,.i z]] (.tup [.i (Jnz ts fs x y z),.i (Us ts fs x y z)]):=by
 have key :
  P0 34 [AV.sl 13 (List.map Jd ts),AV.sl 3 (List.map Je fs),AV.agg [AV.i x,AV.i y,AV.i z]] (AV.tup [AV.sl 4 (List.map JP (rP ts fs x y z)),AV.i (Us ts fs x y z)])/\((Us ts fs x y z != 0)=true->AV.tup [AV.i 0,
  AV.i (Us ts fs x y z)]=AV.tup [AV.i (Jnz ts fs x y z),AV.i (Us ts fs x y z)])/\((Us ts fs x y z != 0)=false->P0 35 [AV.sl 4 (List.map JP (rP ts fs x y z))] (AV.sl 1 (Z34a ts fs x y z))/\P0 37 [AV.sl 1 (Z34a ts fs
  x y z)] (AV.i (JaE (List.map Jjq (Z34a ts fs x y z))))/\AV.tup [AV.i (JaE (List.map Jjq (Z34a ts fs x y z))),AV.i 0]=AV.tup [AV.i (Jnz ts fs x y z),AV.i (Us ts fs x y z)]):=by
   delta Z34a
   refine⟨c34 ts fs x y z hl hm hS hF,fun h=>?_,fun h=>?_⟩
   . rw[Jnz,if_pos h]
   have hz:=QE h
   have eP:rP ts fs x y z=fs.map (Wi ts x y z):=if_neg (by rw[h];decide)
   rw[eP,mapE,Qr Wx,Jkm]
   have k:=(c35 (fs.map (Wi ts x y z)) (by rw[Kb];omega)).un
   rw[mapE,Jkm]at k
   refine⟨k,c37 _ (by rw[Kb];omega),?_⟩
   rw[Jnz,if_neg (by rw[h];decide),hz]
 exact Jw Tryz.f17 (fzB (mkB (sp61 ts fs x y z) 17 [] J1)) key (by kernel_rfl)
theorem c14(ts:List Ty)(fs:List Fl)(x y z:Int)(hl:ts.length<=1000)(hm:fs.length<=1000)(hS:∀ t,t ∈ ts->ShortTy t)(hF:∀ f,f ∈ fs->f.n.length<=1000/\f.y.length<=1000/\f.tr.length<=1000):P0 14 [.sl 13 (ts.map Jd),.sl 3 (fs.map Je),.agg [.i x,.i y,.i z]] (.tup [.sl 1 ((JnA ts fs x y z).map Jh),.i (Us ts fs x y z)]):=by
 have key :
  P0 34 [AV.sl 13 (List.map Jd ts),AV.sl 3 (List.map Je fs),AV.agg [AV.i x,AV.i y,AV.i z]] (AV.tup [AV.sl 4 (List.map JP (rP ts fs x y z)),AV.i (Us ts fs x y z)])/\((Us ts fs x y z != 0)=true →
  AV.tup [AV.sl 1 [],AV.i (Us ts fs x y z)]=AV.tup [AV.sl 1 (List.map Jh (JnA ts fs x y z)),AV.i (Us ts fs x y z)])/\((Us ts fs x y z != 0)=false->P0 35 [AV.sl 4 (List.map JP (rP ts fs x y z))]
  (AV.sl 1 (List.map Jh (List.map Jjr (List.map JP (rP ts fs x y z)))))/\AV.tup [AV.sl 1 (List.map Jh (List.map Jjr (List.map JP (rP ts fs x y z)))),AV.i 0]=AV.tup [AV.sl 1 (List.map Jh (JnA ts fs x y z)),AV.i
  (Us ts fs x y z)]):=by
   refine⟨c34 ts fs x y z hl hm hS hF,fun h=>?_,fun h=>?_⟩
   . rw[JnA,if_pos h]
     rfl
   have hz:=QE h
   have eP:rP ts fs x y z=fs.map (Wi ts x y z):=if_neg (by rw[h];decide)
   rw[eP,mapE,Jkm]
   have k:=(c35 (fs.map (Wi ts x y z)) (by rw[Kb];omega)).un
   rw[mapE,Jkm]at k
   refine⟨k,?_⟩
   rw[JnA,if_neg (by rw[h];decide),hz]
 exact Jw Tryz.f14 (gsB (fun i=>if i.beq 3 then[.nil 6 1]else[]) (fzB (mkB (sp61 ts fs x y z) 14 [] J1))) key (by kernel_rfl)
end Go.Proofs.YthkngjifljcocaaGreatDoor
namespace Go.Proofs.YthkngjifljcocaaGreatDoor.N7
open Go Go.Av Go.RowKit
def Qv(a m:Int):Int:=(m-a+1440).tmod 1440
def spI:Nat->List AV->Option AV
 | 81,[.agg [.int _ a,_],.int _ m]=>some (.i (Qv a m))
 | 82,[.agg [.int _ a,.int _ b]]=>some (.i (Qv a b))
 | _,_=>none
theorem JnI{n:Int}(h:0<=n):0<=n.tmod 1440/\n.tmod 1440 < 1440:=⟨Int.tmod_nonneg _ h,Int.tmod_lt_of_pos _ (by omega)⟩
theorem c81(a b m:Int)(h1:Jc (m-a))(h2:Jc (m-a+1440)):P0 81 [.agg [.i a,.i b],.i m] (.i (Qv a m)):=by
 have key :
  Jc (m-a)/\Jc (m-a+1440)/\¬(1440:Int)=(0:Int)/\AV.i ((m-a+1440).tmod (1440:Int))=AV.i (Qv a m):=by
   exact⟨h1,h2,by decide,rfl⟩
 exact Jw Tryz.f81 (mkB spI 81 [] J1) key (by kernel_rfl)
theorem c82(a b:Int)(h1:Jc (b-a))(h2:Jc (b-a+1440)):P0 82 [.agg [.i a,.i b]] (.i (Qv a b)):=by
 have key :
  P0 81 [AV.agg [AV.i a,AV.i b],AV.i b] (AV.i (Qv a b))/\AV.i (Qv a b)=AV.i (Qv a b):=by
   exact⟨c81 a b b h1 h2,rfl⟩
 exact Jw Tryz.f82 (mkB spI 82 [] J1) key (by kernel_rfl)
theorem s_of {f : Nat} {cap : List AV} {L : List (List AV)} (fn : Func) (B : Nat → BA) {q : Nat → Prop} (hq : ∀ l, q l) (h : ∀ l, VC (QD Tryz.prog T0 G0 fn.ntmps L) (B l) 10000 0 (VO fn) (Jco l cap) (seqQ l L) = q l) (hf : Tryz.prog.funcs[f]? = some fn := by kernel_rfl) (hb : fn.body = some (VO fn) := by kernel_rfl) (hn : (fn.name == "runtime.NumGoroutine") = false := by kernel_rfl) (hlen : Nat.ble (cap.length + 1) fn.ntmps = true := by kernel_rfl) (hres : fn.results.toList = [] := by kernel_rfl) : PSeq Tryz.prog G0 f cap L :=
 Jcs tok mix hf hb hn (Kl hlen) hres B fun l=>Jg3 (hq l) (h l)
def mnL(a:Int)(n:Nat):List (List AV):=(List.range n).map fun(i:Nat)=>[.i ((a+i).tmod 1440)]
theorem JhU(a:Int)(n:Nat):mnL a n++[[.i ((a+n).tmod 1440)]]=mnL a (n+1):=by
 simp[mnL,List.range_succ]
theorem JnJ(a:Int){n m:Nat}(h:n < m):∃ post,mnL a m=mnL a n++[.i ((a+n).tmod 1440)]::post:=by
 refine⟨(List.range' (n+1) (m-(n+1))).map fun(i:Nat)=>[.i ((a+i).tmod 1440)],?_⟩
 rw[<- List.singleton_append,<- List.append_assoc,JhU]
 unfold mnL
 rw[<- K8,List.range_eq_range',List.range_eq_range',show List.range' (n+1) (m-(n+1))=List.range' (0+(n+1)) (m-(n+1)) by rw[Nat.zero_add],List.range'_append_1,show n+1+(m-(n+1))=m by omega]
def la172(l:Nat)(a b:Int):LA:={
 pre:=[.keep [0,1,5,6] [0],.bound 1],post:=[.keep [0,1,5,6] [0],.bound 1]
 Gh:=Nat
 st:=fun i=>⟨[(0,.yld l),(1,.elt 2 [[.i a,.i b]] 0 0),(5,.i (Qv a b)),(6,.i i)],[(0,.ready l (mnL a i))],1⟩
 ok:=fun i=>i<=(Qv a b).toNat
 ms:=fun i=>(Qv a b).toNat-i }
def B172(a b:Int)(l:Nat):BA:=mkB spI 126 [] (fun i=>if i.beq 0 then some (la172 l a b)else none)
abbrev Z35a(a:Int)(g:Nat):=[AV.i ((a+(g:Int)).tmod (1440:Int))]
theorem s172(a b:Int)(ha:0<=a/\a < 1440)(hb:0<=b/\b < 1440):PSeq Tryz.prog G0 126 [.elt 2 [[.i a,.i b]] 0 0] (mnL a (Qv a b).toNat):=by
 have key :
  ∀ l:Nat,P0 82 [AV.agg [AV.i a,AV.i b]] (AV.i (Qv a b))/\(∃ (g:Nat),g<=(Qv a b).toNat/\AS.mk [(0,AV.yld l),(1,AV.elt 2 [[AV.i a,AV.i b]] 0 0),(5,AV.i (Qv a b)),(6,AV.i 0)] [(0,ABlk.ready l [])] 1=AS.mk
  [(0,AV.yld l),(1,AV.elt 2 [[AV.i a,AV.i b]] 0 0),(5,AV.i (Qv a b)),(6,AV.i (g:Int))] [(0,ABlk.ready l (mnL a g))] 1)/\∀ (g:Nat),g<=(Qv a b).toNat->(decide ((g:Int) < Qv a b)=true->Jc (a+(g:Int))
  /\ ¬(1440:Int)=(0:Int)/\l=l/\(∃ (post:List (List AV)),mnL a (Qv a b).toNat=mnL a g++(Z35a a g)::post)/\l=l/\(mnL a g++[(Z35a a g)]).length=(mnL a g).length+1/\(Jc ((g:Int)+1)/\∃ (g':Nat),g'
  ≤ (Qv a b).toNat/\(Qv a b).toNat-g' < (Qv a b).toNat-g/\AS.mk [(0,AV.yld l),(1,AV.elt 2 [[AV.i a,AV.i b]] 0 0),(5,AV.i (Qv a b)),(6,AV.i ((g:Int)+1))] [(0,ABlk.ready l (mnL a g++[(Z35a a g)]))] 1 =
  AS.mk [(0,AV.yld l),(1,AV.elt 2 [[AV.i a,AV.i b]] 0 0),(5,AV.i (Qv a b)),(6,AV.i (g':Int))] [(0,ABlk.ready l (mnL a g'))] 1)/\(ABlk.stop l=ABlk.ready l (mnL a (Qv a b).toNat) ∨ ABlk.stop l=ABlk.stop l)) /\
  (decide ((g:Int) < Qv a b)=false->ABlk.ready l (mnL a g)=ABlk.ready l (mnL a (Qv a b).toNat) ∨ ABlk.ready l (mnL a g)=ABlk.stop l):=by
   delta Z35a
   intro l
   have hm:0<=Qv a b/\Qv a b < 1440:=by
    by_cases h:0<=b-a+1440
    . exact JnI h
    omega
   refine⟨c82 a b (by unfold Jc;omega) (by unfold Jc;omega),⟨0,by omega,by simp[mnL]⟩,fun g hg=>⟨fun hlt=>?_,fun hge=>?_⟩⟩
   . simp only[Ko]at hlt
     have hl:g < (Qv a b).toNat:=by omega
     refine⟨by unfold Jc;omega,by decide,rfl,JnJ a hl,rfl,by simp,⟨by unfold Jc;omega,g+1,hl,by omega,?_⟩,.inr rfl⟩
     rw[JhU]
     rfl
   simp only[decide_eq_false_iff_not]at hge
   have:g=(Qv a b).toNat:=by omega
   subst this
   exact .inl rfl
 exact s_of Tryz.f126 (B172 a b) key (fun l=>by kernel_rfl)
end Go.Proofs.YthkngjifljcocaaGreatDoor.N7
