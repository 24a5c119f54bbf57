/-
  What chapter 2's checks of settings and of types return. What chapter 2's Flown returns. What the source's checks of settings return. What chapter 2's checks of a type return. What chapter 2's emission returns. No condition but the theorems' own.
-/
import Derived.Test.YthkngjifljcocaaGreatDoorPA
import Derived.Test.YthkngjifljcocaaGreatDoorAvD
namespace Go.Proofs.YthkngjifljcocaaGreatDoor
open Go Go.Av Go.RowKit
def fzB(B:BA):BA:={ B with gs:=fun i=>(B.ra i).fz.map GS.frzo++B.gs i }
def Ty.sg(t:Ty)(i:Nat):Sg:=t.st.getD i default
def eAt(l:List Int)(k:Nat):Int:=l.getD k default
def up(l:List Int)(k:Nat):Bool:=if k=0 then false else decide (eAt l k > eAt l (k-1))
def JgE(t:Ty)(i k:Nat):Bool:=up (t.sg i).e k || (if i=0 then false else decide (eAt (t.sg i).e k < eAt (t.sg (i-1)).e k))
def Ut(t:Ty)(i:Nat):Int:=sFirst [JN (t.sg i).p,sWhen (if i=0 then false else decide ((t.sg i).p<=(t.sg (i-1)).p)) 11,sWhen (((t.sg i).e.length:Int) != (t.sq.length:Int)) 2,sFirst ((t.sg i).e.map fun x=>Ja x 0 100000000)]
def Q1(t:Ty)(i:Nat):Int:=sLS (Ut t i) (fun k=>if JgE t i k then 21 else 0) (t.sg i).e.length 0
def VX(t:Ty)(i:Nat):Int:=if i=0 then 0 else(t.sg (i-1)).p
def XB(t:Ty)(i:Nat):List Int:=if i=0 then List.replicate t.sq.length 0 else(t.sg (i-1)).e
def Jfo(t:Ty)(i k:Nat):Bool:=up (t.sg i).e k || decide (eAt (t.sg i).e k < eAt (XB t i) k)
def Wk(t:Ty)(i:Nat):Int:=sFirst [Ja (t.sg i).p 1 100,sWhen (decide ((t.sg i).p<=VX t i)) 11,sWhen (((t.sg i).e.length:Int) != (t.sq.length:Int)) 2,Ql (t.sg i).e 100000000]
def JaF(t:Ty)(i:Nat):Int:=sLS (Wk t i) (fun k=>if Jfo t i k then 21 else 0) (t.sg i).e.length 0
theorem Up{a b d:Int}{x y:Nat}(h:sFirst [a,b,sWhen ((x:Int) != (y:Int)) 2,d]=0):x=y:=by
 have e:∀ z w,sFirst (z::w)=if z ≠ 0 then z else sFirst w:=fun _ _=>rfl
 rw[e,e,e]at h
 by_cases ha:a=0
 . rw[if_neg (by simp[ha])]at h
   by_cases hb:b=0
   . rw[if_neg (by simp[hb])]at h
     by_cases hx:x=y
     . exact hx
     have:((x:Int) != (y:Int))=true:=by rw[bne_iff_ne];omega
     rw[this,if_pos (show sWhen true 2 ≠ 0 by decide)]at h
     exact absurd h (by decide)
   rw[if_pos hb]at h;exact absurd h hb
 rw[if_pos ha]at h;exact absurd h ha
theorem mk7{a b c d:AV}{x y:Int}(h:x=y):AS.mk [(1,a),(2,b),(5,c),(6,d),(7,AV.i x)] [] 1=AS.mk [(1,a),(2,b),(5,c),(6,d),(7,AV.i y)] [] 1:=by rw[h]
def Jm7(t:Ty)(i:Nat):Nat->List AV->Option AV
 | 98,_=>some (.i (sFirst ((t.sg i).e.map fun x=>Ja x 0 100000000)))
 | n,x=>spR n x
def JnR(t:Ty)(i:Nat):LA:={
 pre:=[.keep [1,2,5,6,8] [],.bound 1],post:=[.keep [1,2,5,6,8] [],.bound 1]
 Gh:=Nat
 st:=fun k=>⟨[(1,.i i),(2,.elt 13 [Jd t] 0 0),(5,.elt 2 [Jv (t.sg i)] 0 0),(6,.elt 2 [Jv (t.sg (prv i))] 0 0),(8,.i k)],[],1⟩
 ok:=fun k=>k<=(t.sg i).e.length/\∀ j,j < k->JgE t i j=false
 ms:=fun k=>(t.sg i).e.length-k }
def cut110(t:Ty)(i:Nat):Nat->Option (AS->AS):=fun j=>if j.beq 2 then some (JgD [1,2,5,6,7] [] 1 7 fun _=>.i (Ut t i))else none
def gs110:Nat->List GS:=fun j=>if j.beq 1 then[.frzo 5,.frzo 6]else if j.beq 2 then[.keep [1,2,5,6,7] [],.bound 1]else[]
abbrev JfE(t:Ty)(i:Nat):=List.map Jh (t.sg i).e
abbrev Z14E(t:Ty)(i:Nat):=[[AV.i (t.sg i).p,AV.sl 1 (JfE t i)]]
abbrev Jlx(t:Ty)(i:Nat):=List.map Jh (t.sg (prv i)).e
abbrev Z14D(t:Ty)(i:Nat):=[[AV.i (t.sg (prv i)).p,AV.sl 1 (Jlx t i)]]
abbrev Z14a(i:Nat)(t:Ty)(g:Nat):=[(1,AV.i (i:Int)),(2,AV.elt 13 [(Jd t)] 0 0),(5,AV.elt 2 (Z14E t i) 0 0),(6,AV.elt 2 (Z14D t i) 0 0),(8,AV.i ((g:Int)+1))]
abbrev Z14b(i:Nat)(t:Ty)(g':Nat):=[(1,AV.i (i:Int)),(2,AV.elt 13 [(Jd t)] 0 0),(5,AV.elt 2 (Z14E t i) 0 0),(6,AV.elt 2 (Z14D t i) 0 0),(8,AV.i (g':Int))]
abbrev Jdo(t:Ty)(i:Nat):=t.st.getD (i:Int).toNat default
abbrev Z14d(t:Ty)(i:Nat):=t.st.getD (QN (0:Int) ((i:Int)-1)).toNat default
abbrev Z14e(t:Ty)(i:Nat):=(↑(List.map Jh (Jdo t i).e).length:Int) != ((List.map Jh t.sq).length:Int)
abbrev Jpo(t:Ty)(i:Nat):=sFirst (List.map (fun(x:Int)=>Ja x (0:Int) (100000000:Int)) (t.sg i).e)
abbrev Z14w(t:Ty)(i:Nat)(g:Nat):=cI (JfE t i) (g:Int).toNat < cI (Jlx t i) (g:Int).toNat
abbrev Z14k(g':Nat)(t:Ty)(i:Nat):=(g'<=(t.sg i).e.length/\∀ (j:Nat),j < g'->JgE t i j=false)
abbrev Z14h(t:Ty)(i:Nat)(g:Nat):=(decide (Z14w t i g)=false->Jc ((g:Int)+1)/\∃ (g':Nat),(Z14k g' t i)/\(t.sg i).e.length-g' < (t.sg i).e.length-g/\AS.mk (Z14a i t g) [] 1=AS.mk (Z14b i t g') [] 1)
abbrev Jjg(g:Nat):=(g:Int)-1
abbrev JmM(g:Nat):=QN (0:Int) (Jjg g)
abbrev Jqh(t:Ty)(i:Nat)(g:Nat):=cI (JfE t i) (g:Int).toNat > cI (JfE t i) (JmM g).toNat
abbrev Jqg(t:Ty)(i:Nat):=[AV.i (Jdo t i).p,AV.sl 1 (List.map Jh (Jdo t i).e)]
abbrev Jqf(t:Ty)(i:Nat):=[AV.i (Z14d t i).p,AV.sl 1 (List.map Jh (Z14d t i).e)]
abbrev Z14y(t:Ty)(i:Nat):=sWhen (decide ((Jdo t i).p<=(Z14d t i).p)) (11:Int)
abbrev Jpp(t:Ty)(i:Nat):=sWhen (Z14e t i) (2:Int)
abbrev Z14n(t:Ty)(i:Nat):=sFirst [hdI [AV.i (JN (Jdo t i).p)],hdI [AV.i (Z14y t i)],hdI [AV.i (Jpp t i)],hdI [AV.i (Jpo t i)]]
abbrev Z14p(g:Nat)(t:Ty)(i:Nat):=(false=false->Jc ((g:Int)+1)/\∃ (g':Nat),(Z14k g' t i)/\(t.sg i).e.length-g' < (t.sg i).e.length-g/\AS.mk (Z14a i t g) [] 1=AS.mk (Z14b i t g') [] 1)
abbrev Z14q(g:Nat)(t:Ty)(i:Nat):=(true=false->Jc ((g:Int)+1)/\∃ (g':Nat),(Z14k g' t i)/\(t.sg i).e.length-g' < (t.sg i).e.length-g/\AS.mk (Z14a i t g) [] 1=AS.mk (Z14b i t g') [] 1)
abbrev Jjh(t:Ty)(i:Nat):=((JfE t i).length:Int)
abbrev Jpn:=false=true->false=true
abbrev Z14F:=sWhen false (11:Int)
abbrev Z14t(t:Ty)(i:Nat):=sFirst [hdI [AV.i (JN (Jdo t i).p)],hdI [AV.i Z14F],hdI [AV.i (Jpp t i)],hdI [AV.i (Jpo t i)]]
abbrev Z14u(i:Nat)(t:Ty):=[(1,AV.i (i:Int)),(2,AV.elt 13 [(Jd t)] 0 0),(5,AV.elt 2 [(Jqg t i)] 0 0),(6,AV.elt 2 [(Jqf t i)] 0 0),(7,AV.i (Ut t i))]
abbrev Jgw(i:Nat):=(i:Int) > 0
abbrev Jpm(g:Nat):=decide ((g:Int) > 0)
abbrev Jqj(t:Ty)(i:Nat)(g:Nat):=Ji (JfE t i) (g:Int).toNat
abbrev Jqi(t:Ty)(i:Nat)(g:Nat):=cI (JfE t i) (g:Int).toNat
theorem c100(t:Ty)(i:Nat)(hi:i < t.st.length)(hn:t.st.length<=1000)(hl:(t.sg i).e.length<=1000)(hp:i ≠ 0->(t.sg i).e.length=t.sq.length->(t.sg i).e.length<=(t.sg (i-1)).e.length):P0 100 [.agg (Jd t),.i i] (.i (Q1 t i)):=by
 have key :
  (0:Int)<=(i:Int)/\(i:Int) < ((List.map Jv t.st).length:Int)/\Jc ((i:Int)-1)/\(0:Int)<=QN (0:Int) ((i:Int)-1)/\QN (0:Int) ((i:Int)-1) < ((List.map Jv t.st).length:Int)/\AV.agg
  (Ji (List.map Jv t.st) (i:Int).toNat)=AV.agg (Jqg t i)/\AV.agg (Ji (List.map Jv t.st) (QN (0:Int) ((i:Int)-1)).toNat)=AV.agg (Jqf t i)/\((decide (Jgw i)=true->P0 103 [AV.i (Jdo t i).p] (AV.i
  (JN (Jdo t i).p))/\AV.bool (decide (Jgw i))=AV.bool true/\P0 53 [AV.bool (decide ((Jdo t i).p<=(Z14d t i).p)),AV.i 11] (AV.i (Z14y t i))/\P0 53 [AV.bool (Z14e t i),AV.i 2] (AV.i (Jpp t i))/\P0 98 [AV.sl 1 (List.map
  Jh (Jdo t i).e),AV.i 0,AV.i 100000000] (AV.i (Jpo t i))/\P0 51 [AV.sl 1 [[AV.i (JN (Jdo t i).p)],[AV.i (Z14y t i)],[AV.i (Jpp t i)],[AV.i (Jpo t i)]]] (AV.i (Z14n t i))/\AS.mk [(1,AV.i (i:Int)),(2,AV.elt 13
  [(Jd t)] 0 0),(5,AV.elt 2 [(Jqg t i)] 0 0),(6,AV.elt 2 [(Jqf t i)] 0 0),(7,AV.i (Z14n t i))] [] 1=AS.mk (Z14u i t) [] 1)/\(decide (Jgw i)=false->Jpn/\P0 103 [AV.i (Jdo t i).p] (AV.i (JN (Jdo t i).p)) /\
  AV.bool (decide (Jgw i))=AV.bool false/\P0 53 [AV.bool false,AV.i 11] (AV.i Z14F)/\P0 53 [AV.bool (Z14e t i),AV.i 2] (AV.i (Jpp t i))/\P0 98 [AV.sl 1 (List.map Jh (Jdo t i).e),AV.i 0,AV.i 100000000] (AV.i (Jpo t i))
  /\ P0 51 [AV.sl 1 [[AV.i (JN (Jdo t i).p)],[AV.i Z14F],[AV.i (Jpp t i)],[AV.i (Jpo t i)]]] (AV.i (Z14t t i))/\AS.mk [(1,AV.i (i:Int)),(2,AV.elt 13 [(Jd t)] 0 0),(5,AV.elt 2 [(Jqg t i)] 0 0),(6,AV.elt 2
  [(Jqf t i)] 0 0),(7,AV.i (Z14t t i))] [] 1=AS.mk (Z14u i t) [] 1))/\((Ut t i != 0)=true->AV.i (Ut t i)=AV.i (Q1 t i))/\((Ut t i != 0)=false->(∃ (g:Nat),(g<=(t.sg i).e.length/\∀ (j:Nat),j < g →
  JgE t i j=false)/\AS.mk [(1,AV.i (i:Int)),(2,AV.elt 13 [(Jd t)] 0 0),(5,AV.elt 2 [(Jqg t i)] 0 0),(6,AV.elt 2 [(Jqf t i)] 0 0),(8,AV.i 0)] [] 1=AS.mk [(1,AV.i (i:Int)),(2,AV.elt 13 [(Jd t)] 0 0),(5,
  AV.elt 2 (Z14E t i) 0 0),(6,AV.elt 2 (Z14D t i) 0 0),(8,AV.i (g:Int))] [] 1)/\∀ (g:Nat),(g<=(t.sg i).e.length/\∀ (j:Nat),j < g->JgE t i j=false)->(decide ((g:Int) < (Jjh t i))=true->(decide ((g:Int) >
  0)=true->(decide (Jqh t i g)=true->(0:Int)<=(g:Int)/\(g:Int) < (Jjh t i)/\Jc (Jjg g)/\(0:Int)<=QN (0:Int) (Jjg g)/\QN (0:Int) (Jjg g) < (Jjh t i)/\(true=false->false=true)/\AV.bool (Jpm
  g)=AV.bool true/\nth (Jqj t i g) 0=AV.i (Jqi t i g)/\nth (Ji (JfE t i) (JmM g).toNat) 0=AV.i (cI (JfE t i) (JmM g).toNat)/\AV.bool (decide (Jqh t i g))=AV.bool true/\(true=true->AV.i 21=AV.i (Q1 t i)) /\
  (Z14q g t i))/\(decide (Jqh t i g)=false->(decide (Jgw i)=true->(0:Int)<=(g:Int)/\(g:Int) < (Jjh t i)/\Jc (Jjg g)/\(0:Int)<=QN (0:Int) (Jjg g)/\QN (0:Int) (Jjg g) < (Jjh t i)/\(0:Int) ≤
  (g:Int)/\(g:Int) < (Jjh t i)/\(0:Int)<=(g:Int)/\(g:Int) < ((Jlx t i).length:Int)/\AV.bool (Jpm g)=AV.bool true/\nth (Jqj t i g) 0=AV.i (Jqi t i g)/\nth (Ji (JfE t i) (JmM g).toNat) 0=AV.i (cI
  (JfE t i) (JmM g).toNat)/\AV.bool (decide (Jqh t i g))=AV.bool false/\AV.bool (decide (Jgw i))=AV.bool true/\nth (Jqj t i g) 0=AV.i (Jqi t i g)/\nth (Ji (Jlx t i) (g:Int).toNat) 0=AV.i (cI (Jlx t i) (↑g :
  Int).toNat)/\(decide (Z14w t i g)=true->AV.i 21=AV.i (Q1 t i))/\(Z14h t i g))/\(decide (Jgw i)=false->(0:Int)<=(g:Int)/\(g:Int) < (Jjh t i)/\Jc (Jjg g)/\(0:Int)<=QN (0:Int) (Jjg g)/\QN (0 :
  Int) (Jjg g) < (Jjh t i)/\Jpn/\AV.bool (Jpm g)=AV.bool true/\nth (Jqj t i g) 0=AV.i (Jqi t i g)/\nth (Ji (JfE t i) (JmM g).toNat) 0=AV.i (cI (JfE t i) (JmM g).toNat)/\AV.bool (decide (Jqh t i g))=AV.bool
  false/\AV.bool (decide (Jgw i))=AV.bool false/\(false=true->AV.i 21=AV.i (Q1 t i))/\(Z14p g t i))))/\(decide ((g:Int) > 0)=false->(false=true->Jpn/\(true=false->false=true)/\AV.bool (Jpm g) =
  AV.bool false/\AV.bool false=AV.bool true/\(true=true->AV.i 21=AV.i (Q1 t i))/\(Z14q g t i))/\(false=false->(decide (Jgw i)=true->Jpn/\(0:Int)<=(g:Int)/\(g:Int) < (Jjh t i)/\(0:Int)<=(g:Int)
  /\ (g:Int) < ((Jlx t i).length:Int)/\AV.bool (Jpm g)=AV.bool false/\AV.bool false=AV.bool false/\AV.bool (decide (Jgw i))=AV.bool true/\nth (Jqj t i g) 0=AV.i (Jqi t i g)/\nth (Ji (Jlx t i) (↑g :
  Int).toNat) 0=AV.i (cI (Jlx t i) (g:Int).toNat)/\(decide (Z14w t i g)=true->AV.i 21=AV.i (Q1 t i))/\(Z14h t i g))/\(decide (Jgw i)=false->Jpn/\Jpn/\AV.bool (Jpm g)=AV.bool false/\AV.bool false=AV.bool
  false/\AV.bool (decide (Jgw i))=AV.bool false/\(false=true->AV.i 21=AV.i (Q1 t i))/\(Z14p g t i)))))/\(decide ((g:Int) < (Jjh t i))=false->AV.i 0=AV.i (Q1 t i))):=by
   delta Z14a Z14b Jdo Z14d Z14e JfE Jpo Z14h Jqh Jlx Z14k Jqg Jqf Z14n JmM Z14p Z14q Jjh Jpn Z14t Z14u Jgw Z14w Jpm Z14y Jjg Jpp Jqj Jqi Z14D Z14E Z14F
   have hlm:(List.map Jv t.st).length=t.st.length:=Kb _
   have hle:(List.map Jh (t.sg i).e).length=(t.sg i).e.length:=Kb _
   have hlq:(List.map Jh t.sq).length=t.sq.length:=Kb _
   have hlp:(List.map Jh (t.sg (prv i)).e).length=(t.sg (prv i)).e.length:=Kb _
   have hm:=VV hi
   refine⟨by omega,by omega,by unfold Jc;omega,by omega,by omega,congrArg AV.agg (Jl Jv (i:=i) hi),congrArg AV.agg (Jl Jv (by omega)),⟨fun h0=>?_,fun h0=>?_⟩,fun h=>?_,fun h=>⟨⟨0,⟨by omega,by intros;omega⟩,rfl⟩,fun g ⟨hg,ha⟩=>⟨fun hd=>?_,fun hd=>?_⟩⟩⟩
   . refine⟨c103 _,congrArg AV.bool h0,c53 _ _,c53 _ _,c98 (t.sg i).e 0 100000000 (by omega),c51 [_,_,_,_] (by simp),?_⟩
     refine mk7 ?_
     have h1:i ≠ 0:=by have:=Ky h0;omega
     unfold Ut
     rw[if_neg h1,Uj h1,<- hle,<- hlq]
     rfl
   . refine⟨fun h=>h,c103 _,congrArg AV.bool h0,c53 _ _,c53 _ _,c98 (t.sg i).e 0 100000000 (by omega),c51 [_,_,_,_] (by simp),?_⟩
     refine mk7 ?_
     have h1:i=0:=by have:=Kz h0;omega
     unfold Ut
     rw[if_pos h1,<- hle,<- hlq]
     rfl
   . exact congrArg AV.i (QY h).symm
   . rw[hle]at hd
     have hlt:=Jm hd
     have hm2:=VV hlt
     have hF:JgE t i g=true->AV.i 21=AV.i (Q1 t i):=fun hb=>by
      rw[Q1,VL (i:=g) h hd (fun k hk=>by rw[ha k hk];rfl) (by rw[hb];decide),hb]
      rfl
     have hN:JgE t i g=false->∃ (g':Nat),(g'<=(t.sg i).e.length/\∀ (j:Nat),j < g'->JgE t i j=false)/\(t.sg i).e.length-g' < (t.sg i).e.length-g/\(g:Int)+1=(g':Int):=fun hb =>
      ⟨g+1,⟨hlt,fun j hj=>by by_cases e:j=g;(· rw[e];exact hb);(· exact ha j (by omega))⟩,by omega,rfl⟩
     have hb:JgE t i g=(((decide ((g:Int) > 0)) && decide (cI (List.map Jh (t.sg i).e) ((g:Int)).toNat > cI (List.map Jh (t.sg i).e) (QN 0 ((g:Int)-1)).toNat)) || (decide ((i:Int) > 0) && decide (cI (List.map Jh (t.sg i).e) ((g:Int)).toNat < cI (List.map Jh (t.sg (prv i)).e) ((g:Int)).toNat))):=by
      rw[JZ,JZ,JZ]
      unfold JgE up
      congr 1
      . by_cases e0:g=0
        . rw[if_pos e0,e0];rfl
        rw[if_neg e0,Uj e0,show decide ((g:Int) > 0)=true from decide_eq_true (by omega)];rfl
      by_cases e0:i=0
      . rw[if_pos e0,show decide ((i:Int) > 0)=false from decide_eq_false (by omega)];rfl
      rw[if_neg e0,show decide ((i:Int) > 0)=true from decide_eq_true (by omega),show prv i=i-1 from Uj e0];rfl
     have hpl:decide ((i:Int) > 0)=true->(t.sg i).e.length=t.sq.length->(t.sg i).e.length<=(t.sg (prv i)).e.length:=fun e1 e2=>by
      have e0:i ≠ 0:=by have:=Ky e1;omega
      rw[show prv i=i-1 from Uj e0]
      exact hp e0 e2
     have hlen:(t.sg i).e.length=t.sq.length:=by
      have hc:Ut t i=0:=by simpa using h
      unfold Ut at hc
      exact Up hc
     have hat:=VI hlt
     have hat2:=VI (l:=(t.sg i).e) (i:=(QN 0 ((g:Int)-1)).toNat) (by omega)
     rw[hb]at hF hN
     have h64:Jc ((g:Int)+1):=by unfold Jc;omega
     have h65:Jc ((g:Int)-1):=by unfold Jc;omega
     have hpl:decide ((i:Int) > 0)=true->(g:Int) < (List.map Jh (t.sg (prv i)).e).length:=fun e=>by
      have:=hpl e hlen
      omega
     have hat4:(g:Int) < (List.map Jh (t.sg (prv i)).e).length->nth (Ji (List.map Jh (t.sg (prv i)).e) ((g:Int)).toNat) 0=AV.i (cI (List.map Jh (t.sg (prv i)).e) ((g:Int)).toNat):=fun e=>VI (by omega)
     generalize hA:decide ((g:Int) > 0)=a at hF hN ⊢
     generalize hB:decide ((i:Int) > 0)=b at hF hN hpl ⊢
     generalize hC:decide (cI (List.map Jh (t.sg i).e) ((g:Int)).toNat > cI (List.map Jh (t.sg i).e) (QN 0 ((g:Int)-1)).toNat)=c at hF hN ⊢
     generalize hD:decide (cI (List.map Jh (t.sg i).e) ((g:Int)).toNat < cI (List.map Jh (t.sg (prv i)).e) ((g:Int)).toNat)=d at hF hN ⊢
     clear hb h ha hA hB hC hD hlen hd hp
     obtain⟨_,_⟩:=h64
     obtain⟨_,_⟩:=h65
     cases a <;> cases b <;> cases c <;> cases d
     all_goals repeat' (first | apply And.intro | (intro h;cases h;done) | intro _)
     all_goals try first
      | omega
      | (unfold Jc;omega)
      | rfl
      | exact hF rfl
      | (obtain⟨g',q1,q2,q3⟩:=hN rfl;exact⟨g',q1,q2,by rw[q3]⟩)
      | exact hpl rfl
      | exact hat
      | exact hat2
      | exact hat4 (hpl rfl)
   rw[hle]at hd
   exact congrArg AV.i (Ul h hd hg (fun k hk=>by rw[ha k hk];rfl)).symm
 exact Jw Tryz.f100 ({ fzB (mkB (Jm7 t i) 100 [(1,4,rdL 2 Jv t.st 2 true),(1,11,rdL 2 Jv t.st 2 true),(8,7,rdJ),(8,14,rdJ),(8,25,rdJ),(8,30,rdJ)] (fun j=>if j.beq 0 then some (JnR t i)else none))with cut:=cut110 t i,gs:=gs110,split:=fun j=>if j.beq 2 then 1 else if j.beq 8 then 1 else 0 }) key (by kernel_rfl)
theorem JdZ{c:Int}{f:Nat->Int}{n:Nat}(h:sLS c f n 0=0):c=0/\∀ k,k < n->f k=0:=by
 unfold sLS at h
 split at h
 . rename_i hc;rw[h]at hc;simp at hc
 rename_i hc
 refine⟨by simpa using hc,fun k=>?_⟩
 induction k using Nat.strongRecOn with
 | _ k ih =>
  intro hk
  by_cases e:f k=0
  . exact e
  rw[J4 hk (fun j hj=>ih j hj (by omega)) e]at h
  exact absurd h e
structure PathOK(l:List Pt):Prop where
 n1:2<=l.length
 n2:l.length<=16
 b:∀ i,i < l.length -> -100000<=(l.getD i default).x/\(l.getD i default).x<=100000 /\ -100000<=(l.getD i default).y/\(l.getD i default).y<=100000
theorem when_zero{b:Bool}{e:Int}(he:e ≠ 0):sWhen b e=0 ↔ b=false:=by
 cases b <;> simp[sWhen,he]
def spD(l:List Pt)(p:List St)(fl:List Fx):Nat->List AV->Option AV
 | 1088,_=>some (.i (sPath l))
 | 1022,_=>some (.i (sProcS p))
 | 1090,[_,.int _ along]=>some (.agg (Jiw (sStep p along)))
 | 107,_=>some (.i (Qd fl))
 | n,x=>spC n x
def la125a(t:Ty):LA:={
 pre:=[.reno 4 1,.keep [1,4,23,24,25] [1],.bound 2],post:=[.reno 4 1,.keep [1,4,23,24,25] [1],.bound 2]
 Gh:=Nat
 st:=fun i=>⟨[(1,.elt 13 [Jd t] 0 0),(4,.ptr 1 0),(23,.sl 2 (t.st.map Jv)),(24,.i t.st.length),(25,.i i)],[(1,.box [.i (VX t i),.sl 1 ((XB t i).map Jh)])],2⟩
 ok:=fun i=>i<=t.st.length/\∀ j,j < i->JaF t j=0
 ms:=fun i=>t.st.length-i }
def la125b(t:Ty):LA:={
 pre:=[.keep [1,4,6,23,24,25,55,56,57] [1],.bound 2],post:=[.keep [1,4,6,23,24,25,55,56,57] [1],.bound 2]
 Gh:=Nat × Nat
 st:=fun g=>⟨[(1,.elt 13 [Jd t] 0 0),(4,.ptr 1 0),(6,.elt 2 [Jv (t.sg g.1)] 0 0),(23,.sl 2 (t.st.map Jv)),(24,.i t.st.length),(25,.i g.1),(55,.sl 1 ((t.sg g.1).e.map Jh)),(56,.i (t.sg g.1).e.length),(57,.i g.2)],[(1,.box [.i (VX t g.1),.sl 1 ((XB t g.1).map Jh)])],2⟩
 ok:=fun g=>g.1 < t.st.length/\g.2<=(t.sg g.1).e.length/\∀ j,j < g.2->Jfo t g.1 j=false
 ms:=fun g=>(t.sg g.1).e.length-g.2
 rel:=some fun g h=>h.1=g.1 }
def X8(t:Ty):Int:=sLS (JA t.st.length 6) (JaF t) t.st.length 0
def sp125:Nat->List AV->Option AV
 | 92,[.sl _ rows,.int _ m]=>some (.i (sFirst (rows.map fun r=>Ja (hdI r) 0 m)))
 | n,x=>spR n x
theorem c92r(l:List Int)(m:Int)(hl:l.length<=1000):P0 92 [.sl 1 (l.map Jh),.i m] (.i (sFirst ((l.map Jh).map fun r=>Ja (hdI r) 0 m))):=by
 rw[K9]
 exact c92 l m hl
theorem mk56{a b c d e f g h:AV}{B:List (Nat × ABlk)}{x y:Int}(q:x=y):AS.mk [(1,a),(4,b),(6,c),(23,d),(24,e),(25,f),(55,g),(56,AV.i x),(57,h)] B 2=AS.mk [(1,a),(4,b),(6,c),(23,d),(24,e),(25,f),(55,g),(56,AV.i y),(57,h)] B 2:=by rw[q]
theorem JlI{t:Ty}{g:Nat}(h:g < t.st.length):t.sg g ∈ t.st:=by
 rw[Ty.sg,Ka,Kj h]
 exact List.getElem_mem h
abbrev Jgv(t:Ty):=List.map Jv t.st
abbrev Jqe(t:Ty):=[[AV.str t.name,AV.sl (1:Nat) (List.map Jh t.sh),AV.i t.d0,AV.i t.d1,AV.i t.d2,AV.i t.d3,AV.i t.d4,AV.i t.d5,AV.i t.d6,AV.i t.d7,AV.i t.side,AV.sl (1:Nat) (List.map Jh t.sq),AV.sl (2:Nat) (Jgv t)]]
abbrev JmL(t:Ty)(g:Nat):=t.st.getD (g:Int).toNat default
abbrev Z15A(t:Ty)(g:Nat):=Ja (JmL t g).p (1:Int) (100:Int)
abbrev Z15x(t:Ty)(g:Nat):=sWhen (decide ((JmL t g).p<=VX t g)) (11:Int)
abbrev Jlu(t:Ty)(g:Nat):=List.map Jh (JmL t g).e
abbrev Jlw(t:Ty):=((List.map Jh t.sq).length:Int)
abbrev Z15v(t:Ty)(g:Nat):=sWhen (((Jlu t g).length:Int) != (Jlw t)) (2:Int)
abbrev Z15l(t:Ty)(g:Nat):=sFirst (List.map (fun(r:List AV)=>Ja (hdI r) (0:Int) (100000000:Int)) (Jlu t g))
abbrev Z15b(t:Ty)(g:Nat):=[hdI [AV.i (Z15A t g)],hdI [AV.i (Z15x t g)],hdI [AV.i (Z15v t g)],hdI [AV.i (Z15l t g)]]
abbrev Jch(t:Ty)(g_1:Nat × Nat):=List.map Jh (t.sg g_1.fst).e
abbrev Z15C(t:Ty):=((1:Nat),AV.elt (13:Nat) (Jqe t) (0:Nat) (0:Nat))
abbrev Z15r:=((4:Nat),AV.ptr (1:Nat) (0:Nat))
abbrev Z15s(t:Ty)(g':Nat × Nat):=[[AV.i (t.sg g'.fst).p,AV.sl (1:Nat) (List.map Jh (t.sg g'.fst).e)]]
abbrev Z15w(t:Ty):=((23:Nat),AV.sl (2:Nat) (Jgv t))
abbrev Jjf(t:Ty):=(t.st.length:Int)
abbrev Z15B(t:Ty):=((24:Nat),AV.i (Jjf t))
abbrev Z15e(t:Ty)(g':Nat × Nat):=[(Z15C t),Z15r,((6:Nat),AV.elt (2:Nat) (Z15s t g') (0:Nat) (0:Nat)),(Z15w t),(Z15B t),((25:Nat),AV.i (↑g'.fst:Int)),((55:Nat),AV.sl (1:Nat) (List.map Jh (t.sg g'.fst).e)),((56:Nat),AV.i (↑(t.sg g'.fst).e.length:Int)),((57:Nat),AV.i (↑g'.snd:Int))]
abbrev Z15y(t:Ty)(g_1:Nat × Nat):=((6:Nat),AV.elt (2:Nat) [[AV.i (t.sg g_1.fst).p,AV.sl (1:Nat) (Jch t g_1)]] (0:Nat) (0:Nat))
abbrev Jqd(t:Ty)(g_1:Nat × Nat):=(↑(t.sg g_1.fst).e.length:Int)
abbrev Xv(g_1:Nat × Nat):=(↑g_1.snd:Int)
abbrev Z15f(t:Ty)(g_1:Nat × Nat):=[(Z15C t),Z15r,(Z15y t g_1),(Z15w t),(Z15B t),((25:Nat),AV.i (↑g_1.fst:Int)),((55:Nat),AV.sl (1:Nat) (Jch t g_1)),((56:Nat),AV.i (Jqd t g_1)),((57:Nat),AV.i ((Xv g_1)+1))]
abbrev Z15h(g':Nat × Nat)(t:Ty):=(g'.fst < t.st.length/\g'.snd<=(t.sg g'.fst).e.length/\∀ (j:Nat),j < g'.snd->Jfo t g'.fst j=false)
abbrev Jlv(t:Ty)(g_1:Nat × Nat):=List.map Jh (XB t g_1.fst)
abbrev Z15m(t:Ty)(g_1:Nat × Nat):=cI (Jch t g_1) (Xv g_1).toNat > cI (Jch t g_1) ((Xv g_1)-1).toNat
abbrev Z15n(t:Ty)(g':Nat × Nat):=[AV.i (VX t g'.fst),AV.sl (1:Nat) (List.map Jh (XB t g'.fst))]
abbrev Z15p(t:Ty)(g_1:Nat × Nat):=cI (Jch t g_1) (Xv g_1).toNat < cI (Jlv t g_1) (Xv g_1).toNat
abbrev JmK(t:Ty):=((Jgv t).length:Int)
abbrev Z15u(t:Ty)(g_1:Nat × Nat):=[AV.i (VX t g_1.fst),AV.sl (1:Nat) (Jlv t g_1)]
abbrev Z15D(t:Ty)(g:Nat):=[(1,ABlk.box [AV.i (VX t g),AV.sl 1 (List.map Jh (XB t g))])]
abbrev Z15E(g:Nat)(t:Ty):=(g<=t.st.length/\∀ (j:Nat),j < g->JaF t j=(0:Int))
theorem c93(t:Ty)(hn:t.st.length<=1000)(hq:t.sq.length<=1000)(hl:∀ s,s ∈ t.st->s.e.length<=1000):P0 93 [.agg (Jd t)] (.i (X8 t)):=by
 have key :
  P0 91 [AV.i (JmK t),AV.i 6] (AV.i (JA (JmK t) (6:Int)))/\((JA (JmK t) (6:Int) != 0)=true->AV.i (JA (JmK t) (6:Int))=AV.i (X8 t))/\((JA (JmK t) (6:Int) != 0)=false->(0:Int) ≤
  (Jlw t)/\(Jlw t)<=(Jlw t)/\(Jlw t)<=9223372036854775807/\(Jlw t) * (8:Int)<=140737488355328/\(∃ (g:Nat),(Z15E g t)/\AS.mk [(1,AV.elt 13 [(Jd t)] 0 0),(4,AV.ptr 1 0),(23,AV.sl 2 (Jgv t)),(24,AV.i (JmK
  t)),(25,AV.i 0)] [(1,ABlk.box [AV.i 0,AV.sl 1 (List.replicate (Jlw t).toNat [AV.i 0])])] 2=AS.mk [(1,AV.elt 13 [(Jd t)] 0 0),(4,AV.ptr 1 0),(23,AV.sl 2 (Jgv t)),(24,AV.i (Jjf t)),(25,AV.i (g:Int))] (Z15D t
  g) 2)/\∀ (g:Nat),(Z15E g t)->(decide ((g:Int) < (Jjf t))=true->(0:Int)<=(g:Int)/\(g:Int) < (JmK t)/\AV.agg (Ji (Jgv t) (g:Int).toNat)=AV.agg [AV.i (JmL t g).p,AV.sl 1 (Jlu t g)]/\P0 47 [AV.i
  (JmL t g).p,AV.i 1,AV.i 100] (AV.i (Z15A t g))/\P0 90 [AV.bool (decide ((JmL t g).p<=VX t g)),AV.i 11] (AV.i (Z15x t g))/\P0 90 [AV.bool (((Jlu t g).length:Int) != (Jlw t)),AV.i 2] (AV.i (Z15v t g))/\P0 92 [AV.sl
  1 (Jlu t g),AV.i 100000000] (AV.i (Z15l t g))/\P0 44 [AV.sl 1 [[AV.i (Z15A t g)],[AV.i (Z15x t g)],[AV.i (Z15v t g)],[AV.i (Z15l t g)]]] (AV.i (sFirst (Z15b t g)))/\((sFirst (Z15b t g) != 0)=true->AV.i (sFirst (Z15b t g))
  = AV.i (X8 t))/\((sFirst (Z15b t g) != 0)=false->∃ (g0:Nat × Nat),(g0.fst < t.st.length/\g0.snd<=(t.sg g0.fst).e.length/\∀ (j:Nat),j < g0.snd->Jfo t g0.fst j=false)/\g0.fst=g0.fst/\AS.mk [(1,AV.elt 13
  [(Jd t)] 0 0),(4,AV.ptr 1 0),(6,AV.elt 2 [[AV.i (JmL t g).p,AV.sl 1 (Jlu t g)]] 0 0),(23,AV.sl 2 (Jgv t)),(24,AV.i (Jjf t)),(25,AV.i (g:Int)),(55,AV.sl 1 (Jlu t g)),(56,AV.i ((Jlu t g).length:Int)),
  (57,AV.i 0)] (Z15D t g) 2=AS.mk [(1,AV.elt 13 [(Jd t)] 0 0),(4,AV.ptr 1 0),(6,AV.elt 2 [[AV.i (t.sg g0.fst).p,AV.sl 1 (List.map Jh (t.sg g0.fst).e)]] 0 0),(23,AV.sl 2 (Jgv t)),(24,AV.i (Jjf t)),(25,AV.i
  (↑g0.fst:Int)),(55,AV.sl 1 (List.map Jh (t.sg g0.fst).e)),(56,AV.i (↑(t.sg g0.fst).e.length:Int)),(57,AV.i (↑g0.snd:Int))] [(1,ABlk.box [AV.i (VX t g0.fst),AV.sl 1 (List.map Jh (XB t g0.fst))])] 2/\∀ (g_1 :
  Nat × Nat),(g_1.fst < t.st.length/\g_1.snd<=(t.sg g_1.fst).e.length/\∀ (j:Nat),j < g_1.snd->Jfo t g_1.fst j=false)->g_1.fst=g0.fst->(decide ((Xv g_1) < (Jqd t g_1))=true->(0:Int)<=(Xv g_1)/\(Xv g_1) <
  ((Jch t g_1).length:Int)/\nth (Ji (Jch t g_1) (Xv g_1).toNat) 0=AV.i (cI (Jch t g_1) (Xv g_1).toNat)/\(decide ((Xv g_1) > 0)=true->(decide (Z15m t g_1)=true->Jc ((Xv g_1)-1)/\(0:Int)<=(Xv g_1) -
  1/\(Xv g_1)-1 < ((Jch t g_1).length:Int)/\(true=false->false=true)/\AV.bool (decide ((Xv g_1) > 0))=AV.bool true/\nth (Ji (Jch t g_1) ((Xv g_1)-1).toNat) 0=AV.i (cI (Jch t g_1) ((Xv g_1)-1).toNat)
  /\ AV.bool (decide (Z15m t g_1))=AV.bool true/\(true=true->AV.i 21=AV.i (X8 t))/\(true=false->Jc ((Xv g_1)+1)/\∃ (g':Nat × Nat),(Z15h g' t)/\g'.fst=g0.fst/\(t.sg g'.fst).e.length-g'.snd < (t.sg
  g_1.fst).e.length-g_1.snd/\AS.mk (Z15f t g_1) [((1:Nat),ABlk.box (Z15u t g_1))] (2:Nat)=AS.mk (Z15e t g') [((1:Nat),ABlk.box (Z15n t g'))] (2:Nat)))/\(decide (Z15m t g_1)=false->Jc ((Xv g_1)-1)/\(0:Int)
  ≤ (Xv g_1)-1/\(Xv g_1)-1 < ((Jch t g_1).length:Int)/\(0:Int)<=(Xv g_1)/\(Xv g_1) < ((Jlv t g_1).length:Int)/\AV.bool (decide ((Xv g_1) > 0))=AV.bool true/\nth (Ji (Jch t g_1) ((Xv g_1) -
  1).toNat) 0=AV.i (cI (Jch t g_1) ((Xv g_1)-1).toNat)/\AV.bool (decide (Z15m t g_1))=AV.bool false/\nth (Ji (Jlv t g_1) (Xv g_1).toNat) 0=AV.i (cI (Jlv t g_1) (Xv g_1).toNat)/\(decide (Z15p t g_1)=true->AV.i
  21=AV.i (X8 t))/\(decide (Z15p t g_1)=false->Jc ((Xv g_1)+1)/\∃ (g':Nat × Nat),(Z15h g' t)/\g'.fst=g0.fst/\(t.sg g'.fst).e.length-g'.snd < (t.sg g_1.fst).e.length-g_1.snd/\AS.mk (Z15f t g_1) [((1:Nat),
  ABlk.box (Z15u t g_1))] (2:Nat)=AS.mk (Z15e t g') [((1:Nat),ABlk.box (Z15n t g'))] (2:Nat))))/\(decide ((Xv g_1) > 0)=false->(false=true->(false=true->false=true)/\(true=false->false=true)/\AV.bool
  (decide ((Xv g_1) > 0))=AV.bool false/\AV.bool false=AV.bool true/\(true=true->AV.i 21=AV.i (X8 t))/\(true=false->Jc ((Xv g_1)+1)/\∃ (g':Nat × Nat),(Z15h g' t)/\g'.fst=g0.fst/\(t.sg
  g'.fst).e.length-g'.snd < (t.sg g_1.fst).e.length-g_1.snd/\AS.mk [(1,AV.elt 13 (Jqe t) 0 (0:Nat)),(4,AV.ptr 1 (0:Nat)),(6,AV.elt 2 [[AV.i (t.sg g_1.fst).p,AV.sl (1:Nat) (Jch t g_1)]] 0 (0:Nat)),(23,AV.sl 2
  (Jgv t)),(24,AV.i (Jjf t)),(25,AV.i (↑g_1.fst:Int)),(55,AV.sl 1 (Jch t g_1)),(56,AV.i (Jqd t g_1)),(57,AV.i ((Xv g_1)+1))] [(1,ABlk.box (Z15u t g_1))] 2=AS.mk [(1,AV.elt 13 (Jqe t) 0 (0:Nat)),(4,AV.ptr
  1 (0:Nat)),(6,AV.elt 2 (Z15s t g') 0 (0:Nat)),(23,AV.sl 2 (Jgv t)),(24,AV.i (Jjf t)),(25,AV.i (↑g'.fst:Int)),(55,AV.sl 1 (List.map Jh (t.sg g'.fst).e)),(56,AV.i (↑(t.sg g'.fst).e.length:Int)),(57,AV.i
  (↑g'.snd:Int))] [(1,ABlk.box (Z15n t g'))] 2))/\(false=false->(false=true->false=true)/\(0:Int)<=(Xv g_1)/\(Xv g_1) < ((Jlv t g_1).length:Int)/\AV.bool (decide ((Xv g_1) > 0))=AV.bool false/\AV.bool
  false=AV.bool false/\nth (Ji (Jlv t g_1) (Xv g_1).toNat) 0=AV.i (cI (Jlv t g_1) (Xv g_1).toNat)/\(decide (Z15p t g_1)=true->AV.i 21=AV.i (X8 t))/\(decide (Z15p t g_1)=false->Jc ((Xv g_1)+1)/\∃ (g' :
  Nat × Nat),(Z15h g' t)/\g'.fst=g0.fst/\(t.sg g'.fst).e.length-g'.snd < (t.sg g_1.fst).e.length-g_1.snd/\AS.mk [(1,AV.elt (13:Nat) (Jqe t) (0:Nat) (0:Nat)),Z15r,(Z15y t g_1),(Z15w t),(Z15B t),((25:Nat),AV.i
  (↑g_1.fst:Int)),((55:Nat),AV.sl (1:Nat) (Jch t g_1)),((56:Nat),AV.i (Jqd t g_1)),((57:Nat),AV.i ((Xv g_1)+1))] [(1,ABlk.box (Z15u t g_1))] 2=AS.mk [(1,AV.elt (13:Nat) (Jqe t) (0:Nat) (0:Nat)),Z15r,
  ((6:Nat),AV.elt (2:Nat) (Z15s t g') (0:Nat) (0:Nat)),(Z15w t),(Z15B t),((25:Nat),AV.i (↑g'.fst:Int)),((55:Nat),AV.sl (1:Nat) (List.map Jh (t.sg g'.fst).e)),((56:Nat),AV.i (↑(t.sg g'.fst).e.length :
  Int)),((57:Nat),AV.i (↑g'.snd:Int))] [(1,ABlk.box (Z15n t g'))] (2:Nat)))))/\(decide ((Xv g_1) < (Jqd t g_1))=false->Jc ((↑g_1.fst:Int)+1)/\∃ (g':Nat),(g'<=t.st.length/\∀ (j:Nat),j < g'->JaF t j =
  (0:Int))/\t.st.length-g' < t.st.length-g/\AS.mk [(1,AV.elt 13 [(Jd t)] 0 0),(4,AV.ptr 1 0),(23,AV.sl 2 (Jgv t)),(24,AV.i (Jjf t)),(25,AV.i ((↑g_1.fst:Int)+1))] [(1,ABlk.box [AV.i (t.sg g_1.fst).p,AV.sl 1
  (Jch t g_1)])] 2=AS.mk [(1,AV.elt 13 [(Jd t)] 0 0),(4,AV.ptr 1 0),(23,AV.sl 2 (Jgv t)),(24,AV.i (Jjf t)),(25,AV.i (g':Int))] [(1,ABlk.box [AV.i (VX t g'),AV.sl 1 (List.map Jh (XB t g'))])] 2))) /\
  (decide ((g:Int) < (Jjf t))=false->AV.i 0=AV.i (X8 t))):=by
   delta Jqe Z15b JmL Jch Z15e Z15f Xv Z15h Jlw Jgv Jlv Z15l Z15m Z15n Jjf Z15p Jlu Z15r Z15s JmK Z15u Z15v Z15w Z15x Z15y Jqd Z15A Z15B Z15C Z15D Z15E
   have hlm:(List.map Jv t.st).length=t.st.length:=Kb _
   have hlq:(List.map Jh t.sq).length=t.sq.length:=Kb _
   refine⟨c91 _ _,fun h=>?_,fun h=>⟨by omega,by omega,by omega,by omega,⟨0,⟨by omega,by intros;omega⟩,?_⟩,fun g ⟨hg,ha⟩=>⟨fun hd=>?_,fun hd=>?_⟩⟩⟩
   . rw[hlm]at h ⊢
     exact congrArg AV.i (QY h).symm
   . have e1:List.replicate ((List.map Jh t.sq).length:Int).toNat [AV.i 0]=List.map Jh (XB t 0):=by
      rw[Km,hlq]
      show _=List.map Jh (List.replicate t.sq.length 0)
      rw[List.map_replicate]
      rfl
     rw[e1,hlm]
     rfl
   . have hlt:=Jm hd
     have hle:(List.map Jh (t.sg g).e).length=(t.sg g).e.length:=Kb _
     have hS:=hl _ (JlI hlt)
     rw[hlm]at h
     have hc:sFirst [Ja (t.sg g).p 1 100,sWhen (decide ((t.sg g).p<=VX t g)) 11,sWhen (((List.map Jh (t.sg g).e).length:Int) != ((List.map Jh t.sq).length:Int)) 2,sFirst (List.map (fun r=>Ja (hdI r) 0 100000000) (List.map Jh (t.sg g).e))]=Wk t g:=by
      unfold Wk
      rw[<- hle,<- hlq,K9]
      rfl
     refine⟨by omega,by omega,congrArg AV.agg (Jl Jv hlt),c47 _ _ _,c90 _ _,c90 _ _,c92r _ _ hS,c44 [_,_,_,_] (by simp),fun hx=>?_,fun hx=>⟨(g,0),⟨hlt,by omega,fun _ hj=>absurd hj (by omega)⟩,rfl,?_,fun⟨h1,k⟩ ⟨q1,q2,q3⟩ q4=>⟨fun hy=>?_,fun hy=>?_⟩⟩⟩
     . have hx:(Wk t g != 0)=true:=by rw[<- hc];exact hx
       have e1:JaF t g=Wk t g:=QY hx
       refine congrArg AV.i ?_
       rw[X8,VL (i:=g) h hd ha (by rw[e1];exact hx),e1]
       exact hc
     . exact mk56 (congrArg Nat.cast hle)
     . have hx:(Wk t g != 0)=false:=by rw[<- hc];exact hx
       clear hc
       have q4:h1=g:=q4
       have q3:∀ j,j < k->Jfo t h1 j=false:=q3
       have hy:decide ((k:Int) < (t.sg h1).e.length)=true:=hy
       clear q1 q2
       subst q4
       have hlt2:=Jm hy
       have hlE:(t.sg h1).e.length=t.sq.length:=by
        have hcz:Wk t h1=0:=by simpa using hx
        unfold Wk at hcz
        exact Up hcz
       have hlL:(XB t h1).length=t.sq.length:=by
        unfold XB
        split
        . exact Kt
        have hcz:=(JdZ (ha (h1-1) (by omega))).1
        unfold Wk at hcz
        exact Up hcz
       have hF:Jfo t h1 k=true->AV.i 21=AV.i (X8 t):=fun hb=>by
        have e1:JaF t h1=21:=by
         rw[JaF,VL (i:=k) hx hy (fun j hj=>by rw[q3 j hj];rfl) (by rw[hb];decide),hb]
         rfl
        rw[X8,VL (i:=h1) h hd ha (by rw[e1];decide),e1]
       have hN:Jfo t h1 k=false->∃ (k':Nat),(h1 < t.st.length/\k'<=(t.sg h1).e.length/\∀ (j:Nat),j < k'->Jfo t h1 j=false)/\(t.sg h1).e.length-k' < (t.sg h1).e.length-k/\(k:Int)+1=(k':Int):=fun hb =>
        ⟨k+1,⟨hlt,hlt2,fun j hj=>by by_cases e:j=k;(· rw[e];exact hb);(· exact q3 j (by omega))⟩,by omega,rfl⟩
       have hb:Jfo t h1 k=(((decide ((k:Int) > 0)) && decide (cI (List.map Jh (t.sg h1).e) ((k:Int)).toNat > cI (List.map Jh (t.sg h1).e) ((k:Int)-1).toNat)) || (decide (cI (List.map Jh (t.sg h1).e) ((k:Int)).toNat < cI (List.map Jh (XB t h1)) ((k:Int)).toNat))):=by
        rw[JZ,JZ,JZ]
        unfold Jfo up
        congr 1
        by_cases e0:k=0
        . rw[if_pos e0,e0];rfl
        rw[if_neg e0,show((k:Int)-1).toNat=k-1 by omega,show decide ((k:Int) > 0)=true from decide_eq_true (by omega)];rfl
       have hlL2:(List.map Jh (XB t h1)).length=(XB t h1).length:=Kb _
       have hat:=VI hlt2
       have hat2:(k:Int) > 0->nth (Ji (List.map Jh (t.sg h1).e) ((k:Int)-1).toNat) 0=AV.i (cI (List.map Jh (t.sg h1).e) ((k:Int)-1).toNat):=fun _=>VI (by omega)
       have hat3:nth (Ji (List.map Jh (XB t h1)) ((k:Int)).toNat) 0=AV.i (cI (List.map Jh (XB t h1)) ((k:Int)).toNat):=VI (by omega)
       rw[hb]at hF hN
       have h64:Jc ((k:Int)+1):=by unfold Jc;omega
       have h65:Jc ((k:Int)-1):=by unfold Jc;omega
       clear hb h hx ha q3 hd hy
       dsimp only
       refine⟨by omega,by omega,hat,?_⟩
       by_cases hk:(k:Int) > 0
       . have hA:decide ((k:Int) > 0)=true:=decide_eq_true hk
         have hat2:=hat2 hk
         rw[hA]at hF hN ⊢
         generalize hC:decide (cI (List.map Jh (t.sg h1).e) ((k:Int)).toNat > cI (List.map Jh (t.sg h1).e) ((k:Int)-1).toNat)=c at hF hN ⊢
         generalize hD:decide (cI (List.map Jh (t.sg h1).e) ((k:Int)).toNat < cI (List.map Jh (XB t h1)) ((k:Int)).toNat)=d at hF hN ⊢
         clear hA hC hD
         obtain⟨_,_⟩:=h64
         obtain⟨_,_⟩:=h65
         cases c <;> cases d
         all_goals repeat' (first | apply And.intro | (intro h;cases h;done) | intro _)
         all_goals try first
          | omega
          | (unfold Jc;omega)
          | rfl
          | exact hat2
          | exact hat3
          | exact hF rfl
          | (obtain⟨g',q1,q2,q3⟩:=hN rfl;exact⟨(h1,g'),q1,rfl,q2,by rw[q3]⟩)
       have hA:decide ((k:Int) > 0)=false:=decide_eq_false hk
       rw[hA]at hF hN ⊢
       generalize hC:decide (cI (List.map Jh (t.sg h1).e) ((k:Int)).toNat > cI (List.map Jh (t.sg h1).e) ((k:Int)-1).toNat)=c at hF hN ⊢
       generalize hD:decide (cI (List.map Jh (t.sg h1).e) ((k:Int)).toNat < cI (List.map Jh (XB t h1)) ((k:Int)).toNat)=d at hF hN ⊢
       clear hA hC hD
       obtain⟨_,_⟩:=h64
       obtain⟨_,_⟩:=h65
       cases d
       all_goals repeat' (first | apply And.intro | (intro h;cases h;done) | intro _)
       all_goals try first
        | omega
        | (unfold Jc;omega)
        | rfl
        | exact hat3
        | exact hF rfl
        | (obtain⟨g',q1,q2,q3⟩:=hN rfl;exact⟨(h1,g'),q1,rfl,q2,by rw[q3]⟩)
     have hx:(Wk t g != 0)=false:=by rw[<- hc];exact hx
     clear hc
     have q4:h1=g:=q4
     have q3:∀ j,j < k->Jfo t h1 j=false:=q3
     have q2:k<=(t.sg h1).e.length:=q2
     have hy:decide ((k:Int) < (t.sg h1).e.length)=false:=hy
     subst q4
     have ez:JaF t h1=0:=Ul (i:=k) hx hy q2 (fun j hj=>by rw[q3 j hj];rfl)
     exact⟨by unfold Jc;dsimp only;omega,h1+1,⟨hlt,Xn ha (by rw[ez];rfl)⟩,by omega,rfl⟩
   rw[hlm]at h
   exact congrArg AV.i (Ul h hd hg ha).symm
 exact Jw Tryz.f93 ({ fzB (mkB sp125 93 [(7,1,rdL 2 Jv t.st 2 true),(13,2,rdJ),(14,9,rdJ),(14,18,rdJ)] (fun j=>if j.beq 0 then some (la125a t)else if j.beq 2 then some (la125b t)else none))with split:=fun j=>if j.beq 14 then 1 else 0 }) key (by kernel_rfl)
def UU(t:Ty):Int:=sFirst [sWhen (!sName t.name) 8,JA t.sh.length 8,Ql t.sh 1000,sWhen (sumW t.sh t.sh.length != 1000) 1]
def Jaq(t:Ty):Int:=sFirst [Ql t.dir 2000,Ja t.side 0 1000,JA t.sq.length 8,Ql t.sq 100000000000]
def Xr(t:Ty):Int:=if UU t != 0 then UU t else sLS (Jaq t) (fSq t.sq) t.sq.length (X8 t)
theorem mk3{a:AV}{x y:Int}(h:x=y):AS.mk [(1,a),(3,AV.i x)] [] 1=AS.mk [(1,a),(3,AV.i y)] [] 1:=by rw[h]
theorem mk4{a:AV}{x y:Int}(h:x=y):AS.mk [(1,a),(4,AV.i x)] [] 1=AS.mk [(1,a),(4,AV.i y)] [] 1:=by rw[h]
theorem mk5{a:AV}{x y:Int}(h:x=y):AS.mk [(1,a),(5,AV.i x)] [] 1=AS.mk [(1,a),(5,AV.i y)] [] 1:=by rw[h]
theorem mk49{a b d:AV}{x y:Int}(h:x=y):AS.mk [(1,a),(48,b),(49,AV.i x),(50,d)] [] 1=AS.mk [(1,a),(48,b),(49,AV.i y),(50,d)] [] 1:=by rw[h]
def sp53(t:Ty):Nat->List AV->Option AV
 | 88,[.str s]=>some (.bool (sName s))
 | 37,_=>some (.i (sumW t.sh t.sh.length))
 | 93,_=>some (.i (X8 t))
 | 92,[.sl _ rows,.int _ m]=>some (.i (sFirst (rows.map fun r=>Ja (hdI r) 0 m)))
 | n,x=>spR n x
def la53(t:Ty):LA:={
 pre:=[.keep [1,48,49,50] [],.bound 1],post:=[.keep [1,48,49,50] [],.bound 1]
 Gh:=Nat
 st:=fun i=>⟨[(1,.elt 13 [Jd t] 0 0),(48,.sl 1 (t.sq.map Jh)),(49,.i t.sq.length),(50,.i i)],[],1⟩
 ok:=fun i=>i<=t.sq.length/\∀ k,k < i->fSq t.sq k=0
 ms:=fun i=>t.sq.length-i }
def cut53(t:Ty):Nat->Option (AS->AS):=fun j=>if j.beq 1 then some (JgD [1,3] [] 1 3 fun _=>.i (UU t))else if j.beq 4 then some (JgD [1,4] [] 1 4 fun _=>.i (Jaq t))else none
def gs53:Nat->List GS:=fun j=>if j.beq 1 then[.keep [1,3] [],.bound 1]else if j.beq 4 then[.keep [1,4] [],.bound 1]else[]
abbrev Z16a(t:Ty):=sFirst [Ja (hdI [AV.i t.d0]) (0:Int) (2000:Int),Ja (hdI [AV.i t.d1]) (0:Int) (2000:Int),Ja (hdI [AV.i t.d2]) (0:Int) (2000:Int),Ja (hdI [AV.i t.d3]) (0:Int) (2000:Int),Ja (hdI [AV.i t.d4]) (0:Int) (2000:Int),Ja (hdI [AV.i t.d5]) (0:Int) (2000:Int),Ja (hdI [AV.i t.d6]) (0:Int) (2000:Int),Ja (hdI [AV.i t.d7]) (0:Int) (2000:Int)]
abbrev Jdi(t:Ty):=List.map Jh t.sq
abbrev Jqa(t:Ty):=(t.sq.length:Int)
abbrev Z16b(t:Ty)(g:Nat):=[(1,AV.elt 13 [(Jd t)] 0 0),(48,AV.sl 1 (Jdi t)),(49,AV.i (Jqa t)),(50,AV.i ((g:Int)+1))]
abbrev Z16c(t:Ty)(g':Nat):=[(1,AV.elt 13 [(Jd t)] 0 0),(48,AV.sl 1 (Jdi t)),(49,AV.i (Jqa t)),(50,AV.i (g':Int))]
abbrev Z16y(t:Ty):=sWhen (!sName t.name) (8:Int)
abbrev Jp9(t:Ty):=List.map Jh t.sh
abbrev Z16p(t:Ty):=JA ((Jp9 t).length:Int) (8:Int)
abbrev Z16i(t:Ty):=sFirst (List.map (fun(r:List AV)=>Ja (hdI r) (0:Int) (1000:Int)) (Jp9 t))
abbrev Z16r(t:Ty):=sWhen (sumW t.sh t.sh.length != 1000) (1:Int)
abbrev Z16e(t:Ty):=sFirst [hdI [AV.i (Z16y t)],hdI [AV.i (Z16p t)],hdI [AV.i (Z16i t)],hdI [AV.i (Z16r t)]]
abbrev Z16f(g':Nat)(t:Ty):=(g'<=t.sq.length/\∀ (k:Nat),k < g'->fSq t.sq k=(0:Int))
abbrev Z16g(t:Ty):=sFirst (List.map (fun(r:List AV)=>Ja (hdI r) (0:Int) (100000000000:Int)) (Jdi t))
abbrev JmJ(g:Nat):=(g:Int)-1
abbrev Z16n(t:Ty)(g:Nat):=cI (Jdi t) (g:Int).toNat<=cI (Jdi t) (JmJ g).toNat
abbrev Z16h(t:Ty)(g:Nat):=(decide (Z16n t g)=false->Jc ((g:Int)+1)/\∃ (g':Nat),(Z16f g' t)/\t.sq.length-g' < t.sq.length-g/\AS.mk (Z16b t g) [] 1=AS.mk (Z16c t g') [] 1)
abbrev Z16u(t:Ty):=Ja t.side (0:Int) (1000:Int)
abbrev Jlt(t:Ty):=((Jdi t).length:Int)
abbrev Z16j(t:Ty):=sFirst [hdI [AV.i (Z16a t)],hdI [AV.i (Z16u t)],hdI [AV.i (JA (Jlt t) (8:Int))],hdI [AV.i (Z16g t)]]
abbrev Z16k(g:Nat)(t:Ty):=(false=false->Jc ((g:Int)+1)/\∃ (g':Nat),(Z16f g' t)/\t.sq.length-g' < t.sq.length-g/\AS.mk (Z16b t g) [] 1=AS.mk (Z16c t g') [] 1)
abbrev Z16l(g:Nat)(t:Ty):=(true=false->Jc ((g:Int)+1)/\∃ (g':Nat),(Z16f g' t)/\t.sq.length-g' < t.sq.length-g/\AS.mk (Z16b t g) [] 1=AS.mk (Z16c t g') [] 1)
abbrev Jqc:=false=true->false=true
abbrev Jqb(t:Ty)(g:Nat):=cI (Jdi t) (g:Int).toNat != 0
abbrev Jls(g:Nat):=(g:Int) == 0
abbrev Jlr(g:Nat):=(g:Int) > 0
abbrev Z16x(g:Nat)(t:Ty):=(g<=t.sq.length/\∀ (k:Nat),k < g->fSq t.sq k=(0:Int))
theorem c45(t:Ty)(hn:t.st.length<=1000)(hs:t.sh.length<=1000)(hq:t.sq.length<=1000)(hl:∀ s,s ∈ t.st->s.e.length<=1000)(hN:t.name.length<=1000000):P0 45 [.agg (Jd t)] (.i (Xr t)):=by
 have key :
  (P0 88 [AV.str t.name] (AV.bool (sName t.name))/\P0 90 [AV.bool !sName t.name,AV.i 8] (AV.i (Z16y t))/\P0 91 [AV.i ((Jp9 t).length:Int),AV.i 8] (AV.i (Z16p t))/\P0 92 [AV.sl 1 (Jp9 t),AV.i 1000] (AV.i (Z16i t))/\P0 37
  [AV.sl 1 (Jp9 t)] (AV.i (sumW t.sh t.sh.length))/\P0 90 [AV.bool (sumW t.sh t.sh.length != 1000),AV.i 1] (AV.i (Z16r t))/\P0 44 [AV.sl 1 [[AV.i (Z16y t)],[AV.i (Z16p t)],[AV.i (Z16i t)],[AV.i (Z16r t)]]] (AV.i (Z16e t)) /\
  AS.mk [(1,AV.elt 13 [(Jd t)] 0 0),(3,AV.i (Z16e t))] [] 1=AS.mk [(1,AV.elt 13 [(Jd t)] 0 0),(3,AV.i (UU t))] [] 1)/\((UU t != 0)=true->AV.i (UU t)=AV.i (Xr t))/\((UU t != 0)=false->(P0 92
  [AV.sl 1 [[AV.i t.d0],[AV.i t.d1],[AV.i t.d2],[AV.i t.d3],[AV.i t.d4],[AV.i t.d5],[AV.i t.d6],[AV.i t.d7]],AV.i 2000] (AV.i (Z16a t))/\P0 47 [AV.i t.side,AV.i 0,AV.i 1000] (AV.i (Z16u t))/\P0 91 [AV.i (Jlt t),AV.i 8]
  (AV.i (JA (Jlt t) (8:Int)))/\P0 92 [AV.sl 1 (Jdi t),AV.i 100000000000] (AV.i (Z16g t))/\P0 44 [AV.sl 1 [[AV.i (Z16a t)],[AV.i (Z16u t)],[AV.i (JA (Jlt t) (8:Int))],[AV.i (Z16g t)]]] (AV.i (Z16j t))/\AS.mk
  [(1,AV.elt 13 [(Jd t)] 0 0),(4,AV.i (Z16j t))] [] 1=AS.mk [(1,AV.elt 13 [(Jd t)] 0 0),(4,AV.i (Jaq t))] [] 1)/\((Jaq t != 0)=true->AV.i (Jaq t)=AV.i (Xr t))/\((Jaq t != 0)=false->(∃ (g:Nat),
  (Z16x g t)/\AS.mk [(1,AV.elt 13 [(Jd t)] 0 0),(48,AV.sl 1 (Jdi t)),(49,AV.i (Jlt t)),(50,AV.i 0)] [] 1=AS.mk [(1,AV.elt 13 [(Jd t)] 0 0),(48,AV.sl 1 (Jdi t)),(49,AV.i (Jqa t)),(50,AV.i (g:Int))] [] 1)
  /\ ∀ (g:Nat),(Z16x g t)->(decide ((g:Int) < (Jqa t))=true->(0:Int)<=(g:Int)/\(g:Int) < (Jlt t)/\nth (Ji (Jdi t) (g:Int).toNat) 0=AV.i (cI (Jdi t) (g:Int).toNat)/\((Jls g)=true->((Jqb t g) =
  true->(true=false->false=true)/\AV.bool (Jls g)=AV.bool true/\AV.bool (Jqb t g)=AV.bool true/\(true=true->AV.i 11=AV.i (Xr t))/\(Z16l g t))/\((Jqb t g)=false->(decide (Jlr g)=true->Jc (JmJ g)/\(0
  : Int)<=(g:Int)-1/\(g:Int)-1 < (Jlt t)/\AV.bool (Jls g)=AV.bool true/\AV.bool (Jqb t g)=AV.bool false/\AV.bool (decide (Jlr g))=AV.bool true/\nth (Ji (Jdi t) (JmJ g).toNat) 0=AV.i (cI (Jdi t) (JmJ
  g).toNat)/\(decide (Z16n t g)=true->AV.i 11=AV.i (Xr t))/\(Z16h t g))/\(decide (Jlr g)=false->Jqc/\AV.bool (Jls g)=AV.bool true/\AV.bool (Jqb t g)=AV.bool false/\AV.bool (decide (Jlr g))=AV.bool false /\
  (false=true->AV.i 11=AV.i (Xr t))/\(Z16k g t))))/\((Jls g)=false->(false=true->Jqc/\(true=false->false=true)/\AV.bool (Jls g)=AV.bool false/\AV.bool false=AV.bool true/\(true=true->AV.i 11=AV.i
  (Xr t))/\(Z16l g t))/\(false=false->(decide (Jlr g)=true->Jqc/\Jc (JmJ g)/\(0:Int)<=(g:Int)-1/\(g:Int)-1 < (Jlt t)/\AV.bool (Jls g)=AV.bool false/\AV.bool false=AV.bool false/\AV.bool (decide
  (Jlr g))=AV.bool true/\nth (Ji (Jdi t) (JmJ g).toNat) 0=AV.i (cI (Jdi t) (JmJ g).toNat)/\(decide (Z16n t g)=true->AV.i 11=AV.i (Xr t))/\(Z16h t g))/\(decide (Jlr g)=false->Jqc/\Jqc/\AV.bool (Jls g) =
  AV.bool false/\AV.bool false=AV.bool false/\AV.bool (decide (Jlr g))=AV.bool false/\(false=true->AV.i 11=AV.i (Xr t))/\(Z16k g t)))))/\(decide ((g:Int) < (Jqa t))=false->P0 93 [AV.agg (Jd t)] (AV.i (X8
  t))/\AV.i (X8 t)=AV.i (Xr t)))):=by
   delta Z16a Z16b Z16c Jdi Z16e Z16f Z16g Z16h Z16i Z16j Z16k Z16l Jlt Z16n Jqc Z16p Jqb Z16r Jls Jlr Z16u JmJ Jqa Z16x Z16y Jp9
   have hls:(List.map Jh t.sh).length=t.sh.length:=Kb _
   have hlq:(List.map Jh t.sq).length=t.sq.length:=Kb _
   have e1:sFirst [sWhen (!sName t.name) 8,JA ((List.map Jh t.sh).length:Int) 8,sFirst (List.map (fun r=>Ja (hdI r) 0 1000) (List.map Jh t.sh)),sWhen (sumW t.sh t.sh.length != 1000) 1]=UU t:=by
    unfold UU
    rw[hls,K9]
    rfl
   have e2:sFirst [Ql t.dir 2000,Ja t.side 0 1000,JA ((List.map Jh t.sq).length:Int) 8,sFirst (List.map (fun r=>Ja (hdI r) 0 100000000000) (List.map Jh t.sq))]=Jaq t:=by
    unfold Jaq
    rw[hlq,K9]
    rfl
   refine⟨⟨c88 _ hN,c90 _ _,c91 _ _,c92r _ _ hs,c37 _ (by omega),c90 _ _,c44 [_,_,_,_] (by simp),mk3 e1⟩,fun h=>?_,fun h=>⟨⟨c92r t.dir 2000 (show(8:Nat)<=1000 by decide),c47 _ _ _,c91 _ _,c92r _ _ hq,c44 [_,_,_,_] (by simp),mk4 e2⟩,fun h2=>?_,fun h2=>⟨⟨0,⟨by omega,by intros;omega⟩,mk49 (congrArg Nat.cast hlq)⟩,fun g ⟨hg,ha⟩=>⟨fun hd=>?_,fun hd=>?_⟩⟩⟩⟩
   . exact congrArg AV.i (if_pos h).symm
   . rw[Xr,if_neg (by rw[h];decide),QY h2]
   . have hlt:=Jm hd
     have hF:Wf t.sq g=true->AV.i 11=AV.i (Xr t):=fun hb=>by
      have e:fSq t.sq g=11:=by rw[fSq,if_pos hb]
      rw[Xr,if_neg (by rw[h];decide),VL (f:=fSq t.sq) h2 hd ha (by rw[e];decide),e]
     have hN:Wf t.sq g=false->∃ (g':Nat),(g'<=t.sq.length/\∀ (k:Nat),k < g'->fSq t.sq k=0)/\t.sq.length-g' < t.sq.length-g/\(g:Int)+1=(g':Int):=fun hb =>
      ⟨g+1,⟨hlt,Xn ha (by rw[(fSq_z t.sq g).2 hb];rfl)⟩,by omega,rfl⟩
     have hb:Wf t.sq g=(((((g:Int)) == 0) && cI (List.map Jh t.sq) ((g:Int)).toNat != 0) || (decide ((g:Int) > 0) && decide (cI (List.map Jh t.sq) ((g:Int)).toNat<=cI (List.map Jh t.sq) ((g:Int)-1).toNat))):=by
      rw[JZ,JZ]
      unfold Wf
      by_cases e0:g=0
      . subst e0
        exact(Bool.or_false _).symm
      rw[if_neg e0,show((g:Int)-1).toNat=g-1 by omega,show decide ((g:Int) > 0)=true from decide_eq_true (by omega),show((g:Int) == 0)=false from beq_false_of_ne (by omega)]
      rfl
     have hat:nth (Ji (List.map Jh t.sq) ((g:Int)).toNat) 0=AV.i (cI (List.map Jh t.sq) ((g:Int)).toNat):=VI hlt
     have hat2:(g:Int) > 0->nth (Ji (List.map Jh t.sq) ((g:Int)-1).toNat) 0=AV.i (cI (List.map Jh t.sq) ((g:Int)-1).toNat):=fun _=>VI (by omega)
     rw[hb]at hF hN
     have h64:Jc ((g:Int)+1):=by unfold Jc;omega
     have h65:Jc ((g:Int)-1):=by unfold Jc;omega
     clear hb h h2 ha hd e1 e2
     generalize Xr t=q at hF ⊢
     generalize hC:(cI (List.map Jh t.sq) ((g:Int)).toNat != 0)=c at hF hN ⊢
     generalize hD:decide (cI (List.map Jh t.sq) ((g:Int)).toNat<=cI (List.map Jh t.sq) ((g:Int)-1).toNat)=d at hF hN ⊢
     clear hC hD
     obtain⟨_,_⟩:=h64
     obtain⟨_,_⟩:=h65
     refine⟨by omega,by omega,hat,?_⟩
     by_cases hk:g=0
     . have hA:decide ((g:Int) > 0)=false:=decide_eq_false (by omega)
       have hB:((g:Int) == 0)=true:=by rw[beq_iff_eq];omega
       rw[hA,hB]at hF hN ⊢
       cases c <;> cases d
       all_goals repeat' (first | apply And.intro | (intro h;cases h;done) | intro _)
       all_goals try first
        | omega
        | (unfold Jc;omega)
        | rfl
        | exact hF rfl
        | (obtain⟨g',q1,q2,q3⟩:=hN rfl;exact⟨g',q1,q2,by rw[q3]⟩)
     have hA:decide ((g:Int) > 0)=true:=decide_eq_true (by omega)
     have hB:((g:Int) == 0)=false:=beq_false_of_ne (by omega)
     have hat2:=hat2 (by omega)
     rw[hA,hB]at hF hN ⊢
     cases c <;> cases d
     all_goals repeat' (first | apply And.intro | (intro h;cases h;done) | intro _)
     all_goals try first
      | omega
      | (unfold Jc;omega)
      | rfl
      | exact hat2
      | exact hF rfl
      | (obtain⟨g',q1,q2,q3⟩:=hN rfl;exact⟨g',q1,q2,by rw[q3]⟩)
   refine⟨c93 t hn hq hl,?_⟩
   rw[Xr,if_neg (by rw[h];decide),Ul h2 hd hg ha]
 exact Jw Tryz.f45 ({ fzB (mkB (sp53 t) 45 [(9,2,rdJ),(10,16,rdJ)] (fun j=>if j.beq 0 then some (la53 t)else none))with cut:=cut53 t,gs:=gs53,split:=fun j=>if j.beq 10 then 1 else 0 }) key (by kernel_rfl)
def JkX(t:Ty):Int:=sFirst [sWhen (!sName t.name) 8,QA t.sh,sFirst (t.dir.map fun x=>Ja x 0 2000),Ja t.side 0 1000,JH t.sq,sWhen ((t.st.length:Int) == 0) 12,sWhen (decide ((t.st.length:Int) > 6)) 5]
def JeN(t:Ty):Int:=sLS (JkX t) (Q1 t) t.st.length 0
def sp32(t:Ty):Nat->List AV->Option AV
 | 97,_=>some (.i (QA t.sh))
 | 99,_=>some (.i (JH t.sq))
 | 100,[_,.int _ n]=>some (.i (Q1 t n.toNat))
 | 98,_=>some (.i (sFirst (t.dir.map fun x=>Ja x 0 2000)))
 | n,x=>spR n x
def la32(t:Ty):LA:={
 pre:=[.keep [1,6] [],.bound 1],post:=[.keep [1,6] [],.bound 1]
 Gh:=Nat
 st:=fun i=>⟨[(1,.elt 13 [Jd t] 0 0),(6,.i i)],[],1⟩
 ok:=fun i=>i<=t.st.length/\∀ k,k < i->Q1 t k=0
 ms:=fun i=>t.st.length-i }
def cut32(t:Ty):Nat->Option (AS->AS):=fun j=>if j.beq 6 then some (JgD [1,5] [] 1 5 fun _=>.i (JkX t))else none
def gs32:Nat->List GS:=fun j=>if j.beq 6 then[.keep [1,5] [],.bound 1]else[]
def cl32:Operand->Bool
 | .tmp t=>t.beq 10
 | _=>false
abbrev Z17a(t:Ty):=sFirst [Ja t.d0 (0:Int) (2000:Int),Ja t.d1 (0:Int) (2000:Int),Ja t.d2 (0:Int) (2000:Int),Ja t.d3 (0:Int) (2000:Int),Ja t.d4 (0:Int) (2000:Int),Ja t.d5 (0:Int) (2000:Int),Ja t.d6 (0:Int) (2000:Int),Ja t.d7 (0:Int) (2000:Int)]
abbrev Z17b(t:Ty):=[[AV.str t.name,AV.sl (1:Nat) (List.map Jh t.sh),AV.i t.d0,AV.i t.d1,AV.i t.d2,AV.i t.d3,AV.i t.d4,AV.i t.d5,AV.i t.d6,AV.i t.d7,AV.i t.side,AV.sl (1:Nat) (List.map Jh t.sq),AV.sl (2:Nat) (List.map Jv t.st)]]
abbrev Z17i(t:Ty):=sWhen (!sName t.name) (8:Int)
abbrev Z17f(t:Ty):=Ja t.side (0:Int) (1000:Int)
abbrev Jpl(t:Ty):=((List.map Jv t.st).length:Int)
abbrev Z17g(t:Ty):=sWhen ((Jpl t) == 0) (12:Int)
abbrev Z17e(t:Ty):=sWhen (decide ((Jpl t) > 6)) (5:Int)
abbrev Z17c(t:Ty):=sFirst [hdI [AV.i (Z17i t)],hdI [AV.i (QA t.sh)],hdI [AV.i (Z17a t)],hdI [AV.i (Z17f t)],hdI [AV.i (JH t.sq)],hdI [AV.i (Z17g t)],hdI [AV.i (Z17e t)]]
abbrev Z17h(t:Ty):=((1:Nat),AV.elt (13:Nat) (Z17b t) (0:Nat) (0:Nat))
abbrev Z17j(g:Nat)(t:Ty):=(g<=t.st.length/\∀ (k:Nat),k < g->Q1 t k=(0:Int))
theorem c52(t:Ty)(hn:t.st.length<=1000)(hs:t.sh.length<=1000)(hq:t.sq.length<=1000)(hl:∀ s,s ∈ t.st->s.e.length<=1000)(hN:t.name.length<=1000000):P0 52 [.agg (Jd t)] (.i (JeN t)):=by
 have key :
  (0:Int)<=0/\(0:Int) < (8:Int)/\1<=9223372036854775807/\8<=140737488355328/\Jc ((0:Int)+1)/\(0:Int)<=0+1/\(0:Int)+1 < (8:Int)/\2<=9223372036854775807/\16<=140737488355328/\Jc ((0:Int)+1 +
  1)/\(0:Int)<=0+1+1/\(0:Int)+1+1 < (8:Int)/\3<=9223372036854775807/\24<=140737488355328/\Jc ((0:Int)+1+1+1)/\(0:Int)<=0+1+1+1/\(0:Int)+1+1+1 < (8:Int)/\4<=9223372036854775807
  /\ 32<=140737488355328/\Jc ((0:Int)+1+1+1+1)/\(0:Int)<=0+1+1+1+1/\(0:Int)+1+1+1+1 < (8:Int)/\5<=9223372036854775807/\40<=140737488355328/\Jc ((0:Int)+1+1+1+1+1)/\(0:Int)
  ≤ 0+1+1+1+1+1/\(0:Int)+1+1+1+1+1 < (8:Int)/\6<=9223372036854775807/\48<=140737488355328/\Jc ((0:Int)+1+1+1+1+1+1)/\(0:Int)<=0+1+1+1+1+1+1/\(0:Int)+1+1+1+1 +
  1+1 < (8:Int)/\7<=9223372036854775807/\56<=140737488355328/\Jc ((0:Int)+1+1+1+1+1+1+1)/\(0:Int)<=0+1+1+1+1+1+1+1/\(0:Int)+1+1+1+1+1+1+1 < (8:Int)/\8 ≤
  9223372036854775807/\64<=140737488355328/\Jc ((0:Int)+1+1+1+1+1+1+1+1)/\(P0 55 [AV.str t.name] (AV.i (Z17i t))/\P0 97 [AV.sl 1 (List.map Jh t.sh)] (AV.i (QA t.sh))/\P0 98 [AV.sl 1 [[AV.i t.d0],
  [AV.i t.d1],[AV.i t.d2],[AV.i t.d3],[AV.i t.d4],[AV.i t.d5],[AV.i t.d6],[AV.i t.d7]],AV.i 0,AV.i 2000] (AV.i (Z17a t))/\P0 58 [AV.i t.side,AV.i 0,AV.i 1000] (AV.i (Z17f t))/\P0 99 [AV.sl 1 (List.map Jh t.sq)] (AV.i
  (JH t.sq))/\P0 53 [AV.bool ((Jpl t) == 0),AV.i 12] (AV.i (Z17g t))/\P0 53 [AV.bool (decide ((Jpl t) > 6)),AV.i 5] (AV.i (Z17e t))/\P0 51 [AV.sl 1 [[AV.i (Z17i t)],[AV.i (QA t.sh)],[AV.i (Z17a t)],[AV.i (Z17f
  t)],[AV.i (JH t.sq)],[AV.i (Z17g t)],[AV.i (Z17e t)]]] (AV.i (Z17c t))/\AS.mk [(1,AV.elt 13 (Z17b t) 0 (0:Nat)),(5,AV.i (Z17c t))] [] 1=AS.mk [(1,AV.elt 13 (Z17b t) 0 (0:Nat)),(5,AV.i (JkX t))] [] 1)/\((JkX
  t != 0)=true->AV.i (JkX t)=AV.i (JeN t))/\((JkX t != 0)=false->(∃ (g:Nat),(Z17j g t)/\AS.mk [(1,AV.elt 13 [(Jd t)] 0 0),(6,AV.i 0)] [] 1=AS.mk [(1,AV.elt 13 [(Jd t)] 0 0),(6,AV.i (g:Int))] [] 1)/\∀
  (g:Nat),(Z17j g t)->(decide ((g:Int) < (Jpl t))=true->P0 100 [AV.agg (Jd t),AV.i (g:Int)] (AV.i (Q1 t (g:Int).toNat))/\((Q1 t (g:Int).toNat != 0)=true->AV.i (Q1 t (g:Int).toNat)=AV.i (JeN
  t))/\((Q1 t (g:Int).toNat != 0)=false->Jc ((g:Int)+1)/\∃ (g':Nat),(g'<=t.st.length/\∀ (k:Nat),k < g'->Q1 t k=(0:Int))/\t.st.length-g' < t.st.length-g/\AS.mk [(Z17h t),((6:Nat),AV.i ((↑g :
  Int)+1))] [] (1:Nat)=AS.mk [(Z17h t),((6:Nat),AV.i (g':Int))] [] (1:Nat)))/\(decide ((g:Int) < (Jpl t))=false->AV.i 0=AV.i (JeN t))):=by
   delta Z17a Z17b Z17c Jpl Z17e Z17f Z17g Z17h Z17i Z17j
   have hlm:(List.map Jv t.st).length=t.st.length:=Kb _
   have e1:sFirst [sWhen (!sName t.name) 8,QA t.sh,sFirst [Ja t.d0 0 2000,Ja t.d1 0 2000,Ja t.d2 0 2000,Ja t.d3 0 2000,Ja t.d4 0 2000,Ja t.d5 0 2000,Ja t.d6 0 2000,Ja t.d7 0 2000],Ja t.side 0 1000,JH t.sq,sWhen (((List.map Jv t.st).length:Int) == 0) 12,sWhen (decide (((List.map Jv t.st).length:Int) > 6)) 5]=JkX t:=by
    unfold JkX
    rw[<- hlm]
    rfl
   refine⟨by omega,by omega,by omega,by omega,by unfold Jc;omega,by omega,by omega,by omega,by omega,by unfold Jc;omega,by omega,by omega,by omega,by omega,by unfold Jc;omega,by omega,by omega,by omega,by omega,by unfold Jc;omega,by omega,by omega,by omega,by omega,by unfold Jc;omega,by omega,by omega,by omega,by omega,by unfold Jc;omega,by omega,by omega,by omega,by omega,by unfold Jc;omega,by omega,by omega,by omega,by omega,by unfold Jc;omega,⟨c55 _ hN,c97 _ hs,c98 t.dir 0 2000 (show(8:Nat)<=1000000 by decide),c58 _ _ _,c99 _ hq,c53 _ _,c53 _ _,c51 [_,_,_,_,_,_,_] (by simp),mk5 e1⟩,fun h=>congrArg AV.i (QY h).symm,fun h=>⟨⟨0,⟨by omega,by intros;omega⟩,rfl⟩,fun g ⟨hg,ha⟩=>⟨fun hd=>?_,fun hd=>?_⟩⟩⟩
   . rw[hlm]at hd
     have hlt:=Jm hd
     refine⟨c100 t g hlt hn (hl _ (JlI hlt)) (fun h0 h1=>?_),fun hx=>?_,fun hx=>⟨by unfold Jc;omega,g+1,⟨hlt,Xn ha hx⟩,by omega,rfl⟩⟩
     . have hc:=(JdZ (ha (g-1) (by omega))).1
       unfold Ut at hc
       have:=Up hc
       omega
     have hx:(Q1 t g != 0)=true:=hx
     rw[JeN,VL h hd ha hx]
     rfl
   rw[hlm]at hd
   rw[JeN,Ul h hd hg ha]
 exact Jw Tryz.f52 ({ fzB (mkB (sp32 t) 52 [] (fun j=>if j.beq 2 then some (la32 t)else none))with cut:=cut32 t,gs:=gs32,cl:=cl32,bx:=fun i=>if i.beq 0 then[.frzo 3]else[] }) key (by kernel_rfl)
theorem c95(s:Sg)(p:Int) :P0 95 [.agg (Jv s),.elt 1 [[.i p]] 0 0] (.bool (decide (s.p>=p))):=by
 have key :
  AV.bool (decide (s.p>=p))=AV.bool (decide (s.p>=p)):=by
   rfl
 exact Jw Tryz.f95 (mkB spR 95 [] J1) key (by kernel_rfl)
def geN(t:Ty)(p:Int):Nat->Nat
 | 0=>0
 | n+1=>if geN t p n < n then geN t p n else if p<=(t.sg n).p then n else n+1
theorem JbM{t:Ty}{p:Int}:∀ {i:Nat},(∀ j,j < i->(t.sg j).p < p)->geN t p i=i
 | 0,_=>rfl
 | i+1,h=>by
  have h1:geN t p i=i:=JbM fun j hj=>h j (by omega)
  have h2:=h i (by omega)
  simp only[geN]
  rw[h1,if_neg (by omega),if_neg (by omega)]
theorem Jfc{t:Ty}{p:Int}{i:Nat}(h:∀ j,j < i->(t.sg j).p < p)(hp:p<=(t.sg i).p):∀ {m:Nat},i < m->geN t p m=i
 | 0,h0=>absurd h0 (by omega)
 | m+1,h0=>by
  simp only[geN]
  by_cases e:i=m
  . subst e
    rw[JbM h,if_neg (by omega),if_pos hp]
  rw[Jfc h hp (m:=m) (by omega),if_pos (by omega)]
def geI(t:Ty)(p:Int):Int:=if geN t p t.st.length=t.st.length then -1 else geN t p t.st.length
def sp149:Nat->List AV->Option AV
 | 95,[.agg [.int _ q,_],.elt _ [[.int _ p]] _ _]=>some (.bool (decide (q>=p)))
 | n,x=>spR n x
def la149(t:Ty)(p:Int):LA:={
 pre:=[.keep [0,1,7,8] [],.bound 1],post:=[.keep [0,1,7,8] [],.bound 1]
 Gh:=Nat
 st:=fun i=>⟨[(0,.sl 2 (t.st.map Jv)),(1,.fn (.func 95) [] [.elt 1 [[.i p]] 0 0]),(7,.i t.st.length),(8,.i i)],[],1⟩
 ok:=fun i=>i<=t.st.length/\∀ j,j < i->(t.sg j).p < p
 ms:=fun i=>t.st.length-i }
abbrev JmI(t:Ty)(g:Nat):=t.st.getD (g:Int).toNat default
abbrev JmH(t:Ty):=List.map Jv t.st
abbrev Jp8(t:Ty):=(t.st.length:Int)
abbrev Z18d(p:Int):=[AV.elt 1 [[AV.i p]] 0 0]
theorem c94(t:Ty)(p:Int)(hn:t.st.length<=1000):P0 94 [.sl 2 (t.st.map Jv),.fn (.func 95) [] [.elt 1 [[.i p]] 0 0]] (.i (geI t p)):=by
 have key :
  (∃ (g:Nat),(g<=t.st.length/\∀ (j:Nat),j < g->(t.sg j).p < p)/\AS.mk [(0,AV.sl 2 (JmH t)),(1,AV.fn (Fn.func 95) [] (Z18d p)),(7,AV.i ((JmH t).length:Int)),(8,AV.i 0)] [] 1=AS.mk [(0,AV.sl 2 (JmH t)),(1,
  AV.fn (Fn.func 95) [] (Z18d p)),(7,AV.i (Jp8 t)),(8,AV.i (g:Int))] [] 1)/\∀ (g:Nat),(g<=t.st.length/\∀ (j:Nat),j < g->(t.sg j).p < p)->(decide ((g:Int) < (Jp8 t))=true->(0:Int)<=(g:Int)/\(g:Int)
  < ((JmH t).length:Int)/\AV.agg (Ji (JmH t) (g:Int).toNat)=AV.agg [AV.i (JmI t g).p,AV.sl 1 (List.map Jh (JmI t g).e)]/\P0 95 [AV.agg [AV.i (JmI t g).p,AV.sl 1 (List.map Jh (JmI t g).e)],AV.elt 1 [[AV.i p]]
  0 0] (AV.bool (decide ((JmI t g).p>=p)))/\(decide ((JmI t g).p>=p)=true->AV.i (g:Int)=AV.i (geI t p))/\(decide ((JmI t g).p>=p)=false->Jc ((g:Int)+1)/\∃ (g':Nat),(g'<=t.st.length/\∀ (j:Nat),j < g'
  → (t.sg j).p < p)/\t.st.length-g' < t.st.length-g/\AS.mk [(0,AV.sl 2 (JmH t)),(1,AV.fn (Fn.func 95) [] (Z18d p)),(7,AV.i (Jp8 t)),(8,AV.i ((g:Int)+1))] [] 1=AS.mk [(0,AV.sl 2 (JmH t)),(1,AV.fn (Fn.func 95)
  [] (Z18d p)),(7,AV.i (Jp8 t)),(8,AV.i (g':Int))] [] 1))/\(decide ((g:Int) < (Jp8 t))=false->AV.i (-1)=AV.i (geI t p)):=by
   delta JmI JmH Jp8 Z18d
   have hlm:(List.map Jv t.st).length=t.st.length:=Kb _
   refine⟨⟨0,⟨by omega,by intros;omega⟩,by rw[hlm];rfl⟩,fun g ⟨hg,ha⟩=>⟨fun hd=>?_,fun hd=>?_⟩⟩
   . have hlt:=Jm hd
     refine⟨by omega,by omega,congrArg AV.agg (Jl Jv hlt),c95 _ _,fun hx=>?_,fun hx=>⟨by unfold Jc;omega,g+1,⟨hlt,fun j hj=>?_⟩,by omega,rfl⟩⟩
     . have hp:p<=(t.sg g).p:=Ky hx
       rw[geI,Jfc ha hp hlt,if_neg (by omega)]
     have hp:¬ (t.sg g).p>=p:=Kz hx
     by_cases e:j=g
     . rw[e];omega
     exact ha j (by omega)
   have e:=Jt hd hg
   subst e
   rw[geI,JbM ha,if_pos rfl]
 exact Jw Tryz.f94 (mkB sp149 94 [(4,4,rdL 2 Jv t.st 2 true)] (fun j=>if j.beq 0 then some (la149 t p)else none)) key (by kernel_rfl)
def Q2(l:List Int)(d:Int):Nat->Nat
 | 0=>0
 | n+1=>if decide (l.getD n default<=d)then n else Q2 l d n
def emi(t:Ty)(p d:Int):Int :=
 if geN t p t.st.length=t.st.length then eAt (t.sg (t.st.length-1)).e (Q2 t.sq d t.sq.length)
 else if geN t p t.st.length=0 ∨ (t.sg (geN t p t.st.length)).p=p then eAt (t.sg (geN t p t.st.length)).e (Q2 t.sq d t.sq.length)
 else Jo (eAt (t.sg (geN t p t.st.length-1)).e (Q2 t.sq d t.sq.length)) (eAt (t.sg (geN t p t.st.length)).e (Q2 t.sq d t.sq.length)) (p-(t.sg (geN t p t.st.length-1)).p) ((t.sg (geN t p t.st.length)).p-(t.sg (geN t p t.st.length-1)).p)
structure OKTy(t:Ty):Prop where
 n1:1<=t.st.length
 n2:t.st.length<=1000
 q1:1<=t.sq.length
 q2:t.sq.length<=1000
 el:∀ i,i < t.st.length->(t.sg i).e.length=t.sq.length
 pb:∀ i,i < t.st.length->1<=(t.sg i).p/\(t.sg i).p<=100
 up:∀ i,i+1 < t.st.length->(t.sg i).p < (t.sg (i+1)).p
 eb:∀ i k,i < t.st.length->k < t.sq.length->0<=eAt (t.sg i).e k/\eAt (t.sg i).e k<=100000000
theorem WA{l:List Int}{d:Int}:∀ {n:Nat},1<=n->Q2 l d n < n
 | 0,h=>absurd h (by omega)
 | n+1,_=>by
  simp only[Q2]
  split
  . omega
  by_cases e:n=0
  . subst e;exact Nat.zero_lt_one
  have:=WA (l:=l) (d:=d) (n:=n) (by omega)
  omega
theorem JcT{t:Ty}{p:Int}:∀ m,geN t p m<=m
 | 0=>Kr _
 | m+1=>by
  simp only[geN]
  have:=JcT (t:=t) (p:=p) m
  split
  . omega
  split <;> omega
theorem Vf{t:Ty}{p:Int}:∀ m j,j < geN t p m->(t.sg j).p < p
 | 0,j,h=>absurd h (by simp[geN])
 | m+1,j,h=>by
  simp only[geN]at h
  split at h
  . exact Vf m j h
  rename_i h1
  have e:geN t p m=m:=by have:=JcT (t:=t) (p:=p) m;omega
  split at h
  . exact Vf m j (by omega)
  rename_i h2
  by_cases e2:j=m
  . rw[e2];omega
  exact Vf m j (by omega)
theorem Jim{t:Ty}{p:Int}:∀ m,geN t p m < m->p<=(t.sg (geN t p m)).p
 | 0,h=>absurd h (by omega)
 | m+1,h=>by
  simp only[geN]at h ⊢
  split
  . rename_i h1;exact Jim m h1
  split
  . rename_i h2;exact h2
  rename_i h1 h2;rw[if_neg h1,if_neg h2]at h;omega
theorem JkP{t:Ty}{p d:Int}(h:geN t p t.st.length=t.st.length):cI (List.map Jh (t.sg (t.st.length-1)).e) (Q2 t.sq d t.sq.length)=emi t p d:=by
 rw[JZ,emi,if_pos h]
 rfl
theorem Jl3{t:Ty}{p d:Int}(h:geN t p t.st.length < t.st.length)(h2:geN t p t.st.length=0 ∨ (t.sg (geN t p t.st.length)).p=p):cI (List.map Jh (t.sg (geN t p t.st.length)).e) (Q2 t.sq d t.sq.length)=emi t p d:=by
 rw[JZ,emi,if_neg (by omega),if_pos h2]
 rfl
theorem Jog{t:Ty}{p d:Int}(h:geN t p t.st.length < t.st.length)(h2:¬ (geN t p t.st.length=0 ∨ (t.sg (geN t p t.st.length)).p=p)):Jo (cI (List.map Jh (t.sg (geN t p t.st.length-1)).e) (Q2 t.sq d t.sq.length)) (cI (List.map Jh (t.sg (geN t p t.st.length)).e) (Q2 t.sq d t.sq.length)) (p-(t.sg (geN t p t.st.length-1)).p) ((t.sg (geN t p t.st.length)).p-(t.sg (geN t p t.st.length-1)).p)=emi t p d:=by
 rw[JZ,JZ,emi,if_neg (by omega),if_neg h2]
 rfl
theorem sg_e{t:Ty}{x:Nat}(h:x < t.st.length):nth (Ji (List.map Jv t.st) x) 1=AV.sl 1 (List.map Jh (t.sg x).e):=by rw[Jl Jv h];rfl
theorem sg_p{t:Ty}{x:Nat}(h:x < t.st.length):nth (Ji (List.map Jv t.st) x) 0=AV.i (t.sg x).p:=by rw[Jl Jv h];rfl
theorem Jix{t:Ty}{p:Int}{k:Nat}(h:OKTy t)(hp:1<=p)(hp2:p<=100)(hi:geN t p t.st.length < t.st.length)(h0:geN t p t.st.length ≠ 0)(hk:k < t.sq.length):BetOK (cI (List.map Jh (t.sg (geN t p t.st.length-1)).e) k) (cI (List.map Jh (t.sg (geN t p t.st.length)).e) k) (p-(t.sg (geN t p t.st.length-1)).p) ((t.sg (geN t p t.st.length)).p-(t.sg (geN t p t.st.length-1)).p):=by
 rw[JZ,JZ]
 obtain⟨a1,a2⟩:=h.eb (geN t p t.st.length-1) k (by omega) hk
 obtain⟨b1,b2⟩:=h.eb (geN t p t.st.length) k hi hk
 obtain⟨c1,c2⟩:=h.pb (geN t p t.st.length-1) (by omega)
 have c3:=Vf t.st.length (geN t p t.st.length-1) (by omega:geN t p t.st.length-1 < geN t p t.st.length)
 have c4:=Jim (t:=t) (p:=p) t.st.length hi
 have e0:∀ (l:List Int) (k:Nat),l.getD k default=eAt l k:=fun _ _=>rfl
 rw[e0,e0]
 exact⟨by omega,by omega,by omega,by omega,by omega,by omega,by omega⟩
def sp114(t:Ty):Nat->List AV->Option AV
 | 94,[_,.fn _ _ [.elt _ [[.int _ p]] _ _]]=>some (.i (geI t p))
 | 96,[.int _ a,.int _ b,.int _ p,.int _ w]=>some (.i (Jo a b p w))
 | 1097,[.int _ a,.int _ b,.int _ p,.int _ w]=>some (.i (Jo a b p w))
 | n,x=>spR n x
def la114(t:Ty)(p d:Int):LA:={
 pre:=[.keep [2,3,4,7,14,15,16] [],.bound 1],post:=[.keep [2,3,4,7,14,15,16] [],.bound 1]
 Gh:=Nat
 st:=fun i=>⟨[(2,.i d),(3,.elt 13 [Jd t] 0 0),(4,.elt 1 [[.i p]] 0 0),(7,.i (Q2 t.sq d i)),(14,.sl 1 (t.sq.map Jh)),(15,.i t.sq.length),(16,.i i)],[],1⟩
 ok:=fun i=>i<=t.sq.length
 ms:=fun i=>t.sq.length-i }
abbrev Jje(t:Ty)(p:Int):=t.st.getD (geI t p).toNat default
abbrev JfD(t:Ty)(p:Int):=List.map Jh (Jje t p).e
abbrev JgX(t:Ty)(p:Int):=t.st.getD (geI t p-1).toNat default
abbrev V4(t:Ty)(d:Int)(g:Nat):=(↑(Q2 t.sq d g):Int)
abbrev Jpj(t:Ty):=List.map Jv t.st
abbrev JfC(t:Ty):=((Jpj t).length:Int)
abbrev Jjd(t:Ty)(p:Int):=List.map Jh (JgX t p).e
abbrev Jlq(t:Ty)(p:Int)(d:Int)(g:Nat):=cI (JfD t p) (V4 t d g).toNat
abbrev Z19e(t:Ty)(p:Int)(d:Int)(g:Nat):=Jo (cI (Jjd t p) (V4 t d g).toNat) (Jlq t p d g) (p-(JgX t p).p) ((Jje t p).p-(JgX t p).p)
abbrev Jp7(t:Ty):=List.map Jh (t.st.getD ((JfC t)-1).toNat default).e
abbrev JgW(t:Ty):=List.map Jh t.sq
abbrev Jpk(t:Ty):=(t.sq.length:Int)
abbrev Z19h(d:Int)(t:Ty)(p:Int)(g':Nat):=[(2,AV.i d),(3,AV.elt 13 [(Jd t)] 0 0),(4,AV.elt 1 [[AV.i p]] 0 0),(7,AV.i (↑(Q2 t.sq d g'):Int)),(14,AV.sl 1 (JgW t)),(15,AV.i (Jpk t)),(16,AV.i (g':Int))]
abbrev Jp6(t:Ty)(p:Int):=Ji (Jpj t) (geI t p).toNat
abbrev Z19m(t:Ty)(p:Int)(d:Int)(g:Nat):=[AV.i (cI (Jjd t p) (V4 t d g).toNat),AV.i (Jlq t p d g),AV.i (p-(JgX t p).p),AV.i ((Jje t p).p-(JgX t p).p)]
theorem c48(t:Ty)(p d:Int)(h:OKTy t)(hp:1<=p)(hp2:p<=100):P0 48 [.agg (Jd t),.i p,.i d] (.i (emi t p d)):=by
 have key :
  (∃ (g:Nat),g<=t.sq.length/\AS.mk [(2,AV.i d),(3,AV.elt 13 [(Jd t)] 0 0),(4,AV.elt 1 [[AV.i p]] 0 0),(7,AV.i 0),(14,AV.sl 1 (JgW t)),(15,AV.i ((JgW t).length:Int)),(16,AV.i 0)] [] 1=AS.mk [(2,AV.i d),
  (3,AV.elt 13 [(Jd t)] 0 0),(4,AV.elt 1 [[AV.i p]] 0 0),(7,AV.i (V4 t d g)),(14,AV.sl 1 (JgW t)),(15,AV.i (Jpk t)),(16,AV.i (g:Int))] [] 1)/\∀ (g:Nat),g<=t.sq.length->(decide ((g:Int) < (Jpk t))=true
  → (0:Int)<=(g:Int)/\(g:Int) < ((JgW t).length:Int)/\nth (Ji (JgW t) (g:Int).toNat) 0=AV.i (cI (JgW t) (g:Int).toNat)/\(decide (cI (JgW t) (g:Int).toNat<=d)=true->Jc ((g:Int)+1)/\∃ (g' :
  Nat),g'<=t.sq.length/\t.sq.length-g' < t.sq.length-g/\AS.mk [(2,AV.i d),(3,AV.elt 13 [(Jd t)] 0 0),(4,AV.elt 1 [[AV.i p]] 0 0),(7,AV.i (g:Int)),(14,AV.sl 1 (JgW t)),(15,AV.i (Jpk t)),(16,AV.i ((↑g :
  Int)+1))] [] 1=AS.mk (Z19h d t p g') [] 1)/\(decide (cI (JgW t) (g:Int).toNat<=d)=false->Jc ((g:Int)+1)/\∃ (g':Nat),g'<=t.sq.length/\t.sq.length-g' < t.sq.length-g/\AS.mk [(2,AV.i d),(3,AV.elt 13
  [(Jd t)] 0 0),(4,AV.elt 1 [[AV.i p]] 0 0),(7,AV.i (V4 t d g)),(14,AV.sl 1 (JgW t)),(15,AV.i (Jpk t)),(16,AV.i ((g:Int)+1))] [] 1=AS.mk (Z19h d t p g') [] 1))/\(decide ((g:Int) < (Jpk t))=false->P0 94
  [AV.sl 2 (Jpj t),AV.fn (Fn.func 95) [] [AV.elt 1 [[AV.i p]] 0 0]] (AV.i (geI t p))/\(decide (geI t p < 0)=true->Jc ((JfC t)-1)/\(0:Int)<=(JfC t)-1/\(JfC t)-1 < (JfC t)/\(0:Int)<=(V4 t d g)/\(V4 t d
  g) < ((Jp7 t).length:Int)/\nth (Ji (Jpj t) ((JfC t)-1).toNat) 1=AV.sl 1 (Jp7 t)/\nth (Ji (Jp7 t) (V4 t d g).toNat) 0=AV.i (cI (Jp7 t) (V4 t d g).toNat)/\AV.i (cI (Jp7 t) (V4 t d g).toNat)=AV.i (emi t
  p d))/\(decide (geI t p < 0)=false->((geI t p == 0)=true->(true=false->false=true)/\AV.bool (geI t p == 0)=AV.bool true/\(true=true->(0:Int)<=geI t p/\geI t p < (JfC t)/\(0:Int)<=(V4 t d g)/\(V4 t d
  g) < ((JfD t p).length:Int)/\nth (Jp6 t p) 1=AV.sl 1 (JfD t p)/\nth (Ji (JfD t p) (V4 t d g).toNat) 0=AV.i (Jlq t p d g)/\AV.i (Jlq t p d g)=AV.i (emi t p d))/\(true=false->Jc (geI t p-1)/\(0:Int) ≤
  geI t p-1/\geI t p-1 < (JfC t)/\(0:Int)<=geI t p/\geI t p < (JfC t)/\AV.agg (Ji (Jpj t) (geI t p-1).toNat)=AV.agg [AV.i (JgX t p).p,AV.sl 1 (Jjd t p)]/\AV.agg (Jp6 t p)=AV.agg [AV.i (Jje t p).p,AV.sl 1
  (JfD t p)]/\(0:Int)<=(V4 t d g)/\(V4 t d g) < ((Jjd t p).length:Int)/\(0:Int)<=(V4 t d g)/\(V4 t d g) < ((JfD t p).length:Int)/\Jc (p-(JgX t p).p)/\Jc ((Jje t p).p-(JgX t p).p)/\nth (Ji
  (Jjd t p) (V4 t d g).toNat) 0=AV.i (cI (Jjd t p) (V4 t d g).toNat)/\nth (Ji (JfD t p) (V4 t d g).toNat) 0=AV.i (Jlq t p d g)/\P0 96 (Z19m t p d g) (AV.i (Z19e t p d g))/\AV.i (Z19e t p d g)=AV.i (emi t p d))) /\
  ((geI t p == 0)=false->(0:Int)<=geI t p/\geI t p < (JfC t)/\AV.bool (geI t p == 0)=AV.bool false/\nth (Jp6 t p) 0=AV.i (Jje t p).p/\(((Jje t p).p == p)=true->(0:Int)<=geI t p/\geI t p < (JfC t)/\(0:Int)
  ≤ (V4 t d g)/\(V4 t d g) < ((JfD t p).length:Int)/\nth (Jp6 t p) 1=AV.sl 1 (JfD t p)/\nth (Ji (JfD t p) (V4 t d g).toNat) 0=AV.i (Jlq t p d g)/\AV.i (Jlq t p d g)=AV.i (emi t p d))/\(((Jje t p).p == p)
  = false->Jc (geI t p-1)/\(0:Int)<=geI t p-1/\geI t p-1 < (JfC t)/\(0:Int)<=geI t p/\geI t p < (JfC t)/\AV.agg (Ji (Jpj t) (geI t p-1).toNat)=AV.agg [AV.i (JgX t p).p,AV.sl 1 (Jjd t p)]/\AV.agg (Jp6
  t p)=AV.agg [AV.i (Jje t p).p,AV.sl 1 (JfD t p)]/\(0:Int)<=(V4 t d g)/\(V4 t d g) < ((Jjd t p).length:Int)/\(0:Int)<=(V4 t d g)/\(V4 t d g) < ((JfD t p).length:Int)/\Jc (p-(JgX t p).p)/\Jc
  ((Jje t p).p-(JgX t p).p)/\nth (Ji (Jjd t p) (V4 t d g).toNat) 0=AV.i (cI (Jjd t p) (V4 t d g).toNat)/\nth (Ji (JfD t p) (V4 t d g).toNat) 0=AV.i (Jlq t p d g)/\P0 96 (Z19m t p d g) (AV.i (Z19e t p d g)) /\
  AV.i (Z19e t p d g)=AV.i (emi t p d))))):=by
   delta JfD JgX V4 JfC Z19e Jje Jp7 Z19h Jjd Jp6 Jlq JgW Z19m Jpk Jpj
   have hlm:(List.map Jv t.st).length=t.st.length:=Kb _
   have hlq:(List.map Jh t.sq).length=t.sq.length:=Kb _
   have hn1:=h.n1
   have hn2:=h.n2
   have hq1:=h.q1
   have hq2:=h.q2
   refine⟨⟨0,by omega,by rw[hlq];rfl⟩,fun g hg=>⟨fun hd=>?_,fun hd=>?_⟩⟩
   . have hlt:=Jm hd
     have hc:=JZ t.sq g
     refine⟨by omega,by omega,VI hlt,fun hx=>⟨by unfold Jc;omega,g+1,hlt,by omega,?_⟩,fun hx=>⟨by unfold Jc;omega,g+1,hlt,by omega,?_⟩⟩
     . have hx:decide (cI (List.map Jh t.sq) g<=d)=true:=hx
       rw[hc]at hx
       simp only[Q2]
       rw[if_pos hx]
       rfl
     have hx:decide (cI (List.map Jh t.sq) g<=d)=false:=hx
     rw[hc]at hx
     simp only[Q2]
     rw[if_neg (by rw[hx];decide)]
     rfl
   have e:=Jt hd hg
   subst e
   have hK:=WA (l:=t.sq) (d:=d) hq1
   have hKL:∀ j,j < t.st.length->Q2 t.sq d t.sq.length < (List.map Jh (t.sg j).e).length:=fun j hj=>by
    rw[Kb,h.el j hj]
    exact hK
   have hat:∀ j,j < t.st.length->nth (Ji (List.map Jh (t.sg j).e) (Q2 t.sq d t.sq.length)) 0=AV.i (cI (List.map Jh (t.sg j).e) (Q2 t.sq d t.sq.length)):=fun j hj=>VI (by rw[h.el j hj];exact hK)
   have hle:=JcT (t:=t) (p:=p) t.st.length
   refine⟨c94 t p hn2,?_⟩
   rw[hlm]
   by_cases hi:geN t p t.st.length=t.st.length
   . have e:geI t p = -1:=if_pos hi
     rw[e]
     refine⟨fun _=>?_,fun hx=>absurd hx (by decide)⟩
     rw[show((t.st.length:Int)-1).toNat=t.st.length-1 by omega]
     have:=hKL (t.st.length-1) (by omega)
     exact⟨by unfold Jc;omega,by omega,by omega,by omega,Int.ofNat_lt.2 this,sg_e (by omega),hat _ (by omega),congrArg AV.i (JkP hi)⟩
   have hi2:geN t p t.st.length < t.st.length:=by omega
   have e:geI t p=geN t p t.st.length:=if_neg hi
   rw[e]
   have hk:=hKL _ hi2
   refine⟨fun hx=>?_,fun _=>⟨fun h0=>⟨fun hx=>absurd hx (by decide),congrArg AV.bool h0,fun _=>?_,fun hx=>absurd hx (by decide)⟩,fun h0=>⟨by omega,by omega,congrArg AV.bool h0,sg_p hi2,fun h1=>?_,fun h1=>?_⟩⟩⟩
   . have:=Ky hx
     omega
   . have h0':geN t p t.st.length=0:=by have:=beq_iff_eq.1 h0;omega
     exact⟨by omega,by omega,by omega,Int.ofNat_lt.2 hk,sg_e hi2,hat _ hi2,congrArg AV.i (Jl3 hi2 (Or.inl h0'))⟩
   . exact⟨by omega,by omega,by omega,Int.ofNat_lt.2 hk,sg_e hi2,hat _ hi2,congrArg AV.i (Jl3 hi2 (Or.inr (beq_iff_eq.1 h1)))⟩
   have h0':geN t p t.st.length ≠ 0:=by
    intro hz
    rw[hz]at h0
    exact absurd h0 (by decide)
   have h1':(t.sg (geN t p t.st.length)).p ≠ p:=ne_of_beq_false h1
   rw[show((geN t p t.st.length:Int)-1).toNat=geN t p t.st.length-1 by omega]
   have hk2:=hKL (geN t p t.st.length-1) (by omega)
   have hB:=Jix h hp hp2 hi2 h0' hK
   obtain⟨x1,x2⟩:=h.pb (geN t p t.st.length-1) (by omega)
   obtain⟨y1,y2⟩:=h.pb _ hi2
   have x1:1<=(t.st.getD (geN t p t.st.length-1) default).p:=x1
   have x2:(t.st.getD (geN t p t.st.length-1) default).p<=100:=x2
   have y1:1<=(t.st.getD ((geN t p t.st.length:Int)).toNat default).p:=y1
   have y2:(t.st.getD ((geN t p t.st.length:Int)).toNat default).p<=100:=y2
   refine⟨by unfold Jc;omega,by omega,by omega,by omega,by omega,congrArg AV.agg (Jl Jv (by omega)),congrArg AV.agg (Jl Jv hi2),by omega,Int.ofNat_lt.2 hk2,by omega,Int.ofNat_lt.2 hk,?_,?_,hat _ (by omega),hat _ hi2,c96 _ _ _ _ hB,congrArg AV.i (Jog hi2 (fun hx=>hx.elim h0' h1'))⟩
   . unfold Jc
     omega
   unfold Jc
   omega
 exact Jw Tryz.f48 ({ fzB (mkB (sp114 t) 48 [(4,2,rdJ),(10,8,rdL 2 Jv t.st 1 false),(10,11,rdJ),(11,8,rdL 2 Jv t.st 1 false),(12,5,rdL 2 Jv t.st 1 false),(12,8,rdJ),(13,5,rdL 2 Jv t.st 2 true),(13,10,rdL 2 Jv t.st 2 true),(14,4,rdJ),(14,9,rdJ)] (fun j=>if j.beq 0 then some (la114 t p d)else none))with split:=fun j=>if j.beq 11 then 1 else 0 }) key (by kernel_rfl)
def sec:Nat->Int->Int->Int->Int
 | 0,_,_,_=>0
 | n+1,i,x,y=>if(decide (x > y) && decide (y>=0)) || (x == 0 && y == 0)then i else if decide (y>=x) && decide (x > 0)then i+1 else sec n (i+2) y (-x)
def rX:Nat->Int->Int->Int
 | 0,x,_=>x
 | 1,_,y=>y
 | 2,x,_ => -x
 | 3,_,y => -y
 | _,x,_=>x
def rY:Nat->Int->Int->Int
 | 0,_,y=>y
 | 1,x,_ => -x
 | 2,_,y => -y
 | 3,x,_=>x
 | _,_,y=>y
def Qk(a b c d:Int):Int:=a * c+b * d
def Qj(a b c d:Int):Int:=a * d-b * c
theorem rX_b{B x y:Int}(hx : -B<=x/\x<=B)(hy : -B<=y/\y<=B):∀ k, -B<=rX k x y/\rX k x y<=B
 | 0=>hx
 | 1=>hy
 | 2=>by simp only[rX];omega
 | 3=>by simp only[rX];omega
 | _+4=>hx
theorem JeR{x y:Int}:∀ {k:Nat},k < 4->rX (k+1) x y=rY k x y/\rY (k+1) x y=0-rX k x y
 | 0,_=>⟨rfl,by simp only[rX,rY];omega⟩
 | 1,_=>⟨rfl,by simp only[rX,rY];omega⟩
 | 2,_=>⟨rfl,by simp only[rX,rY];omega⟩
 | 3,_=>⟨rfl,by simp only[rX,rY];omega⟩
 | _+4,h=>absurd h (by omega)
theorem sec_in{a b c d:Int}(ha : -200000<=a/\a<=200000)(hb : -200000<=b/\b<=200000)(hc : -200000<=c/\c<=200000)(hd : -200000<=d/\d<=200000) :
 Jc (a * c)/\Jc (b * d)/\Jc (a * c+b * d)/\Jc (a * d)/\Jc (b * c)/\Jc (a * d-b * c)/\(-100000000000<=Qk a b c d/\Qk a b c d<=100000000000)/\(-100000000000<=Qj a b c d/\Qj a b c d<=100000000000):=by
 have h1:=JW ha.1 ha.2 hc.1 hc.2
 have h2:=JW hb.1 hb.2 hd.1 hd.2
 have h3:=JW ha.1 ha.2 hd.1 hd.2
 have h4:=JW hb.1 hb.2 hc.1 hc.2
 unfold Qk Qj Jc
 generalize a * c=w1 at *
 generalize b * d=w2 at *
 generalize a * d=w3 at *
 generalize b * c=w4 at *
 omega
theorem JjU{g:Nat}{x y S:Int}(hg:g < 4)(hs:sec (4-g) (2 * g:Nat) (rX g x y) (rY g x y)=S) :
 ((((decide (rX g x y > rY g x y) && decide (rY g x y>=0)) || (rX g x y == 0 && rY g x y == 0))=true->AV.i (2 * g:Nat)=AV.i S) /\
 (((decide (rX g x y > rY g x y) && decide (rY g x y>=0)) || (rX g x y == 0 && rY g x y == 0))=false->(decide (rY g x y>=rX g x y) && decide (rX g x y > 0))=true->AV.i ((2 * g:Nat)+1)=AV.i S) /\
 (((decide (rX g x y > rY g x y) && decide (rY g x y>=0)) || (rX g x y == 0 && rY g x y == 0))=false->(decide (rY g x y>=rX g x y) && decide (rX g x y > 0))=false →
   ∃ g':Nat,(g'<=4/\sec (4-g') (2 * g':Nat) (rX g' x y) (rY g' x y)=S)/\4-g' < 4-g/\rY g x y=rX g' x y/\0-rX g x y=rY g' x y/\((2 * g:Nat):Int)+2=(2 * g':Nat))):=by
 rw[show 4-g=(3-g)+1 by omega]at hs
 simp only[sec]at hs
 refine⟨fun h=>?_,fun h h2=>?_,fun h h2=>⟨g+1,⟨hg,?_⟩,by omega,(JeR hg).1.symm,(JeR hg).2.symm,by omega⟩⟩
 . rw[if_pos h]at hs
   rw[hs]
 . rw[if_neg (by rw[h];decide),if_pos h2]at hs
   rw[hs]
 . rw[if_neg (by rw[h];decide),if_neg (by rw[h2];decide)]at hs
   rw[show 4-(g+1)=3-g by omega,(JeR hg).1,(JeR hg).2,show((2 * (g+1):Nat):Int)=((2 * g:Nat):Int)+2 by omega,show 0-rX g x y =-rX g x y by omega]
   exact hs
def la116(a b c d:Int):LA:={
 pre:=[.keep [5,6,7] [],.bound 1],post:=[.keep [5,6,7] [],.bound 1]
 Gh:=Nat
 st:=fun k=>⟨[(5,.i (rX k (Qk a b c d) (Qj a b c d))),(6,.i (rY k (Qk a b c d) (Qj a b c d))),(7,.i (2 * k:Nat))],[],1⟩
 ok:=fun k=>k<=4/\sec (4-k) (2 * k:Nat) (rX k (Qk a b c d) (Qj a b c d)) (rY k (Qk a b c d) (Qj a b c d))=sec 4 0 (Qk a b c d) (Qj a b c d)
 ms:=fun k=>4-k }
abbrev Z20g(g:Nat)(a:Int)(b:Int)(c:Int)(d:Int):=rY g (Qk a b c d) (Qj a b c d)>=rX g (Qk a b c d) (Qj a b c d)
abbrev Jcg(g:Nat):=(↑(2 * g):Int)
abbrev JjA(a:Int)(b:Int)(c:Int)(d:Int):=sec 4 (0:Int) (Qk a b c d) (Qj a b c d)
abbrev Z20i(g':Nat)(a:Int)(b:Int)(c:Int)(d:Int):=g'<=4/\sec (4-g') (↑(2 * g'):Int) (rX g' (Qk a b c d) (Qj a b c d)) (rY g' (Qk a b c d) (Qj a b c d))=sec 4 (0:Int) (Qk a b c d) (Qj a b c d)
abbrev Z20j(g:Nat)(a:Int)(b:Int)(c:Int)(d:Int):=[(5,AV.i (rY g (Qk a b c d) (Qj a b c d))),(6,AV.i ((0:Int)-rX g (Qk a b c d) (Qj a b c d))),(7,AV.i ((Jcg g)+2))]
abbrev Z20k(g':Nat)(a:Int)(b:Int)(c:Int)(d:Int):=[(5,AV.i (rX g' (Qk a b c d) (Qj a b c d))),(6,AV.i (rY g' (Qk a b c d) (Qj a b c d))),(7,AV.i (↑(2 * g'):Int))]
abbrev Jpi(g:Nat)(a:Int)(b:Int)(c:Int)(d:Int):=decide (Z20g g a b c d)=true->AV.bool (decide (Z20g g a b c d))=AV.bool true/\(decide (rX g (Qk a b c d) (Qj a b c d) > 0)=true->Jc ((Jcg g)+1)/\AV.i ((Jcg g)+1)=AV.i (JjA a b c d))/\(decide (rX g (Qk a b c d) (Qj a b c d) > 0)=false->Jc ((0:Int)-rX g (Qk a b c d) (Qj a b c d))/\Jc ((Jcg g)+2)/\∃ (g':Nat),(Z20i g' a b c d)/\4-g' < 4-g/\AS.mk (Z20j g a b c d) [] 1=AS.mk (Z20k g' a b c d) [] 1)
abbrev Jpg:=false=true->false=true
abbrev Jph(g:Nat)(a:Int)(b:Int)(c:Int)(d:Int):=decide (Z20g g a b c d)=false->Jpg/\AV.bool (decide (Z20g g a b c d))=AV.bool false/\(false=true->Jc ((Jcg g)+1)/\AV.i ((Jcg g)+1)=AV.i (JjA a b c d))/\(false=false->Jc ((0:Int)-rX g (Qk a b c d) (Qj a b c d))/\Jc ((Jcg g)+2)/\∃ (g':Nat),(Z20i g' a b c d)/\4-g' < 4-g/\AS.mk (Z20j g a b c d) [] 1=AS.mk (Z20k g' a b c d) [] 1)
abbrev Jlp(g:Nat)(a:Int)(b:Int)(c:Int)(d:Int):=rX g (Qk a b c d) (Qj a b c d) > rY g (Qk a b c d) (Qj a b c d)
abbrev Jlo(g:Nat)(a:Int)(b:Int)(c:Int)(d:Int):=rX g (Qk a b c d) (Qj a b c d) == 0
abbrev Jp5(g:Nat)(a:Int)(b:Int)(c:Int)(d:Int):=rY g (Qk a b c d) (Qj a b c d)>=0
theorem c130(a b c d:Int)(ha : -200000<=a/\a<=200000)(hb : -200000<=b/\b<=200000)(hc : -200000<=c/\c<=200000)(hd : -200000<=d/\d<=200000):P0 130 [.agg [.i a,.i b],.agg [.i c,.i d]] (.i (sec 4 0 (Qk a b c d) (Qj a b c d))):=by
 have key :
  Jc (a * c)/\Jc (b * d)/\Jc (a * c+b * d)/\Jc (a * d)/\Jc (b * c)/\Jc (a * d-b * c)/\(∃ (g:Nat),(g<=4/\sec (4-g) (Jcg g) (rX g (Qk a b c d) (Qj a b c d)) (rY g (Qk a b c d) (Qj a b c d))=sec 4
  (0:Int) (Qk a b c d) (Qj a b c d))/\AS.mk [(5,AV.i (a * c+b * d)),(6,AV.i (a * d-b * c)),(7,AV.i 0)] [] 1=AS.mk [(5,AV.i (rX g (Qk a b c d) (Qj a b c d))),(6,AV.i (rY g (Qk a b c d) (Qj a b c d))),(7,
  AV.i (Jcg g))] [] 1)/\∀ (g:Nat),g<=4/\sec (4-g) (Jcg g) (rX g (Qk a b c d) (Qj a b c d)) (rY g (Qk a b c d) (Qj a b c d))=sec 4 (0:Int) (Qk a b c d) (Qj a b c d)->(decide ((Jcg g) < 8)=true->(decide
  (Jlp g a b c d)=true->(decide (Jp5 g a b c d)=true->(true=false->false=true)/\AV.bool (decide (Jlp g a b c d))=AV.bool true/\AV.bool (decide (Jp5 g a b c d))=AV.bool true/\(true=true->AV.i (Jcg g)=AV.i
  (JjA a b c d))/\(true=false->(Jpi g a b c d)/\(Jph g a b c d)))/\(decide (Jp5 g a b c d)=false->((Jlo g a b c d)=true->AV.bool (decide (Jlp g a b c d))=AV.bool true/\AV.bool (decide (Jp5 g a b c d))=AV.bool
  false/\AV.bool (Jlo g a b c d)=AV.bool true/\((rY g (Qk a b c d) (Qj a b c d) == 0)=true->AV.i (Jcg g)=AV.i (JjA a b c d))/\((rY g (Qk a b c d) (Qj a b c d) == 0)=false->(Jpi g a b c d)/\(Jph g a b c d)))
  /\ ((Jlo g a b c d)=false->Jpg/\AV.bool (decide (Jlp g a b c d))=AV.bool true/\AV.bool (decide (Jp5 g a b c d))=AV.bool false/\AV.bool (Jlo g a b c d)=AV.bool false/\(false=true->AV.i (Jcg g)=AV.i (JjA a b c
  d))/\(false=false->(Jpi g a b c d)/\(Jph g a b c d)))))/\(decide (Jlp g a b c d)=false->(false=true->Jpg/\(true=false->false=true)/\AV.bool (decide (Jlp g a b c d))=AV.bool false/\AV.bool false=AV.bool
  true/\(true=true->AV.i (Jcg g)=AV.i (JjA a b c d))/\(true=false->(Jpi g a b c d)/\(Jph g a b c d)))/\(false=false->((Jlo g a b c d)=true->Jpg/\AV.bool (decide (Jlp g a b c d))=AV.bool false/\AV.bool
  false=AV.bool false/\AV.bool (Jlo g a b c d)=AV.bool true/\((rY g (Qk a b c d) (Qj a b c d) == 0)=true->AV.i (Jcg g)=AV.i (JjA a b c d))/\((rY g (Qk a b c d) (Qj a b c d) == 0)=false->(Jpi g a b c d) /\
  (Jph g a b c d)))/\((Jlo g a b c d)=false->Jpg/\Jpg/\AV.bool (decide (Jlp g a b c d))=AV.bool false/\AV.bool false=AV.bool false/\AV.bool (Jlo g a b c d)=AV.bool false/\(false=true->AV.i (Jcg g)=AV.i
  (JjA a b c d))/\(false=false->(Jpi g a b c d)/\(Jph g a b c d))))))/\(decide ((Jcg g) < 8)=false->AV.i 0=AV.i (JjA a b c d)):=by
   delta Jpi Jph Jlp JjA Jcg Jpg Z20g Jlo Z20i Z20j Z20k Jp5
   obtain⟨i1,i2,i3,i4,i5,i6,bX,bY⟩:=sec_in ha hb hc hd
   refine⟨i1,i2,i3,i4,i5,i6,⟨0,⟨by omega,rfl⟩,rfl⟩,fun g ⟨hg,hs⟩=>⟨fun hy=>?_,fun hy=>?_⟩⟩
   . have hg4:g < 4:=by have:=Ky hy;omega
     obtain⟨f1,f2,f3⟩:=JjU hg4 hs
     have hbx:=rX_b bX bY g
     have j1:Jc ((2 * g:Nat)+1):=by unfold Jc;omega
     have j2:Jc ((2 * g:Nat)+2):=by unfold Jc;omega
     have j3:Jc (0-rX g (Qk a b c d) (Qj a b c d)):=by unfold Jc;omega
     clear hs hy bX bY hbx i1 i2 i3 i4 i5 i6 ha hb hc hd hg
     generalize sec 4 0 (Qk a b c d) (Qj a b c d)=S at *
     generalize decide (rX g (Qk a b c d) (Qj a b c d) > rY g (Qk a b c d) (Qj a b c d))=p at *
     generalize decide (rY g (Qk a b c d) (Qj a b c d)>=0)=q at *
     generalize (rX g (Qk a b c d) (Qj a b c d) == 0)=r at *
     generalize (rY g (Qk a b c d) (Qj a b c d) == 0)=s at *
     generalize decide (rY g (Qk a b c d) (Qj a b c d)>=rX g (Qk a b c d) (Qj a b c d))=u at *
     generalize decide (rX g (Qk a b c d) (Qj a b c d) > 0)=w at *
     cases p <;> cases q <;> cases r <;> cases s <;> cases u <;> cases w
     all_goals repeat' (first | (intro h;cases h;done) | exact j1 | exact j2 | exact j3 | apply And.intro | intro _)
     all_goals first
      | rfl
      | exact f1 rfl
      | exact f2 rfl rfl
      | (obtain⟨g',q1,q2,q3,q4,q5⟩:=f3 rfl rfl;exact⟨g',q1,q2,by rw[q3,q4,q5]⟩)
   have hg4:g=4:=by have:=Kz hy;omega
   subst hg4
   exact congrArg AV.i hs
 exact Jw Tryz.f130 ({ fzB (mkB spR 130 [] (fun j=>if j.beq 0 then some (la116 a b c d)else none))with split:=fun j=>if j.beq 5 then 1 else if j.beq 7 then 1 else 0 }) key (by kernel_rfl)
def JcR(t:Ty)(a b p u v w:Int):Int:=emi t p (u * u+v * v+w * w) * cI [[AV.i t.d0],[AV.i t.d1],[AV.i t.d2],[AV.i t.d3],[AV.i t.d4],[AV.i t.d5],[AV.i t.d6],[AV.i t.d7]] (sec 4 0 (Qk a b u v) (Qj a b u v)).toNat
def hrd(t:Ty)(a b p u v w:Int):Int:=if decide (4 * (w * w) < u * u+v * v)then(JcR t a b p u v w * t.side).tdiv 1000000 else(JcR t a b p u v w).tdiv 1000
def sp117(t:Ty):Nat->List AV->Option AV
 | 128,[.agg [.int _ x,.int _ y,.int _ z],.agg [.int _ x2,.int _ y2,.int _ z2]]=>some (.agg [.i (x-x2),.i (y-y2),.i (z-z2)])
 | 129,[.agg [.int _ x,.int _ y,.int _ z]]=>some (.agg [.i (x * x+y * y),.i (z * z)])
 | 130,[.agg [.int _ a,.int _ b],.agg [.int _ c,.int _ d]]=>some (.i (sec 4 0 (Qk a b c d) (Qj a b c d)))
 | 1050,[.agg [.int _ a,.int _ b],.agg [.int _ c,.int _ d]]=>some (.i (sec 4 0 (Qk a b c d) (Qj a b c d)))
 | 48,[_,.int _ p,.int _ d]=>some (.i (emi t p d))
 | 1049,[_,.int _ p,.int _ d]=>some (.i (emi t p d))
 | n,x=>spR n x
theorem Jbm{n d B:Int}(_hd:0 < d)(h1 : -B<=n)(h2:n<=B):n.tdiv d<=B /\ -B<=n.tdiv d:=by
 have h:(n.tdiv d).natAbs=n.natAbs / d.natAbs:=Int.natAbs_tdiv n d
 have h4:n.natAbs / d.natAbs<=n.natAbs:=Nat.div_le_self _ _
 omega
theorem Jn7{n d:Int}(hd:0 < d)(h1 : -10000000000<=n)(h2:n<=10000000000) : -10000000001<=Qb n d/\Qb n d<=10000000000:=by
 have h3:n.tdiv d<=10000000000 /\ -10000000000<=n.tdiv d:=Jbm hd h1 h2
 unfold Qb
 split <;> omega
theorem sq_nn(u:Int):0<=u * u:=by
 rcases Int.le_total 0 u with h | h
 . exact Int.mul_nonneg h h
 have:=Int.mul_nonneg (a := -u) (b := -u) (by omega) (by omega)
 rw[Int.neg_mul_neg]at this
 exact this
theorem Jhj{u v:Int}(h:u * u+v * v=0):u=0:=by
 have h1:0<=u * u:=sq_nn u
 have h2:0<=v * v:=sq_nn v
 have h3:u * u=0:=by omega
 rcases Int.mul_eq_zero.1 h3 with h | h <;> exact h
theorem sec_b:∀ (n:Nat) (i x y:Int),0<=i->0<=sec n i x y/\(sec n i x y < i+2 * n ∨ sec n i x y=0)
 | 0,_,_,_,_=>⟨Int.le_refl _,.inr rfl⟩
 | n+1,i,x,y,h=>by
  simp only[sec]
  split
  . omega
  split
  . omega
  have:=sec_b n (i+2) y (-x) (by omega)
  omega
theorem Jnb(x y:Int):0<=sec 4 0 x y/\sec 4 0 x y < 8:=by
 have:=sec_b 4 0 x y (by omega)
 omega
theorem emi_b{t:Ty}{p d:Int}(h:OKTy t)(hp:1<=p)(hp2:p<=100) : -20000000000<=emi t p d/\emi t p d<=20000000000:=by
 have hK:=WA (l:=t.sq) (d:=d) h.q1
 have hle:=JcT (t:=t) (p:=p) t.st.length
 have hn:=h.n1
 unfold emi
 split
 . have:=h.eb (t.st.length-1) _ (by omega) hK
   omega
 rename_i h1
 split
 . have:=h.eb (geN t p t.st.length) _ (by omega) hK
   omega
 rename_i h2
 have h0:geN t p t.st.length ≠ 0:=fun e=>h2 (.inl e)
 have hB:=Jix h hp hp2 (by omega) h0 hK
 rw[JZ,JZ]at hB
 obtain⟨a1,a2⟩:=h.eb (geN t p t.st.length-1) _ (by omega) hK
 obtain⟨b1,b2⟩:=h.eb (geN t p t.st.length) _ (by omega) hK
 obtain⟨c1,c2⟩:=h.pb (geN t p t.st.length-1) (by omega)
 have hm:=JW (x:=eAt (t.sg (geN t p t.st.length)).e (Q2 t.sq d t.sq.length)-eAt (t.sg (geN t p t.st.length-1)).e (Q2 t.sq d t.sq.length)) (y:=p-(t.sg (geN t p t.st.length-1)).p) (A:=100000000) (B:=100) (by omega) (by omega) (by omega) (by omega)
 have hf:=Jn7 (n:=(eAt (t.sg (geN t p t.st.length)).e (Q2 t.sq d t.sq.length)-eAt (t.sg (geN t p t.st.length-1)).e (Q2 t.sq d t.sq.length)) * (p-(t.sg (geN t p t.st.length-1)).p)) hB.w (by omega) (by omega)
 unfold Jo
 omega
theorem hrd_in{t:Ty}{a b p u v w:Int}(h:OKTy t)(hp:1<=p/\p<=100)(hD:∀ i,i < 8->0<=t.dir.getD i default/\t.dir.getD i default<=2000)(hs:0<=t.side/\t.side<=1000) :
 Jc (JcR t a b p u v w)/\Jc (JcR t a b p u v w * t.side)/\Jc ((JcR t a b p u v w * t.side).tdiv 1000000)/\Jc ((JcR t a b p u v w).tdiv 1000):=by
 have h8:=Jnb (Qk a b u v) (Qj a b u v)
 have hd:=hD (sec 4 0 (Qk a b u v) (Qj a b u v)).toNat (by omega)
 rw[<- JZ]at hd
 have he:=emi_b (d:=u * u+v * v+w * w) h hp.1 hp.2
 have h1:=JW (A:=20000000000) (B:=2000) he.1 he.2 (by omega) hd.2
 have hv : -(20000000000 * 2000)<=JcR t a b p u v w/\JcR t a b p u v w<=20000000000 * 2000:=h1
 have h2:=JW (A:=40000000000000) (B:=1000) (x:=JcR t a b p u v w) (y:=t.side) (by omega) (by omega) (by omega) hs.2
 generalize JcR t a b p u v w * t.side=m at *
 generalize JcR t a b p u v w=k at *
 refine⟨by unfold Jc;omega,by unfold Jc;omega,?_,?_⟩
 . have:=Jbm (n:=m) (d:=1000000) (B:=40000000000000000) (by omega) (by omega) (by omega)
   unfold Jc;omega
 . have:=Jbm (n:=k) (d:=1000) (B:=40000000000000) (by omega) (by omega) (by omega)
   unfold Jc;omega
theorem JnB{u v w:Int}(hu : -200000<=u/\u<=200000)(hv : -200000<=v/\v<=200000)(hw : -20000<=w/\w<=20000) :
 Jc (u * u)/\Jc (v * v)/\Jc (u * u+v * v)/\Jc (w * w)/\Jc (u * u+v * v+w * w)/\Jc (4 * (w * w))/\Jc (4 * w)/\Jc (4 * w * w):=by
 have h1:=JW hu.1 hu.2 hu.1 hu.2
 have h2:=JW hv.1 hv.2 hv.1 hv.2
 have h3:=JW hw.1 hw.2 hw.1 hw.2
 rw[Int.mul_assoc 4 w w]
 generalize u * u=q1 at *
 generalize v * v=q2 at *
 generalize w * w=q3 at *
 unfold Jc
 omega
abbrev Jdn(t:Ty):=[[AV.i t.d0],[AV.i t.d1],[AV.i t.d2],[AV.i t.d3],[AV.i t.d4],[AV.i t.d5],[AV.i t.d6],[AV.i t.d7]]
abbrev Jcf(x2:Int)(x:Int)(y2:Int)(y:Int)(z2:Int)(z:Int):=(x2-x) * (x2-x)+(y2-y) * (y2-y)+(z2-z) * (z2-z)
abbrev Jjz(a:Int)(b:Int)(x2:Int)(x:Int)(y2:Int)(y:Int):=sec 4 (0:Int) (Qk a b (x2-x) (y2-y)) (Qj a b (x2-x) (y2-y))
abbrev Z21d(z2:Int)(z:Int)(x2:Int)(x:Int)(y2:Int)(y:Int):=(4:Int) * ((z2-z) * (z2-z)) < (x2-x) * (x2-x)+(y2-y) * (y2-y)
theorem c124(t:Ty)(x y z a b p x2 y2 z2:Int)(h:OKTy t)(hx : -100000<=x/\x<=100000)(hy : -100000<=y/\y<=100000)(hz:0<=z/\z<=20000)(ha : -200000<=a/\a<=200000)(hb : -200000<=b/\b<=200000)(hp:1<=p/\p<=100)(hx2 : -100000<=x2/\x2<=100000)(hy2 : -100000<=y2/\y2<=100000)(hz2:0<=z2/\z2<=20000)(hD:∀ i,i < 8->0<=t.dir.getD i default/\t.dir.getD i default<=2000)(hs:0<=t.side/\t.side<=1000):P0 124 [.agg (Jd t),.agg [.i x,.i y,.i z,.i a,.i b,.i p],.agg [.i x2,.i y2,.i z2]] (.i (hrd t a b p (x2-x) (y2-y) (z2-z))):=by
 have key :
  P0 128 [AV.agg [AV.i x2,AV.i y2,AV.i z2],AV.agg [AV.i x,AV.i y,AV.i z]] (AV.agg [AV.i (x2-x),AV.i (y2-y),AV.i (z2-z)])/\P0 129 [AV.agg [AV.i (x2-x),AV.i (y2-y),AV.i (z2-z)]] (AV.agg [AV.i ((x2-x) * (x2-x)
  + (y2-y) * (y2-y)),AV.i ((z2-z) * (z2-z))])/\((!((x2-x) * (x2-x)+(y2-y) * (y2-y) == 0 && true && ((z2-z) * (z2-z) == 0 && true && true)))=true->P0 130 [AV.agg [AV.i a,AV.i b],AV.agg [AV.i (x2-x),AV.i
  (y2-y)]] (AV.i (Jjz a b x2 x y2 y))/\(0:Int)<=0/\(0:Int) < (2:Int)/\(0:Int)<=1/\(1:Int) < (2:Int)/\Jc (Jcf x2 x y2 y z2 z)/\(0:Int)<=sec 4 (0:Int) (Qk a b (x2-x) (y2-y)) (Qj a b (x2-x) (y2
  - y))/\sec 4 (0:Int) (Qk a b (x2-x) (y2-y)) (Qj a b (x2-x) (y2-y)) < (8:Int)/\Jc (emi t p (Jcf x2 x y2 y z2 z) * cI (Jdn t) (Jjz a b x2 x y2 y).toNat)/\P0 48 [AV.agg (Jd t),AV.i p,AV.i (Jcf x2 x y2 y
  z2 z)] (AV.i (emi t p (Jcf x2 x y2 y z2 z)))/\nth (Ji (Jdn t) (Jjz a b x2 x y2 y).toNat) 0=AV.i (cI (Jdn t) (Jjz a b x2 x y2 y).toNat)/\(0:Int)<=1/\(1:Int) < (2:Int)/\Jc ((4:Int) * ((z2-z) * (z2-z))) /\
  (0:Int)<=0/\(0:Int) < (2:Int)/\(decide (Z21d z2 z x2 x y2 y)=true->Jc (emi t p (Jcf x2 x y2 y z2 z) * cI (Jdn t) (Jjz a b x2 x y2 y).toNat * t.side)/\¬(1000000:Int)=(0:Int)/\Jc ((emi t p (Jcf x2 x y2 y
  z2 z) * cI (Jdn t) (Jjz a b x2 x y2 y).toNat * t.side).tdiv 1000000)/\AV.i ((emi t p (Jcf x2 x y2 y z2 z) * cI (Jdn t) (Jjz a b x2 x y2 y).toNat * t.side).tdiv 1000000)=AV.i (hrd t a b p (x2-x) (y2-y) (z2-z))) /\
  (decide (Z21d z2 z x2 x y2 y)=false->¬(1000:Int)=(0:Int)/\Jc ((emi t p (Jcf x2 x y2 y z2 z) * cI (Jdn t) (Jjz a b x2 x y2 y).toNat).tdiv 1000)/\AV.i ((emi t p (Jcf x2 x y2 y z2 z) * cI (Jdn t) (Jjz a b x2 x y2
  y).toNat).tdiv 1000)=AV.i (hrd t a b p (x2-x) (y2-y) (z2-z))))/\((!((x2-x) * (x2-x)+(y2-y) * (y2-y) == 0 && true && ((z2-z) * (z2-z) == 0 && true && true)))=false->(0:Int)<=0/\(0:Int) < (2:Int) /\
  (0:Int)<=1/\(1:Int) < (2:Int)/\Jc (Jcf x2 x y2 y z2 z)/\(0:Int)<=0/\(0:Int) < (8:Int)/\Jc (emi t p (Jcf x2 x y2 y z2 z) * cI (Jdn t) 0)/\P0 48 [AV.agg (Jd t),AV.i p,AV.i (Jcf x2 x y2 y z2 z)]
  (AV.i (emi t p (Jcf x2 x y2 y z2 z)))/\AV.i t.d0=AV.i (cI (Jdn t) 0)/\(0:Int)<=1/\(1:Int) < (2:Int)/\Jc ((4:Int) * ((z2-z) * (z2-z)))/\(0:Int)<=0/\(0:Int) < (2:Int)/\(decide (Z21d z2 z x2 x y2 y)
  = true->Jc (emi t p (Jcf x2 x y2 y z2 z) * cI (Jdn t) 0 * t.side)/\¬(1000000:Int)=(0:Int)/\Jc ((emi t p (Jcf x2 x y2 y z2 z) * cI (Jdn t) 0 * t.side).tdiv 1000000)/\AV.i ((emi t p (Jcf x2 x y2 y z2 z) * cI (Jdn
  t) 0 * t.side).tdiv 1000000)=AV.i (hrd t a b p (x2-x) (y2-y) (z2-z)))/\(decide (Z21d z2 z x2 x y2 y)=false->¬(1000:Int)=(0:Int)/\Jc ((emi t p (Jcf x2 x y2 y z2 z) * cI (Jdn t) 0).tdiv 1000)/\AV.i ((emi t p
  (Jcf x2 x y2 y z2 z) * cI (Jdn t) 0).tdiv 1000)=AV.i (hrd t a b p (x2-x) (y2-y) (z2-z)))):=by
   delta Jdn Jcf Jjz Z21d
   obtain⟨k1,k2,k3,k4,k5,k6,k7,k8⟩:=JnB (u:=x2-x) (v:=y2-y) (w:=z2-z) (by omega) (by omega) (by omega)
   obtain⟨m1,m2,m3,m4⟩:=hrd_in (a:=a) (b:=b) (u:=x2-x) (v:=y2-y) (w:=z2-z) h hp hD hs
   have h8:=Jnb (Qk a b (x2-x) (y2-y)) (Qj a b (x2-x) (y2-y))
   refine⟨c128 _ _ _ _ _ _ (by unfold Jc;omega) (by unfold Jc;omega) (by unfold Jc;omega),c129 _ _ _ k1 k2 k3 k4,fun hn=>?_,fun hn=>?_⟩
   . refine⟨c130 _ _ _ _ ha hb (by omega) (by omega),by omega,by omega,by omega,by omega,k5,h8.1,h8.2,m1,c48 t _ _ h hp.1 hp.2,VI (l:=t.dir) (i:=(sec 4 0 (Qk a b (x2-x) (y2-y)) (Qj a b (x2-x) (y2-y))).toNat) (show _ < (8:Nat) by omega),by omega,by omega,k6,by omega,by omega,fun e=>⟨m2,by omega,m3,?_⟩,fun e=>⟨by omega,m4,?_⟩⟩
     . rw[hrd,if_pos e]
       rfl
     rw[hrd,if_neg (by rw[e];decide)]
     rfl
   have hz0:(x2-x) * (x2-x)+(y2-y) * (y2-y)=0:=by
    simp only[Bool.not_eq_false',Kd,beq_iff_eq]at hn
    exact hn.1.1
   have e1:x2-x=0:=Jhj hz0
   have e2:y2-y=0:=Jhj (by rw[Int.add_comm];exact hz0)
   have es:sec 4 0 (Qk a b (x2-x) (y2-y)) (Qj a b (x2-x) (y2-y))=0:=by
    rw[e1,e2]
    simp only[Qk,Qj,Int.mul_zero,Int.add_zero,Int.sub_zero]
    rfl
   have ev:JcR t a b p (x2-x) (y2-y) (z2-z)=emi t p ((x2-x) * (x2-x)+(y2-y) * (y2-y)+(z2-z) * (z2-z)) * cI [[AV.i t.d0],[AV.i t.d1],[AV.i t.d2],[AV.i t.d3],[AV.i t.d4],[AV.i t.d5],[AV.i t.d6],[AV.i t.d7]] 0:=by
    unfold JcR
    rw[es]
    rfl
   rw[ev]at m1 m2 m3 m4
   refine⟨by omega,by omega,by omega,by omega,k5,by omega,by omega,m1,c48 t _ _ h hp.1 hp.2,rfl,by omega,by omega,k6,by omega,by omega,fun e=>⟨m2,by omega,m3,?_⟩,fun e=>⟨by omega,m4,?_⟩⟩
   . rw[hrd,if_pos e,ev]
   rw[hrd,if_neg (by rw[e];decide),ev]
 exact Jw Tryz.f124 (fzB (mkB (sp117 t) 124 [(6,12,rdJ)] J1)) key (by kernel_rfl)
theorem JL{f:Nat->Int}{n:Nat}{fin:Int}(h:JC f n fin=0):(∀ k,k < n->f k=0)/\fin=0:=by
 have h1:∀ l:List Int,sFirst (l++[fin])=0->(∀ x,x ∈ l->x=0)/\fin=0:=by
  intro l
  induction l with
  | nil=>intro h;rw[List.nil_append,first_zero]at h;exact⟨by simp,h.1⟩
  | cons x l ih =>
   intro h
   rw[List.cons_append,first_zero]at h
   obtain⟨h2,h3⟩:=h
   have:=ih h3
   exact⟨fun y hy=>by rcases List.mem_cons.1 hy with e | e;(· rw[e];exact h2);(· exact this.1 y e),this.2⟩
 have:=h1 _ h
 exact⟨fun k hk=>this.1 _ (List.mem_map.2 ⟨k,List.mem_range.2 hk,rfl⟩),this.2⟩
theorem Uk{c:Int}{f:Nat->Int}{n:Nat}{fin:Int}(h:sLS c f n fin=0):c=0/\(∀ k,k < n->f k=0)/\fin=0:=by
 unfold sLS at h
 split at h
 . rename_i hc;rw[h]at hc;exact absurd hc (by decide)
 rename_i hc
 exact⟨by simpa using hc,JL h⟩
theorem Qp{b:Bool}{e:Int}(he:e ≠ 0)(h:sWhen b e=0):b=false:=by
 cases b
 . rfl
 exact absurd h (by simpa[sWhen]using he)
theorem Vk{n m:Int}(h:JA n m=0):n ≠ 0/\n<=m:=by
 unfold JA at h
 rw[first_zero,first_zero]at h
 have h1:=Qp (by decide) h.1
 have h2:=Qp (by decide) h.2.1
 have:=Kz h2
 exact⟨ne_of_beq_false h1,by omega⟩
theorem Jkg{t:Ty}(h:Xr t=0):OKTy t:=by
 unfold Xr at h
 split at h
 . rename_i h1;rw[h]at h1;exact absurd h1 (by decide)
 obtain⟨h2,h3,h4⟩:=Uk h
 unfold Jaq at h2
 rw[first_zero,first_zero,first_zero,first_zero]at h2
 obtain⟨_,_,hq,_⟩:=h2
 have hq:=Vk hq
 obtain⟨hn,hS,_⟩:=Uk h4
 have hn:=Vk hn
 have hc:∀ i,i < t.st.length->sFirst [Ja (t.sg i).p 1 100,sWhen (decide ((t.sg i).p<=VX t i)) 11,sWhen (((t.sg i).e.length:Int) != (t.sq.length:Int)) 2,Ql (t.sg i).e 100000000]=0:=fun i hi=>(Uk (hS i hi)).1
 have hel:∀ i,i < t.st.length->(t.sg i).e.length=t.sq.length:=fun i hi=>Up (hc i hi)
 refine⟨by omega,by omega,by omega,by omega,hel,fun i hi=>?_,fun i hi=>?_,fun i k hi hk=>?_⟩
 . have:=hc i hi
   rw[first_zero,within_zero]at this
   exact this.1
 . have:=hc (i+1) hi
   rw[first_zero,first_zero]at this
   have h5:=Kz (Qp (by decide) this.2.1)
   have e:VX t (i+1)=(t.sg i).p:=rfl
   rw[e]at h5
   omega
 have:=hc i hi
 rw[first_zero,first_zero,first_zero,first_zero]at this
 exact Va this.2.2.2.1 k (by rw[hel i hi];exact hk)
theorem Jdu{t:Ty}(h:Xr t=0):(∀ i,i < 8->0<=t.dir.getD i default/\t.dir.getD i default<=2000)/\0<=t.side/\t.side<=1000:=by
 unfold Xr at h
 split at h
 . rename_i h1;rw[h]at h1;exact absurd h1 (by decide)
 obtain⟨h2,_,_⟩:=Uk h
 unfold Jaq at h2
 rw[first_zero,first_zero,within_zero]at h2
 exact⟨fun i hi=>Va h2.1 i hi,h2.2.1⟩
theorem JeV{x y z:Int}(h:JO x y z=0):(-100000<=x/\x<=100000)/\(-100000<=y/\y<=100000)/\(0<=z/\z<=20000):=by
 unfold JO at h
 rw[first_zero,first_zero,first_zero,within_zero,within_zero,within_zero]at h
 exact⟨h.1,h.2.1,h.2.2.1⟩
def sp40(t:Ty)(u v w:Int):Nat->List AV->Option AV
 | 45,_=>some (.i (Xr t))
 | 46,[.int _ p]=>some (.i (JN p))
 | 73,[.agg [.int _ x,.int _ y,.int _ z]]=>some (.i (JO x y z))
 | 124,[_,.agg [_,_,_,.int _ a,.int _ b,.int _ p],_]=>some (.i (hrd t a b p u v w))
 | n,x=>sp117 t n x
def Wc(t:Ty)(p d:Int):Int:=sFirst [Xr t,JN p,Ja d 0 100000000000]
def JaS(t:Ty)(p d:Int):List AV:=if Wc t p d != 0 then[.i 0,.i (Wc t p d)]else[.i (emi t p d),.i 0]
abbrev Z22b(d:Int):=Ja d (0:Int) (100000000000:Int)
abbrev Z22a(t:Ty)(p:Int)(d:Int):=[hdI [AV.i (Xr t)],hdI [AV.i (JN p)],hdI [AV.i (Z22b d)]]
theorem c20(t:Ty)(p d:Int)(hn:t.st.length<=1000)(hs:t.sh.length<=1000)(hq:t.sq.length<=1000)(hl:∀ s,s ∈ t.st->s.e.length<=1000)(hN:t.name.length<=1000000):P0 20 [.agg (Jd t),.i p,.i d] (.tup (JaS t p d)):=by
 have key :
  P0 45 [AV.agg (Jd t)] (AV.i (Xr t))/\P0 46 [AV.i p] (AV.i (JN p))/\P0 47 [AV.i d,AV.i 0,AV.i 100000000000] (AV.i (Z22b d))/\P0 44 [AV.sl 1 [[AV.i (Xr t)],[AV.i (JN p)],[AV.i (Z22b d)]]] (AV.i (sFirst (Z22a t p
  d)))/\((sFirst (Z22a t p d) != 0)=true->AV.tup [AV.i 0,AV.i (sFirst (Z22a t p d))]=AV.tup (JaS t p d))/\((sFirst (Z22a t p d) != 0)=false->P0 48 [AV.agg (Jd t),AV.i p,AV.i d] (AV.i (emi t p d))/\AV.tup [AV.i
  (emi t p d),AV.i 0]=AV.tup (JaS t p d)):=by
   delta Z22a Z22b
   refine⟨c45 t hn hs hq hl hN,c46 _,c47 _ _ _,c44 [_,_,_] (by simp),fun h=>?_,fun h=>?_⟩
   . have h:(Wc t p d != 0)=true:=h
     rw[JaS,if_pos h]
     rfl
   have h:(Wc t p d != 0)=false:=h
   have hz:Wc t p d=0:=by simpa using h
   unfold Wc at hz
   rw[first_zero,first_zero]at hz
   obtain⟨h1,h2,_⟩:=hz
   unfold JN at h2
   rw[within_zero]at h2
   refine⟨c48 t _ _ (Jkg h1) h2.1 h2.2,?_⟩
   rw[JaS,if_neg (by rw[h];decide)]
 exact Jw Tryz.f20 (fzB (mkB (sp40 t 0 0 0) 20 [] J1)) key (by kernel_rfl)
def la54(l m:List Int):LA:={
 pre:=[.keep [0,1,5] [],.bound 1],post:=[.keep [0,1,5] [],.bound 1]
 Gh:=Nat
 st:=fun i=>⟨[(0,.sl 1 (l.map Jh)),(1,.sl 1 (m.map Jh)),(5,.i i)],[],1⟩
 ok:=fun i=>i<=l.length/\∀ j,j < i->l.getD j default=m.getD j default
 ms:=fun i=>l.length-i }
def Jou(e x:Int):Int:=e.tdiv 1000 * x+(e.tmod 1000 * x).tdiv 1000
def sp119(m:Int):Nat->List AV->Option AV
 | 1120,[.int _ x,_]=>some (.i (Jou m x))
 | n,x=>spR n x
def la119(l:List Int)(m:Int):LA:={
 pre:=[.own 5 3 1,.reno 5 1,.keep [1,5,8,9,10] [1],.bound 2],post:=[.reno 5 1,.keep [1,5,8,9,10] [1],.bound 2]
 Gh:=Nat
 st:=fun i=>⟨[(1,.fn (.func 1120) [] [.elt 1 [[.i m]] 0 0]),(5,.own 1 (((l.take i).map fun x=>Jou m x).map Jh).length),(8,.sl 1 (l.map Jh)),(9,.i (l.map Jh).length),(10,.i i)],[(1,.buf 3 1 (((l.take i).map fun x=>Jou m x).map Jh))],2⟩
 ok:=fun i=>i<=(l.map Jh).length
 ms:=fun i=>(l.map Jh).length-i }
def orE(a b:Int):Int:=if a ≠ 0 then a else b
theorem Qt(x:Int)(l:List Int):sFirst (x::l)=orE x (sFirst l):=rfl
theorem XQ:sFirst []=0:=rfl
theorem JcD(a:Int):orE a 0=a:=by
 unfold orE
 split <;> omega
theorem JcC(a b c:Int):orE (orE a b) c=orE a (orE b c):=by
 unfold orE
 by_cases h:a=0
 . simp[h]
 simp[h]
theorem Jkd{a b c:Int}(h:a=0->b=c):orE a b=orE a c:=by
 unfold orE
 by_cases e:a=0
 . rw[h e]
 rw[if_pos e,if_pos e]
theorem Jia(c x:Int):(if(c != 0)=true then c else x)=orE c x:=by
 unfold orE
 by_cases h:c=0
 . simp[h]
 simp[h]
theorem Jf4(c:Int)(f:Nat->Int)(n:Nat)(fin:Int):sLS c f n fin=orE c (JC f n fin):=Jia _ _
theorem XF(m:List Int):∀ l,sFirst (l++m)=orE (sFirst l) (sFirst m)
 | []=>by
  rw[List.nil_append,XQ]
  rfl
 | x::l=>by rw[List.cons_append,Qt,Qt,XF m l,JcC]
theorem Jnd(f:Nat->Int)(n:Nat)(fin:Int):JC f n fin=orE (JC f n 0) fin:=by
 unfold JC
 rw[XF,XF,Qt,XQ,JcD,Qt,XQ,JcD,JcD]
theorem Qq{f g:Nat->Int}{n:Nat}{fin:Int}(h:∀ k,k < n->f k=g k):JC f n fin=JC g n fin:=by
 unfold JC
 rw[List.map_congr_left (fun k hk=>h k (List.mem_range.1 hk))]
theorem Joh(n k:Nat):eAt (List.replicate n 0) k=0:=by
 unfold eAt
 rw[Ka,List.getElem?_replicate]
 split <;> rfl
theorem Jor(t:Ty)(i:Nat):Wk t i=Ut t i:=by
 unfold Wk Ut
 rw[Qt,Qt (JN _)]
 show orE (Ja (t.sg i).p 1 100) _=orE (Ja (t.sg i).p 1 100) _
 refine Jkd fun h=>?_
 have hp:=within_zero.1 h
 have e:decide ((t.sg i).p<=VX t i)=if i=0 then false else decide ((t.sg i).p<=(t.sg (i-1)).p):=by
  unfold VX
  by_cases e0:i=0
  . rw[if_pos e0,if_pos e0]
    exact decide_eq_false (by omega)
  rw[if_neg e0,if_neg e0]
 rw[e]
 rfl
theorem Job(t:Ty)(i:Nat):JaF t i=Q1 t i:=by
 unfold JaF Q1
 rw[Jf4,Jf4,Jor]
 refine Jkd fun h=>Qq fun k hk=>?_
 have e:Jfo t i k=JgE t i k:=by
  unfold Jfo JgE
  congr 1
  by_cases e0:i=0
  . rw[if_pos e0,XB,if_pos e0,Joh]
    unfold Ut at h
    simp only[first_zero]at h
    have:=Va h.2.2.2.1 k hk
    exact decide_eq_false (by unfold eAt;omega)
  rw[if_neg e0,XB,if_neg e0]
 rw[e]
theorem Jhq(l:List Int):QA l=orE (JA l.length 8) (orE (Ql l 1000) (sWhen (Jbr l l.length != 1000) 1)):=by
 unfold QA JA Ql
 rw[Jia]
 simp only[Qt,XQ,JcD,JcC]
theorem JfO(l:List Int):JH l=orE (JA l.length 8) (orE (Ql l 100000000000) (JC (fSq l) l.length 0)):=by
 unfold JH JA Ql
 rw[Jf4]
 simp only[Qt,XQ,JcD,JcC]
theorem Jhf{l:List Int}(h:∀ k,k < l.length->0<=l.getD k default/\l.getD k default<=1000)(hl:l.length<=1000):∀ i,i<=l.length->sumW l i=Jbr l i
 | 0,_=>rfl
 | i+1,hi=>by
  have h1:=UI h (i+1) hi
  have h2:=Jhf h hl i (by omega)
  show IntKind.i64.wrap (sumW l i+l.getD i default)=Jbr l i+l.getD i default
  rw[h2]
  have h3:Jbr l (i+1)=Jbr l i+l.getD i default:=rfl
  rw[<- h3]
  have:(0:Int)<=1000 * ((i+1:Nat):Int)/\1000 * ((i+1:Nat):Int)<=1000000:=by omega
  exact Qs (by unfold Jc;omega)
theorem ty_eq(t:Ty):Xr t=JeN t:=by
 have e1:UU t=orE (sWhen (!sName t.name) 8) (QA t.sh):=by
  unfold UU
  rw[Jhq,Qt,Qt,Qt,Qt,XQ,JcD]
  refine congrArg _ (Jkd fun h1=>Jkd fun h2=>?_)
  have h3:t.sh.length<=8:=by
   have:=(Vk h1).2
   omega
  rw[Jhf (Va h2) (by omega) _ (by omega)]
 have e2:X8 t=orE (sWhen ((t.st.length:Int) == 0) 12) (orE (sWhen (decide ((t.st.length:Int) > 6)) 5) (JC (Q1 t) t.st.length 0)):=by
  unfold X8
  rw[Jf4,Qq fun k _=>Job t k]
  unfold JA
  simp only[Qt,XQ,JcD,JcC]
 unfold Xr JeN Jaq JkX
 rw[Jia,Jf4,Jf4,Jnd (fSq t.sq),e1,e2]
 simp only[Qt,XQ,JcD,JcC,JfO]
 rfl
def bandR(e x:Int):Int:=(e * x).tdiv 1000
def bnds(l:List Int)(e:Int):List Int:=l.map fun x=>bandR e x
def restR(l:List Int)(e:Int):Nat->Int
 | 0=>e
 | n+1=>restR l e n-bandR e (l.getD n default)
def bnd(l:List Int)(e:Int):List Int:=(bnds l e).set 0 ((bnds l e).getD 0 default+restR l e l.length)
end Go.Proofs.YthkngjifljcocaaGreatDoor
