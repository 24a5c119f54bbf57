/-
  What chapter 2's functions on paths, procedures and tracks return. What chapter 2's functions that walk along lists return: steps, copies, sameness. What chapter 2's small functions on lists, places and numbers return. No condition but the theorems' own.
-/
import Derived.Test.YtjhjmncjidbieaaGreatDoorPA
import Derived.Test.YtjhjmncjidbieaaGreatDoorAvD
namespace Go.Proofs.YtjhjmncjidbieaaGreatDoor
open Go Go.Av Go.RowKit
structure Pt where
 x:Int
 y:Int
 deriving Inhabited
structure Fx where
 t:Int
 x:Int
 y:Int
 z:Int
 p:Int
 deriving Inhabited
structure St where
 a:Int
 h:Int
 p:Int
 deriving Inhabited
def Ja(r:Fx):List AV:=[.i r.t,.i r.x,.i r.y,.i r.z,.i r.p]
def rdL{α:Type}[Inhabited α](k:Nat)(enc:α->List AV)(l:List α)(size:Nat)(agg:Bool):List AV->Option AV
 | [.elt k' _ i j]=>if k'.beq k then some (if agg then .agg (((enc (l.getD i default)).drop j).take size)else nth (enc (l.getD i default)) j)else none
 | _=>none
def Jat:List (List AV->Option AV)->List AV->Option AV
 | [],_=>none
 | f::fs,x=>match f x with
  | some v=>some v
  | none=>Jat fs x
theorem Jq{α:Type}[Inhabited α](enc:α->List AV){l:List α}{i:Nat}(h:i < l.length):Jn (l.map enc) i=enc (l.getD i default):=by
 simp[Jn,List.getD_eq_getElem?_getD,h]
def QI(f:Nat->Int)(n:Nat)(fin:Int):Int:=Jb ((List.range n).map f++[fin])
theorem X5{f:Nat->Int}{n i:Nat}{fin:Int}(h:i < n)(h0:∀ k,k < i->f k=0)(hne:f i ≠ 0):QI f n fin=f i:=by
 have e:∀ k,k < n->((List.range n).map f++[fin]).getD k 0=f k:=fun k hk=>by
  simp[List.getD_eq_getElem?_getD,List.getElem?_append,hk]
 rw[QI,JaN (i:=i) (by simp;omega) (fun k hk=>by rw[e k (by omega)];exact h0 k hk) (by rw[e i h];exact hne),e i h]
theorem Xn{f:Nat->Int}{n:Nat}{fin:Int}(h0:∀ k,k < n->f k=0):QI f n fin=fin:=by
 have e:∀ k,k < n->((List.range n).map f++[fin]).getD k 0=f k:=fun k hk=>by
  simp[List.getD_eq_getElem?_getD,List.getElem?_append,hk]
 rw[QI,Wg _ n (fun k hk=>by rw[e k hk];exact h0 k hk) (by simp),List.drop_left' (by simp)]
 simp[Jb]
 intro h;exact h.symm
def spB:Nat->List AV->Option AV
 | 96,[.int _ n,.int _ d]=>some (.i (0-Qz (0-n) d))
 | n,l=>spA n l
theorem c91(n d:Int)(hd:d ≠ 0)(h1:Jg (n.tdiv d))(h2:Jg (n.tdiv d * d))(h3:Jg (n.tdiv d-1)):P0 91 [.i n,.i d] (.i (Qz n d)):=by
 have key :
  ¬d=(0:Int)/\Jg (n.tdiv d)/\Jg (n.tdiv d * d)/\(decide (n.tdiv d * d > n)=true->Jg (n.tdiv d-1)/\AV.i (n.tdiv d-1)=AV.i (Qz n d))/\(decide (n.tdiv d * d > n)=false->AV.i (n.tdiv d)=AV.i (Qz n d)):=by
   refine⟨hd,h1,h2,fun h=>⟨h3,?_⟩,fun h=>?_⟩
   . simp only[Ko]at h
     rw[Qz,if_pos h]
   simp only[decide_eq_false_iff_not]at h
   rw[Qz,if_neg h]
 exact JU Tryz.f91 (mkB spA 91 [] QJ) key (by kernel_rfl)
theorem Jid{a:Int}(h:(a != 0)=true):a ≠ 0:=by simpa using h
theorem UU{a:Int}(h:(a != 0)=false):a=0:=by simpa using h
def sLS(c:Int)(f:Nat->Int)(n:Nat)(fin:Int):Int:=if c != 0 then c else QI f n fin
theorem Xs{c:Int}{f:Nat->Int}{n:Nat}{fin:Int}(h:(c != 0)=true):sLS c f n fin=c:=by rw[sLS,if_pos h]
theorem UF{c:Int}{f:Nat->Int}{n i:Nat}{fin:Int}(h:(c != 0)=false)(hi:decide ((i:Int) < (n:Int))=true)(h0:∀ k,k < i->f k=0)(hne:(f i != 0)=true):sLS c f n fin=f i:=by
 rw[sLS,if_neg (by rw[h];decide),X5 (by simpa using hi) h0 (Jid hne)]
theorem UG{c:Int}{f:Nat->Int}{n i:Nat}{fin:Int}(h:(c != 0)=false)(hi:decide ((i:Int) < (n:Int))=false)(hle:i<=n)(h0:∀ k,k < i->f k=0):sLS c f n fin=fin:=by
 have:i=n:=by simp at hi;omega
 subst this
 rw[sLS,if_neg (by rw[h];decide),Xn h0]
theorem Ve{f:Nat->Int}{g:Nat}(h:∀ k,k < g->f k=0)(h2:(f g != 0)=false):∀ k,k < g+1->f k=0:=fun k hk=>by
 by_cases e:k=g
 . rw[e];exact UU h2
 exact h k (by omega)
theorem Jz{i n:Nat}(hi:decide ((i:Int) < (n:Int))=false)(hle:i<=n):i=n:=by simp at hi;omega
theorem Js{i n:Nat}(hi:decide ((i:Int) < (n:Int))=true):i < n:=by simpa using hi
theorem V7{a b:Int}(h:a=b):AV.int .i64 b=.int .i64 a:=by rw[h]
theorem within_zero{x lo hi:Int}:Jc x lo hi=0 ↔ lo<=x/\x<=hi:=by
 unfold Jc Jk
 by_cases h1:x < lo
 . simp[h1];omega
 by_cases h2:x > hi
 . simp[h1,h2] <;> omega
 simp[h1,h2] <;> omega
theorem Jd{x:Int}{l:List Int}:Jb (x::l)=0 ↔ x=0/\Jb l=0:=by
 by_cases h:x=0
 . simp[Jb,h]
 simp[Jb,h]
def sLen(n:Nat):Int:=Jb [Jk (decide ((n:Int) < 2)) 16,Jk (decide ((n:Int) > 16)) 5]
def prv(i:Nat):Nat:=(Q0 0 ((i:Int)-1)).toNat
def Vc(l:List Fx)(i:Nat):Int:=Jb [Jrf (l.getD i default).t (l.getD i default).x (l.getD i default).y (l.getD i default).z (l.getD i default).p,
 Jk (if decide ((i:Int) > 0)=true then decide ((l.getD i default).t<=(l.getD (prv i) default).t)else false) 11]
def Xh(l:List Fx)(i:Nat):Int:=Jb [Jc (l.getD i default).t 0 100000000,JT (l.getD i default).x (l.getD i default).y (l.getD i default).z,Qd (l.getD i default).p,
 Jk (if decide ((i:Int) > 0)=true then decide ((l.getD i default).t<=(l.getD (prv i) default).t)else false) 11]
def Vy(n:Nat):Nat:=((n:Int)-1).toNat
def Jre(l:List Fx):Int:=Jk (decide ((l.getD (Vy (l.map Ja).length) default).t-(l.getD 0 default).t > 1000)) 14
def Jp(l:List Fx):Int:=sLS (sLen (l.map Ja).length) (Vc l) (l.map Ja).length (Jre l)
def QR(l:List Fx):Int:=sLS (sLen (l.map Ja).length) (Xh l) (l.map Ja).length (Jre l)
theorem Jku{n:Nat}(h:(sLen n != 0)=false):2<=n/\n<=16:=by
 have h:=UU h
 unfold sLen at h
 simp only[Jd,Jk]at h
 by_cases h1:(n:Int) < 2
 . simp[h1]at h
 by_cases h2:(n:Int) > 16
 . simp[h2]at h
 omega
theorem JkZ{l:List Fx}{i:Nat}(h:Vc l i=0):0<=(l.getD i default).t/\(l.getD i default).t<=100000000:=by
 simp only[Vc,Jrf,Jd,within_zero]at h
 exact h.1.1
theorem Jk0{l:List Fx}{i:Nat}(h:Xh l i=0):0<=(l.getD i default).t/\(l.getD i default).t<=100000000:=by
 simp only[Xh,Jd,within_zero]at h
 exact h.1
def la76(l:List Fx):LA:={
 pre:=[.keep [0,20,21,22] [],.bound 1],post:=[.keep [0,20,21,22] [],.bound 1]
 Gh:=Nat
 st:=fun i=>⟨[(0,.sl 5 (l.map Ja)),(20,.sl 5 (l.map Ja)),(21,.i (l.map Ja).length),(22,.i i)],[],1⟩
 ok:=fun i=>i<=(l.map Ja).length/\∀ k,k < i->Vc l k=0
 ms:=fun i=>(l.map Ja).length-i }
abbrev Z4c(l:List Fx)(g:Nat):=l.getD (g:Int).toNat default
abbrev Z4i(l:List Fx)(g:Nat):=Jrf (Z4c l g).t (Z4c l g).x (Z4c l g).y (Z4c l g).z (Z4c l g).p
abbrev Z4o(g:Nat):=(g:Int) > 0
abbrev Z4q(g:Nat):=Q0 (0:Int) ((g:Int)-1)
abbrev Z4e(g:Nat)(l:List Fx):=if decide (Z4o g)=true then decide ((Z4c l g).t<=(l.getD (Z4q g).toNat default).t)else false
abbrev Z4a(l:List Fx)(g:Nat):=[hdI [AV.i (Z4i l g)],hdI [AV.i (Jk (Z4e g l) (11:Int))]]
abbrev Z4h(l:List Fx):=List.map Ja l
abbrev Z4b(l:List Fx):=((Z4h l).length:Int)
abbrev Z4d(g:Nat):=decide (Z4o g)=true->decide (Z4o g)=true
abbrev Z4m(l:List Fx):=Jk (decide ((Z4b l) < 2)) (16:Int)
abbrev Z4n(l:List Fx):=Jk (decide ((Z4b l) > 16)) (5:Int)
abbrev Z4f(l:List Fx):=[hdI [AV.i (Z4m l)],hdI [AV.i (Z4n l)]]
abbrev Z4r(l:List Fx):=l.getD ((Z4b l)-1).toNat default
abbrev Z4p(l:List Fx):=l.getD (Int.toNat (0:Int)) default
abbrev Z4g(l:List Fx):=decide ((Z4r l).t-(Z4p l).t > 1000)
abbrev Z4j(l:List Fx):=((20:Nat),AV.sl (5:Nat) (Z4h l))
abbrev Z4k(l:List Fx):=((0:Nat),AV.sl (5:Nat) (Z4h l))
abbrev Z4l(l:List Fx)(g:Nat):=[AV.i (Z4c l g).t,AV.i (Z4c l g).x,AV.i (Z4c l g).y,AV.i (Z4c l g).z,AV.i (Z4c l g).p]
abbrev Z4s(g:Nat)(l:List Fx):=(g<=(Z4h l).length/\∀ (k:Nat),k < g->Vc l k=(0:Int))
abbrev Z4t(l:List Fx):=((21:Nat),AV.i (Z4b l))
theorem c76(l:List Fx)(hl:(l.map Ja).length<=1000000):P0 76 [.sl 5 (l.map Ja)] (.i (Jp l)):=by
 have key :
  P0 (92:Nat) [AV.bool (decide ((Z4b l) < 2)),AV.i (16:Int)] (AV.i (Z4m l))/\P0 (92:Nat) [AV.bool (decide ((Z4b l) > 16)),AV.i (5:Int)] (AV.i (Z4n l))/\P0 (87:Nat) [AV.sl (1:Nat) [[AV.i (Z4m l)],[AV.i (Z4n l)]]]
  (AV.i (Jb (Z4f l)))/\((Jb (Z4f l) != 0)=true->AV.i (Jb (Z4f l))=AV.i (Jp l))/\((Jb (Z4f l) != 0)=false->(∃ (g:Nat),(Z4s g l)/\AS.mk [(Z4k l),(Z4j l),(Z4t l),((22:Nat),AV.i (0:Int))] [] (1
  : Nat)=AS.mk [(Z4k l),(Z4j l),(Z4t l),((22:Nat),AV.i (g:Int))] [] (1:Nat))/\∀ (g:Nat),(Z4s g l)->(decide ((g:Int) < (Z4b l))=true->(0:Int)<=(g:Int)/\(g:Int) < (Z4b l)/\AV.agg (Jn (Z4h l) (↑g :
  Int).toNat)=AV.agg (Z4l l g)/\(Z4d g)/\(Z4d g)/\(decide (Z4o g)=true->Jg ((g:Int)-1))/\(Z4d g)/\(Z4d g)/\(Z4d g)/\(decide (Z4o g)=true->(0:Int)<=Q0 (0:Int) ((g:Int)-1))/\(decide (Z4o g)=true →
  Q0 (0:Int) ((g:Int)-1) < (Z4b l))/\(Z4d g)/\(Z4d g)/\(Z4d g)/\(Z4d g)/\(Z4d g)/\P0 (134:Nat) [AV.agg (Z4l l g)] (AV.i (Z4i l g))/\Wx (decide (Z4o g)) (nth (Jn (Z4h l) (Z4q g).toNat) (0:Nat)=AV.i (l.getD
  (Z4q g).toNat default).t)/\P0 (92:Nat) [AV.bool (Z4e g l),AV.i (11:Int)] (AV.i (Jk (Z4e g l) (11:Int)))/\P0 (87:Nat) [AV.sl (1:Nat) [[AV.i (Z4i l g)],[AV.i (Jk (Z4e g l) (11:Int))]]] (AV.i (Jb (Z4a l g)))
  /\ ((Jb (Z4a l g) != 0)=true->AV.i (Jb (Z4a l g))=AV.i (Jp l))/\((Jb (Z4a l g) != 0)=false->Jg ((g:Int)+1)/\∃ (g':Nat),(g'<=(Z4h l).length/\∀ (k:Nat),k < g'->Vc l k=(0:Int))/\(Z4h
  l).length-g' < (Z4h l).length-g/\AS.mk [(Z4k l),(Z4j l),(Z4t l),((22:Nat),AV.i ((g:Int)+1))] [] (1:Nat)=AS.mk [(Z4k l),(Z4j l),(Z4t l),((22:Nat),AV.i (g':Int))] [] (1:Nat)))/\(decide ((g:Int) <
  (Z4b l))=false->Jg ((Z4b l)-1)/\(0:Int)<=(Z4b l)-1/\(Z4b l)-1 < (Z4b l)/\(0:Int)<=0/\(0:Int) < (Z4b l)/\Jg ((Z4r l).t-(Z4p l).t)/\nth (Jn (Z4h l) ((Z4b l)-1).toNat) (0:Nat)=AV.i (Z4r l).t/\nth
  (Jn (Z4h l) (0:Nat)) (0:Nat)=AV.i (Z4p l).t/\P0 (92:Nat) [AV.bool (Z4g l),AV.i (14:Int)] (AV.i (Jk (Z4g l) (14:Int)))/\AV.i (Jk (Z4g l) (14:Int))=AV.i (Jp l))):=by
   delta Z4a Z4b Z4c Z4d Z4e Z4f Z4g Z4h Z4i Z4j Z4k Z4l Z4m Z4n Z4o Z4p Z4q Z4r Z4s Z4t
   repeat' (first | apply And.intro | intro _ | refine impB_iff.2 fun _=>?_)
   all_goals try first
    | exact c92 _ _
    | exact c134 _ _ _ _ _
    | exact c87 [_,_] (by simp)
    | assumption
    | (simp only[Ko,decide_eq_false_iff_not,Kb,Q0,Jct,Jg,Km,bne_iff_ne,ne_eq,beq_iff_eq,Kt,Int.natCast_add,Int.cast_ofNat_Int]at *;omega)
    | (show(_:Bool)=true;simp_all;done)
    | (rw[Jq _ (by simp only[Ko,decide_eq_false_iff_not,Kb,Q0,Jct,Jg,Km,bne_iff_ne,ne_eq,beq_iff_eq,Kt,Int.natCast_add,Int.cast_ofNat_Int]at *;omega)];rfl)
   . rename_i h;exact V7 (Xs h)
   . exact⟨0,⟨by omega,by intros;omega⟩,rfl⟩
   . rename_i h g hg hd hne;exact V7 (UF (f:=Vc l) h hd hg.2 hne)
   . rename_i h g hg hd hne;have:=Js hd;exact⟨g+1,⟨this,Ve (f:=Vc l) hg.2 hne⟩,by omega,rfl⟩
   all_goals (rename_i h g hg hd)
   all_goals have hn:=Jku (n:=(l.map Ja).length) h
   all_goals have hgn:=Jz hd hg.1
   all_goals have ht:=fun k (hk:k < g)=>JkZ (hg.2 k hk)
   all_goals have h1:=ht (Vy (l.map Ja).length) (by unfold Vy;omega)
   all_goals have h2:=ht 0 (by omega)
   all_goals unfold Vy at h1
   all_goals first
    | omega
    | (simp only[Int.toNat_zero];omega)
    | (rw[Jq _ (by rw[Kb]at hn;simp only[Kb];omega)];rfl)
    | exact congrArg (fun r=>nth r 0) (Jq Ja (i:=0) (by rw[Kb]at hn;omega))
    | exact V7 (UG h hd hg.1 hg.2)
 exact JU Tryz.f76 (mkB spA 76 [(6,2,Jat [rdL 5 Ja l 5 true]),(7,0,Jat [rdL 5 Ja l 5 true]),(7,6,Jat [rdL 5 Ja l 1 false]),(7,13,Jat [rdL 5 Ja l 1 false]),(11,6,Jat [rdL 5 Ja l 1 false]),(11,10,Jat [rdL 5 Ja l 1 false])] (fun i=>if i.beq 0 then some (la76 l)else none)) key (by kernel_rfl)
def la33(l:List Fx):LA:={
 pre:=[.keep [0,4] [],.bound 1],post:=[.keep [0,4] [],.bound 1]
 Gh:=Nat
 st:=fun i=>⟨[(0,.sl 5 (l.map Ja)),(4,.i i)],[],1⟩
 ok:=fun i=>i<=(l.map Ja).length/\∀ k,k < i->Xh l k=0
 ms:=fun i=>(l.map Ja).length-i }
abbrev Z5d(l:List Fx)(g:Nat):=l.getD (g:Int).toNat default
abbrev Z5k(l:List Fx)(g:Nat):=Jc (Z5d l g).t (0:Int) (100000000:Int)
abbrev Z5q(l:List Fx)(g:Nat):=JT (Z5d l g).x (Z5d l g).y (Z5d l g).z
abbrev Z5i(g:Nat):=(g:Int) > 0
abbrev Z5p(g:Nat):=Q0 (0:Int) ((g:Int)-1)
abbrev Z5e(g:Nat)(l:List Fx):=if decide (Z5i g)=true then decide ((Z5d l g).t<=(l.getD (Z5p g).toNat default).t)else false
abbrev Z5a(l:List Fx)(g:Nat):=[hdI [AV.i (Z5k l g)],hdI [AV.i (Z5q l g)],hdI [AV.i (Qd (Z5d l g).p)],hdI [AV.i (Jk (Z5e g l) (11:Int))]]
abbrev Z5h(l:List Fx):=List.map Ja l
abbrev Z5b(l:List Fx):=((Z5h l).length:Int)
abbrev Z5c(g:Nat):=decide (Z5i g)=true->decide (Z5i g)=true
abbrev Z5l(l:List Fx):=Jk (decide ((Z5b l) < 2)) (16:Int)
abbrev Z5m(l:List Fx):=Jk (decide ((Z5b l) > 16)) (5:Int)
abbrev Z5f(l:List Fx):=[hdI [AV.i (Z5l l)],hdI [AV.i (Z5m l)]]
abbrev Z5r(l:List Fx):=l.getD ((Z5b l)-1).toNat default
abbrev Z5n(l:List Fx):=l.getD (Int.toNat (0:Int)) default
abbrev Z5g(l:List Fx):=decide ((Z5r l).t-(Z5n l).t > 1000)
abbrev Z5j(l:List Fx):=((0:Nat),AV.sl (5:Nat) (Z5h l))
abbrev Z5o(l:List Fx)(g:Nat):=Jn (Z5h l) (g:Int).toNat
abbrev Z5s(g:Nat)(l:List Fx):=(g<=(Z5h l).length/\∀ (k:Nat),k < g->Xh l k=(0:Int))
theorem c33(l:List Fx)(hl:(l.map Ja).length<=1000000):P0 33 [.sl 5 (l.map Ja)] (.i (QR l)):=by
 have key :
  P0 (94:Nat) [AV.bool (decide ((Z5b l) < 2)),AV.i (16:Int)] (AV.i (Z5l l))/\P0 (94:Nat) [AV.bool (decide ((Z5b l) > 16)),AV.i (5:Int)] (AV.i (Z5m l))/\P0 (93:Nat) [AV.sl (1:Nat) [[AV.i (Z5l l)],[AV.i (Z5m l)]]]
  (AV.i (Jb (Z5f l)))/\((Jb (Z5f l) != 0)=true->AV.i (Jb (Z5f l))=AV.i (QR l))/\((Jb (Z5f l) != 0)=false->(∃ (g:Nat),(Z5s g l)/\AS.mk [(Z5j l),((4:Nat),AV.i (0:Int))] [] (1:Nat)=AS.mk
  [(Z5j l),((4:Nat),AV.i (g:Int))] [] (1:Nat))/\∀ (g:Nat),(Z5s g l)->(decide ((g:Int) < (Z5b l))=true->(0:Int)<=(g:Int)/\(g:Int) < (Z5b l)/\(0:Int)<=(g:Int)/\(g:Int) < (Z5b l)/\(0:Int) ≤
  (g:Int)/\(g:Int) < (Z5b l)/\(Z5c g)/\(Z5c g)/\(decide (Z5i g)=true->(0:Int)<=(g:Int))/\(decide (Z5i g)=true->(g:Int) < (Z5b l))/\(Z5c g)/\(Z5c g)/\(Z5c g)/\(decide (Z5i g)=true->Jg ((g:Int) -
  1))/\(Z5c g)/\(Z5c g)/\(Z5c g)/\(decide (Z5i g)=true->(0:Int)<=Q0 (0:Int) ((g:Int)-1))/\(decide (Z5i g)=true->Q0 (0:Int) ((g:Int)-1) < (Z5b l))/\(Z5c g)/\(Z5c g)/\(Z5c g)/\(Z5c g)/\(Z5c g)/\nth
  (Z5o l g) (0:Nat)=AV.i (Z5d l g).t/\P0 (20:Nat) [AV.i (Z5d l g).t] (AV.i (Z5k l g))/\AV.agg (List.take (3:Nat) (List.drop (1:Nat) (Z5o l g)))=AV.agg [AV.i (Z5d l g).x,AV.i (Z5d l g).y,AV.i (Z5d l g).z]/\P0 (35 :
  Nat) [AV.agg [AV.i (Z5d l g).x,AV.i (Z5d l g).y,AV.i (Z5d l g).z]] (AV.i (Z5q l g))/\nth (Z5o l g) (4:Nat)=AV.i (Z5d l g).p/\P0 (44:Nat) [AV.i (Z5d l g).p] (AV.i (Qd (Z5d l g).p))/\Wx (decide (Z5i g)) (nth (Z5o l
  g) (0:Nat)=AV.i (Z5d l g).t)/\Wx (decide (Z5i g)) (nth (Jn (Z5h l) (Z5p g).toNat) (0:Nat)=AV.i (l.getD (Z5p g).toNat default).t)/\P0 (94:Nat) [AV.bool (Z5e g l),AV.i (11:Int)] (AV.i (Jk (Z5e g l) (11:Int)))
  /\ P0 (93:Nat) [AV.sl (1:Nat) [[AV.i (Z5k l g)],[AV.i (Z5q l g)],[AV.i (Qd (Z5d l g).p)],[AV.i (Jk (Z5e g l) (11:Int))]]] (AV.i (Jb (Z5a l g)))/\((Jb (Z5a l g) != 0)=true->AV.i (Jb (Z5a l g))=AV.i
  (QR l))/\((Jb (Z5a l g) != 0)=false->Jg ((g:Int)+1)/\∃ (g':Nat),(g'<=(Z5h l).length/\∀ (k:Nat),k < g'->Xh l k=(0:Int))/\(Z5h l).length-g' < (Z5h l).length-g/\AS.mk [(Z5j l),((4:Nat),
  AV.i ((g:Int)+1))] [] (1:Nat)=AS.mk [(Z5j l),((4:Nat),AV.i (g':Int))] [] (1:Nat)))/\(decide ((g:Int) < (Z5b l))=false->Jg ((Z5b l)-1)/\(0:Int)<=(Z5b l)-1/\(Z5b l)-1 < (Z5b l)/\(0:Int)<=0 /\
  (0:Int) < (Z5b l)/\Jg ((Z5r l).t-(Z5n l).t)/\nth (Jn (Z5h l) ((Z5b l)-1).toNat) (0:Nat)=AV.i (Z5r l).t/\nth (Jn (Z5h l) (0:Nat)) (0:Nat)=AV.i (Z5n l).t/\P0 (94:Nat) [AV.bool (Z5g l),AV.i (14:Int)]
  (AV.i (Jk (Z5g l) (14:Int)))/\AV.i (Jk (Z5g l) (14:Int))=AV.i (QR l))):=by
   delta Z5a Z5b Z5c Z5d Z5e Z5f Z5g Z5h Z5i Z5j Z5k Z5l Z5m Z5n Z5o Z5p Z5q Z5r Z5s
   repeat' (first | apply And.intro | intro _ | refine impB_iff.2 fun _=>?_)
   all_goals try first
    | exact c94 _ _
    | exact c20 _
    | exact c35 _ _ _
    | exact c44 _
    | exact c93 [_,_] (by simp)
    | exact c93 [_,_,_,_] (by simp)
    | assumption
    | (simp only[Ko,decide_eq_false_iff_not,Kb,Q0,Jct,Jg,Km,bne_iff_ne,ne_eq,beq_iff_eq,Kt,Int.natCast_add,Int.cast_ofNat_Int]at *;omega)
    | (show(_:Bool)=true;simp_all;done)
    | (rw[Jq _ (by simp only[Ko,decide_eq_false_iff_not,Kb,Q0,Jct,Jg,Km,bne_iff_ne,ne_eq,beq_iff_eq,Kt,Int.natCast_add,Int.cast_ofNat_Int]at *;omega)];rfl)
   . rename_i h;exact V7 (Xs h)
   . exact⟨0,⟨by omega,by intros;omega⟩,rfl⟩
   . rename_i h g hg hd hne;exact V7 (UF (f:=Xh l) h hd hg.2 hne)
   . rename_i h g hg hd hne;have:=Js hd;exact⟨g+1,⟨this,Ve (f:=Xh l) hg.2 hne⟩,by omega,rfl⟩
   all_goals (rename_i h g hg hd)
   all_goals have hn:=Jku (n:=(l.map Ja).length) h
   all_goals have hgn:=Jz hd hg.1
   all_goals have ht:=fun k (hk:k < g)=>Jk0 (hg.2 k hk)
   all_goals have h1:=ht (Vy (l.map Ja).length) (by unfold Vy;omega)
   all_goals have h2:=ht 0 (by omega)
   all_goals unfold Vy at h1
   all_goals first
    | omega
    | (simp only[Int.toNat_zero];omega)
    | (rw[Jq _ (by rw[Kb]at hn;simp only[Kb];omega)];rfl)
    | exact congrArg (fun r=>nth r 0) (Jq Ja (i:=0) (by rw[Kb]at hn;omega))
    | exact V7 (UG h hd hg.1 hg.2)
 exact JU Tryz.f33 (mkB spA 33 [(7,4,Jat [rdL 5 Ja l 1 false]),(7,10,Jat [rdL 5 Ja l 3 true]),(7,16,Jat [rdL 5 Ja l 1 false]),(7,25,Jat [rdL 5 Ja l 1 false]),(7,32,Jat [rdL 5 Ja l 1 false]),(10,6,Jat [rdL 5 Ja l 1 false]),(10,10,Jat [rdL 5 Ja l 1 false])] (fun i=>if i.beq 0 then some (la33 l)else none)) key (by kernel_rfl)
def Jv(a b p w:Int):Int:=a+Qz ((b-a) * p) w
theorem J4{x y A B:Int}(h1 : -A<=x)(h2:x<=A)(h3 : -B<=y)(h4:y<=B) : -(A * B)<=x * y/\x * y<=A * B:=by
 have hx:x.natAbs<=A.natAbs:=by omega
 have hy:y.natAbs<=B.natAbs:=by omega
 have:=Nat.mul_le_mul hx hy
 rw[<- Int.natAbs_mul,<- Int.natAbs_mul]at this
 have hA:0<=A * B:=Int.mul_nonneg (by omega) (by omega)
 omega
theorem Jnj{n d:Int}(hd:0 < d)(h1 : -2000000000000000000<=n)(h2:n<=2000000000000000000) :
 Jg (n.tdiv d)/\Jg (n.tdiv d * d)/\Jg (n.tdiv d-1) /\ -2000000000000000001<=Qz n d/\Qz n d<=2000000000000000000:=by
 have e:=Int.mul_tdiv_add_tmod n d
 have e2:n.tdiv d * d=d * n.tdiv d:=Int.mul_comm _ _
 have h3:n.tmod d < d:=Int.tmod_lt_of_pos n hd
 have h4 : -d < n.tmod d:=by
  have:=Int.tmod_lt_of_pos (-n) hd
  rw[Int.neg_tmod]at this
  omega
 have h5:(n.tdiv d).natAbs<=n.natAbs:=by rw[Int.natAbs_tdiv];exact Nat.div_le_self _ _
 have h6:(n.tmod d).natAbs<=n.natAbs:=by rw[Int.natAbs_tmod];exact Nat.mod_le _ _
 unfold Jg Qz
 refine⟨by omega,by omega,by omega,?_⟩
 split <;> omega
def spC:Nat->List AV->Option AV
 | 142,[.int _ a,.int _ b,.int _ p,.int _ w]=>some (.i (Jv a b p w))
 | 97,[.int _ a,.int _ b,.int _ p,.int _ w]=>some (.i (Jv a b p w))
 | n,l=>spB n l
structure BetOK(a b p w:Int):Prop where
 a1 : -1000000000<=a
 a2:a<=1000000000
 b1 : -1000000000<=b-a
 b2:b-a<=1000000000
 p1 : -1000000000<=p
 p2:p<=1000000000
 w:0 < w
theorem c142(a b p w:Int)(h:BetOK a b p w):P0 142 [.i a,.i b,.i p,.i w] (.i (Jv a b p w)):=by
 have key :
  Jg (b-a)/\Jg ((b-a) * p)/\Jg (a+Qz ((b-a) * p) w)/\P0 (91:Nat) [AV.i ((b-a) * p),AV.i w] (AV.i (Qz ((b-a) * p) w))/\AV.i (a +
  Qz ((b-a) * p) w)=AV.i (Jv a b p w):=by
   have hm:=J4 h.b1 h.b2 h.p1 h.p2
   have hf:=Jnj (n:=(b-a) * p) h.w (by omega) (by omega)
   have ha1:=h.a1
   have ha2:=h.a2
   have hb1:=h.b1
   have hb2:=h.b2
   exact⟨by unfold Jg;omega,by unfold Jg;omega,by unfold Jg;omega,c91 _ _ (by have:=h.w;omega) hf.1 hf.2.1 hf.2.2.1,rfl⟩
 exact JU Tryz.f142 (mkB spC 142 [] QJ) key (by kernel_rfl)
structure ProcOK(l:List St):Prop where
 n1:2<=l.length
 n2:l.length<=8
 b:∀ i,i < l.length->0<=(l.getD i default).a/\(l.getD i default).a<=400000/\0<=(l.getD i default).h/\(l.getD i default).h<=20000/\1<=(l.getD i default).p/\(l.getD i default).p<=100
 s:∀ i,i+1 < l.length->(l.getD i default).a < (l.getD (i+1) default).a
 z:(l.getD 0 default).a=0
theorem Xd{α:Type}[Inhabited α](enc:α->List AV){l:List α}{g:Nat}(h:g < l.length):(l.take g).map enc++[enc (l.getD g default)]=(l.take (g+1)).map enc:=by
 rw[List.take_add_one,Db]
 simp[List.getD_eq_getElem?_getD,h]
def la24(l:List Fx):LA:={
 pre:=[.own 3 110 5,.keep [0,3,6,7,8] [6],.bound 7],post:=[.ren 6 15,.keep [0,3,6,7,8] [6],.bound 7]
 Gh:=Nat
 st:=fun i=>⟨[(0,.sl 5 (l.map Ja)),(3,.own 6 ((l.take i).map Ja).length),(6,.sl 5 (l.map Ja)),(7,.i (l.map Ja).length),(8,.i i)],[(6,.buf 110 5 ((l.take i).map Ja))],7⟩
 ok:=fun i=>i<=(l.map Ja).length
 ms:=fun i=>(l.map Ja).length-i }
abbrev Z6a(l:List Fx)(g:Nat):=l.getD (g:Int).toNat default
abbrev Z6b(l:List Fx):=List.map Ja l
abbrev Z6h(l:List Fx):=((Z6b l).length:Int)
abbrev Z6c(l:List Fx):=((7:Nat),AV.i (Z6h l))
abbrev Z6d(g:Nat)(l:List Fx):=List.map Ja (List.take g l)
abbrev Z6e(l:List Fx):=((0:Nat),AV.sl (5:Nat) (Z6b l))
abbrev Z6f(l:List Fx):=((6:Nat),AV.sl (5:Nat) (Z6b l))
abbrev Z6g(l:List Fx)(g:Nat):=[AV.i (Z6a l g).t,AV.i (Z6a l g).x,AV.i (Z6a l g).y,AV.i (Z6a l g).z,AV.i (Z6a l g).p]
theorem c24(l:List Fx)(hl:l.length<=1000):P0 24 [.sl 5 (l.map Ja)] (.fresh 110 5 (l.map Ja)):=by
 have key :
  (∃ (g:Nat),g<=(Z6b l).length/\AS.mk [(Z6e l),((3:Nat),AV.own (6:Nat) (0:Nat)),(Z6f l),(Z6c l),((8:Nat),AV.i (0:Int))] [((6:Nat),ABlk.buf (110:Nat) (5:Nat) [])] (7:Nat)=AS.mk [(Z6e l),((3:Nat),
  AV.own (6:Nat) (Z6d g l).length),(Z6f l),(Z6c l),((8:Nat),AV.i (g:Int))] [((6:Nat),ABlk.buf (110:Nat) (5:Nat) (Z6d g l))] (7:Nat))/\∀ (g:Nat),g<=(Z6b l).length->(decide ((g:Int) < (Z6h l))=true->(0 :
  Int)<=(g:Int)/\(g:Int) < (Z6h l)/\AV.agg (Jn (Z6b l) (g:Int).toNat)=AV.agg (Z6g l g)/\(Z6d g l).length+(1:Nat)<=(9223372036854775807:Nat)/\((Z6d g l).length+(1:Nat)) * (40:Nat)<=(140737488355328 :
  Nat)/\Jg ((g:Int)+1)/\∃ (g':Nat),g'<=(Z6b l).length/\(Z6b l).length-g' < (Z6b l).length-g/\AS.mk [(Z6e l),((3:Nat),AV.own (6:Nat) ((Z6d g l).length+(1:Nat))),(Z6f l),(Z6c l),((8:Nat),AV.i ((↑g :
  Int)+1))] [((6:Nat),ABlk.buf (110:Nat) (5:Nat) (List.map Ja (List.take g l)++[(Z6g l g)]))] (7:Nat)=AS.mk [(Z6e l),((3:Nat),AV.own (6:Nat) (List.map Ja (List.take g' l)).length),(Z6f l),(Z6c l),((8 :
  Nat),AV.i (g':Int))] [((6:Nat),ABlk.buf (110:Nat) (5:Nat) (List.map Ja (List.take g' l)))] (7:Nat))/\(decide ((g:Int) < (Z6h l))=false->AV.fresh (110:Nat) (5:Nat) (Z6d g l)=AV.fresh (110:Nat) (5 :
  Nat) (Z6b l)):=by
   delta Z6a Z6b Z6c Z6d Z6e Z6f Z6g Z6h
   simp only[Kb]
   refine⟨⟨0,by omega,rfl⟩,fun g hg=>⟨fun hd=>?_,fun hd=>?_⟩⟩
   . have hlt:=Js hd
     simp only[Km]
     refine⟨by omega,by omega,by rw[Jq _ hlt];rfl,by rw[Kg];omega,by rw[Kg];omega,by unfold Jg;omega,g+1,hlt,by omega,?_⟩
     have h2:=Xd Ja hlt
     simp only[Ja]at h2
     rw[show(l.take g).length+1=(l.take (g+1)).length by simp only[Kg];omega,h2]
     rfl
   rw[Jz hd hg,Ky]
 exact JU Tryz.f24 (mkB spC 24 [(4,1,Jat [rdL 5 Ja l 5 true]),(5,1,Jat [rdL 5 Ja l 5 true])] (fun i=>if i.beq 0 then some (la24 l)else none)) key (by kernel_rfl)
def Jde(a b:Fx):Bool:=a.t == b.t && true && (a.x == b.x && true && (a.y == b.y && true && (a.z == b.z && true && true)) && (a.p == b.p && true && true))
def U6(l m:List Fx):Bool:=if((l.length:Int) != (m.length:Int))=true then false else(List.range l.length).all fun i=>Jde (l.getD i default) (m.getD i default)
def la23(l m:List Fx):LA:={
 pre:=[.keep [0,1,5] [],.bound 1],post:=[.keep [0,1,5] [],.bound 1]
 Gh:=Nat
 st:=fun i=>⟨[(0,.sl 5 (l.map Ja)),(1,.sl 5 (m.map Ja)),(5,.i i)],[],1⟩
 ok:=fun i=>i<=l.length/\∀ k,k < i->Jde (l.getD k default) (m.getD k default)=true
 ms:=fun i=>l.length-i }
abbrev Z7b(l:List Fx)(g:Nat):=l.getD (g:Int).toNat default
abbrev Z7c(m:List Fx)(g:Nat):=m.getD (g:Int).toNat default
abbrev Z7a(l:List Fx)(g:Nat)(m:List Fx):=!((Z7b l g).t == (Z7c m g).t && true && ((Z7b l g).x == (Z7c m g).x && true && ((Z7b l g).y == (Z7c m g).y && true && ((Z7b l g).z == (Z7c m g).z && true && true)) && ((Z7b l g).p == (Z7c m g).p && true && true)))
abbrev Z7d(l:List Fx):=((0:Nat),AV.sl (5:Nat) (List.map Ja l))
abbrev Z7e(m:List Fx):=((1:Nat),AV.sl (5:Nat) (List.map Ja m))
abbrev Z7f(l:List Fx):=((List.map Ja l).length:Int)
abbrev Z7g(g:Nat)(l:List Fx)(m:List Fx):=(g<=l.length/\∀ (k:Nat),k < g->Jde (l.getD k default) (m.getD k default)=true)
abbrev Z7h(m:List Fx):=((List.map Ja m).length:Int)
theorem c23(l m:List Fx)(hl:l.length<=1000):P0 23 [.sl 5 (l.map Ja),.sl 5 (m.map Ja)] (.bool (U6 l m)):=by
 have key :
  (((Z7f l) != (Z7h m))=true->AV.bool false=AV.bool (U6 l m))/\(((Z7f l) != (Z7h m))=false->(∃ (g:Nat),(Z7g g l m)/\AS.mk [(Z7d l),(Z7e m),((5:Nat),AV.i (0:Int))] [] (1:Nat)=AS.mk [(Z7d l),(Z7e m),((5 :
  Nat),AV.i (g:Int))] [] (1:Nat))/\∀ (g:Nat),(Z7g g l m)->(decide ((g:Int) < (Z7f l))=true->(0:Int)<=(g:Int)/\(g:Int) < (Z7f l)/\(0:Int)<=(g:Int)/\(g:Int) < (Z7h m)/\AV.agg (Jn (List.map Ja
  l) (g:Int).toNat)=AV.agg [AV.i (Z7b l g).t,AV.i (Z7b l g).x,AV.i (Z7b l g).y,AV.i (Z7b l g).z,AV.i (Z7b l g).p]/\AV.agg (Jn (List.map Ja m) (g:Int).toNat)=AV.agg [AV.i (Z7c m g).t,AV.i (Z7c m g).x,AV.i (Z7c m
  g).y,AV.i (Z7c m g).z,AV.i (Z7c m g).p]/\((Z7a l g m)=true->AV.bool false=AV.bool (U6 l m))/\((Z7a l g m)=false->Jg ((g:Int)+1)/\∃ (g':Nat),(g'<=l.length/\∀ (k:Nat),k < g'->Jde (l.getD k default)
  (m.getD k default)=true)/\l.length-g' < l.length-g/\AS.mk [(Z7d l),(Z7e m),((5:Nat),AV.i ((g:Int)+1))] [] (1:Nat)=AS.mk [(Z7d l),(Z7e m),((5:Nat),AV.i (g':Int))] [] (1:Nat)))/\(decide ((g:Int) <
  (Z7f l))=false->AV.bool true=AV.bool (U6 l m))):=by
   delta Z7a Z7b Z7c Z7d Z7e Z7f Z7g Z7h
   simp only[Kb]
   refine⟨fun h=>by rw[U6,if_pos h],fun h=>⟨⟨0,⟨by omega,by intros;omega⟩,rfl⟩,fun g hg=>⟨fun hd=>?_,fun hd=>?_⟩⟩⟩
   . have hlt:=Js hd
     have hm:l.length=m.length:=by simp at h;omega
     refine⟨by omega,by omega,by omega,by omega,by simp only[Km];rw[Jq _ hlt];rfl,by simp only[Km];rw[Jq _ (by omega)];rfl,fun hne=>?_,fun heq=>⟨by unfold Jg;omega,g+1,⟨hlt,fun k hk=>?_⟩,by omega,rfl⟩⟩
     . have h3:(!Jde (l.getD g default) (m.getD g default))=true:=hne
       have h2:Jde (l.getD g default) (m.getD g default)=false:=by simpa using h3
       rw[U6,if_neg (by rw[h];decide),List.all_eq_false.2 ⟨g,by simpa using hlt,by rw[h2];decide⟩]
     by_cases e:k=g
     . subst e
       have h2:(!Jde (l.getD k default) (m.getD k default))=false:=heq
       simpa using h2
     exact hg.2 k (by omega)
   rw[U6,if_neg (by rw[h];decide),List.all_eq_true.2 fun i hi=>hg.2 i (by rw[Jz hd hg.1];simpa using hi)]
 exact JU Tryz.f23 (mkB spC 23 [(6,3,rdL 5 Ja l 5 true),(6,7,rdL 5 Ja m 5 true)] (fun i=>if i.beq 0 then some (la23 l m)else none)) key (by kernel_rfl)
def Jh(x:Int):List AV:=[.i x]
def setA(f:An->An):Nat->List An->List An
 | 0,[]=>[f {}]
 | 0,a::l=>f a::l
 | n+1,[]=>{}::setA f n []
 | n+1,a::l=>a::setA f n l
def wrapAt(r k:Nat)(B:BA):BA:={ B with ra:=fun i=>if i.beq r then { B.ra i with ans:=setA (fun a=>{ a with nw:=false }) k (B.ra i).ans }else B.ra i }
def Qx(l:List Int)(m:Int):Int:=Jb (l.map fun x=>Jc x 0 m)
def JF(n m:Int):Int:=Jb [Jk (n == 0) 12,Jk (decide (n > m)) 5]
def JbA(l:List Int):Nat->Int
 | 0=>0
 | i+1=>IntKind.i64.wrap (JbA l i+l.getD i default)
def sDir(x y:Int):Int:=Jb [Jc x (-200000) 200000,Jc y (-200000) 200000]
theorem X3{α β:Type}[Inhabited α](enc:β->List AV)(f:α->β){l:List α}{g:Nat}(h:g < l.length):((l.take g).map f).map enc++[enc (f (l.getD g default))]=((l.take (g+1)).map f).map enc:=by
 rw[List.take_add_one,Db,Db]
 simp[List.getD_eq_getElem?_getD,h]
theorem JbN:∀ (l:List Int),Jb (l++[0])=Jb l
 | []=>by simp[Jb]
 | x::l=>by
  rw[List.cons_append]
  simp only[Jb]
  rw[JbN l]
theorem Jds(f:Int->Int)(l:List Int):QI (fun i=>f (l.getD i default)) l.length 0=Jb (l.map f):=by
 unfold QI
 rw[JbN]
 congr 1
 refine List.ext_getElem (by simp) fun i h1 h2=>?_
 simp only[List.getElem_map,List.getElem_range]
 rw[Ka,Kj (by simpa using h1)]
 rfl
def spP:Nat->List AV->Option AV
 | 169,[.bool b,.int _ e]=>some (.i (Jk b e))
 | 151,[.int _ x,.int _ lo,.int _ hi]=>some (.i (Jc x lo hi))
 | 153,[.int _ x,.elt _ [[.int _ m]] _ _]=>some (.i (Jc x 0 m))
 | 115,[.agg [.int _ x,.int _ y]]=>some (.i (sDir x y))
 | 46,[.agg [.int _ x,.int _ y]]=>some (.i (sDir x y))
 | 45,[.int _ x]=>some (.i (Jc x 0 100000000000))
 | 123,[.int _ n,.int _ m]=>some (.i (JF n m))
 | n,x=>spC n x
theorem c123(n m:Int) :P0 123 [.i n,.i m] (.i (JF n m)):=by
 have key :
  P0 92 [AV.bool (n == 0),AV.i 12] (AV.i (Jk (n == 0) (12:Int)))/\P0 92 [AV.bool (decide (n > m)),AV.i 5] (AV.i (Jk (decide (n > m)) (5:Int)))/\P0 87 [AV.sl 1 [[AV.i
  (Jk (n == 0) (12:Int))],[AV.i (Jk (decide (n > m)) (5:Int))]]] (AV.i (Jb [hdI [AV.i (Jk (n == 0) (12:Int))],hdI [AV.i (Jk (decide (n > m)) (5:Int))]]))/\AV.i (Jb [hdI [AV.i (Jk (n == 0) (12 :
  Int))],hdI [AV.i (Jk (decide (n > m)) (5:Int))]])=AV.i (JF n m):=by
   exact⟨c92 _ _,c92 _ _,c87 [_,_] (by simp),rfl⟩
 exact JU Tryz.f123 (mkB spP 123 [] QJ) key (by kernel_rfl)
theorem c153(x m:Int) :P0 153 [.i x,.elt 1 [[.i m]] 0 0] (.i (Jc x 0 m)):=by
 have key :
  P0 89 [AV.i x,AV.i 0,AV.i m] (AV.i (Jc x (0:Int) m))/\AV.i (Jc x (0:Int) m)=AV.i (Jc x (0:Int) m):=by
   exact⟨c89 _ _ _,rfl⟩
 exact JU Tryz.f153 (mkB spP 153 [] QJ) key (by kernel_rfl)
def la152(l:List Int)(m:Int):LA:={
 pre:=[.own 5 27 1,.reno 5 1,.keep [1,5,8,9,10] [1],.bound 2],post:=[.reno 5 1,.keep [1,5,8,9,10] [1],.bound 2]
 Gh:=Nat
 st:=fun i=>⟨[(1,.fn (.func 153) [] [.elt 1 [[.i m]] 0 0]),(5,.own 1 (((l.take i).map fun x=>Jc x 0 m).map Jh).length),(8,.sl 1 (l.map Jh)),(9,.i (l.map Jh).length),(10,.i i)],[(1,.buf 27 1 (((l.take i).map fun x=>Jc x 0 m).map Jh))],2⟩
 ok:=fun i=>i<=(l.map Jh).length
 ms:=fun i=>(l.map Jh).length-i }
abbrev Z8a(m:Int)(g:Nat)(l:List Int):=List.map Jh (List.map (fun(x:Int)=>Jc x (0:Int) m) (List.take g l))
abbrev Z8c(l:List Int):=List.map Jh l
abbrev Z8b(l:List Int):=((Z8c l).length:Int)
abbrev Z8d(l:List Int)(g:Nat):=l.getD (g:Int).toNat default
abbrev Z8e(m:Int):=[AV.elt 1 [[AV.i m]] 0 0]
theorem c152(l:List Int)(m:Int)(hl:l.length<=1000):P0 152 [.sl 1 (l.map Jh),.fn (.func 153) [] [.elt 1 [[.i m]] 0 0]] (.fresh 27 1 ((l.map fun x=>Jc x 0 m).map Jh)):=by
 have key :
  (∃ (g:Nat),g<=(Z8c l).length/\AS.mk [(1,AV.fn (Fn.func 153) [] (Z8e m)),(5,AV.own 1 0),(8,AV.sl 1 (Z8c l)),(9,AV.i (Z8b l)),(10,AV.i 0)] [(1,ABlk.buf 27 1 [])] 2=AS.mk [(1,AV.fn (Fn.func 153) [] (Z8e m)),(5,
  AV.own 1 (Z8a m g l).length),(8,AV.sl 1 (Z8c l)),(9,AV.i (Z8b l)),(10,AV.i (g:Int))] [(1,ABlk.buf 27 1 (Z8a m g l))] 2)/\∀ (g:Nat),g<=(Z8c l).length->(decide ((g:Int) < (Z8b l))=true->(0:Int)<=(g:Int) /\
  (g:Int) < (Z8b l)/\nth (Jn (Z8c l) (g:Int).toNat) 0=AV.i (Z8d l g)/\(Z8a m g l).length+1<=9223372036854775807/\((Z8a m g l).length+1) * 8<=140737488355328/\P0 153 [AV.i (Z8d l g),AV.elt 1 [[AV.i m]] 0 0] (AV.i
  (Jc (Z8d l g) (0:Int) m))/\Jg ((g:Int)+1)/\∃ (g':Nat),g'<=(Z8c l).length/\(Z8c l).length-g' < (Z8c l).length-g/\AS.mk [(1,AV.fn (Fn.func 153) [] (Z8e m)),(5,AV.own 1 ((Z8a m g l).length+1)),(8,AV.sl
  1 (Z8c l)),(9,AV.i (Z8b l)),(10,AV.i ((g:Int)+1))] [(1,ABlk.buf 27 1 (List.map Jh (List.map (fun(x:Int)=>Jc x (0:Int) m) (List.take g l))++[[AV.i (Jc (Z8d l g) (0:Int) m)]]))] 2=AS.mk [(1,AV.fn
  (Fn.func 153) [] (Z8e m)),(5,AV.own 1 (List.map Jh (List.map (fun(x:Int)=>Jc x (0:Int) m) (List.take g' l))).length),(8,AV.sl 1 (Z8c l)),(9,AV.i (Z8b l)),(10,AV.i (g':Int))] [(1,ABlk.buf 27 1 (List.map
  Jh (List.map (fun(x:Int)=>Jc x (0:Int) m) (List.take g' l))))] 2)/\(decide ((g:Int) < (Z8b l))=false->AV.fresh 27 1 (Z8a m g l)=AV.fresh 27 1 (List.map Jh (List.map (fun(x:Int)=>Jc x (0:Int) m)
  l))):=by
   delta Z8a Z8b Z8c Z8d Z8e
   simp only[Kb]
   refine⟨⟨0,by omega,rfl⟩,fun g hg=>⟨fun hd=>?_,fun hd=>?_⟩⟩
   . have hlt:=Js hd
     simp only[Km]
     refine⟨by omega,by omega,by rw[Jq _ hlt];rfl,by rw[Kg];omega,by rw[Kg];omega,c153 _ _,by unfold Jg;omega,g+1,hlt,by omega,?_⟩
     have h2:=X3 Jh (fun x=>Jc x 0 m) hlt
     simp only[Jh]at h2
     rw[show(l.take g).length+1=(l.take (g+1)).length by simp only[Kg];omega,h2]
     rfl
   rw[Jz hd hg,Ky]
 exact JU Tryz.f152 (mkB spP 152 [(4,1,Jat [rdL 1 Jh l 1 false])] (fun i=>if i.beq 0 then some (la152 l m)else none)) key (by kernel_rfl)
def la121(l:List Int):LA:={
 pre:=[.keep [3,6,7,8] [],.bound 1],post:=[.keep [3,6,7,8] [],.bound 1]
 Gh:=Nat
 st:=fun i=>⟨[(3,.i (JbA l i)),(6,.sl 1 (l.map Jh)),(7,.i (l.map Jh).length),(8,.i i)],[],1⟩
 ok:=fun i=>i<=(l.map Jh).length
 ms:=fun i=>(l.map Jh).length-i }
abbrev Z9b(l:List Int):=List.map Jh l
abbrev Z9a(l:List Int):=((Z9b l).length:Int)
theorem c121(l:List Int)(hl:l.length<=1000000):P0 121 [.sl 1 (l.map Jh)] (.i (JbA l l.length)):=by
 have key :
  (∃ (g:Nat),g<=(Z9b l).length/\AS.mk [(3,AV.i 0),(6,AV.sl 1 (Z9b l)),(7,AV.i (Z9a l)),(8,AV.i 0)] [] 1=AS.mk [(3,AV.i (JbA l g)),(6,AV.sl 1 (Z9b l)),(7,AV.i (Z9a l)),(8,AV.i (g:Int))] [] 1)/\∀ (g:Nat),g
  ≤ (Z9b l).length->(decide ((g:Int) < (Z9a l))=true->(0:Int)<=(g:Int)/\(g:Int) < (Z9a l)/\nth (Jn (Z9b l) (g:Int).toNat) 0=AV.i (l.getD (g:Int).toNat default)/\Jg ((g:Int)+1)/\∃ (g':Nat),g' ≤
  (Z9b l).length/\(Z9b l).length-g' < (Z9b l).length-g/\AS.mk [(3,AV.i (IntKind.i64.wrap (JbA l g+l.getD (g:Int).toNat default))),(6,AV.sl 1 (Z9b l)),(7,AV.i (Z9a l)),(8,AV.i ((g:Int)+1))] [] 1=AS.mk [(3,
  AV.i (JbA l g')),(6,AV.sl 1 (Z9b l)),(7,AV.i (Z9a l)),(8,AV.i (g':Int))] [] 1)/\(decide ((g:Int) < (Z9a l))=false->AV.i (JbA l g)=AV.i (JbA l l.length)):=by
   delta Z9a Z9b
   simp only[Kb]
   refine⟨⟨0,by omega,rfl⟩,fun g hg=>⟨fun hd=>?_,fun hd=>?_⟩⟩
   . have hlt:=Js hd
     simp only[Km]
     exact⟨by omega,by omega,by rw[Jq _ hlt];rfl,by unfold Jg;omega,g+1,hlt,by omega,rfl⟩
   rw[Jz hd hg]
 exact JU Tryz.f121 (wrapAt 5 2 (mkB spP 121 [(4,1,Jat [rdL 1 Jh l 1 false])] (fun i=>if i.beq 0 then some (la121 l)else none))) key (by kernel_rfl)
def la108(l:List Int)(lo hi:Int):LA:={
 pre:=[.keep [0,1,2,7] [],.bound 1],post:=[.keep [0,1,2,7] [],.bound 1]
 Gh:=Nat
 st:=fun i=>⟨[(0,.sl 1 (l.map Jh)),(1,.i lo),(2,.i hi),(7,.i i)],[],1⟩
 ok:=fun i=>i<=(l.map Jh).length/\∀ k,k < i->Jc (l.getD k default) lo hi=0
 ms:=fun i=>(l.map Jh).length-i }
abbrev Jtw(l:List Int)(g:Nat):=l.getD (g:Int).toNat default
abbrev Jhu(l:List Int):=List.map Jh l
theorem c108(l:List Int)(lo hi:Int)(hl:l.length<=1000000):P0 108 [.sl 1 (l.map Jh),.i lo,.i hi] (.i (Jb (l.map fun x=>Jc x lo hi))):=by
 have key :
  (∃ (g:Nat),(g<=(Jhu l).length/\∀ (k:Nat),k < g->Jc (l.getD k default) lo hi=(0:Int))/\AS.mk [(0,AV.sl 1 (Jhu l)),(1,AV.i lo),(2,AV.i hi),(7,AV.i 0)] [] 1=AS.mk [(0,AV.sl 1 (Jhu l)),(1,AV.i lo),(2,
  AV.i hi),(7,AV.i (g:Int))] [] 1)/\∀ (g:Nat),(g<=(Jhu l).length/\∀ (k:Nat),k < g->Jc (l.getD k default) lo hi=(0:Int))->(decide ((g:Int) < ((Jhu l).length:Int))=true->(0:Int)<=(g:Int)/\(↑g
  : Int) < ((Jhu l).length:Int)/\nth (Jn (Jhu l) (g:Int).toNat) 0=AV.i (Jtw l g)/\P0 95 [AV.i (Jtw l g),AV.i lo,AV.i hi] (AV.i (Jc (Jtw l g) lo hi))/\((Jc (Jtw l g) lo hi != 0)=true->AV.i (Jc
  (Jtw l g) lo hi)=AV.i (Jb (List.map (fun(x:Int)=>Jc x lo hi) l)))/\((Jc (Jtw l g) lo hi != 0)=false->Jg ((g:Int)+1)/\∃ (g':Nat),(g'<=(Jhu l).length/\∀ (k:Nat),k < g'->Jc (l.getD k
  default) lo hi=(0:Int))/\(Jhu l).length-g' < (Jhu l).length-g/\AS.mk [(0,AV.sl 1 (Jhu l)),(1,AV.i lo),(2,AV.i hi),(7,AV.i ((g:Int)+1))] [] 1=AS.mk [(0,AV.sl 1 (Jhu l)),(1,AV.i lo),(2,AV.i hi),(7,
  AV.i (g':Int))] [] 1))/\(decide ((g:Int) < ((Jhu l).length:Int))=false->AV.i 0=AV.i (Jb (List.map (fun(x:Int)=>Jc x lo hi) l))):=by
   delta Jtw Jhu
   simp only[Kb]
   refine⟨⟨0,⟨by omega,by intros;omega⟩,rfl⟩,fun g hg=>⟨fun hd=>?_,fun hd=>?_⟩⟩
   . have hlt:=Js hd
     simp only[Km]
     refine⟨by omega,by omega,by rw[Jq _ hlt];rfl,c95 _ _ _,fun hne=>?_,fun hz=>⟨by unfold Jg;omega,g+1,⟨hlt,Ve (f:=fun k=>Jc (l.getD k default) lo hi) hg.2 hz⟩,by omega,rfl⟩⟩
     rw[<- Jds,X5 hlt hg.2 (Jid hne)]
   rw[<- Jds,Xn]
   exact fun k hk=>hg.2 k (by rw[Jz hd hg.1];exact hk)
 exact JU Tryz.f108 (mkB spP 108 [(4,3,Jat [rdL 1 Jh l 1 false])] (fun i=>if i.beq 0 then some (la108 l lo hi)else none)) key (by kernel_rfl)
def sp124(l:List Int)(m:Int):Nat->List AV->Option AV
 | 152,_=>some (.sl 1 ((l.map fun x=>Jc x 0 m).map Jh))
 | 87,_=>some (.i (Qx l m))
 | _,_=>none
theorem c124(l:List Int)(m:Int)(hl:l.length<=1000):P0 124 [.sl 1 (l.map Jh),.i m] (.i (Qx l m)):=by
 have key :
  P0 152 [AV.sl 1 (List.map Jh l),AV.fn (Fn.func 153) [] [AV.elt 1 [[AV.i m]] 0 0]] (AV.sl 1 (List.map Jh (List.map (fun(x:Int)=>Jc x (0:Int) m) l)))/\P0 87 [AV.sl 1 (List.map Jh
  (List.map (fun(x:Int)=>Jc x (0:Int) m) l))] (AV.i (Qx l m))/\AV.i (Qx l m)=AV.i (Qx l m):=by
   exact⟨(c152 l m hl).un,c87 (l.map fun x=>Jc x 0 m) (by simp;omega),rfl⟩
 exact JU Tryz.f124 (mkB (sp124 l m) 124 [] QJ) key (by kernel_rfl)
theorem c112(x y z:Int)(h1:Jg (x * x))(h2:Jg (y * y))(h3:Jg (x * x+y * y))(h4:Jg (z * z)):P0 112 [.agg [.i x,.i y,.i z]] (.agg [.i (x * x+y * y),.i (z * z)]):=by
 have key :
  Jg (x * x)/\Jg (y * y)/\Jg (x * x+y * y)/\Jg (z * z)/\AV.agg [AV.i (x * x+y * y),AV.i (z * z)]=AV.agg [AV.i (x * x+y * y),AV.i (z * z)]:=by
   exact⟨h1,h2,h3,h4,rfl⟩
 exact JU Tryz.f112 (mkB spP 112 [] QJ) key (by kernel_rfl)
theorem c113(x y z p q r:Int)(h1:Jg (x-p))(h2:Jg (y-q))(h3:Jg (z-r)):P0 113 [.agg [.i x,.i y,.i z],.agg [.i p,.i q,.i r]] (.agg [.i (x-p),.i (y-q),.i (z-r)]):=by
 have key :
  Jg (x-p)/\Jg (y-q)/\Jg (z-r)/\AV.agg [AV.i (x-p),AV.i (y-q),AV.i (z-r)]=AV.agg [AV.i (x-p),AV.i (y-q),AV.i (z-r)]:=by
   exact⟨h1,h2,h3,rfl⟩
 exact JU Tryz.f113 (mkB spP 113 [] QJ) key (by kernel_rfl)
theorem JdY{c:UInt8}(r:List UInt8)(h:c.toNat < 128):dec (c::r)=(c.toNat,1):=by
 unfold dec Utf8.decode
 have:(({ data:=(c::r).toArray }:ByteArray).get! (0+0)).toNat=c.toNat:=rfl
 simp only[this]
 rw[if_pos (by simpa using h)]
theorem Jla{c:UInt8}(r:List UInt8)(h:¬ c.toNat < 128):128<=(dec (c::r)).1:=by
 unfold dec Utf8.decode
 have:(({ data:=(c::r).toArray }:ByteArray).get! (0+0)).toNat=c.toNat:=rfl
 simp only[this]
 rw[if_neg (by simpa using h)]
 repeat' split
 all_goals first
  | (simp only[Kd,Ko]at *;omega)
  | omega
  | (show 128<=Utf8.runeError;decide)
def Jm7(c:Nat):Bool:=decide (97<=c/\c<=122) || decide (65<=c/\c<=90)
def okB(first:Bool)(c:Nat):Bool:=Jm7 c || (!first && (decide (c=95) || decide (48<=c/\c<=57)))
def JbY(s:List UInt8)(n:Nat):Bool:=(List.range n).all fun i=>okB (i == 0) (s.getD i 0).toNat
def JH(s:List UInt8):Bool:=JbY s s.length && (!(s == []) && decide (s.length<=24))
def Jnw(ts ids:List Nat)(n t:Nat)(f:AS->AV):AS->AS:=fun S=>⟨Uy ((t,f S)::V1 t S.s) ts,Uy S.b ids,n⟩
def onI(x:Option AV)(f:Int->AV):AV:=match x with
 | some (.int _ n)=>f n
 | _=>.any
def JL(n:Int):Bool:=decide (97<=n/\n<=122) || decide (65<=n/\n<=90)
def QB(n:Int):Bool:=decide (48<=n/\n<=57) || decide (n=95)
theorem Jhh{s:List UInt8}{g:Nat}(h:g < s.length)(hf:okB (g == 0) (s.getD g 0).toNat=false):JH s=false:=by
 have:JbY s s.length=false:=List.all_eq_false.2 ⟨g,by simpa using h,by rw[hf];decide⟩
 rw[JH,this]
 rfl
theorem Jhg{s:List UInt8}{g:Nat}(ha:JbY s g=true)(hf:okB (g == 0) (s.getD g 0).toNat=true):JbY s (g+1)=true:=by
 unfold JbY at ha ⊢
 rw[List.range_succ,List.all_append,ha]
 simp only[List.all_cons,List.all_nil,hf,Bool.and_self]
theorem Jrw(b:Bool)(c:Nat):okB b c=(JL (c:Int) || (!b && QB (c:Int))):=by
 have e1:Jm7 c=JL (c:Int):=by
  unfold Jm7 JL
  congr 1 <;> (apply decide_eq_decide.2;omega)
 have e2:(decide (c=95) || decide (48<=c/\c<=57))=QB (c:Int):=by
  unfold QB
  rw[Bool.or_comm]
  congr 1 <;> (apply decide_eq_decide.2;omega)
 rw[okB,e1,e2]
theorem Jj3(b:Bool){c:Nat}(h:128<=c):okB b c=false:=by
 rw[Jrw]
 have e1:JL (c:Int)=false:=by
  simp only[JL,Bool.or_eq_false_iff,decide_eq_false_iff_not]
  omega
 have e2:QB (c:Int)=false:=by
  simp only[QB,Bool.or_eq_false_iff,decide_eq_false_iff_not]
  omega
 rw[e1,e2]
 simp
theorem dec_ok(b:Bool)(c:UInt8)(r:List UInt8):okB b (dec (c::r)).1=okB b c.toNat/\(okB b c.toNat=true->(dec (c::r)).2=1):=by
 by_cases h:c.toNat < 128
 . rw[JdY r h]
   exact⟨rfl,fun _=>rfl⟩
 have h1:=Jj3 b (Jla r h)
 have h2:=Jj3 b (show 128<=c.toNat by omega)
 rw[h1,h2]
 exact⟨rfl,fun h=>by cases h⟩
def la122(s:List UInt8):LA:={
 pre:=[.keep [0,7] [3],.bound 4],post:=[.keep [0,7] [3],.bound 4]
 Gh:=Nat
 st:=fun i=>⟨[(0,.str s),(7,.ref 3)],[(3,.iter (s.drop i) i)],4⟩
 ok:=fun i=>i<=s.length/\JbY s i=true
 ms:=fun i=>s.length-i
 it:=some 3 }
def B122(s:List UInt8):BA:={ mkB spP 122 [] (fun i=>if i.beq 0 then some (la122 s)else none)with
 split:=fun i=>if i.beq 4 then 1 else if i.beq 5 then 1 else 0
 gs:=fun i=>if i.beq 4 then[.keep [0,3,4,5,7] [3],.bound 4]else if i.beq 5 then[.keep [0,3,4,5,7,43] [3],.bound 4]else[]
 cut:=fun i=>if i.beq 4 then some (Jnw [0,3,4,5,7] [3] 4 5 fun S=>onI (Jy S 4) fun n=>.bool (JL n))else none }
abbrev Jey(c:UInt8)(r:List UInt8)(g:Nat):=[(3,ABlk.iter (List.drop (dec (c::r)).snd (c::r)) (g+(dec (c::r)).snd))]
abbrev Vp(c:UInt8)(r:List UInt8):=(↑(dec (c::r)).fst:Int)
abbrev Jtv(s:List UInt8)(g:Nat)(c:UInt8)(r:List UInt8):=[(0,AV.str s),(3,AV.i (g:Int)),(4,AV.int IntKind.i32 (Vp c r)),(5,AV.bool (JL (Vp c r))),(7,AV.ref 3)]
abbrev JoP(s:List UInt8):=[(0,AV.str s),(7,AV.ref 3)]
abbrev JqG:=false=true->false=true
abbrev Jtu(s:List UInt8):=(!s == [])=true->(!s == [])=true
abbrev Z11g(s:List UInt8)(g:Nat)(c:UInt8)(r:List UInt8):=(false=false->∃ (g':Nat),(g'<=s.length/\JbY s g'=true)/\s.length-g' < s.length-g/\AS.mk (JoP s) (Jey c r g) 4=AS.mk (JoP s) [(3,ABlk.iter (List.drop g' s) g')] 4)
abbrev Z11h(s:List UInt8)(g:Nat)(c:UInt8)(r:List UInt8):=(true=false->∃ (g':Nat),(g'<=s.length/\JbY s g'=true)/\s.length-g' < s.length-g/\AS.mk (JoP s) (Jey c r g) 4=AS.mk (JoP s) [(3,ABlk.iter (List.drop g' s) g')] 4)
abbrev Z11i:=true=false->false=true
abbrev Z11j(s:List UInt8)(g:Nat)(c:UInt8)(r:List UInt8):=[(0,AV.str s),(3,AV.i (g:Int)),(4,AV.int IntKind.i32 (Vp c r)),(5,AV.bool (decide ((Vp c r)<=90))),(7,AV.ref 3)]
abbrev Jtt(c:UInt8)(r:List UInt8):=decide ((Vp c r)>=97)
abbrev Z11l(s:List UInt8):=if(!s == [])=true then decide ((s.length:Int)<=24)else false
abbrev Jts(g:Nat):=(g:Int) == 0
abbrev JuG(c:UInt8)(r:List UInt8):=AV.bool !JL (Vp c r)
abbrev Z11o(s:List UInt8)(g:Nat)(c:UInt8)(r:List UInt8):=[(0,AV.str s),(3,AV.i (g:Int)),(4,AV.int IntKind.i32 (Vp c r)),(5,AV.bool false),(7,AV.ref 3)]
abbrev Z11p(s:List UInt8)(g:Nat)(c:UInt8)(r:List UInt8):=[(0,AV.str s),(3,AV.i (g:Int)),(4,AV.int IntKind.i32 (Vp c r)),(5,AV.bool true),(7,AV.ref 3)]
theorem c122(s:List UInt8)(hs:s.length<=1000000):P0 122 [.str s] (.bool (JH s)):=by
 have key :
  (∃ (g:Nat),(g<=s.length/\JbY s g=true)/\AS.mk (JoP s) [(3,ABlk.iter s 0)] 4=AS.mk (JoP s) [(3,ABlk.iter (List.drop g s) g)] 4)/\∀ (g:Nat),g<=s.length/\JbY s g=true->(∀ (c:UInt8) (r:List UInt8),
  List.drop g s=c::r->(true=true->((decide ((Vp c r)>=97)=true->(decide ((Vp c r)<=122)=true->Z11i/\AV.bool (Jtt c r)=AV.bool true/\AV.bool (decide ((Vp c r)<=122))=AV.bool true/\AS.mk (Z11p s g c r)
  (Jey c r g) 4=AS.mk (Jtv s g c r) (Jey c r g) 4)/\(decide ((Vp c r)<=122)=false->(decide ((Vp c r)>=65)=true->AV.bool (Jtt c r)=AV.bool true/\AV.bool (decide ((Vp c r)<=122))=AV.bool false/\AV.bool
  (decide ((Vp c r)>=65))=AV.bool true/\AS.mk (Z11j s g c r) (Jey c r g) 4=AS.mk (Jtv s g c r) (Jey c r g) 4)/\(decide ((Vp c r)>=65)=false->JqG/\AV.bool (Jtt c r)=AV.bool true/\AV.bool (decide ((Vp c r) ≤
  122))=AV.bool false/\AV.bool (decide ((Vp c r)>=65))=AV.bool false/\AS.mk (Z11o s g c r) (Jey c r g) 4=AS.mk (Jtv s g c r) (Jey c r g) 4)))/\(decide ((Vp c r)>=97)=false->(false=true->JqG/\Z11i/\AV.bool
  (Jtt c r)=AV.bool false/\AV.bool false=AV.bool true/\AS.mk (Z11p s g c r) (Jey c r g) 4=AS.mk (Jtv s g c r) (Jey c r g) 4)/\(false=false->(decide ((Vp c r)>=65)=true->JqG/\AV.bool (Jtt c r)=AV.bool false
  /\ AV.bool false=AV.bool false/\AV.bool (decide ((Vp c r)>=65))=AV.bool true/\AS.mk (Z11j s g c r) (Jey c r g) 4=AS.mk (Jtv s g c r) (Jey c r g) 4)/\(decide ((Vp c r)>=65)=false->JqG/\JqG/\AV.bool (Jtt c r)
  = AV.bool false/\AV.bool false=AV.bool false/\AV.bool (decide ((Vp c r)>=65))=AV.bool false/\AS.mk (Z11o s g c r) (Jey c r g) 4=AS.mk (Jtv s g c r) (Jey c r g) 4))))/\((!JL (Vp c r))=true->((Jts g)=true
  → Z11i/\(JuG c r)=AV.bool true/\AV.bool (Jts g)=AV.bool true/\(true=true->AV.bool false=AV.bool (JH s))/\(Z11h s g c r))/\((Jts g)=false->(((Vp c r) != 95)=true->(decide ((Vp c r) < 48)=true->Z11i /\
  (JuG c r)=AV.bool true/\AV.bool (Jts g)=AV.bool false/\AV.bool ((Vp c r) != 95)=AV.bool true/\AV.bool (decide ((Vp c r) < 48))=AV.bool true/\(true=true->AV.bool false=AV.bool (JH s))/\(Z11h s g c r)) /\
  (decide ((Vp c r) < 48)=false->(JuG c r)=AV.bool true/\AV.bool (Jts g)=AV.bool false/\AV.bool ((Vp c r) != 95)=AV.bool true/\AV.bool (decide ((Vp c r) < 48))=AV.bool false/\(decide ((Vp c r) > 57)=true →
  AV.bool false=AV.bool (JH s))/\(decide ((Vp c r) > 57)=false->∃ (g':Nat),(g'<=s.length/\JbY s g'=true)/\s.length-g' < s.length-g/\AS.mk (JoP s) (Jey c r g) 4=AS.mk (JoP s) [(3,ABlk.iter (List.drop g'
  s) g')] 4)))/\(((Vp c r) != 95)=false->JqG/\(JuG c r)=AV.bool true/\AV.bool (Jts g)=AV.bool false/\AV.bool ((Vp c r) != 95)=AV.bool false/\(false=true->AV.bool false=AV.bool (JH s))/\(Z11g s g c r))))
  /\ ((!JL (Vp c r))=false->JqG/\(JuG c r)=AV.bool false/\(false=true->AV.bool false=AV.bool (JH s))/\(Z11g s g c r)))/\(true=false->(Jtu s)/\(Jtu s)/\(Jtu s)/\AV.bool (Z11l s)=AV.bool (JH s))) /\
  (List.drop g s=[]->(false=true->False)/\(false=false->(Jtu s)/\(Jtu s)/\(Jtu s)/\AV.bool (Z11l s)=AV.bool (JH s))):=by
   delta Jey Vp Jtv JoP JqG Jtu Z11g Z11h Z11i Z11j Jtt Z11l Jts JuG Z11o Z11p
   refine⟨⟨0,⟨by omega,rfl⟩,rfl⟩,fun g ⟨hg,ha⟩=>⟨fun c r hcr=>?_,fun hnil=>?_⟩⟩
   . have hlt:g < s.length:=by
      by_cases h:g < s.length
      . exact h
      rw[List.drop_eq_nil_of_le (by omega)]at hcr;cases hcr
     have hcg:s.getD g 0=c:=by
      have:=congrArg (fun l=>l.getD 0 0) hcr
      simpa[List.getD_eq_getElem?_getD]using this
     have hr:r=s.drop (g+1):=by
      have:=congrArg (fun l=>l.drop 1) hcr
      simpa using this.symm
     have hz:((g:Int) == 0)=(g == 0):=by
      by_cases h:g=0
      . simp[h]
      rw[beq_eq_false_iff_ne.2 h,beq_eq_false_iff_ne.2 (by omega)]
     obtain⟨hk1,hk2⟩:=dec_ok (g == 0) c r
     have hF:okB (g == 0) (dec (c::r)).1=false->AV.bool false=AV.bool (JH s):=fun h=>by
      rw[Jhh hlt (by rw[hcg,<- hk1];exact h)]
     have hN:okB (g == 0) (dec (c::r)).1=true->∃ (g':Nat),(g'<=s.length/\JbY s g'=true)/\s.length-g' < s.length-g /\
      AS.mk [(0,AV.str s),(7,AV.ref 3)] [(3,ABlk.iter (List.drop (dec (c::r)).snd (c::r)) (g+(dec (c::r)).snd))] 4=AS.mk [(0,AV.str s),(7,AV.ref 3)] [(3,ABlk.iter (List.drop g' s) g')] 4:=fun h=>by
      refine⟨g+1,⟨hlt,Jhg ha (by rw[hcg,<- hk1];exact h)⟩,by omega,?_⟩
      rw[hk2 (by rw[<- hk1];exact h),hr]
      rfl
     rw[Jrw]at hF hN
     clear hk1 hk2
     generalize (dec (c::r)).1=n at hF hN ⊢
     generalize (dec (c::r)).2=w at hN ⊢
     rw[hz]
     repeat' (first | apply And.intro | intro _)
     all_goals try first
      | contradiction
      | rfl
      | assumption
      | exact congrArg AV.bool (by assumption)
      | (rw[show JL (n:Int)=true by(simp only[Ko,decide_eq_false_iff_not]at *;simp only[JL,Bool.or_eq_true,Ko];omega)];done)
      | (rw[show JL (n:Int)=false by(simp only[Ko,decide_eq_false_iff_not]at *;simp only[JL,Bool.or_eq_false_iff,decide_eq_false_iff_not];omega)];done)
      | (rw[show JL (n:Int)=decide ((n:Int)<=90) by(simp only[Ko,decide_eq_false_iff_not]at *;simp only[JL];by_cases h90:(n:Int)<=90 <;> simp[h90] <;> omega)];done)
      | (refine hF ?_;simp_all [QB];done)
      | (refine hN ?_;simp_all [QB];done)
      | (refine hF ?_;simp_all [QB];omega)
      | (refine hN ?_;simp_all [QB];omega)
   have hge:g=s.length:=by
    have:=congrArg List.length hnil
    rw[Kh]at this
    simp only[List.length_nil]at this
    omega
   subst hge
   refine⟨fun h=>by(cases h),fun _=>⟨fun h=>h,fun h=>h,fun h=>h,?_⟩⟩
   rw[JH,ha,Bool.true_and,show decide ((s.length:Int)<=24)=decide (s.length<=24)from decide_eq_decide.2 (by omega)]
   cases (!s == []) <;> rfl
 exact JU Tryz.f122 (B122 s) key (by kernel_rfl)
def la148(s:List UInt8):LA:={
 pre:=[.keep [0,3] [],.bound 1],post:=[.keep [0,3] [],.bound 1]
 Gh:=Nat
 st:=fun i=>⟨[(0,.str s),(3,.i i)],[],1⟩
 ok:=fun i=>i<=s.length/\JbY s i=true
 ms:=fun i=>s.length-i }
def B148(s:List UInt8):BA:={ mkB spP 148 [] (fun i=>if i.beq 0 then some (la148 s)else none)with
 split:=fun i=>if i.beq 1 then 0 else if i.beq 6 then 1 else if i.beq 7 then 1 else if i.beq 8 then 1 else 0
 gs:=fun i=>if i.beq 6 then[.keep [0,3,4] [],.bound 1]else if i.beq 7 then[.keep [0,3,4,5] [],.bound 1]else[]
 cut:=fun i=>if i.beq 6 then some (Jnw [0,3,4] [] 1 4 fun S=>onI (Jy S 3) fun n=>.bool (JL ((s.getD n.toNat 0).toNat:Int)))
  else if i.beq 7 then some (Jnw [0,3,4,5] [] 1 5 fun S=>onI (Jy S 3) fun n=>.bool (QB ((s.getD n.toNat 0).toNat:Int)))else none }
abbrev XS(s:List UInt8)(g:Nat):=(↑(s.getD (g:Int).toNat (0:UInt8)).toNat:Int)
abbrev VX(s:List UInt8):=(s.length:Int)
abbrev Jtr(s:List UInt8)(g:Nat):=[(0,AV.str s),(3,AV.i (g:Int)),(4,AV.bool (JL (XS s g)))]
abbrev Z12d(s:List UInt8)(g:Nat):=[(0,AV.str s),(3,AV.i (g:Int)),(4,AV.bool (JL (XS s g))),(5,AV.bool (QB (XS s g)))]
abbrev JoO:=false=true->false=true
abbrev JuF:=true=false->false=true
abbrev Z12g(s:List UInt8)(g:Nat):=[(0,AV.str s),(3,AV.i (g:Int)),(4,AV.bool (JL (XS s g))),(5,AV.bool ((XS s g) == 95))]
abbrev Jtq(s:List UInt8)(g:Nat):=decide ((XS s g)>=65)
abbrev Z12i(s:List UInt8)(g:Nat):=[(0,AV.str s),(3,AV.i (g:Int)),(4,AV.bool (JL (XS s g))),(5,AV.bool true)]
abbrev Z12j(s:List UInt8)(g:Nat):=[(0,AV.str s),(3,AV.i (g:Int)),(4,AV.bool (decide ((XS s g)<=122)))]
abbrev Z12k(s:List UInt8)(g:Nat):=[(0,AV.str s),(3,AV.i ((g:Int)+1))]
abbrev Z12l(s:List UInt8):=if((VX s) == 0)=true then true else decide ((VX s) > 24)
theorem c148(s:List UInt8)(hs:s.length<=1000000):P0 148 [.str s] (.bool (JH s)):=by
 have key :
  ((!(VX s) == 0)=true->(!(VX s) == 0)=true)/\((!(VX s) == 0)=true->(!(VX s) == 0)=true)/\(((VX s) == 0)=false->(!(VX s) == 0)=true)/\((Z12l s)=true->AV.bool false=AV.bool (JH s))/\((Z12l s) =
  false->(∃ (g:Nat),(g<=s.length/\JbY s g=true)/\AS.mk [(0,AV.str s),(3,AV.i 0)] [] 1=AS.mk [(0,AV.str s),(3,AV.i (g:Int))] [] 1)/\∀ (g:Nat),g<=s.length/\JbY s g=true->(decide ((g:Int) < (VX s)) =
  true->((decide ((XS s g)>=65)=true->(decide ((XS s g)<=90)=true->(0:Int)<=(g:Int)/\(g:Int) < (VX s)/\(0:Int)<=(g:Int)/\(g:Int) < (VX s)/\JuF/\AV.bool (Jtq s g)=AV.bool true/\AV.bool
  (decide ((XS s g)<=90))=AV.bool true/\AS.mk [(0,AV.str s),(3,AV.i (g:Int)),(4,AV.bool true)] [] 1=AS.mk (Jtr s g) [] 1)/\(decide ((XS s g)<=90)=false->(decide ((XS s g)>=97)=true->(0:Int)<=(↑g :
  Int)/\(g:Int) < (VX s)/\(0:Int)<=(g:Int)/\(g:Int) < (VX s)/\(0:Int)<=(g:Int)/\(g:Int) < (VX s)/\(0:Int)<=(g:Int)/\(g:Int) < (VX s)/\AV.bool (Jtq s g)=AV.bool true/\AV.bool (decide
  ((XS s g)<=90))=AV.bool false/\AV.bool (decide ((XS s g)>=97))=AV.bool true/\AS.mk (Z12j s g) [] 1=AS.mk (Jtr s g) [] 1)/\(decide ((XS s g)>=97)=false->(0:Int)<=(g:Int)/\(g:Int) < (VX s)/\(0 :
  Int)<=(g:Int)/\(g:Int) < (VX s)/\(0:Int)<=(g:Int)/\(g:Int) < (VX s)/\JoO/\AV.bool (Jtq s g)=AV.bool true/\AV.bool (decide ((XS s g)<=90))=AV.bool false/\AV.bool (decide ((XS s g)>=97)) =
  AV.bool false/\AS.mk [(0,AV.str s),(3,AV.i (g:Int)),(4,AV.bool false)] [] 1=AS.mk (Jtr s g) [] 1)))/\(decide ((XS s g)>=65)=false->(false=true->(0:Int)<=(g:Int)/\(g:Int) < (VX s)/\JoO/\JuF /\
  AV.bool (Jtq s g)=AV.bool false/\AV.bool false=AV.bool true/\AS.mk [(0,AV.str s),(3,AV.i (g:Int)),(4,AV.bool true)] [] 1=AS.mk (Jtr s g) [] 1)/\(false=false->(decide ((XS s g)>=97)=true->(0:Int)<=(↑g
  : Int)/\(g:Int) < (VX s)/\JoO/\(0:Int)<=(g:Int)/\(g:Int) < (VX s)/\(0:Int)<=(g:Int)/\(g:Int) < (VX s)/\AV.bool (Jtq s g)=AV.bool false/\AV.bool false=AV.bool false/\AV.bool (decide ((XS s
  g)>=97))=AV.bool true/\AS.mk (Z12j s g) [] 1=AS.mk (Jtr s g) [] 1)/\(decide ((XS s g)>=97)=false->(0:Int)<=(g:Int)/\(g:Int) < (VX s)/\JoO/\(0:Int)<=(g:Int)/\(g:Int) < (VX s)/\JoO/\AV.bool
  (Jtq s g)=AV.bool false/\AV.bool false=AV.bool false/\AV.bool (decide ((XS s g)>=97))=AV.bool false/\AS.mk [(0,AV.str s),(3,AV.i (g:Int)),(4,AV.bool false)] [] 1=AS.mk (Jtr s g) [] 1))))/\((decide ((XS s
  g)>=48)=true->(decide ((XS s g)<=57)=true->(0:Int)<=(g:Int)/\(g:Int) < (VX s)/\(0:Int)<=(g:Int)/\(g:Int) < (VX s)/\JuF/\AV.bool (decide ((XS s g)>=48))=AV.bool true/\AV.bool (decide
  ((XS s g)<=57))=AV.bool true/\AS.mk (Z12i s g) [] 1=AS.mk (Z12d s g) [] 1)/\(decide ((XS s g)<=57)=false->(0:Int)<=(g:Int)/\(g:Int) < (VX s)/\(0:Int)<=(g:Int)/\(g:Int) < (VX s)/\(0:Int) ≤
  (g:Int)/\(g:Int) < (VX s)/\AV.bool (decide ((XS s g)>=48))=AV.bool true/\AV.bool (decide ((XS s g)<=57))=AV.bool false/\AS.mk (Z12g s g) [] 1=AS.mk (Z12d s g) [] 1))/\(decide ((XS s g)>=48)=false →
  (false=true->(0:Int)<=(g:Int)/\(g:Int) < (VX s)/\JoO/\JuF/\AV.bool (decide ((XS s g)>=48))=AV.bool false/\AV.bool false=AV.bool true/\AS.mk (Z12i s g) [] 1=AS.mk (Z12d s g) [] 1)/\(false=false->(0
  : Int)<=(g:Int)/\(g:Int) < (VX s)/\JoO/\(0:Int)<=(g:Int)/\(g:Int) < (VX s)/\AV.bool (decide ((XS s g)>=48))=AV.bool false/\AV.bool false=AV.bool false/\AS.mk (Z12g s g) [] 1=AS.mk (Z12d s g) []
  1)))/\((!JL (XS s g))=true->(((g:Int) == 0)=true->JuF/\(AV.bool !JL (XS s g))=AV.bool true/\AV.bool ((g:Int) == 0)=AV.bool true/\(true=true->AV.bool false=AV.bool (JH s))/\(true=false →
  Jg ((g:Int)+1)/\∃ (g':Nat),(g'<=s.length/\JbY s g'=true)/\s.length-g' < s.length-g/\AS.mk (Z12k s g) [] 1=AS.mk [(0,AV.str s),(3,AV.i (g':Int))] [] 1))/\(((g:Int) == 0)=false->(AV.bool !JL
  (XS s g))=AV.bool true/\AV.bool ((g:Int) == 0)=AV.bool false/\((!QB (XS s g))=true->AV.bool false=AV.bool (JH s))/\((!QB (XS s g))=false->Jg ((g:Int)+1)/\∃ (g':Nat),(g'<=s.length /\
  JbY s g'=true)/\s.length-g' < s.length-g/\AS.mk (Z12k s g) [] 1=AS.mk [(0,AV.str s),(3,AV.i (g':Int))] [] 1)))/\((!JL (XS s g))=false->JoO/\(AV.bool !JL (XS s g))=AV.bool false/\(false=true →
  AV.bool false=AV.bool (JH s))/\(false=false->Jg ((g:Int)+1)/\∃ (g':Nat),(g'<=s.length/\JbY s g'=true)/\s.length-g' < s.length-g/\AS.mk (Z12k s g) [] 1=AS.mk [(0,AV.str s),(3,AV.i (g':Int))] []
  1)))/\(decide ((g:Int) < (VX s))=false->AV.bool true=AV.bool (JH s))):=by
   delta XS VX Jtr Z12d JoO JuF Z12g Jtq Z12i Z12j Z12k Z12l
   have hs0:(s.length == 0)=(s == []):=by cases s <;> rfl
   refine⟨fun h=>h,fun h=>h,fun h=>by rw[h];rfl,fun h=>?_,fun h=>⟨⟨0,⟨by omega,rfl⟩,rfl⟩,fun g ⟨hg,ha⟩=>⟨fun hd=>?_,fun hd=>?_⟩⟩⟩
   . have:(!(s == []) && decide (s.length<=24))=false:=by
      rw[<- hs0]
      by_cases h0:s.length=0
      . simp[h0]
      rw[beq_eq_false_iff_ne.2 (show(s.length:Int) ≠ 0 by omega)]at h
      simp at h
      simp only[Bool.and_eq_false_iff,decide_eq_false_iff_not]
      omega
     rw[JH,this,Bool.and_false]
   . have hlt:=Js hd
     have hz:((g:Int) == 0)=(g == 0):=by
      by_cases h:g=0
      . simp[h]
      rw[beq_eq_false_iff_ne.2 h,beq_eq_false_iff_ne.2 (by omega)]
     obtain⟨n,hx⟩:∃ n,(s.getD g 0).toNat=n:=⟨_,rfl⟩
     rw[show(s.getD ((g:Int)).toNat 0).toNat=n from hx]
     have hF:okB (g == 0) (s.getD g 0).toNat=false->AV.bool false=AV.bool (JH s):=fun h=>by
      rw[Jhh hlt h]
     have hN:okB (g == 0) (s.getD g 0).toNat=true->Jg ((g:Int)+1)/\∃ (g':Nat),(g'<=s.length/\JbY s g'=true)/\s.length-g' < s.length-g /\
      AS.mk [(0,AV.str s),(3,AV.i ((g:Int)+1))] [] 1=AS.mk [(0,AV.str s),(3,AV.i g')] [] 1:=fun h =>
      ⟨by unfold Jg;omega,g+1,⟨hlt,Jhg ha h⟩,by omega,rfl⟩
     rw[Jrw]at hF hN
     have h1:(0:Int)<=g:=by omega
     have h2:(g:Int) < s.length:=by omega
     rw[hx]at hF hN
     rw[hz]
     generalize JH s=sn at hF ⊢
     clear hx ha
     repeat' (first | apply And.intro | intro _)
     all_goals try first
      | omega
      | contradiction
      | rfl
      | assumption
      | exact congrArg AV.bool (by assumption)
      | (rw[show JL (n:Int)=true by(simp only[Ko,decide_eq_false_iff_not]at *;simp only[JL,Bool.or_eq_true,Ko];omega)];done)
      | (rw[show JL (n:Int)=false by(simp only[Ko,decide_eq_false_iff_not]at *;simp only[JL,Bool.or_eq_false_iff,decide_eq_false_iff_not];omega)];done)
      | (rw[show JL (n:Int)=decide ((n:Int)<=122) by(simp only[Ko,decide_eq_false_iff_not]at *;simp only[JL];by_cases h90:(n:Int)<=122 <;> simp[h90] <;> omega)];done)
      | (rw[show QB (n:Int)=true by(simp only[Ko,decide_eq_false_iff_not]at *;simp only[QB,Bool.or_eq_true,Ko];omega)];done)
      | (rw[show QB (n:Int)=((n:Int) == 95) by(simp only[Ko,decide_eq_false_iff_not]at *;unfold QB;rw[decide_eq_false (show ¬ (48<=(n:Int)/\(n:Int)<=57) by omega),Bool.false_or];rfl)];done)
      | (refine hF ?_;(clear hF hN;generalize JL (n:Int)=p at *;generalize QB (n:Int)=q at *;generalize (g == 0)=z at *;cases p <;> cases q <;> cases z <;> first | rfl | (exfalso;simp at *;done));done)
      | (refine(hN ?_).1;(clear hF hN;generalize JL (n:Int)=p at *;generalize QB (n:Int)=q at *;generalize (g == 0)=z at *;cases p <;> cases q <;> cases z <;> first | rfl | (exfalso;simp at *;done));done)
      | (refine(hN ?_).2;(clear hF hN;generalize JL (n:Int)=p at *;generalize QB (n:Int)=q at *;generalize (g == 0)=z at *;cases p <;> cases q <;> cases z <;> first | rfl | (exfalso;simp at *;done));done)
   have hge:=Jz hd hg
   subst hge
   have h2:(!(s == []) && decide (s.length<=24))=true:=by
    rw[<- hs0]
    by_cases h0:s.length=0
    . simp[h0]at h
    rw[beq_eq_false_iff_ne.2 (show(s.length:Int) ≠ 0 by omega)]at h
    simp at h
    simp only[Kd,Ko,Kt,beq_eq_false_iff_ne]
    omega
   rw[JH,ha,h2]
   rfl
 exact JU Tryz.f148 (B148 s) key (by kernel_rfl)
def spQ:Nat->List AV->Option AV
 | 148,[.str s]=>some (.bool (JH s))
 | 122,[.str s]=>some (.bool (JH s))
 | n,x=>spP n x
theorem c106(s:List UInt8)(hs:s.length<=1000000):P0 106 [.str s] (.i (Jk (!JH s) 8)):=by
 have key :
  P0 148 [AV.str s] (AV.bool (JH s))/\P0 94 [AV.bool !JH s,AV.i 8] (AV.i (Jk (!JH s) (8:Int)))/\AV.i (Jk (!JH s) (8:Int))=AV.i (Jk (!JH s) (8:Int)):=by
   exact⟨c148 s hs,c94 _ _,rfl⟩
 exact JU Tryz.f106 (mkB spQ 106 [] QJ) key (by kernel_rfl)
end Go.Proofs.YtjhjmncjidbieaaGreatDoor
