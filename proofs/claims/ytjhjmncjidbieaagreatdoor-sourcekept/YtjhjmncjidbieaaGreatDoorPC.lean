/-
  What chapter 2's checks of types return. What chapter 2's checks of settings and of types return. What chapter 2's Flown returns. What the source's checks of settings return. What chapter 2's checks of a type return. No condition but the theorems' own.
-/
import Derived.Test.YtjhjmncjidbieaaGreatDoorPB
import Derived.Test.YtjhjmncjidbieaaGreatDoorAvD
namespace Go.Proofs.YtjhjmncjidbieaaGreatDoor
open Go Go.Av Go.RowKit
structure Sg where
 p:Int
 e:List Int
 deriving Inhabited
structure Ty where
 name:List UInt8
 sh:List Int
 d0:Int
 d1:Int
 d2:Int
 d3:Int
 d4:Int
 d5:Int
 d6:Int
 d7:Int
 side:Int
 sq:List Int
 st:List Sg
 deriving Inhabited
def Ji(s:Sg):List AV:=[.i s.p,.sl 1 (s.e.map Jh)]
def Ty.dir(t:Ty):List Int:=[t.d0,t.d1,t.d2,t.d3,t.d4,t.d5,t.d6,t.d7]
def Jf(t:Ty):List AV:=[.str t.name,.sl 1 (t.sh.map Jh),.i t.d0,.i t.d1,.i t.d2,.i t.d3,.i t.d4,.i t.d5,.i t.d6,.i t.d7,.i t.side,.sl 1 (t.sq.map Jh),.sl 2 (t.st.map Ji)]
def cI(rows:List (List AV))(i:Nat):Int:=match nth (Jn rows i) 0 with
 | .int _ n=>n
 | _=>0
def rdJ:List AV->Option AV
 | [.elt _ rows i _]=>some (.i (cI rows i))
 | _=>none
theorem Qb(l:List Int)(i:Nat):cI (l.map Jh) i=l.getD i default:=by
 unfold cI Jn
 rw[Ka,Ka,Kk]
 cases l[i]? <;> rfl
theorem V2{l:List Int}{i:Nat}(h:i < l.length):nth (Jn (l.map Jh) i) 0=.i (cI (l.map Jh) i):=by
 rw[Qb,Jq Jh h]
 rfl
def Jkc(r k:Nat)(f:An->An)(B:BA):BA:={ B with ra:=fun i=>if i.beq r then { B.ra i with ans:=setA f k (B.ra i).ans }else B.ra i }
def Jo2(l:List Int):Int:=JbA l l.length
def WB(l:List Int)(i:Nat):Bool:=if i=0 then l.getD i default != 0 else decide (l.getD i default<=l.getD (i-1) default)
def fSq(l:List Int)(i:Nat):Int:=if WB l i then 11 else 0
theorem fSq_z(l:List Int)(i:Nat):fSq l i=0 ↔ WB l i=false:=by
 unfold fSq
 cases WB l i <;> simp
theorem JqT(l:List Int){i:Nat}(h:i ≠ 0):WB l i=decide (l.getD i default<=l.getD (i-1) default):=by rw[WB,if_neg h]
theorem UE{g:Nat}(h:g ≠ 0):(Q0 (0:Int) ((g:Int)-1)).toNat=g-1:=by
 unfold Q0
 split <;> omega
theorem Ue{g n:Nat}(h:g < n):0<=Q0 (0:Int) ((g:Int)-1)/\Q0 (0:Int) ((g:Int)-1) < n:=by
 unfold Q0
 split <;> omega
def JP(l:List Int):Int:=sLS (Jb [Jk ((l.length:Int) == 0) 12,Jk (decide ((l.length:Int) > 8)) 5,Jb (l.map fun x=>Jc x 0 100000000000)]) (fSq l) l.length 0
def spR:Nat->List AV->Option AV
 | 106,[.str s]=>some (.i (Jk (!JH s) 8))
 | n,x=>spQ n x
def sp109(l:List Int):Nat->List AV->Option AV
 | 108,_=>some (.i (Jb (l.map fun x=>Jc x 0 100000000000)))
 | n,x=>spR n x
def la109(l:List Int):LA:={
 pre:=[.keep [0,4] [],.bound 1],post:=[.keep [0,4] [],.bound 1]
 Gh:=Nat
 st:=fun i=>⟨[(0,.sl 1 (l.map Jh)),(4,.i i)],[],1⟩
 ok:=fun i=>i<=l.length/\∀ k,k < i->fSq l k=0
 ms:=fun i=>l.length-i }
abbrev Jex(l:List Int):=List.map Jh l
abbrev Jht(l:List Int):=((Jex l).length:Int)
abbrev Z13u(l:List Int):=Jk ((Jht l) == 0) (12:Int)
abbrev Z13r(l:List Int):=Jk (decide ((Jht l) > 8)) (5:Int)
abbrev Z13h(l:List Int):=Jb (List.map (fun(x:Int)=>Jc x (0:Int) (100000000000:Int)) l)
abbrev Z13a(l:List Int):=[hdI [AV.i (Z13u l)],hdI [AV.i (Z13r l)],hdI [AV.i (Z13h l)]]
abbrev JqF(g:Nat):=(g:Int)-1
abbrev JuE(g:Nat):=Q0 (0:Int) (JqF g)
abbrev Z13l(l:List Int)(g:Nat):=cI (Jex l) (g:Int).toNat<=cI (Jex l) (JuE g).toNat
abbrev Z13j(g':Nat)(l:List Int):=(g'<=l.length/\∀ (k:Nat),k < g'->fSq l k=(0:Int))
abbrev Z13p(l:List Int)(g:Nat):=[(0,AV.sl 1 (Jex l)),(4,AV.i ((g:Int)+1))]
abbrev Z13t(l:List Int)(g':Nat):=[(0,AV.sl 1 (Jex l)),(4,AV.i (g':Int))]
abbrev Z13c(l:List Int)(g:Nat):=(decide (Z13l l g)=false->Jg ((g:Int)+1)/\∃ (g':Nat),(Z13j g' l)/\l.length-g' < l.length-g/\AS.mk (Z13p l g) [] 1=AS.mk (Z13t l g') [] 1)
abbrev Z13d(g:Nat)(l:List Int):=(false=false->Jg ((g:Int)+1)/\∃ (g':Nat),(Z13j g' l)/\l.length-g' < l.length-g/\AS.mk (Z13p l g) [] 1=AS.mk (Z13t l g') [] 1)
abbrev Z13f(g:Nat)(l:List Int):=(true=false->Jg ((g:Int)+1)/\∃ (g':Nat),(Z13j g' l)/\l.length-g' < l.length-g/\AS.mk (Z13p l g) [] 1=AS.mk (Z13t l g') [] 1)
abbrev JuD:=false=true->false=true
abbrev JuC(l:List Int)(g:Nat):=cI (Jex l) (g:Int).toNat != 0
abbrev JuB(l:List Int)(g:Nat):=Jn (Jex l) (g:Int).toNat
abbrev JoN(g:Nat):=(g:Int) == 0
abbrev JuA(l:List Int)(g:Nat):=cI (Jex l) (g:Int).toNat
abbrev JoM(g:Nat):=(g:Int) > 0
theorem c109(l:List Int)(hl:l.length<=1000):P0 109 [.sl 1 (l.map Jh)] (.i (JP l)):=by
 have key :
  P0 94 [AV.bool ((Jht l) == 0),AV.i 12] (AV.i (Z13u l))/\P0 94 [AV.bool (decide ((Jht l) > 8)),AV.i 5] (AV.i (Z13r l))/\P0 108 [AV.sl 1 (Jex l),AV.i 0,AV.i 100000000000] (AV.i (Z13h l))/\P0 93 [AV.sl 1 [[AV.i (Z13u l)],
  [AV.i (Z13r l)],[AV.i (Z13h l)]]] (AV.i (Jb (Z13a l)))/\((Jb (Z13a l) != 0)=true->AV.i (Jb (Z13a l))=AV.i (JP l))/\((Jb (Z13a l) != 0)=false->(∃ (g:Nat),(g<=l.length/\∀ (k:Nat),k < g->fSq l
  k=(0:Int))/\AS.mk [(0,AV.sl 1 (Jex l)),(4,AV.i 0)] [] 1=AS.mk [(0,AV.sl 1 (Jex l)),(4,AV.i (g:Int))] [] 1)/\∀ (g:Nat),(g<=l.length/\∀ (k:Nat),k < g->fSq l k=(0:Int))->(decide ((g:Int) < (Jht l))
  = true->((JoN g)=true->((JuC l g)=true->(0:Int)<=(g:Int)/\(g:Int) < (Jht l)/\(true=false->false=true)/\AV.bool (JoN g)=AV.bool true/\nth (JuB l g) 0=AV.i (JuA l g)/\AV.bool (JuC l g)=AV.bool
  true/\(true=true->AV.i 11=AV.i (JP l))/\(Z13f g l))/\((JuC l g)=false->(decide (JoM g)=true->(0:Int)<=(g:Int)/\(g:Int) < (Jht l)/\(0:Int)<=(g:Int)/\(g:Int) < (Jht l)/\Jg (JqF g)/\(0
  : Int)<=Q0 (0:Int) (JqF g)/\Q0 (0:Int) (JqF g) < (Jht l)/\AV.bool (JoN g)=AV.bool true/\nth (JuB l g) 0=AV.i (JuA l g)/\AV.bool (JuC l g)=AV.bool false/\AV.bool (decide (JoM g))=AV.bool true/\nth
  (JuB l g) 0=AV.i (JuA l g)/\nth (Jn (Jex l) (JuE g).toNat) 0=AV.i (cI (Jex l) (JuE g).toNat)/\(decide (Z13l l g)=true->AV.i 11=AV.i (JP l))/\(Z13c l g))/\(decide (JoM g)=false->(0:Int)<=(g:Int)
  /\ (g:Int) < (Jht l)/\JuD/\AV.bool (JoN g)=AV.bool true/\nth (JuB l g) 0=AV.i (JuA l g)/\AV.bool (JuC l g)=AV.bool false/\AV.bool (decide (JoM g))=AV.bool false/\(false=true->AV.i 11=AV.i (JP l)) /\
  (Z13d g l))))/\((JoN g)=false->(false=true->JuD/\(true=false->false=true)/\AV.bool (JoN g)=AV.bool false/\AV.bool false=AV.bool true/\(true=true->AV.i 11=AV.i (JP l))/\(Z13f g l))/\(false=false
  → (decide (JoM g)=true->JuD/\(0:Int)<=(g:Int)/\(g:Int) < (Jht l)/\Jg (JqF g)/\(0:Int)<=Q0 (0:Int) (JqF g)/\Q0 (0:Int) (JqF g) < (Jht l)/\AV.bool (JoN g)=AV.bool false/\AV.bool false =
  AV.bool false/\AV.bool (decide (JoM g))=AV.bool true/\nth (JuB l g) 0=AV.i (JuA l g)/\nth (Jn (Jex l) (JuE g).toNat) 0=AV.i (cI (Jex l) (JuE g).toNat)/\(decide (Z13l l g)=true->AV.i 11=AV.i (JP l)) /\
  (Z13c l g))/\(decide (JoM g)=false->JuD/\JuD/\AV.bool (JoN g)=AV.bool false/\AV.bool false=AV.bool false/\AV.bool (decide (JoM g))=AV.bool false/\(false=true->AV.i 11=AV.i (JP l))/\(Z13d g l))))) /\
  (decide ((g:Int) < (Jht l))=false->AV.i 0=AV.i (JP l))):=by
   delta Z13a Jex Z13c Z13d Jht Z13f JuE Z13h JuD Z13j JuC Z13l JuB JoN JuA Z13p JoM Z13r JqF Z13t Z13u
   simp only[Kb]
   refine⟨c94 _ _,c94 _ _,c108 l 0 100000000000 (by omega),c93 [_,_,_] (by simp),fun h=>?_,fun h=>⟨⟨0,⟨by omega,by intros;omega⟩,rfl⟩,fun g ⟨hg,ha⟩=>⟨fun hd=>?_,fun hd=>?_⟩⟩⟩
   . exact congrArg AV.i (Xs (f:=fSq l) (n:=l.length) (fin:=0) h).symm
   . have hlt:=Js hd
     have hm:=Ue hlt
     have h':(Jb [Jk ((l.length:Int) == 0) 12,Jk (decide ((l.length:Int) > 8)) 5,Jb (l.map fun x=>Jc x 0 100000000000)] != 0)=false:=h
     have hF:WB l g=true->AV.i 11=AV.i (JP l):=fun hb=>by
      have e:fSq l g=11:=by rw[fSq,if_pos hb]
      rw[JP,UF (f:=fSq l) h' hd ha (by rw[e];decide),e]
     have hN:WB l g=false->∃ (g':Nat),(g'<=l.length/\∀ (k:Nat),k < g'->fSq l k=0)/\l.length-g' < l.length-g /\
      AS.mk [(0,AV.sl 1 (List.map Jh l)),(4,AV.i ((g:Int)+1))] [] 1=AS.mk [(0,AV.sl 1 (List.map Jh l)),(4,AV.i (g':Int))] [] 1:=fun hb =>
      ⟨g+1,⟨hlt,Ve ha (by rw[(fSq_z l g).2 hb];rfl)⟩,by omega,rfl⟩
     have h64:Jg ((g:Int)+1):=by unfold Jg;omega
     have h65:Jg ((g:Int)-1):=by unfold Jg;omega
     have hat:nth (Jn (List.map Jh l) ((g:Int)).toNat) 0=AV.i (cI (List.map Jh l) ((g:Int)).toNat):=V2 hlt
     have hat2:nth (Jn (List.map Jh l) (Q0 0 ((g:Int)-1)).toNat) 0=AV.i (cI (List.map Jh l) (Q0 0 ((g:Int)-1)).toNat):=V2 (by omega)
     have hsb:WB l g=if((g:Int) == 0)=true then cI (List.map Jh l) ((g:Int)).toNat != 0 else decide (cI (List.map Jh l) ((g:Int)).toNat<=cI (List.map Jh l) (Q0 0 ((g:Int)-1)).toNat):=by
      rw[Qb,Qb]
      by_cases e0:g=0
      . subst e0;rfl
      rw[if_neg (by simp;omega),JqT l e0,UE e0];rfl
     rw[hsb]at hF hN
     clear hsb ha h h' hd hl hg
     obtain⟨_,_⟩:=h64
     obtain⟨_,_⟩:=h65
     generalize JP l=sq at hF ⊢
     generalize cI (List.map Jh l) ((g:Int)).toNat=c at hF hN hat ⊢
     generalize cI (List.map Jh l) (Q0 0 ((g:Int)-1)).toNat=c2 at hF hN hat2 ⊢
     repeat' (first | apply And.intro | (intro h;cases h;done) | intro _)
     all_goals try first
      | omega
      | (unfold Jg;omega)
      | rfl
      | exact hat
      | exact hat2
      | exact congrArg AV.bool (by assumption)
      | (refine hF ?_;rw[if_pos (by assumption)];assumption)
      | (refine hN ?_;rw[if_pos (by assumption)];assumption)
      | (refine hF ?_;rw[if_neg (by simp only[*];decide)];assumption)
      | (refine hN ?_;rw[if_neg (by simp only[*];decide)];assumption)
      | (exfalso;clear hF hN hat hat2;simp only[beq_iff_eq,Ko,decide_eq_false_iff_not,beq_eq_false_iff_ne,ne_eq]at *;omega)
      | (refine hN ?_;rw[if_pos (by assumption)];assumption)
   exact congrArg AV.i (UG (f:=fSq l) h hd hg ha).symm
 exact JU Tryz.f109 ({ mkB (sp109 l) 109 [(7,6,Jat [rdJ]),(7,16,Jat [rdJ]),(7,22,Jat [rdJ])] (fun i=>if i.beq 0 then some (la109 l)else none)with split:=fun i=>if i.beq 7 then 1 else 0 }) key (by kernel_rfl)
def sp107(l:List Int):Nat->List AV->Option AV
 | 108,_=>some (.i (Jb (l.map fun x=>Jc x 0 1000)))
 | n,x=>spR n x
def Jca(l:List Int):Nat->Int
 | 0=>0
 | i+1=>Jca l i+l.getD i default
theorem U2{l:List Int}{B:Int}(h:∀ k,k < l.length->0<=l.getD k default/\l.getD k default<=B):∀ i,i<=l.length->0<=Jca l i/\Jca l i<=B * i
 | 0,_=>by simp[Jca]
 | i+1,hi=>by
  have:=U2 h i (by omega)
  have:=h i hi
  simp only[Jca]
  rw[Int.natCast_add,Int.mul_add]
  omega
theorem QE{l:List Int}{lo hi:Int}(h:Jb (l.map fun x=>Jc x lo hi)=0):∀ k,k < l.length->lo<=l.getD k default/\l.getD k default<=hi:=by
 induction l with
 | nil=>intro k hk;simp at hk
 | cons x l ih =>
  simp only[List.map_cons,Jd,within_zero]at h
  intro k hk
  cases k with
  | zero=>exact h.1
  | succ k =>
   have:=ih h.2 k (by simpa using hk)
   simpa using this
def la107(l:List Int):LA:={
 pre:=[.keep [0,4,5] [],.bound 1],post:=[.keep [0,4,5] [],.bound 1]
 Gh:=Nat
 st:=fun i=>⟨[(0,.sl 1 (l.map Jh)),(4,.i (Jca l i)),(5,.i i)],[],1⟩
 ok:=fun i=>i<=l.length
 ms:=fun i=>l.length-i }
def QS(l:List Int):Int:=if Jb [Jk ((l.length:Int) == 0) 12,Jk (decide ((l.length:Int) > 8)) 5,Jb (l.map fun x=>Jc x 0 1000)] != 0 then Jb [Jk ((l.length:Int) == 0) 12,Jk (decide ((l.length:Int) > 8)) 5,Jb (l.map fun x=>Jc x 0 1000)]else Jk (Jca l l.length != 1000) 1
abbrev Jl0(l:List Int):=List.map Jh l
abbrev JqE(l:List Int):=((Jl0 l).length:Int)
abbrev Z14f(l:List Int):=Jk ((JqE l) == 0) (12:Int)
abbrev Z14e(l:List Int):=Jk (decide ((JqE l) > 8)) (5:Int)
abbrev Z14c(l:List Int):=Jb (List.map (fun(x:Int)=>Jc x (0:Int) (1000:Int)) l)
abbrev Z14a(l:List Int):=[hdI [AV.i (Z14f l)],hdI [AV.i (Z14e l)],hdI [AV.i (Z14c l)]]
theorem c107(l:List Int)(hl:l.length<=1000):P0 107 [.sl 1 (l.map Jh)] (.i (QS l)):=by
 have key :
  P0 94 [AV.bool ((JqE l) == 0),AV.i 12] (AV.i (Z14f l))/\P0 94 [AV.bool (decide ((JqE l) > 8)),AV.i 5] (AV.i (Z14e l))/\P0 108 [AV.sl 1 (Jl0 l),AV.i 0,AV.i 1000] (AV.i (Z14c l))/\P0 93 [AV.sl 1 [[AV.i (Z14f l)],[AV.i
  (Z14e l)],[AV.i (Z14c l)]]] (AV.i (Jb (Z14a l)))/\((Jb (Z14a l) != 0)=true->AV.i (Jb (Z14a l))=AV.i (QS l))/\((Jb (Z14a l) != 0)=false->(∃ (g:Nat),g<=l.length/\AS.mk [(0,AV.sl 1 (Jl0 l)),(4,
  AV.i 0),(5,AV.i 0)] [] 1=AS.mk [(0,AV.sl 1 (Jl0 l)),(4,AV.i (Jca l g)),(5,AV.i (g:Int))] [] 1)/\∀ (g:Nat),g<=l.length->(decide ((g:Int) < (JqE l))=true->(0:Int)<=(g:Int)/\(g:Int) < (JqE l) /\
  Jg (Jca l g+cI (Jl0 l) (g:Int).toNat)/\nth (Jn (Jl0 l) (g:Int).toNat) 0=AV.i (cI (Jl0 l) (g:Int).toNat)/\Jg ((g:Int)+1)/\∃ (g':Nat),g'<=l.length/\l.length-g' < l.length-g/\AS.mk [(0,AV.sl 1
  (Jl0 l)),(4,AV.i (Jca l g+cI (Jl0 l) (g:Int).toNat)),(5,AV.i ((g:Int)+1))] [] 1=AS.mk [(0,AV.sl 1 (Jl0 l)),(4,AV.i (Jca l g')),(5,AV.i (g':Int))] [] 1)/\(decide ((g:Int) < (JqE l))=false->P0 94
  [AV.bool (Jca l g != 1000),AV.i 1] (AV.i (Jk (Jca l g != 1000) (1:Int)))/\AV.i (Jk (Jca l g != 1000) (1:Int))=AV.i (QS l))):=by
   delta Z14a JqE Z14c Jl0 Z14e Z14f
   simp only[Kb]
   refine⟨c94 _ _,c94 _ _,c108 l 0 1000 (by omega),c93 [_,_,_] (by simp),fun h=>?_,fun h=>⟨⟨0,by omega,rfl⟩,fun g hg=>⟨fun hd=>?_,fun hd=>?_⟩⟩⟩
   . exact congrArg AV.i (if_pos h).symm
   . have hlt:=Js hd
     have h0:Jb [Jk ((l.length:Int) == 0) 12,Jk (decide ((l.length:Int) > 8)) 5,Jb (l.map fun x=>Jc x 0 1000)]=0:=UU h
     simp only[Jd]at h0
     have hb:=QE h0.2.2.1
     have h1:=U2 hb g (by omega)
     have h2:=hb g hlt
     simp only[Km,Qb]
     exact⟨by omega,by omega,by unfold Jg;omega,by rw[V2 hlt,Qb],by unfold Jg;omega,g+1,hlt,by omega,rfl⟩
   have hge:=Jz hd hg
   subst hge
   refine⟨c94 _ _,?_⟩
   rw[QS,if_neg]
   have:(Jb [Jk ((l.length:Int) == 0) 12,Jk (decide ((l.length:Int) > 8)) 5,Jb (l.map fun x=>Jc x 0 1000)] != 0)=false:=h
   rw[this]
   decide
 exact JU Tryz.f107 (mkB (sp107 l) 107 [(8,4,Jat [rdJ])] (fun i=>if i.beq 0 then some (la107 l)else none)) key (by kernel_rfl)
def la25(t:Ty):LA:={
 pre:=[.keep [1,3] [],.bound 1],post:=[.keep [1,3] [],.bound 1]
 Gh:=Nat
 st:=fun i=>⟨[(1,.elt 13 [Jf t] 0 0),(3,.i i)],[],1⟩
 ok:=fun i=>i<=t.st.length/\∀ k,k < i->(t.st.getD k default).e.length<=9
 ms:=fun i=>t.st.length-i }
def Qg(t:Ty):Bool:=(t.st.all fun s=>decide (s.e.length<=9)) && (decide (t.name.length<=40) && (decide (t.sh.length<=9) && (decide (t.sq.length<=9) && decide (t.st.length<=7))))
abbrev JiC:=false=true->false=true
abbrev JoL(t:Ty):=((List.map Jh t.sq).length:Int)<=9
abbrev Z15h(t:Ty):=(t.name.length:Int)<=40
abbrev JoK(t:Ty):=decide (Z15h t)
abbrev Jtp(t:Ty):=((List.map Jh t.sh).length:Int)<=9
abbrev Z15e(t:Ty):=((List.map Ji t.st).length:Int)
abbrev Z15f(t:Ty)(g:Nat):=List.map Jh (t.st.getD (g:Int).toNat default).e
abbrev Z15g(g:Nat)(t:Ty):=(g<=t.st.length/\∀ (k:Nat),k < g->(t.st.getD k default).e.length<=9)
abbrev Z15i(t:Ty):=decide ((Z15e t)<=7)
theorem c25(t:Ty)(hl:t.st.length<=9223372036854775807):P0 25 [.agg (Jf t)] (.bool (Qg t)):=by
 have key :
  (∃ (g:Nat),(Z15g g t)/\AS.mk [(1,AV.elt 13 [(Jf t)] 0 0),(3,AV.i 0)] [] 1=AS.mk [(1,AV.elt 13 [(Jf t)] 0 0),(3,AV.i (g:Int))] [] 1)/\∀ (g:Nat),(Z15g g t)->(decide ((g:Int) < (Z15e t))=true->(0:Int)
  ≤ (g:Int)/\(g:Int) < (Z15e t)/\nth (Jn (List.map Ji t.st) (g:Int).toNat) 1=AV.sl 1 (Z15f t g)/\(decide (((Z15f t g).length:Int) > 9)=true->AV.bool false=AV.bool (Qg t))/\(decide ((↑(Z15f t g).length
  : Int) > 9)=false->Jg ((g:Int)+1)/\∃ (g':Nat),(g'<=t.st.length/\∀ (k:Nat),k < g'->(t.st.getD k default).e.length<=9)/\t.st.length-g' < t.st.length-g/\AS.mk [(1,AV.elt 13 [(Jf t)] 0 0),(3,AV.i ((↑g :
  Int)+1))] [] 1=AS.mk [(1,AV.elt 13 [(Jf t)] 0 0),(3,AV.i (g':Int))] [] 1))/\(decide ((g:Int) < (Z15e t))=false->(decide (Z15h t)=true->(decide (Jtp t)=true->(decide (JoL t)=true->AV.bool (JoK t) =
  AV.bool true/\AV.bool (decide (Jtp t))=AV.bool true/\AV.bool (decide (JoL t))=AV.bool true/\AV.bool (Z15i t)=AV.bool (Qg t))/\(decide (JoL t)=false->JiC/\AV.bool (JoK t)=AV.bool true/\AV.bool (decide (Jtp
  t))=AV.bool true/\AV.bool (decide (JoL t))=AV.bool false/\AV.bool false=AV.bool (Qg t)))/\(decide (Jtp t)=false->(false=true->JiC/\AV.bool (JoK t)=AV.bool true/\AV.bool (decide (Jtp t))=AV.bool false /\
  AV.bool false=AV.bool true/\AV.bool (Z15i t)=AV.bool (Qg t))/\(false=false->JiC/\JiC/\AV.bool (JoK t)=AV.bool true/\AV.bool (decide (Jtp t))=AV.bool false/\AV.bool false=AV.bool false/\AV.bool false =
  AV.bool (Qg t))))/\(decide (Z15h t)=false->(false=true->(decide (JoL t)=true->JiC/\AV.bool (JoK t)=AV.bool false/\AV.bool false=AV.bool true/\AV.bool (decide (JoL t))=AV.bool true/\AV.bool (Z15i t) =
  AV.bool (Qg t))/\(decide (JoL t)=false->JiC/\JiC/\AV.bool (JoK t)=AV.bool false/\AV.bool false=AV.bool true/\AV.bool (decide (JoL t))=AV.bool false/\AV.bool false=AV.bool (Qg t)))/\(false=false →
  (false=true->JiC/\JiC/\AV.bool (JoK t)=AV.bool false/\AV.bool false=AV.bool false/\AV.bool false=AV.bool true/\AV.bool (Z15i t)=AV.bool (Qg t))/\(false=false->JiC/\JiC/\JiC/\AV.bool (JoK t) =
  AV.bool false/\AV.bool false=AV.bool false/\AV.bool false=AV.bool false/\AV.bool false=AV.bool (Qg t))))):=by
   delta JiC JoL JoK Jtp Z15e Z15f Z15g Z15h Z15i
   refine⟨⟨0,⟨by omega,by intros;omega⟩,rfl⟩,fun g ⟨hg,ha⟩=>⟨fun hd=>?_,fun hd=>?_⟩⟩
   . have hlt:g < t.st.length:=by simpa using hd
     refine⟨by omega,by rw[Kb];omega,by rw[Jq Ji (by simpa using hlt)];rfl,fun h=>?_,fun h=>⟨by unfold Jg;omega,g+1,⟨hlt,fun k hk=>?_⟩,by omega,rfl⟩⟩
     . have h9:¬ (t.st.getD g default).e.length<=9:=by
        have h:=h
        simp only[Kb,Ko,Km]at h
        omega
       have:(t.st.all fun s=>decide (s.e.length<=9))=false:=by
        refine List.all_eq_false.2 ⟨t.st.getD g default,?_,by simpa using h9⟩
        rw[Ka,Kj hlt]
        exact List.getElem_mem _
       rw[Qg,this]
       rfl
     by_cases e:k=g
     . subst e
       simp only[Kb,decide_eq_false_iff_not,Km]at h
       omega
     exact ha k (by omega)
   have hge:g=t.st.length:=by simp at hd;omega
   have hall:(t.st.all fun s=>decide (s.e.length<=9))=true:=by
    refine List.all_eq_true.2 fun s hs=>?_
    obtain⟨k,hk,rfl⟩:=List.getElem_of_mem hs
    have:=ha k (by omega)
    rw[Ka,Kj hk]at this
    simpa using this
   have hS:Qg t=(decide ((t.name.length:Int)<=40) && (decide (((t.sh.map Jh).length:Int)<=9) && (decide (((t.sq.map Jh).length:Int)<=9) && decide (((t.st.map Ji).length:Int)<=7)))):=by
    rw[Qg,hall,Bool.true_and,Kb,Kb,Kb]
    congr 1
    . exact decide_eq_decide.2 (by omega)
    congr 1
    . exact decide_eq_decide.2 (by omega)
    congr 1
    . exact decide_eq_decide.2 (by omega)
    exact decide_eq_decide.2 (by omega)
   rw[hS]
   clear hS hall ha hd hl hg hge
   generalize decide ((t.name.length:Int)<=40)=a
   generalize decide (((t.sh.map Jh).length:Int)<=9)=b
   generalize decide (((t.sq.map Jh).length:Int)<=9)=c
   generalize decide (((t.st.map Ji).length:Int)<=7)=d
   cases a <;> cases b <;> cases c <;> cases d <;> simp
 exact JU Tryz.f25 ({ mkB spR 25 [(4,5,rdL 2 Ji t.st 1 false)] (fun i=>if i.beq 0 then some (la25 t)else none)with split:=fun i=>if i.beq 6 then 1 else 0 }) key (by kernel_rfl)
def la58(t:Ty):LA:={
 pre:=[.reno 3 1,.reno 2 3,.ownb 1 12 117 2,.renc 1 12 2,.keep [1,2,3,4] [1,2,3],.bound 4],post:=[.renc 1 12 2,.keep [1,2,3,4] [1,2,3],.bound 4]
 Gh:=Nat
 st:=fun i=>⟨[(1,.elt 13 [Jf t] 0 0),(2,.ptr 3 0),(3,.ptr 1 0),(4,.i i)],[(1,.box [.str t.name,.sl 1 (t.sh.map Jh),.i t.d0,.i t.d1,.i t.d2,.i t.d3,.i t.d4,.i t.d5,.i t.d6,.i t.d7,.i t.side,.sl 1 (t.sq.map Jh),.own 2 ((t.st.take i).map Ji).length]),(2,.buf 117 2 ((t.st.take i).map Ji)),(3,.box [.str [],.ex (.slice none 0 0),.i 0,.i 0,.i 0,.i 0,.i 0,.i 0,.i 0,.i 0,.i 0,.ex (.slice none 0 0),.ex (.slice none 0 0)])],4⟩
 ok:=fun i=>i<=t.st.length
 ms:=fun i=>t.st.length-i }
abbrev JqD(t:Ty):=List.map Jh t.sh
abbrev JqC(t:Ty):=List.map Jh t.sq
abbrev Juz(t:Ty):=[AV.str t.name,AV.sl 1 (JqD t),AV.i t.d0,AV.i t.d1,AV.i t.d2,AV.i t.d3,AV.i t.d4,AV.i t.d5,AV.i t.d6,AV.i t.d7,AV.i t.side,AV.sl 1 (JqC t),AV.sl 2 (List.map Ji t.st)]
abbrev Z16b:=[AV.str [],AV.ex (Value.slice none 0 0),AV.i 0,AV.i 0,AV.i 0,AV.i 0,AV.i 0,AV.i 0,AV.i 0,AV.i 0,AV.i 0,AV.ex (Value.slice none 0 0),AV.ex (Value.slice none 0 0)]
abbrev Jto(t:Ty)(g:Nat):=t.st.getD (g:Int).toNat default
abbrev Jtn(g:Nat)(t:Ty):=List.map Ji (List.take g t.st)
abbrev Z16e(t:Ty):=((List.map Ji t.st).length:Int)
theorem c58(t:Ty)(hl:t.st.length<=1000)(h2:t.sh.length<=1000)(h3:t.sq.length<=1000)(h4:∀ s,s ∈ t.st->s.e.length<=1000):P0 58 [.agg (Jf t)] (.agg (Jf t)):=by
 have key :
  0+(JqD t).length<=9223372036854775807/\(0+(JqD t).length) * 8<=140737488355328/\0+(JqC t).length<=9223372036854775807/\(0+(JqC t).length) * 8<=140737488355328/\(∃ (g:Nat),g<=t.st.length/\AS.mk [(1,AV.elt
  13 [(Juz t)] 0 0),(2,AV.ptr 3 0),(3,AV.ptr 1 0),(4,AV.i 0)] [(1,ABlk.box [AV.str t.name,AV.sl 1 ([]++List.map Jh t.sh),AV.i t.d0,AV.i t.d1,AV.i t.d2,AV.i t.d3,AV.i t.d4,AV.i t.d5,AV.i t.d6,AV.i t.d7,AV.i
  t.side,AV.sl 1 ([]++List.map Jh t.sq),AV.own 2 0]),(2,ABlk.buf 117 2 []),(3,ABlk.box Z16b)] 4=AS.mk [(1,AV.elt 13 [(Juz t)] 0 0),(2,AV.ptr 3 0),(3,AV.ptr 1 0),(4,AV.i (g:Int))] [(1,ABlk.box [AV.str t.name,
  AV.sl 1 (JqD t),AV.i t.d0,AV.i t.d1,AV.i t.d2,AV.i t.d3,AV.i t.d4,AV.i t.d5,AV.i t.d6,AV.i t.d7,AV.i t.side,AV.sl 1 (JqC t),AV.own 2 (Jtn g t).length]),(2,ABlk.buf 117 2 (Jtn g t)),(3,ABlk.box Z16b)] 4)/\∀ (g :
  Nat),g<=t.st.length->(decide ((g:Int) < (Z16e t))=true->(0:Int)<=(g:Int)/\(g:Int) < (Z16e t)/\(0:Int)<=(g:Int)/\(g:Int) < (Z16e t)/\0+(List.map Jh (Jto t g).e).length<=9223372036854775807/\(0 +
  (List.map Jh (Jto t g).e).length) * 8<=140737488355328/\(Jtn g t).length+1<=9223372036854775807/\((Jtn g t).length+1) * 32<=140737488355328/\nth (Jn (List.map Ji t.st) (g:Int).toNat) 0=AV.i (Jto t g).p /\
  nth (Jn (List.map Ji t.st) (g:Int).toNat) 1=AV.sl 1 (List.map Jh (Jto t g).e)/\Jg ((g:Int)+1)/\∃ (g':Nat),g'<=t.st.length/\t.st.length-g' < t.st.length-g/\AS.mk [(1,AV.elt 13 [(Juz t)] 0 0),(2,
  AV.ptr 3 0),(3,AV.ptr 1 0),(4,AV.i ((g:Int)+1))] [(1,ABlk.box [AV.str t.name,AV.sl 1 (JqD t),AV.i t.d0,AV.i t.d1,AV.i t.d2,AV.i t.d3,AV.i t.d4,AV.i t.d5,AV.i t.d6,AV.i t.d7,AV.i t.side,AV.sl 1 (JqC t),AV.own
  2 ((Jtn g t).length+1)]),(2,ABlk.buf 117 2 (List.map Ji (List.take g t.st)++[[AV.i (Jto t g).p,AV.sl 1 ([]++List.map Jh (Jto t g).e)]])),(3,ABlk.box Z16b)] 4=AS.mk [(1,AV.elt 13 [(Juz t)] 0 0),(2,AV.ptr 3
  0),(3,AV.ptr 1 0),(4,AV.i (g':Int))] [(1,ABlk.box [AV.str t.name,AV.sl 1 (JqD t),AV.i t.d0,AV.i t.d1,AV.i t.d2,AV.i t.d3,AV.i t.d4,AV.i t.d5,AV.i t.d6,AV.i t.d7,AV.i t.side,AV.sl 1 (JqC t),AV.own 2 (List.map
  Ji (List.take g' t.st)).length]),(2,ABlk.buf 117 2 (List.map Ji (List.take g' t.st))),(3,ABlk.box Z16b)] 4)/\(decide ((g:Int) < (Z16e t))=false->AV.agg [AV.str t.name,AV.sl 1 (JqD t),AV.i t.d0,AV.i t.d1,AV.i
  t.d2,AV.i t.d3,AV.i t.d4,AV.i t.d5,AV.i t.d6,AV.i t.d7,AV.i t.side,AV.sl 1 (JqC t),AV.sl 2 (Jtn g t)]=AV.agg (Juz t)):=by
   delta Juz Z16b Jto Jtn Z16e JqD JqC
   simp only[Kb]
   refine⟨by omega,by omega,by omega,by omega,⟨0,by omega,rfl⟩,fun g hg=>⟨fun hd=>?_,fun hd=>?_⟩⟩
   . have hlt:=Js hd
     have hmem:t.st.getD g default ∈ t.st:=by
      rw[Ka,Kj hlt]
      exact List.getElem_mem _
     have h5:=h4 _ hmem
     simp only[Km]
     refine⟨by omega,by omega,by omega,by omega,by omega,by omega,by rw[Kg];omega,by rw[Kg];omega,by rw[Jq Ji hlt];rfl,by rw[Jq Ji hlt];rfl,by unfold Jg;omega,g+1,hlt,by omega,?_⟩
     have h6:=Xd Ji hlt
     simp only[Ji]at h6
     rw[show(t.st.take g).length+1=(t.st.take (g+1)).length by simp only[Kg];omega]
     simp only[List.nil_append,Ji]
     rw[h6]
     rfl
   rw[Jz hd hg,Ky]
 exact JU Tryz.f58 ({ Jkc 6 18 (fun a=>{ a with fz:=false }) (mkB spR 58 [(6,7,rdL 2 Ji t.st 1 false),(6,14,rdL 2 Ji t.st 1 false)] (fun i=>if i.beq 0 then some (la58 t)else none))with bx:=fun i=>if i.beq 0 then[.frzc 1 12]else[] }) key (by kernel_rfl)
def fzB(B:BA):BA:={ B with gs:=fun i=>(B.ra i).fz.map GS.frzo++B.gs i }
def Ty.sg(t:Ty)(i:Nat):Sg:=t.st.getD i default
def eAt(l:List Int)(k:Nat):Int:=l.getD k default
def up(l:List Int)(k:Nat):Bool:=if k=0 then false else decide (eAt l k > eAt l (k-1))
def JiK(t:Ty)(i k:Nat):Bool:=up (t.sg i).e k || (if i=0 then false else decide (eAt (t.sg i).e k < eAt (t.sg (i-1)).e k))
def UR(t:Ty)(i:Nat):Int:=Jb [Qd (t.sg i).p,Jk (if i=0 then false else decide ((t.sg i).p<=(t.sg (i-1)).p)) 11,Jk (((t.sg i).e.length:Int) != (t.sq.length:Int)) 2,Jb ((t.sg i).e.map fun x=>Jc x 0 100000000)]
def Q8(t:Ty)(i:Nat):Int:=sLS (UR t i) (fun k=>if JiK t i k then 21 else 0) (t.sg i).e.length 0
def Ug(t:Ty)(i:Nat):Int:=if i=0 then 0 else(t.sg (i-1)).p
def XM(t:Ty)(i:Nat):List Int:=if i=0 then List.replicate t.sq.length 0 else(t.sg (i-1)).e
def Jha(t:Ty)(i k:Nat):Bool:=up (t.sg i).e k || decide (eAt (t.sg i).e k < eAt (XM t i) k)
def WE(t:Ty)(i:Nat):Int:=Jb [Jc (t.sg i).p 1 100,Jk (decide ((t.sg i).p<=Ug t i)) 11,Jk (((t.sg i).e.length:Int) != (t.sq.length:Int)) 2,Qx (t.sg i).e 100000000]
def Jbl(t:Ty)(i:Nat):Int:=sLS (WE t i) (fun k=>if Jha t i k then 21 else 0) (t.sg i).e.length 0
theorem UN{a b d:Int}{x y:Nat}(h:Jb [a,b,Jk ((x:Int) != (y:Int)) 2,d]=0):x=y:=by
 have e:∀ z w,Jb (z::w)=if z ≠ 0 then z else Jb w:=fun _ _=>rfl
 rw[e,e,e]at h
 by_cases ha:a=0
 . rw[if_neg (by simp[ha])]at h
   by_cases hb:b=0
   . rw[if_neg (by simp[hb])]at h
     by_cases hx:x=y
     . exact hx
     have:((x:Int) != (y:Int))=true:=by rw[bne_iff_ne];omega
     rw[this,if_pos (show Jk true 2 ≠ 0 by decide)]at h
     exact absurd h (by decide)
   rw[if_pos hb]at h;exact absurd h hb
 rw[if_pos ha]at h;exact absurd h ha
theorem mk7{a b c d:AV}{x y:Int}(h:x=y):AS.mk [(1,a),(2,b),(5,c),(6,d),(7,AV.i x)] [] 1=AS.mk [(1,a),(2,b),(5,c),(6,d),(7,AV.i y)] [] 1:=by rw[h]
def sp110(t:Ty)(i:Nat):Nat->List AV->Option AV
 | 108,_=>some (.i (Jb ((t.sg i).e.map fun x=>Jc x 0 100000000)))
 | n,x=>spR n x
def la110(t:Ty)(i:Nat):LA:={
 pre:=[.keep [1,2,5,6,8] [],.bound 1],post:=[.keep [1,2,5,6,8] [],.bound 1]
 Gh:=Nat
 st:=fun k=>⟨[(1,.i i),(2,.elt 13 [Jf t] 0 0),(5,.elt 2 [Ji (t.sg i)] 0 0),(6,.elt 2 [Ji (t.sg (prv i))] 0 0),(8,.i k)],[],1⟩
 ok:=fun k=>k<=(t.sg i).e.length/\∀ j,j < k->JiK t i j=false
 ms:=fun k=>(t.sg i).e.length-k }
def cut110(t:Ty)(i:Nat):Nat->Option (AS->AS):=fun j=>if j.beq 2 then some (Jnw [1,2,5,6,7] [] 1 7 fun _=>.i (UR t i))else none
def gs110:Nat->List GS:=fun j=>if j.beq 1 then[.frzo 5,.frzo 6]else if j.beq 2 then[.keep [1,2,5,6,7] [],.bound 1]else[]
abbrev Jhs(t:Ty)(i:Nat):=List.map Jh (t.sg i).e
abbrev Z17E(t:Ty)(i:Nat):=[[AV.i (t.sg i).p,AV.sl 1 (Jhs t i)]]
abbrev JoJ(t:Ty)(i:Nat):=List.map Jh (t.sg (prv i)).e
abbrev Z17D(t:Ty)(i:Nat):=[[AV.i (t.sg (prv i)).p,AV.sl 1 (JoJ t i)]]
abbrev Z17a(i:Nat)(t:Ty)(g:Nat):=[(1,AV.i (i:Int)),(2,AV.elt 13 [(Jf t)] 0 0),(5,AV.elt 2 (Z17E t i) 0 0),(6,AV.elt 2 (Z17D t i) 0 0),(8,AV.i ((g:Int)+1))]
abbrev Z17b(i:Nat)(t:Ty)(g':Nat):=[(1,AV.i (i:Int)),(2,AV.elt 13 [(Jf t)] 0 0),(5,AV.elt 2 (Z17E t i) 0 0),(6,AV.elt 2 (Z17D t i) 0 0),(8,AV.i (g':Int))]
abbrev Jew(t:Ty)(i:Nat):=t.st.getD (i:Int).toNat default
abbrev Z17d(t:Ty)(i:Nat):=t.st.getD (Q0 (0:Int) ((i:Int)-1)).toNat default
abbrev Z17e(t:Ty)(i:Nat):=(↑(List.map Jh (Jew t i).e).length:Int) != ((List.map Jh t.sq).length:Int)
abbrev Jtl(t:Ty)(i:Nat):=Jb (List.map (fun(x:Int)=>Jc x (0:Int) (100000000:Int)) (t.sg i).e)
abbrev Z17w(t:Ty)(i:Nat)(g:Nat):=cI (Jhs t i) (g:Int).toNat < cI (JoJ t i) (g:Int).toNat
abbrev Z17k(g':Nat)(t:Ty)(i:Nat):=(g'<=(t.sg i).e.length/\∀ (j:Nat),j < g'->JiK t i j=false)
abbrev Z17h(t:Ty)(i:Nat)(g:Nat):=(decide (Z17w t i g)=false->Jg ((g:Int)+1)/\∃ (g':Nat),(Z17k g' t i)/\(t.sg i).e.length-g' < (t.sg i).e.length-g/\AS.mk (Z17a i t g) [] 1=AS.mk (Z17b i t g') [] 1)
abbrev JlY(g:Nat):=(g:Int)-1
abbrev JqB(g:Nat):=Q0 (0:Int) (JlY g)
abbrev Juw(t:Ty)(i:Nat)(g:Nat):=cI (Jhs t i) (g:Int).toNat > cI (Jhs t i) (JqB g).toNat
abbrev Juv(t:Ty)(i:Nat):=[AV.i (Jew t i).p,AV.sl 1 (List.map Jh (Jew t i).e)]
abbrev Juu(t:Ty)(i:Nat):=[AV.i (Z17d t i).p,AV.sl 1 (List.map Jh (Z17d t i).e)]
abbrev Z17y(t:Ty)(i:Nat):=Jk (decide ((Jew t i).p<=(Z17d t i).p)) (11:Int)
abbrev Jtm(t:Ty)(i:Nat):=Jk (Z17e t i) (2:Int)
abbrev Z17n(t:Ty)(i:Nat):=Jb [hdI [AV.i (Qd (Jew t i).p)],hdI [AV.i (Z17y t i)],hdI [AV.i (Jtm t i)],hdI [AV.i (Jtl t i)]]
abbrev Z17p(g:Nat)(t:Ty)(i:Nat):=(false=false->Jg ((g:Int)+1)/\∃ (g':Nat),(Z17k g' t i)/\(t.sg i).e.length-g' < (t.sg i).e.length-g/\AS.mk (Z17a i t g) [] 1=AS.mk (Z17b i t g') [] 1)
abbrev Z17q(g:Nat)(t:Ty)(i:Nat):=(true=false->Jg ((g:Int)+1)/\∃ (g':Nat),(Z17k g' t i)/\(t.sg i).e.length-g' < (t.sg i).e.length-g/\AS.mk (Z17a i t g) [] 1=AS.mk (Z17b i t g') [] 1)
abbrev JlZ(t:Ty)(i:Nat):=((Jhs t i).length:Int)
abbrev Jtk:=false=true->false=true
abbrev Z17F:=Jk false (11:Int)
abbrev Z17t(t:Ty)(i:Nat):=Jb [hdI [AV.i (Qd (Jew t i).p)],hdI [AV.i Z17F],hdI [AV.i (Jtm t i)],hdI [AV.i (Jtl t i)]]
abbrev Z17u(i:Nat)(t:Ty):=[(1,AV.i (i:Int)),(2,AV.elt 13 [(Jf t)] 0 0),(5,AV.elt 2 [(Juv t i)] 0 0),(6,AV.elt 2 [(Juu t i)] 0 0),(7,AV.i (UR t i))]
abbrev JiB(i:Nat):=(i:Int) > 0
abbrev Jtj(g:Nat):=decide ((g:Int) > 0)
abbrev Juy(t:Ty)(i:Nat)(g:Nat):=Jn (Jhs t i) (g:Int).toNat
abbrev Jux(t:Ty)(i:Nat)(g:Nat):=cI (Jhs t i) (g:Int).toNat
theorem c110(t:Ty)(i:Nat)(hi:i < t.st.length)(hn:t.st.length<=1000)(hl:(t.sg i).e.length<=1000)(hp:i ≠ 0->(t.sg i).e.length=t.sq.length->(t.sg i).e.length<=(t.sg (i-1)).e.length):P0 110 [.agg (Jf t),.i i] (.i (Q8 t i)):=by
 have key :
  (0:Int)<=(i:Int)/\(i:Int) < ((List.map Ji t.st).length:Int)/\Jg ((i:Int)-1)/\(0:Int)<=Q0 (0:Int) ((i:Int)-1)/\Q0 (0:Int) ((i:Int)-1) < ((List.map Ji t.st).length:Int)/\AV.agg
  (Jn (List.map Ji t.st) (i:Int).toNat)=AV.agg (Juv t i)/\AV.agg (Jn (List.map Ji t.st) (Q0 (0:Int) ((i:Int)-1)).toNat)=AV.agg (Juu t i)/\((decide (JiB i)=true->P0 44 [AV.i (Jew t i).p] (AV.i
  (Qd (Jew t i).p))/\AV.bool (decide (JiB i))=AV.bool true/\P0 94 [AV.bool (decide ((Jew t i).p<=(Z17d t i).p)),AV.i 11] (AV.i (Z17y t i))/\P0 94 [AV.bool (Z17e t i),AV.i 2] (AV.i (Jtm t i))/\P0 108 [AV.sl 1
  (List.map Jh (Jew t i).e),AV.i 0,AV.i 100000000] (AV.i (Jtl t i))/\P0 93 [AV.sl 1 [[AV.i (Qd (Jew t i).p)],[AV.i (Z17y t i)],[AV.i (Jtm t i)],[AV.i (Jtl t i)]]] (AV.i (Z17n t i))/\AS.mk [(1,AV.i (i:Int)),(2,
  AV.elt 13 [(Jf t)] 0 0),(5,AV.elt 2 [(Juv t i)] 0 0),(6,AV.elt 2 [(Juu t i)] 0 0),(7,AV.i (Z17n t i))] [] 1=AS.mk (Z17u i t) [] 1)/\(decide (JiB i)=false->Jtk/\P0 44 [AV.i (Jew t i).p] (AV.i (Qd (Jew t
  i).p))/\AV.bool (decide (JiB i))=AV.bool false/\P0 94 [AV.bool false,AV.i 11] (AV.i Z17F)/\P0 94 [AV.bool (Z17e t i),AV.i 2] (AV.i (Jtm t i))/\P0 108 [AV.sl 1 (List.map Jh (Jew t i).e),AV.i 0,AV.i 100000000] (AV.i
  (Jtl t i))/\P0 93 [AV.sl 1 [[AV.i (Qd (Jew t i).p)],[AV.i Z17F],[AV.i (Jtm t i)],[AV.i (Jtl t i)]]] (AV.i (Z17t t i))/\AS.mk [(1,AV.i (i:Int)),(2,AV.elt 13 [(Jf t)] 0 0),(5,AV.elt 2 [(Juv t i)] 0 0),(6,
  AV.elt 2 [(Juu t i)] 0 0),(7,AV.i (Z17t t i))] [] 1=AS.mk (Z17u i t) [] 1))/\((UR t i != 0)=true->AV.i (UR t i)=AV.i (Q8 t i))/\((UR t i != 0)=false->(∃ (g:Nat),(g<=(t.sg i).e.length/\∀ (j:Nat),j
  < g->JiK t i j=false)/\AS.mk [(1,AV.i (i:Int)),(2,AV.elt 13 [(Jf t)] 0 0),(5,AV.elt 2 [(Juv t i)] 0 0),(6,AV.elt 2 [(Juu t i)] 0 0),(8,AV.i 0)] [] 1=AS.mk [(1,AV.i (i:Int)),(2,AV.elt 13 [(Jf t)] 0
  0),(5,AV.elt 2 (Z17E t i) 0 0),(6,AV.elt 2 (Z17D t i) 0 0),(8,AV.i (g:Int))] [] 1)/\∀ (g:Nat),(g<=(t.sg i).e.length/\∀ (j:Nat),j < g->JiK t i j=false)->(decide ((g:Int) < (JlZ t i))=true->(decide ((↑g
  : Int) > 0)=true->(decide (Juw t i g)=true->(0:Int)<=(g:Int)/\(g:Int) < (JlZ t i)/\Jg (JlY g)/\(0:Int)<=Q0 (0:Int) (JlY g)/\Q0 (0:Int) (JlY g) < (JlZ t i)/\(true=false->false=true) /\
  AV.bool (Jtj g)=AV.bool true/\nth (Juy t i g) 0=AV.i (Jux t i g)/\nth (Jn (Jhs t i) (JqB g).toNat) 0=AV.i (cI (Jhs t i) (JqB g).toNat)/\AV.bool (decide (Juw t i g))=AV.bool true/\(true=true->AV.i 21=AV.i
  (Q8 t i))/\(Z17q g t i))/\(decide (Juw t i g)=false->(decide (JiB i)=true->(0:Int)<=(g:Int)/\(g:Int) < (JlZ t i)/\Jg (JlY g)/\(0:Int)<=Q0 (0:Int) (JlY g)/\Q0 (0:Int) (JlY g) < (JlZ t i) /\
  (0:Int)<=(g:Int)/\(g:Int) < (JlZ t i)/\(0:Int)<=(g:Int)/\(g:Int) < ((JoJ t i).length:Int)/\AV.bool (Jtj g)=AV.bool true/\nth (Juy t i g) 0=AV.i (Jux t i g)/\nth (Jn (Jhs t i) (JqB g).toNat) 0
  = AV.i (cI (Jhs t i) (JqB g).toNat)/\AV.bool (decide (Juw t i g))=AV.bool false/\AV.bool (decide (JiB i))=AV.bool true/\nth (Juy t i g) 0=AV.i (Jux t i g)/\nth (Jn (JoJ t i) (g:Int).toNat) 0=AV.i (cI (JoJ t
  i) (g:Int).toNat)/\(decide (Z17w t i g)=true->AV.i 21=AV.i (Q8 t i))/\(Z17h t i g))/\(decide (JiB i)=false->(0:Int)<=(g:Int)/\(g:Int) < (JlZ t i)/\Jg (JlY g)/\(0:Int)<=Q0 (0:Int) (JlY g) /\
  Q0 (0:Int) (JlY g) < (JlZ t i)/\Jtk/\AV.bool (Jtj g)=AV.bool true/\nth (Juy t i g) 0=AV.i (Jux t i g)/\nth (Jn (Jhs t i) (JqB g).toNat) 0=AV.i (cI (Jhs t i) (JqB g).toNat)/\AV.bool (decide (Juw t i g)) =
  AV.bool false/\AV.bool (decide (JiB i))=AV.bool false/\(false=true->AV.i 21=AV.i (Q8 t i))/\(Z17p g t i))))/\(decide ((g:Int) > 0)=false->(false=true->Jtk/\(true=false->false=true)/\AV.bool (Jtj g)
  = AV.bool false/\AV.bool false=AV.bool true/\(true=true->AV.i 21=AV.i (Q8 t i))/\(Z17q g t i))/\(false=false->(decide (JiB i)=true->Jtk/\(0:Int)<=(g:Int)/\(g:Int) < (JlZ t i)/\(0:Int)<=(↑g :
  Int)/\(g:Int) < ((JoJ t i).length:Int)/\AV.bool (Jtj g)=AV.bool false/\AV.bool false=AV.bool false/\AV.bool (decide (JiB i))=AV.bool true/\nth (Juy t i g) 0=AV.i (Jux t i g)/\nth (Jn (JoJ t i) (↑g :
  Int).toNat) 0=AV.i (cI (JoJ t i) (g:Int).toNat)/\(decide (Z17w t i g)=true->AV.i 21=AV.i (Q8 t i))/\(Z17h t i g))/\(decide (JiB i)=false->Jtk/\Jtk/\AV.bool (Jtj g)=AV.bool false/\AV.bool false=AV.bool
  false/\AV.bool (decide (JiB i))=AV.bool false/\(false=true->AV.i 21=AV.i (Q8 t i))/\(Z17p g t i)))))/\(decide ((g:Int) < (JlZ t i))=false->AV.i 0=AV.i (Q8 t i))):=by
   delta Z17a Z17b Jew Z17d Z17e Jhs Jtl Z17h Juw JoJ Z17k Juv Juu Z17n JqB Z17p Z17q JlZ Jtk Z17t Z17u JiB Z17w Jtj Z17y JlY Jtm Juy Jux Z17D Z17E Z17F
   have hlm:(List.map Ji t.st).length=t.st.length:=Kb _
   have hle:(List.map Jh (t.sg i).e).length=(t.sg i).e.length:=Kb _
   have hlq:(List.map Jh t.sq).length=t.sq.length:=Kb _
   have hlp:(List.map Jh (t.sg (prv i)).e).length=(t.sg (prv i)).e.length:=Kb _
   have hm:=Ue hi
   refine⟨by omega,by omega,by unfold Jg;omega,by omega,by omega,congrArg AV.agg (Jq Ji (i:=i) hi),congrArg AV.agg (Jq Ji (by omega)),⟨fun h0=>?_,fun h0=>?_⟩,fun h=>?_,fun h=>⟨⟨0,⟨by omega,by intros;omega⟩,rfl⟩,fun g ⟨hg,ha⟩=>⟨fun hd=>?_,fun hd=>?_⟩⟩⟩
   . refine⟨c44 _,congrArg AV.bool h0,c94 _ _,c94 _ _,c108 (t.sg i).e 0 100000000 (by omega),c93 [_,_,_,_] (by simp),?_⟩
     refine mk7 ?_
     have h1:i ≠ 0:=by have:=K0 h0;omega
     unfold UR
     rw[if_neg h1,UE h1,<- hle,<- hlq]
     rfl
   . refine⟨fun h=>h,c44 _,congrArg AV.bool h0,c94 _ _,c94 _ _,c108 (t.sg i).e 0 100000000 (by omega),c93 [_,_,_,_] (by simp),?_⟩
     refine mk7 ?_
     have h1:i=0:=by have:=K1 h0;omega
     unfold UR
     rw[if_pos h1,<- hle,<- hlq]
     rfl
   . exact congrArg AV.i (Xs h).symm
   . rw[hle]at hd
     have hlt:=Js hd
     have hm2:=Ue hlt
     have hF:JiK t i g=true->AV.i 21=AV.i (Q8 t i):=fun hb=>by
      rw[Q8,UF (i:=g) h hd (fun k hk=>by rw[ha k hk];rfl) (by rw[hb];decide),hb]
      rfl
     have hN:JiK t i g=false->∃ (g':Nat),(g'<=(t.sg i).e.length/\∀ (j:Nat),j < g'->JiK t i j=false)/\(t.sg i).e.length-g' < (t.sg i).e.length-g/\(g:Int)+1=(g':Int):=fun hb =>
      ⟨g+1,⟨hlt,fun j hj=>by by_cases e:j=g;(· rw[e];exact hb);(· exact ha j (by omega))⟩,by omega,rfl⟩
     have hb:JiK t i g=(((decide ((g:Int) > 0)) && decide (cI (List.map Jh (t.sg i).e) ((g:Int)).toNat > cI (List.map Jh (t.sg i).e) (Q0 0 ((g:Int)-1)).toNat)) || (decide ((i:Int) > 0) && decide (cI (List.map Jh (t.sg i).e) ((g:Int)).toNat < cI (List.map Jh (t.sg (prv i)).e) ((g:Int)).toNat))):=by
      rw[Qb,Qb,Qb]
      unfold JiK up
      congr 1
      . by_cases e0:g=0
        . rw[if_pos e0,e0];rfl
        rw[if_neg e0,UE e0,show decide ((g:Int) > 0)=true from decide_eq_true (by omega)];rfl
      by_cases e0:i=0
      . rw[if_pos e0,show decide ((i:Int) > 0)=false from decide_eq_false (by omega)];rfl
      rw[if_neg e0,show decide ((i:Int) > 0)=true from decide_eq_true (by omega),show prv i=i-1 from UE e0];rfl
     have hpl:decide ((i:Int) > 0)=true->(t.sg i).e.length=t.sq.length->(t.sg i).e.length<=(t.sg (prv i)).e.length:=fun e1 e2=>by
      have e0:i ≠ 0:=by have:=K0 e1;omega
      rw[show prv i=i-1 from UE e0]
      exact hp e0 e2
     have hlen:(t.sg i).e.length=t.sq.length:=by
      have hc:UR t i=0:=by simpa using h
      unfold UR at hc
      exact UN hc
     have hat:=V2 hlt
     have hat2:=V2 (l:=(t.sg i).e) (i:=(Q0 0 ((g:Int)-1)).toNat) (by omega)
     rw[hb]at hF hN
     have h64:Jg ((g:Int)+1):=by unfold Jg;omega
     have h65:Jg ((g:Int)-1):=by unfold Jg;omega
     have hpl:decide ((i:Int) > 0)=true->(g:Int) < (List.map Jh (t.sg (prv i)).e).length:=fun e=>by
      have:=hpl e hlen
      omega
     have hat4:(g:Int) < (List.map Jh (t.sg (prv i)).e).length->nth (Jn (List.map Jh (t.sg (prv i)).e) ((g:Int)).toNat) 0=AV.i (cI (List.map Jh (t.sg (prv i)).e) ((g:Int)).toNat):=fun e=>V2 (by omega)
     generalize hA:decide ((g:Int) > 0)=a at hF hN ⊢
     generalize hB:decide ((i:Int) > 0)=b at hF hN hpl ⊢
     generalize hC:decide (cI (List.map Jh (t.sg i).e) ((g:Int)).toNat > cI (List.map Jh (t.sg i).e) (Q0 0 ((g:Int)-1)).toNat)=c at hF hN ⊢
     generalize hD:decide (cI (List.map Jh (t.sg i).e) ((g:Int)).toNat < cI (List.map Jh (t.sg (prv i)).e) ((g:Int)).toNat)=d at hF hN ⊢
     clear hb h ha hA hB hC hD hlen hd hp
     obtain⟨_,_⟩:=h64
     obtain⟨_,_⟩:=h65
     cases a <;> cases b <;> cases c <;> cases d
     all_goals repeat' (first | apply And.intro | (intro h;cases h;done) | intro _)
     all_goals try first
      | omega
      | (unfold Jg;omega)
      | rfl
      | exact hF rfl
      | (obtain⟨g',q1,q2,q3⟩:=hN rfl;exact⟨g',q1,q2,by rw[q3]⟩)
      | exact hpl rfl
      | exact hat
      | exact hat2
      | exact hat4 (hpl rfl)
   rw[hle]at hd
   exact congrArg AV.i (UG h hd hg (fun k hk=>by rw[ha k hk];rfl)).symm
 exact JU Tryz.f110 ({ fzB (mkB (sp110 t i) 110 [(1,4,rdL 2 Ji t.st 2 true),(1,11,rdL 2 Ji t.st 2 true),(8,7,rdJ),(8,14,rdJ),(8,25,rdJ),(8,30,rdJ)] (fun j=>if j.beq 0 then some (la110 t i)else none))with cut:=cut110 t i,gs:=gs110,split:=fun j=>if j.beq 2 then 1 else if j.beq 8 then 1 else 0 }) key (by kernel_rfl)
theorem Jkh{c:Int}{f:Nat->Int}{n:Nat}(h:sLS c f n 0=0):c=0/\∀ k,k < n->f k=0:=by
 unfold sLS at h
 split at h
 . rename_i hc;rw[h]at hc;simp at hc
 rename_i hc
 refine⟨by simpa using hc,fun k=>?_⟩
 induction k using Nat.strongRecOn with
 | _ k ih =>
  intro hk
  by_cases e:f k=0
  . exact e
  rw[X5 hk (fun j hj=>ih j hj (by omega)) e]at h
  exact absurd h e
structure PathOK(l:List Pt):Prop where
 n1:2<=l.length
 n2:l.length<=16
 b:∀ i,i < l.length -> -100000<=(l.getD i default).x/\(l.getD i default).x<=100000 /\ -100000<=(l.getD i default).y/\(l.getD i default).y<=100000
theorem Qn{b:Bool}{e:Int}(he:e ≠ 0):Jk b e=0 ↔ b=false:=by
 cases b <;> simp[Jk,he]
def la125a(t:Ty):LA:={
 pre:=[.reno 4 1,.keep [1,4,23,24,25] [1],.bound 2],post:=[.reno 4 1,.keep [1,4,23,24,25] [1],.bound 2]
 Gh:=Nat
 st:=fun i=>⟨[(1,.elt 13 [Jf t] 0 0),(4,.ptr 1 0),(23,.sl 2 (t.st.map Ji)),(24,.i t.st.length),(25,.i i)],[(1,.box [.i (Ug t i),.sl 1 ((XM t i).map Jh)])],2⟩
 ok:=fun i=>i<=t.st.length/\∀ j,j < i->Jbl t j=0
 ms:=fun i=>t.st.length-i }
def la125b(t:Ty):LA:={
 pre:=[.keep [1,4,6,23,24,25,55,56,57] [1],.bound 2],post:=[.keep [1,4,6,23,24,25,55,56,57] [1],.bound 2]
 Gh:=Nat × Nat
 st:=fun g=>⟨[(1,.elt 13 [Jf t] 0 0),(4,.ptr 1 0),(6,.elt 2 [Ji (t.sg g.1)] 0 0),(23,.sl 2 (t.st.map Ji)),(24,.i t.st.length),(25,.i g.1),(55,.sl 1 ((t.sg g.1).e.map Jh)),(56,.i (t.sg g.1).e.length),(57,.i g.2)],[(1,.box [.i (Ug t g.1),.sl 1 ((XM t g.1).map Jh)])],2⟩
 ok:=fun g=>g.1 < t.st.length/\g.2<=(t.sg g.1).e.length/\∀ j,j < g.2->Jha t g.1 j=false
 ms:=fun g=>(t.sg g.1).e.length-g.2
 rel:=some fun g h=>h.1=g.1 }
def Vs(t:Ty):Int:=sLS (JF t.st.length 6) (Jbl t) t.st.length 0
def sp125:Nat->List AV->Option AV
 | 124,[.sl _ rows,.int _ m]=>some (.i (Jb (rows.map fun r=>Jc (hdI r) 0 m)))
 | n,x=>spR n x
theorem Jnz(l:List Int)(m:Int)(hl:l.length<=1000):P0 124 [.sl 1 (l.map Jh),.i m] (.i (Jb ((l.map Jh).map fun r=>Jc (hdI r) 0 m))):=by
 rw[Dc]
 exact c124 l m hl
theorem mk56{a b c d e f g h:AV}{B:List (Nat × ABlk)}{x y:Int}(q:x=y):AS.mk [(1,a),(4,b),(6,c),(23,d),(24,e),(25,f),(55,g),(56,AV.i x),(57,h)] B 2=AS.mk [(1,a),(4,b),(6,c),(23,d),(24,e),(25,f),(55,g),(56,AV.i y),(57,h)] B 2:=by rw[q]
theorem JoZ{t:Ty}{g:Nat}(h:g < t.st.length):t.sg g ∈ t.st:=by
 rw[Ty.sg,Ka,Kj h]
 exact List.getElem_mem h
abbrev JiA(t:Ty):=List.map Ji t.st
abbrev Jut(t:Ty):=[[AV.str t.name,AV.sl (1:Nat) (List.map Jh t.sh),AV.i t.d0,AV.i t.d1,AV.i t.d2,AV.i t.d3,AV.i t.d4,AV.i t.d5,AV.i t.d6,AV.i t.d7,AV.i t.side,AV.sl (1:Nat) (List.map Jh t.sq),AV.sl (2:Nat) (JiA t)]]
abbrev JqA(t:Ty)(g:Nat):=t.st.getD (g:Int).toNat default
abbrev Z18A(t:Ty)(g:Nat):=Jc (JqA t g).p (1:Int) (100:Int)
abbrev Z18x(t:Ty)(g:Nat):=Jk (decide ((JqA t g).p<=Ug t g)) (11:Int)
abbrev JoG(t:Ty)(g:Nat):=List.map Jh (JqA t g).e
abbrev JoI(t:Ty):=((List.map Jh t.sq).length:Int)
abbrev Z18v(t:Ty)(g:Nat):=Jk (((JoG t g).length:Int) != (JoI t)) (2:Int)
abbrev Z18l(t:Ty)(g:Nat):=Jb (List.map (fun(r:List AV)=>Jc (hdI r) (0:Int) (100000000:Int)) (JoG t g))
abbrev Z18b(t:Ty)(g:Nat):=[hdI [AV.i (Z18A t g)],hdI [AV.i (Z18x t g)],hdI [AV.i (Z18v t g)],hdI [AV.i (Z18l t g)]]
abbrev Jc9(t:Ty)(g_1:Nat × Nat):=List.map Jh (t.sg g_1.fst).e
abbrev Z18C(t:Ty):=((1:Nat),AV.elt (13:Nat) (Jut t) (0:Nat) (0:Nat))
abbrev Z18r:=((4:Nat),AV.ptr (1:Nat) (0:Nat))
abbrev Z18s(t:Ty)(g':Nat × Nat):=[[AV.i (t.sg g'.fst).p,AV.sl (1:Nat) (List.map Jh (t.sg g'.fst).e)]]
abbrev Z18w(t:Ty):=((23:Nat),AV.sl (2:Nat) (JiA t))
abbrev JlX(t:Ty):=(t.st.length:Int)
abbrev Z18B(t:Ty):=((24:Nat),AV.i (JlX t))
abbrev Z18e(t:Ty)(g':Nat × Nat):=[(Z18C t),Z18r,((6:Nat),AV.elt (2:Nat) (Z18s t g') (0:Nat) (0:Nat)),(Z18w t),(Z18B t),((25:Nat),AV.i (↑g'.fst:Int)),((55:Nat),AV.sl (1:Nat) (List.map Jh (t.sg g'.fst).e)),((56:Nat),AV.i (↑(t.sg g'.fst).e.length:Int)),((57:Nat),AV.i (↑g'.snd:Int))]
abbrev Z18y(t:Ty)(g_1:Nat × Nat):=((6:Nat),AV.elt (2:Nat) [[AV.i (t.sg g_1.fst).p,AV.sl (1:Nat) (Jc9 t g_1)]] (0:Nat) (0:Nat))
abbrev Jus(t:Ty)(g_1:Nat × Nat):=(↑(t.sg g_1.fst).e.length:Int)
abbrev XE(g_1:Nat × Nat):=(↑g_1.snd:Int)
abbrev Z18f(t:Ty)(g_1:Nat × Nat):=[(Z18C t),Z18r,(Z18y t g_1),(Z18w t),(Z18B t),((25:Nat),AV.i (↑g_1.fst:Int)),((55:Nat),AV.sl (1:Nat) (Jc9 t g_1)),((56:Nat),AV.i (Jus t g_1)),((57:Nat),AV.i ((XE g_1)+1))]
abbrev Z18h(g':Nat × Nat)(t:Ty):=(g'.fst < t.st.length/\g'.snd<=(t.sg g'.fst).e.length/\∀ (j:Nat),j < g'.snd->Jha t g'.fst j=false)
abbrev JoH(t:Ty)(g_1:Nat × Nat):=List.map Jh (XM t g_1.fst)
abbrev Z18m(t:Ty)(g_1:Nat × Nat):=cI (Jc9 t g_1) (XE g_1).toNat > cI (Jc9 t g_1) ((XE g_1)-1).toNat
abbrev Z18n(t:Ty)(g':Nat × Nat):=[AV.i (Ug t g'.fst),AV.sl (1:Nat) (List.map Jh (XM t g'.fst))]
abbrev Z18p(t:Ty)(g_1:Nat × Nat):=cI (Jc9 t g_1) (XE g_1).toNat < cI (JoH t g_1) (XE g_1).toNat
abbrev Jqz(t:Ty):=((JiA t).length:Int)
abbrev Z18u(t:Ty)(g_1:Nat × Nat):=[AV.i (Ug t g_1.fst),AV.sl (1:Nat) (JoH t g_1)]
abbrev Z18D(t:Ty)(g:Nat):=[(1,ABlk.box [AV.i (Ug t g),AV.sl 1 (List.map Jh (XM t g))])]
abbrev Z18E(g:Nat)(t:Ty):=(g<=t.st.length/\∀ (j:Nat),j < g->Jbl t j=(0:Int))
theorem c125(t:Ty)(hn:t.st.length<=1000)(hq:t.sq.length<=1000)(hl:∀ s,s ∈ t.st->s.e.length<=1000):P0 125 [.agg (Jf t)] (.i (Vs t)):=by
 have key :
  P0 123 [AV.i (Jqz t),AV.i 6] (AV.i (JF (Jqz t) (6:Int)))/\((JF (Jqz t) (6:Int) != 0)=true->AV.i (JF (Jqz t) (6:Int))=AV.i (Vs t))/\((JF (Jqz t) (6:Int) != 0)=false->(0:Int) ≤
  (JoI t)/\(JoI t)<=(JoI t)/\(JoI t)<=9223372036854775807/\(JoI t) * (8:Int)<=140737488355328/\(∃ (g:Nat),(Z18E g t)/\AS.mk [(1,AV.elt 13 [(Jf t)] 0 0),(4,AV.ptr 1 0),(23,AV.sl 2 (JiA t)),(24,AV.i (Jqz
  t)),(25,AV.i 0)] [(1,ABlk.box [AV.i 0,AV.sl 1 (List.replicate (JoI t).toNat [AV.i 0])])] 2=AS.mk [(1,AV.elt 13 [(Jf t)] 0 0),(4,AV.ptr 1 0),(23,AV.sl 2 (JiA t)),(24,AV.i (JlX t)),(25,AV.i (g:Int))] (Z18D t
  g) 2)/\∀ (g:Nat),(Z18E g t)->(decide ((g:Int) < (JlX t))=true->(0:Int)<=(g:Int)/\(g:Int) < (Jqz t)/\AV.agg (Jn (JiA t) (g:Int).toNat)=AV.agg [AV.i (JqA t g).p,AV.sl 1 (JoG t g)]/\P0 89 [AV.i
  (JqA t g).p,AV.i 1,AV.i 100] (AV.i (Z18A t g))/\P0 92 [AV.bool (decide ((JqA t g).p<=Ug t g)),AV.i 11] (AV.i (Z18x t g))/\P0 92 [AV.bool (((JoG t g).length:Int) != (JoI t)),AV.i 2] (AV.i (Z18v t g))/\P0 124 [AV.sl
  1 (JoG t g),AV.i 100000000] (AV.i (Z18l t g))/\P0 87 [AV.sl 1 [[AV.i (Z18A t g)],[AV.i (Z18x t g)],[AV.i (Z18v t g)],[AV.i (Z18l t g)]]] (AV.i (Jb (Z18b t g)))/\((Jb (Z18b t g) != 0)=true->AV.i (Jb (Z18b t g))
  = AV.i (Vs t))/\((Jb (Z18b t g) != 0)=false->∃ (g0:Nat × Nat),(g0.fst < t.st.length/\g0.snd<=(t.sg g0.fst).e.length/\∀ (j:Nat),j < g0.snd->Jha t g0.fst j=false)/\g0.fst=g0.fst/\AS.mk [(1,AV.elt 13
  [(Jf t)] 0 0),(4,AV.ptr 1 0),(6,AV.elt 2 [[AV.i (JqA t g).p,AV.sl 1 (JoG t g)]] 0 0),(23,AV.sl 2 (JiA t)),(24,AV.i (JlX t)),(25,AV.i (g:Int)),(55,AV.sl 1 (JoG t g)),(56,AV.i ((JoG t g).length:Int)),
  (57,AV.i 0)] (Z18D t g) 2=AS.mk [(1,AV.elt 13 [(Jf t)] 0 0),(4,AV.ptr 1 0),(6,AV.elt 2 [[AV.i (t.sg g0.fst).p,AV.sl 1 (List.map Jh (t.sg g0.fst).e)]] 0 0),(23,AV.sl 2 (JiA t)),(24,AV.i (JlX t)),(25,AV.i
  (↑g0.fst:Int)),(55,AV.sl 1 (List.map Jh (t.sg g0.fst).e)),(56,AV.i (↑(t.sg g0.fst).e.length:Int)),(57,AV.i (↑g0.snd:Int))] [(1,ABlk.box [AV.i (Ug t g0.fst),AV.sl 1 (List.map Jh (XM t g0.fst))])] 2/\∀ (g_1 :
  Nat × Nat),(g_1.fst < t.st.length/\g_1.snd<=(t.sg g_1.fst).e.length/\∀ (j:Nat),j < g_1.snd->Jha t g_1.fst j=false)->g_1.fst=g0.fst->(decide ((XE g_1) < (Jus t g_1))=true->(0:Int)<=(XE g_1)/\(XE g_1) <
  ((Jc9 t g_1).length:Int)/\nth (Jn (Jc9 t g_1) (XE g_1).toNat) 0=AV.i (cI (Jc9 t g_1) (XE g_1).toNat)/\(decide ((XE g_1) > 0)=true->(decide (Z18m t g_1)=true->Jg ((XE g_1)-1)/\(0:Int)<=(XE g_1) -
  1/\(XE g_1)-1 < ((Jc9 t g_1).length:Int)/\(true=false->false=true)/\AV.bool (decide ((XE g_1) > 0))=AV.bool true/\nth (Jn (Jc9 t g_1) ((XE g_1)-1).toNat) 0=AV.i (cI (Jc9 t g_1) ((XE g_1)-1).toNat)
  /\ AV.bool (decide (Z18m t g_1))=AV.bool true/\(true=true->AV.i 21=AV.i (Vs t))/\(true=false->Jg ((XE g_1)+1)/\∃ (g':Nat × Nat),(Z18h g' t)/\g'.fst=g0.fst/\(t.sg g'.fst).e.length-g'.snd < (t.sg
  g_1.fst).e.length-g_1.snd/\AS.mk (Z18f t g_1) [((1:Nat),ABlk.box (Z18u t g_1))] (2:Nat)=AS.mk (Z18e t g') [((1:Nat),ABlk.box (Z18n t g'))] (2:Nat)))/\(decide (Z18m t g_1)=false->Jg ((XE g_1)-1)/\(0:Int)
  ≤ (XE g_1)-1/\(XE g_1)-1 < ((Jc9 t g_1).length:Int)/\(0:Int)<=(XE g_1)/\(XE g_1) < ((JoH t g_1).length:Int)/\AV.bool (decide ((XE g_1) > 0))=AV.bool true/\nth (Jn (Jc9 t g_1) ((XE g_1) -
  1).toNat) 0=AV.i (cI (Jc9 t g_1) ((XE g_1)-1).toNat)/\AV.bool (decide (Z18m t g_1))=AV.bool false/\nth (Jn (JoH t g_1) (XE g_1).toNat) 0=AV.i (cI (JoH t g_1) (XE g_1).toNat)/\(decide (Z18p t g_1)=true->AV.i
  21=AV.i (Vs t))/\(decide (Z18p t g_1)=false->Jg ((XE g_1)+1)/\∃ (g':Nat × Nat),(Z18h g' t)/\g'.fst=g0.fst/\(t.sg g'.fst).e.length-g'.snd < (t.sg g_1.fst).e.length-g_1.snd/\AS.mk (Z18f t g_1) [((1:Nat),
  ABlk.box (Z18u t g_1))] (2:Nat)=AS.mk (Z18e t g') [((1:Nat),ABlk.box (Z18n t g'))] (2:Nat))))/\(decide ((XE g_1) > 0)=false->(false=true->(false=true->false=true)/\(true=false->false=true)/\AV.bool
  (decide ((XE g_1) > 0))=AV.bool false/\AV.bool false=AV.bool true/\(true=true->AV.i 21=AV.i (Vs t))/\(true=false->Jg ((XE g_1)+1)/\∃ (g':Nat × Nat),(Z18h g' t)/\g'.fst=g0.fst/\(t.sg
  g'.fst).e.length-g'.snd < (t.sg g_1.fst).e.length-g_1.snd/\AS.mk [(1,AV.elt 13 (Jut t) 0 (0:Nat)),(4,AV.ptr 1 (0:Nat)),(6,AV.elt 2 [[AV.i (t.sg g_1.fst).p,AV.sl (1:Nat) (Jc9 t g_1)]] 0 (0:Nat)),(23,AV.sl 2
  (JiA t)),(24,AV.i (JlX t)),(25,AV.i (↑g_1.fst:Int)),(55,AV.sl 1 (Jc9 t g_1)),(56,AV.i (Jus t g_1)),(57,AV.i ((XE g_1)+1))] [(1,ABlk.box (Z18u t g_1))] 2=AS.mk [(1,AV.elt 13 (Jut t) 0 (0:Nat)),(4,AV.ptr
  1 (0:Nat)),(6,AV.elt 2 (Z18s t g') 0 (0:Nat)),(23,AV.sl 2 (JiA t)),(24,AV.i (JlX t)),(25,AV.i (↑g'.fst:Int)),(55,AV.sl 1 (List.map Jh (t.sg g'.fst).e)),(56,AV.i (↑(t.sg g'.fst).e.length:Int)),(57,AV.i
  (↑g'.snd:Int))] [(1,ABlk.box (Z18n t g'))] 2))/\(false=false->(false=true->false=true)/\(0:Int)<=(XE g_1)/\(XE g_1) < ((JoH t g_1).length:Int)/\AV.bool (decide ((XE g_1) > 0))=AV.bool false/\AV.bool
  false=AV.bool false/\nth (Jn (JoH t g_1) (XE g_1).toNat) 0=AV.i (cI (JoH t g_1) (XE g_1).toNat)/\(decide (Z18p t g_1)=true->AV.i 21=AV.i (Vs t))/\(decide (Z18p t g_1)=false->Jg ((XE g_1)+1)/\∃ (g' :
  Nat × Nat),(Z18h g' t)/\g'.fst=g0.fst/\(t.sg g'.fst).e.length-g'.snd < (t.sg g_1.fst).e.length-g_1.snd/\AS.mk [(1,AV.elt (13:Nat) (Jut t) (0:Nat) (0:Nat)),Z18r,(Z18y t g_1),(Z18w t),(Z18B t),((25:Nat),AV.i
  (↑g_1.fst:Int)),((55:Nat),AV.sl (1:Nat) (Jc9 t g_1)),((56:Nat),AV.i (Jus t g_1)),((57:Nat),AV.i ((XE g_1)+1))] [(1,ABlk.box (Z18u t g_1))] 2=AS.mk [(1,AV.elt (13:Nat) (Jut t) (0:Nat) (0:Nat)),Z18r,
  ((6:Nat),AV.elt (2:Nat) (Z18s t g') (0:Nat) (0:Nat)),(Z18w t),(Z18B t),((25:Nat),AV.i (↑g'.fst:Int)),((55:Nat),AV.sl (1:Nat) (List.map Jh (t.sg g'.fst).e)),((56:Nat),AV.i (↑(t.sg g'.fst).e.length :
  Int)),((57:Nat),AV.i (↑g'.snd:Int))] [(1,ABlk.box (Z18n t g'))] (2:Nat)))))/\(decide ((XE g_1) < (Jus t g_1))=false->Jg ((↑g_1.fst:Int)+1)/\∃ (g':Nat),(g'<=t.st.length/\∀ (j:Nat),j < g'->Jbl t j =
  (0:Int))/\t.st.length-g' < t.st.length-g/\AS.mk [(1,AV.elt 13 [(Jf t)] 0 0),(4,AV.ptr 1 0),(23,AV.sl 2 (JiA t)),(24,AV.i (JlX t)),(25,AV.i ((↑g_1.fst:Int)+1))] [(1,ABlk.box [AV.i (t.sg g_1.fst).p,AV.sl 1
  (Jc9 t g_1)])] 2=AS.mk [(1,AV.elt 13 [(Jf t)] 0 0),(4,AV.ptr 1 0),(23,AV.sl 2 (JiA t)),(24,AV.i (JlX t)),(25,AV.i (g':Int))] [(1,ABlk.box [AV.i (Ug t g'),AV.sl 1 (List.map Jh (XM t g'))])] 2))) /\
  (decide ((g:Int) < (JlX t))=false->AV.i 0=AV.i (Vs t))):=by
   delta Jut Z18b JqA Jc9 Z18e Z18f XE Z18h JoI JiA JoH Z18l Z18m Z18n JlX Z18p JoG Z18r Z18s Jqz Z18u Z18v Z18w Z18x Z18y Jus Z18A Z18B Z18C Z18D Z18E
   have hlm:(List.map Ji t.st).length=t.st.length:=Kb _
   have hlq:(List.map Jh t.sq).length=t.sq.length:=Kb _
   refine⟨c123 _ _,fun h=>?_,fun h=>⟨by omega,by omega,by omega,by omega,⟨0,⟨by omega,by intros;omega⟩,?_⟩,fun g ⟨hg,ha⟩=>⟨fun hd=>?_,fun hd=>?_⟩⟩⟩
   . rw[hlm]at h ⊢
     exact congrArg AV.i (Xs h).symm
   . have e1:List.replicate ((List.map Jh t.sq).length:Int).toNat [AV.i 0]=List.map Jh (XM t 0):=by
      rw[Km,hlq]
      show _=List.map Jh (List.replicate t.sq.length 0)
      rw[List.map_replicate]
      rfl
     rw[e1,hlm]
     rfl
   . have hlt:=Js hd
     have hle:(List.map Jh (t.sg g).e).length=(t.sg g).e.length:=Kb _
     have hS:=hl _ (JoZ hlt)
     rw[hlm]at h
     have hc:Jb [Jc (t.sg g).p 1 100,Jk (decide ((t.sg g).p<=Ug t g)) 11,Jk (((List.map Jh (t.sg g).e).length:Int) != ((List.map Jh t.sq).length:Int)) 2,Jb (List.map (fun r=>Jc (hdI r) 0 100000000) (List.map Jh (t.sg g).e))]=WE t g:=by
      unfold WE
      rw[<- hle,<- hlq,Dc]
      rfl
     refine⟨by omega,by omega,congrArg AV.agg (Jq Ji hlt),c89 _ _ _,c92 _ _,c92 _ _,Jnz _ _ hS,c87 [_,_,_,_] (by simp),fun hx=>?_,fun hx=>⟨(g,0),⟨hlt,by omega,fun _ hj=>absurd hj (by omega)⟩,rfl,?_,fun⟨h1,k⟩ ⟨q1,q2,q3⟩ q4=>⟨fun hy=>?_,fun hy=>?_⟩⟩⟩
     . have hx:(WE t g != 0)=true:=by rw[<- hc];exact hx
       have e1:Jbl t g=WE t g:=Xs hx
       refine congrArg AV.i ?_
       rw[Vs,UF (i:=g) h hd ha (by rw[e1];exact hx),e1]
       exact hc
     . exact mk56 (congrArg Nat.cast hle)
     . have hx:(WE t g != 0)=false:=by rw[<- hc];exact hx
       clear hc
       have q4:h1=g:=q4
       have q3:∀ j,j < k->Jha t h1 j=false:=q3
       have hy:decide ((k:Int) < (t.sg h1).e.length)=true:=hy
       clear q1 q2
       subst q4
       have hlt2:=Js hy
       have hlE:(t.sg h1).e.length=t.sq.length:=by
        have hcz:WE t h1=0:=by simpa using hx
        unfold WE at hcz
        exact UN hcz
       have hlL:(XM t h1).length=t.sq.length:=by
        unfold XM
        split
        . exact Ku
        have hcz:=(Jkh (ha (h1-1) (by omega))).1
        unfold WE at hcz
        exact UN hcz
       have hF:Jha t h1 k=true->AV.i 21=AV.i (Vs t):=fun hb=>by
        have e1:Jbl t h1=21:=by
         rw[Jbl,UF (i:=k) hx hy (fun j hj=>by rw[q3 j hj];rfl) (by rw[hb];decide),hb]
         rfl
        rw[Vs,UF (i:=h1) h hd ha (by rw[e1];decide),e1]
       have hN:Jha t h1 k=false->∃ (k':Nat),(h1 < t.st.length/\k'<=(t.sg h1).e.length/\∀ (j:Nat),j < k'->Jha t h1 j=false)/\(t.sg h1).e.length-k' < (t.sg h1).e.length-k/\(k:Int)+1=(k':Int):=fun hb =>
        ⟨k+1,⟨hlt,hlt2,fun j hj=>by by_cases e:j=k;(· rw[e];exact hb);(· exact q3 j (by omega))⟩,by omega,rfl⟩
       have hb:Jha t h1 k=(((decide ((k:Int) > 0)) && decide (cI (List.map Jh (t.sg h1).e) ((k:Int)).toNat > cI (List.map Jh (t.sg h1).e) ((k:Int)-1).toNat)) || (decide (cI (List.map Jh (t.sg h1).e) ((k:Int)).toNat < cI (List.map Jh (XM t h1)) ((k:Int)).toNat))):=by
        rw[Qb,Qb,Qb]
        unfold Jha up
        congr 1
        by_cases e0:k=0
        . rw[if_pos e0,e0];rfl
        rw[if_neg e0,show((k:Int)-1).toNat=k-1 by omega,show decide ((k:Int) > 0)=true from decide_eq_true (by omega)];rfl
       have hlL2:(List.map Jh (XM t h1)).length=(XM t h1).length:=Kb _
       have hat:=V2 hlt2
       have hat2:(k:Int) > 0->nth (Jn (List.map Jh (t.sg h1).e) ((k:Int)-1).toNat) 0=AV.i (cI (List.map Jh (t.sg h1).e) ((k:Int)-1).toNat):=fun _=>V2 (by omega)
       have hat3:nth (Jn (List.map Jh (XM t h1)) ((k:Int)).toNat) 0=AV.i (cI (List.map Jh (XM t h1)) ((k:Int)).toNat):=V2 (by omega)
       rw[hb]at hF hN
       have h64:Jg ((k:Int)+1):=by unfold Jg;omega
       have h65:Jg ((k:Int)-1):=by unfold Jg;omega
       clear hb h hx ha q3 hd hy
       dsimp only
       refine⟨by omega,by omega,hat,?_⟩
       by_cases hk:(k:Int) > 0
       . have hA:decide ((k:Int) > 0)=true:=decide_eq_true hk
         have hat2:=hat2 hk
         rw[hA]at hF hN ⊢
         generalize hC:decide (cI (List.map Jh (t.sg h1).e) ((k:Int)).toNat > cI (List.map Jh (t.sg h1).e) ((k:Int)-1).toNat)=c at hF hN ⊢
         generalize hD:decide (cI (List.map Jh (t.sg h1).e) ((k:Int)).toNat < cI (List.map Jh (XM t h1)) ((k:Int)).toNat)=d at hF hN ⊢
         clear hA hC hD
         obtain⟨_,_⟩:=h64
         obtain⟨_,_⟩:=h65
         cases c <;> cases d
         all_goals repeat' (first | apply And.intro | (intro h;cases h;done) | intro _)
         all_goals try first
          | omega
          | (unfold Jg;omega)
          | rfl
          | exact hat2
          | exact hat3
          | exact hF rfl
          | (obtain⟨g',q1,q2,q3⟩:=hN rfl;exact⟨(h1,g'),q1,rfl,q2,by rw[q3]⟩)
       have hA:decide ((k:Int) > 0)=false:=decide_eq_false hk
       rw[hA]at hF hN ⊢
       generalize hC:decide (cI (List.map Jh (t.sg h1).e) ((k:Int)).toNat > cI (List.map Jh (t.sg h1).e) ((k:Int)-1).toNat)=c at hF hN ⊢
       generalize hD:decide (cI (List.map Jh (t.sg h1).e) ((k:Int)).toNat < cI (List.map Jh (XM t h1)) ((k:Int)).toNat)=d at hF hN ⊢
       clear hA hC hD
       obtain⟨_,_⟩:=h64
       obtain⟨_,_⟩:=h65
       cases d
       all_goals repeat' (first | apply And.intro | (intro h;cases h;done) | intro _)
       all_goals try first
        | omega
        | (unfold Jg;omega)
        | rfl
        | exact hat3
        | exact hF rfl
        | (obtain⟨g',q1,q2,q3⟩:=hN rfl;exact⟨(h1,g'),q1,rfl,q2,by rw[q3]⟩)
     have hx:(WE t g != 0)=false:=by rw[<- hc];exact hx
     clear hc
     have q4:h1=g:=q4
     have q3:∀ j,j < k->Jha t h1 j=false:=q3
     have q2:k<=(t.sg h1).e.length:=q2
     have hy:decide ((k:Int) < (t.sg h1).e.length)=false:=hy
     subst q4
     have ez:Jbl t h1=0:=UG (i:=k) hx hy q2 (fun j hj=>by rw[q3 j hj];rfl)
     exact⟨by unfold Jg;dsimp only;omega,h1+1,⟨hlt,Ve ha (by rw[ez];rfl)⟩,by omega,rfl⟩
   rw[hlm]at h
   exact congrArg AV.i (UG h hd hg ha).symm
 exact JU Tryz.f125 ({ fzB (mkB sp125 125 [(7,1,rdL 2 Ji t.st 2 true),(13,2,rdJ),(14,9,rdJ),(14,18,rdJ)] (fun j=>if j.beq 0 then some (la125a t)else if j.beq 2 then some (la125b t)else none))with split:=fun j=>if j.beq 14 then 1 else 0 }) key (by kernel_rfl)
def Um(t:Ty):Int:=Jb [Jk (!JH t.name) 8,JF t.sh.length 8,Qx t.sh 1000,Jk (JbA t.sh t.sh.length != 1000) 1]
def UQ(t:Ty):Int:=Jb [Qx t.dir 2000,Jc t.side 0 1000,JF t.sq.length 8,Qx t.sq 100000000000]
def Qs(t:Ty):Int:=if Um t != 0 then Um t else sLS (UQ t) (fSq t.sq) t.sq.length (Vs t)
theorem mk3{a:AV}{x y:Int}(h:x=y):AS.mk [(1,a),(3,AV.i x)] [] 1=AS.mk [(1,a),(3,AV.i y)] [] 1:=by rw[h]
theorem mk4{a:AV}{x y:Int}(h:x=y):AS.mk [(1,a),(4,AV.i x)] [] 1=AS.mk [(1,a),(4,AV.i y)] [] 1:=by rw[h]
theorem mk5{a:AV}{x y:Int}(h:x=y):AS.mk [(1,a),(5,AV.i x)] [] 1=AS.mk [(1,a),(5,AV.i y)] [] 1:=by rw[h]
theorem mk49{a b d:AV}{x y:Int}(h:x=y):AS.mk [(1,a),(48,b),(49,AV.i x),(50,d)] [] 1=AS.mk [(1,a),(48,b),(49,AV.i y),(50,d)] [] 1:=by rw[h]
def sp53(t:Ty):Nat->List AV->Option AV
 | 122,[.str s]=>some (.bool (JH s))
 | 121,_=>some (.i (JbA t.sh t.sh.length))
 | 125,_=>some (.i (Vs t))
 | 124,[.sl _ rows,.int _ m]=>some (.i (Jb (rows.map fun r=>Jc (hdI r) 0 m)))
 | n,x=>spR n x
def la53(t:Ty):LA:={
 pre:=[.keep [1,48,49,50] [],.bound 1],post:=[.keep [1,48,49,50] [],.bound 1]
 Gh:=Nat
 st:=fun i=>⟨[(1,.elt 13 [Jf t] 0 0),(48,.sl 1 (t.sq.map Jh)),(49,.i t.sq.length),(50,.i i)],[],1⟩
 ok:=fun i=>i<=t.sq.length/\∀ k,k < i->fSq t.sq k=0
 ms:=fun i=>t.sq.length-i }
def cut53(t:Ty):Nat->Option (AS->AS):=fun j=>if j.beq 1 then some (Jnw [1,3] [] 1 3 fun _=>.i (Um t))else if j.beq 4 then some (Jnw [1,4] [] 1 4 fun _=>.i (UQ t))else none
def gs53:Nat->List GS:=fun j=>if j.beq 1 then[.keep [1,3] [],.bound 1]else if j.beq 4 then[.keep [1,4] [],.bound 1]else[]
abbrev Z19a(t:Ty):=Jb [Jc (hdI [AV.i t.d0]) (0:Int) (2000:Int),Jc (hdI [AV.i t.d1]) (0:Int) (2000:Int),Jc (hdI [AV.i t.d2]) (0:Int) (2000:Int),Jc (hdI [AV.i t.d3]) (0:Int) (2000:Int),Jc (hdI [AV.i t.d4]) (0:Int) (2000:Int),Jc (hdI [AV.i t.d5]) (0:Int) (2000:Int),Jc (hdI [AV.i t.d6]) (0:Int) (2000:Int),Jc (hdI [AV.i t.d7]) (0:Int) (2000:Int)]
abbrev Jer(t:Ty):=List.map Jh t.sq
abbrev Jup(t:Ty):=(t.sq.length:Int)
abbrev Z19b(t:Ty)(g:Nat):=[(1,AV.elt 13 [(Jf t)] 0 0),(48,AV.sl 1 (Jer t)),(49,AV.i (Jup t)),(50,AV.i ((g:Int)+1))]
abbrev Z19c(t:Ty)(g':Nat):=[(1,AV.elt 13 [(Jf t)] 0 0),(48,AV.sl 1 (Jer t)),(49,AV.i (Jup t)),(50,AV.i (g':Int))]
abbrev Z19y(t:Ty):=Jk (!JH t.name) (8:Int)
abbrev Juo(t:Ty):=List.map Jh t.sh
abbrev Z19p(t:Ty):=JF ((Juo t).length:Int) (8:Int)
abbrev Z19i(t:Ty):=Jb (List.map (fun(r:List AV)=>Jc (hdI r) (0:Int) (1000:Int)) (Juo t))
abbrev Z19r(t:Ty):=Jk (JbA t.sh t.sh.length != 1000) (1:Int)
abbrev Z19e(t:Ty):=Jb [hdI [AV.i (Z19y t)],hdI [AV.i (Z19p t)],hdI [AV.i (Z19i t)],hdI [AV.i (Z19r t)]]
abbrev Z19f(g':Nat)(t:Ty):=(g'<=t.sq.length/\∀ (k:Nat),k < g'->fSq t.sq k=(0:Int))
abbrev Z19g(t:Ty):=Jb (List.map (fun(r:List AV)=>Jc (hdI r) (0:Int) (100000000000:Int)) (Jer t))
abbrev Jqy(g:Nat):=(g:Int)-1
abbrev Z19n(t:Ty)(g:Nat):=cI (Jer t) (g:Int).toNat<=cI (Jer t) (Jqy g).toNat
abbrev Z19h(t:Ty)(g:Nat):=(decide (Z19n t g)=false->Jg ((g:Int)+1)/\∃ (g':Nat),(Z19f g' t)/\t.sq.length-g' < t.sq.length-g/\AS.mk (Z19b t g) [] 1=AS.mk (Z19c t g') [] 1)
abbrev Z19u(t:Ty):=Jc t.side (0:Int) (1000:Int)
abbrev JoF(t:Ty):=((Jer t).length:Int)
abbrev Z19j(t:Ty):=Jb [hdI [AV.i (Z19a t)],hdI [AV.i (Z19u t)],hdI [AV.i (JF (JoF t) (8:Int))],hdI [AV.i (Z19g t)]]
abbrev Z19k(g:Nat)(t:Ty):=(false=false->Jg ((g:Int)+1)/\∃ (g':Nat),(Z19f g' t)/\t.sq.length-g' < t.sq.length-g/\AS.mk (Z19b t g) [] 1=AS.mk (Z19c t g') [] 1)
abbrev Z19l(g:Nat)(t:Ty):=(true=false->Jg ((g:Int)+1)/\∃ (g':Nat),(Z19f g' t)/\t.sq.length-g' < t.sq.length-g/\AS.mk (Z19b t g) [] 1=AS.mk (Z19c t g') [] 1)
abbrev Jur:=false=true->false=true
abbrev Juq(t:Ty)(g:Nat):=cI (Jer t) (g:Int).toNat != 0
abbrev JoE(g:Nat):=(g:Int) == 0
abbrev JoD(g:Nat):=(g:Int) > 0
abbrev Z19x(g:Nat)(t:Ty):=(g<=t.sq.length/\∀ (k:Nat),k < g->fSq t.sq k=(0:Int))
theorem c53(t:Ty)(hn:t.st.length<=1000)(hs:t.sh.length<=1000)(hq:t.sq.length<=1000)(hl:∀ s,s ∈ t.st->s.e.length<=1000)(hN:t.name.length<=1000000):P0 53 [.agg (Jf t)] (.i (Qs t)):=by
 have key :
  (P0 122 [AV.str t.name] (AV.bool (JH t.name))/\P0 92 [AV.bool !JH t.name,AV.i 8] (AV.i (Z19y t))/\P0 123 [AV.i ((Juo t).length:Int),AV.i 8] (AV.i (Z19p t))/\P0 124 [AV.sl 1 (Juo t),AV.i 1000] (AV.i (Z19i t))/\P0
  121 [AV.sl 1 (Juo t)] (AV.i (JbA t.sh t.sh.length))/\P0 92 [AV.bool (JbA t.sh t.sh.length != 1000),AV.i 1] (AV.i (Z19r t))/\P0 87 [AV.sl 1 [[AV.i (Z19y t)],[AV.i (Z19p t)],[AV.i (Z19i t)],[AV.i (Z19r t)]]] (AV.i (Z19e t))
  /\ AS.mk [(1,AV.elt 13 [(Jf t)] 0 0),(3,AV.i (Z19e t))] [] 1=AS.mk [(1,AV.elt 13 [(Jf t)] 0 0),(3,AV.i (Um t))] [] 1)/\((Um t != 0)=true->AV.i (Um t)=AV.i (Qs t))/\((Um t != 0)=false->(P0 124
  [AV.sl 1 [[AV.i t.d0],[AV.i t.d1],[AV.i t.d2],[AV.i t.d3],[AV.i t.d4],[AV.i t.d5],[AV.i t.d6],[AV.i t.d7]],AV.i 2000] (AV.i (Z19a t))/\P0 89 [AV.i t.side,AV.i 0,AV.i 1000] (AV.i (Z19u t))/\P0 123 [AV.i (JoF t),AV.i 8]
  (AV.i (JF (JoF t) (8:Int)))/\P0 124 [AV.sl 1 (Jer t),AV.i 100000000000] (AV.i (Z19g t))/\P0 87 [AV.sl 1 [[AV.i (Z19a t)],[AV.i (Z19u t)],[AV.i (JF (JoF t) (8:Int))],[AV.i (Z19g t)]]] (AV.i (Z19j t))/\AS.mk
  [(1,AV.elt 13 [(Jf t)] 0 0),(4,AV.i (Z19j t))] [] 1=AS.mk [(1,AV.elt 13 [(Jf t)] 0 0),(4,AV.i (UQ t))] [] 1)/\((UQ t != 0)=true->AV.i (UQ t)=AV.i (Qs t))/\((UQ t != 0)=false->(∃ (g:Nat),
  (Z19x g t)/\AS.mk [(1,AV.elt 13 [(Jf t)] 0 0),(48,AV.sl 1 (Jer t)),(49,AV.i (JoF t)),(50,AV.i 0)] [] 1=AS.mk [(1,AV.elt 13 [(Jf t)] 0 0),(48,AV.sl 1 (Jer t)),(49,AV.i (Jup t)),(50,AV.i (g:Int))] [] 1)
  /\ ∀ (g:Nat),(Z19x g t)->(decide ((g:Int) < (Jup t))=true->(0:Int)<=(g:Int)/\(g:Int) < (JoF t)/\nth (Jn (Jer t) (g:Int).toNat) 0=AV.i (cI (Jer t) (g:Int).toNat)/\((JoE g)=true->((Juq t g) =
  true->(true=false->false=true)/\AV.bool (JoE g)=AV.bool true/\AV.bool (Juq t g)=AV.bool true/\(true=true->AV.i 11=AV.i (Qs t))/\(Z19l g t))/\((Juq t g)=false->(decide (JoD g)=true->Jg (Jqy g)/\(0
  : Int)<=(g:Int)-1/\(g:Int)-1 < (JoF t)/\AV.bool (JoE g)=AV.bool true/\AV.bool (Juq t g)=AV.bool false/\AV.bool (decide (JoD g))=AV.bool true/\nth (Jn (Jer t) (Jqy g).toNat) 0=AV.i (cI (Jer t) (Jqy
  g).toNat)/\(decide (Z19n t g)=true->AV.i 11=AV.i (Qs t))/\(Z19h t g))/\(decide (JoD g)=false->Jur/\AV.bool (JoE g)=AV.bool true/\AV.bool (Juq t g)=AV.bool false/\AV.bool (decide (JoD g))=AV.bool false /\
  (false=true->AV.i 11=AV.i (Qs t))/\(Z19k g t))))/\((JoE g)=false->(false=true->Jur/\(true=false->false=true)/\AV.bool (JoE g)=AV.bool false/\AV.bool false=AV.bool true/\(true=true->AV.i 11=AV.i
  (Qs t))/\(Z19l g t))/\(false=false->(decide (JoD g)=true->Jur/\Jg (Jqy g)/\(0:Int)<=(g:Int)-1/\(g:Int)-1 < (JoF t)/\AV.bool (JoE g)=AV.bool false/\AV.bool false=AV.bool false/\AV.bool (decide
  (JoD g))=AV.bool true/\nth (Jn (Jer t) (Jqy g).toNat) 0=AV.i (cI (Jer t) (Jqy g).toNat)/\(decide (Z19n t g)=true->AV.i 11=AV.i (Qs t))/\(Z19h t g))/\(decide (JoD g)=false->Jur/\Jur/\AV.bool (JoE g) =
  AV.bool false/\AV.bool false=AV.bool false/\AV.bool (decide (JoD g))=AV.bool false/\(false=true->AV.i 11=AV.i (Qs t))/\(Z19k g t)))))/\(decide ((g:Int) < (Jup t))=false->P0 125 [AV.agg (Jf t)] (AV.i
  (Vs t))/\AV.i (Vs t)=AV.i (Qs t)))):=by
   delta Z19a Z19b Z19c Jer Z19e Z19f Z19g Z19h Z19i Z19j Z19k Z19l JoF Z19n Jur Z19p Juq Z19r JoE JoD Z19u Jqy Jup Z19x Z19y Juo
   have hls:(List.map Jh t.sh).length=t.sh.length:=Kb _
   have hlq:(List.map Jh t.sq).length=t.sq.length:=Kb _
   have e1:Jb [Jk (!JH t.name) 8,JF ((List.map Jh t.sh).length:Int) 8,Jb (List.map (fun r=>Jc (hdI r) 0 1000) (List.map Jh t.sh)),Jk (JbA t.sh t.sh.length != 1000) 1]=Um t:=by
    unfold Um
    rw[hls,Dc]
    rfl
   have e2:Jb [Qx t.dir 2000,Jc t.side 0 1000,JF ((List.map Jh t.sq).length:Int) 8,Jb (List.map (fun r=>Jc (hdI r) 0 100000000000) (List.map Jh t.sq))]=UQ t:=by
    unfold UQ
    rw[hlq,Dc]
    rfl
   refine⟨⟨c122 _ hN,c92 _ _,c123 _ _,Jnz _ _ hs,c121 _ (by omega),c92 _ _,c87 [_,_,_,_] (by simp),mk3 e1⟩,fun h=>?_,fun h=>⟨⟨Jnz t.dir 2000 (show(8:Nat)<=1000 by decide),c89 _ _ _,c123 _ _,Jnz _ _ hq,c87 [_,_,_,_] (by simp),mk4 e2⟩,fun h2=>?_,fun h2=>⟨⟨0,⟨by omega,by intros;omega⟩,mk49 (congrArg Nat.cast hlq)⟩,fun g ⟨hg,ha⟩=>⟨fun hd=>?_,fun hd=>?_⟩⟩⟩⟩
   . exact congrArg AV.i (if_pos h).symm
   . rw[Qs,if_neg (by rw[h];decide),Xs h2]
   . have hlt:=Js hd
     have hF:WB t.sq g=true->AV.i 11=AV.i (Qs t):=fun hb=>by
      have e:fSq t.sq g=11:=by rw[fSq,if_pos hb]
      rw[Qs,if_neg (by rw[h];decide),UF (f:=fSq t.sq) h2 hd ha (by rw[e];decide),e]
     have hN:WB t.sq g=false->∃ (g':Nat),(g'<=t.sq.length/\∀ (k:Nat),k < g'->fSq t.sq k=0)/\t.sq.length-g' < t.sq.length-g/\(g:Int)+1=(g':Int):=fun hb =>
      ⟨g+1,⟨hlt,Ve ha (by rw[(fSq_z t.sq g).2 hb];rfl)⟩,by omega,rfl⟩
     have hb:WB t.sq g=(((((g:Int)) == 0) && cI (List.map Jh t.sq) ((g:Int)).toNat != 0) || (decide ((g:Int) > 0) && decide (cI (List.map Jh t.sq) ((g:Int)).toNat<=cI (List.map Jh t.sq) ((g:Int)-1).toNat))):=by
      rw[Qb,Qb]
      unfold WB
      by_cases e0:g=0
      . subst e0
        exact(Bool.or_false _).symm
      rw[if_neg e0,show((g:Int)-1).toNat=g-1 by omega,show decide ((g:Int) > 0)=true from decide_eq_true (by omega),show((g:Int) == 0)=false from beq_false_of_ne (by omega)]
      rfl
     have hat:nth (Jn (List.map Jh t.sq) ((g:Int)).toNat) 0=AV.i (cI (List.map Jh t.sq) ((g:Int)).toNat):=V2 hlt
     have hat2:(g:Int) > 0->nth (Jn (List.map Jh t.sq) ((g:Int)-1).toNat) 0=AV.i (cI (List.map Jh t.sq) ((g:Int)-1).toNat):=fun _=>V2 (by omega)
     rw[hb]at hF hN
     have h64:Jg ((g:Int)+1):=by unfold Jg;omega
     have h65:Jg ((g:Int)-1):=by unfold Jg;omega
     clear hb h h2 ha hd e1 e2
     generalize Qs t=q at hF ⊢
     generalize hC:(cI (List.map Jh t.sq) ((g:Int)).toNat != 0)=c at hF hN ⊢
     generalize hD:decide (cI (List.map Jh t.sq) ((g:Int)).toNat<=cI (List.map Jh t.sq) ((g:Int)-1).toNat)=d at hF hN ⊢
     clear hC hD
     obtain⟨_,_⟩:=h64
     obtain⟨_,_⟩:=h65
     refine⟨by omega,by omega,hat,?_⟩
     by_cases hk:g=0
     . have hA:decide ((g:Int) > 0)=false:=decide_eq_false (by omega)
       have hB:((g:Int) == 0)=true:=by rw[beq_iff_eq];omega
       rw[hA,hB]at hF hN ⊢
       cases c <;> cases d
       all_goals repeat' (first | apply And.intro | (intro h;cases h;done) | intro _)
       all_goals try first
        | omega
        | (unfold Jg;omega)
        | rfl
        | exact hF rfl
        | (obtain⟨g',q1,q2,q3⟩:=hN rfl;exact⟨g',q1,q2,by rw[q3]⟩)
     have hA:decide ((g:Int) > 0)=true:=decide_eq_true (by omega)
     have hB:((g:Int) == 0)=false:=beq_false_of_ne (by omega)
     have hat2:=hat2 (by omega)
     rw[hA,hB]at hF hN ⊢
     cases c <;> cases d
     all_goals repeat' (first | apply And.intro | (intro h;cases h;done) | intro _)
     all_goals try first
      | omega
      | (unfold Jg;omega)
      | rfl
      | exact hat2
      | exact hF rfl
      | (obtain⟨g',q1,q2,q3⟩:=hN rfl;exact⟨g',q1,q2,by rw[q3]⟩)
   refine⟨c125 t hn hq hl,?_⟩
   rw[Qs,if_neg (by rw[h];decide),UG h2 hd hg ha]
 exact JU Tryz.f53 ({ fzB (mkB (sp53 t) 53 [(9,2,rdJ),(10,16,rdJ)] (fun j=>if j.beq 0 then some (la53 t)else none))with cut:=cut53 t,gs:=gs53,split:=fun j=>if j.beq 10 then 1 else 0 }) key (by kernel_rfl)
def Jny(t:Ty):Int:=Jb [Jk (!JH t.name) 8,QS t.sh,Jb (t.dir.map fun x=>Jc x 0 2000),Jc t.side 0 1000,JP t.sq,Jk ((t.st.length:Int) == 0) 12,Jk (decide ((t.st.length:Int) > 6)) 5]
def JbG(t:Ty):Int:=sLS (Jny t) (Q8 t) t.st.length 0
def sp32(t:Ty):Nat->List AV->Option AV
 | 107,_=>some (.i (QS t.sh))
 | 109,_=>some (.i (JP t.sq))
 | 110,[_,.int _ n]=>some (.i (Q8 t n.toNat))
 | 108,_=>some (.i (Jb (t.dir.map fun x=>Jc x 0 2000)))
 | n,x=>spR n x
def la32(t:Ty):LA:={
 pre:=[.keep [1,6] [],.bound 1],post:=[.keep [1,6] [],.bound 1]
 Gh:=Nat
 st:=fun i=>⟨[(1,.elt 13 [Jf t] 0 0),(6,.i i)],[],1⟩
 ok:=fun i=>i<=t.st.length/\∀ k,k < i->Q8 t k=0
 ms:=fun i=>t.st.length-i }
def cut32(t:Ty):Nat->Option (AS->AS):=fun j=>if j.beq 6 then some (Jnw [1,5] [] 1 5 fun _=>.i (Jny t))else none
def gs32:Nat->List GS:=fun j=>if j.beq 6 then[.keep [1,5] [],.bound 1]else[]
def cl32:Operand->Bool
 | .tmp t=>t.beq 10
 | _=>false
abbrev Z20a(t:Ty):=Jb [Jc t.d0 (0:Int) (2000:Int),Jc t.d1 (0:Int) (2000:Int),Jc t.d2 (0:Int) (2000:Int),Jc t.d3 (0:Int) (2000:Int),Jc t.d4 (0:Int) (2000:Int),Jc t.d5 (0:Int) (2000:Int),Jc t.d6 (0:Int) (2000:Int),Jc t.d7 (0:Int) (2000:Int)]
abbrev Z20b(t:Ty):=[[AV.str t.name,AV.sl (1:Nat) (List.map Jh t.sh),AV.i t.d0,AV.i t.d1,AV.i t.d2,AV.i t.d3,AV.i t.d4,AV.i t.d5,AV.i t.d6,AV.i t.d7,AV.i t.side,AV.sl (1:Nat) (List.map Jh t.sq),AV.sl (2:Nat) (List.map Ji t.st)]]
abbrev Z20i(t:Ty):=Jk (!JH t.name) (8:Int)
abbrev Z20f(t:Ty):=Jc t.side (0:Int) (1000:Int)
abbrev Jti(t:Ty):=((List.map Ji t.st).length:Int)
abbrev Z20g(t:Ty):=Jk ((Jti t) == 0) (12:Int)
abbrev Z20e(t:Ty):=Jk (decide ((Jti t) > 6)) (5:Int)
abbrev Z20c(t:Ty):=Jb [hdI [AV.i (Z20i t)],hdI [AV.i (QS t.sh)],hdI [AV.i (Z20a t)],hdI [AV.i (Z20f t)],hdI [AV.i (JP t.sq)],hdI [AV.i (Z20g t)],hdI [AV.i (Z20e t)]]
abbrev Z20h(t:Ty):=((1:Nat),AV.elt (13:Nat) (Z20b t) (0:Nat) (0:Nat))
abbrev Z20j(g:Nat)(t:Ty):=(g<=t.st.length/\∀ (k:Nat),k < g->Q8 t k=(0:Int))
theorem c32(t:Ty)(hn:t.st.length<=1000)(hs:t.sh.length<=1000)(hq:t.sq.length<=1000)(hl:∀ s,s ∈ t.st->s.e.length<=1000)(hN:t.name.length<=1000000):P0 32 [.agg (Jf t)] (.i (JbG t)):=by
 have key :
  (0:Int)<=0/\(0:Int) < (8:Int)/\1<=9223372036854775807/\8<=140737488355328/\Jg ((0:Int)+1)/\(0:Int)<=0+1/\(0:Int)+1 < (8:Int)/\2<=9223372036854775807/\16<=140737488355328/\Jg ((0:Int)+1 +
  1)/\(0:Int)<=0+1+1/\(0:Int)+1+1 < (8:Int)/\3<=9223372036854775807/\24<=140737488355328/\Jg ((0:Int)+1+1+1)/\(0:Int)<=0+1+1+1/\(0:Int)+1+1+1 < (8:Int)/\4<=9223372036854775807
  /\ 32<=140737488355328/\Jg ((0:Int)+1+1+1+1)/\(0:Int)<=0+1+1+1+1/\(0:Int)+1+1+1+1 < (8:Int)/\5<=9223372036854775807/\40<=140737488355328/\Jg ((0:Int)+1+1+1+1+1)/\(0:Int)
  ≤ 0+1+1+1+1+1/\(0:Int)+1+1+1+1+1 < (8:Int)/\6<=9223372036854775807/\48<=140737488355328/\Jg ((0:Int)+1+1+1+1+1+1)/\(0:Int)<=0+1+1+1+1+1+1/\(0:Int)+1+1+1+1 +
  1+1 < (8:Int)/\7<=9223372036854775807/\56<=140737488355328/\Jg ((0:Int)+1+1+1+1+1+1+1)/\(0:Int)<=0+1+1+1+1+1+1+1/\(0:Int)+1+1+1+1+1+1+1 < (8:Int)/\8 ≤
  9223372036854775807/\64<=140737488355328/\Jg ((0:Int)+1+1+1+1+1+1+1+1)/\(P0 106 [AV.str t.name] (AV.i (Z20i t))/\P0 107 [AV.sl 1 (List.map Jh t.sh)] (AV.i (QS t.sh))/\P0 108 [AV.sl 1 [[AV.i t.d0],
  [AV.i t.d1],[AV.i t.d2],[AV.i t.d3],[AV.i t.d4],[AV.i t.d5],[AV.i t.d6],[AV.i t.d7]],AV.i 0,AV.i 2000] (AV.i (Z20a t))/\P0 95 [AV.i t.side,AV.i 0,AV.i 1000] (AV.i (Z20f t))/\P0 109 [AV.sl 1 (List.map Jh t.sq)] (AV.i
  (JP t.sq))/\P0 94 [AV.bool ((Jti t) == 0),AV.i 12] (AV.i (Z20g t))/\P0 94 [AV.bool (decide ((Jti t) > 6)),AV.i 5] (AV.i (Z20e t))/\P0 93 [AV.sl 1 [[AV.i (Z20i t)],[AV.i (QS t.sh)],[AV.i (Z20a t)],[AV.i (Z20f
  t)],[AV.i (JP t.sq)],[AV.i (Z20g t)],[AV.i (Z20e t)]]] (AV.i (Z20c t))/\AS.mk [(1,AV.elt 13 (Z20b t) 0 (0:Nat)),(5,AV.i (Z20c t))] [] 1=AS.mk [(1,AV.elt 13 (Z20b t) 0 (0:Nat)),(5,AV.i (Jny t))] [] 1)/\((Jny
  t != 0)=true->AV.i (Jny t)=AV.i (JbG t))/\((Jny t != 0)=false->(∃ (g:Nat),(Z20j g t)/\AS.mk [(1,AV.elt 13 [(Jf t)] 0 0),(6,AV.i 0)] [] 1=AS.mk [(1,AV.elt 13 [(Jf t)] 0 0),(6,AV.i (g:Int))] [] 1)/\∀
  (g:Nat),(Z20j g t)->(decide ((g:Int) < (Jti t))=true->P0 110 [AV.agg (Jf t),AV.i (g:Int)] (AV.i (Q8 t (g:Int).toNat))/\((Q8 t (g:Int).toNat != 0)=true->AV.i (Q8 t (g:Int).toNat)=AV.i (JbG
  t))/\((Q8 t (g:Int).toNat != 0)=false->Jg ((g:Int)+1)/\∃ (g':Nat),(g'<=t.st.length/\∀ (k:Nat),k < g'->Q8 t k=(0:Int))/\t.st.length-g' < t.st.length-g/\AS.mk [(Z20h t),((6:Nat),AV.i ((↑g :
  Int)+1))] [] (1:Nat)=AS.mk [(Z20h t),((6:Nat),AV.i (g':Int))] [] (1:Nat)))/\(decide ((g:Int) < (Jti t))=false->AV.i 0=AV.i (JbG t))):=by
   delta Z20a Z20b Z20c Jti Z20e Z20f Z20g Z20h Z20i Z20j
   have hlm:(List.map Ji t.st).length=t.st.length:=Kb _
   have e1:Jb [Jk (!JH t.name) 8,QS t.sh,Jb [Jc t.d0 0 2000,Jc t.d1 0 2000,Jc t.d2 0 2000,Jc t.d3 0 2000,Jc t.d4 0 2000,Jc t.d5 0 2000,Jc t.d6 0 2000,Jc t.d7 0 2000],Jc t.side 0 1000,JP t.sq,Jk (((List.map Ji t.st).length:Int) == 0) 12,Jk (decide (((List.map Ji t.st).length:Int) > 6)) 5]=Jny t:=by
    unfold Jny
    rw[<- hlm]
    rfl
   refine⟨by omega,by omega,by omega,by omega,by unfold Jg;omega,by omega,by omega,by omega,by omega,by unfold Jg;omega,by omega,by omega,by omega,by omega,by unfold Jg;omega,by omega,by omega,by omega,by omega,by unfold Jg;omega,by omega,by omega,by omega,by omega,by unfold Jg;omega,by omega,by omega,by omega,by omega,by unfold Jg;omega,by omega,by omega,by omega,by omega,by unfold Jg;omega,by omega,by omega,by omega,by omega,by unfold Jg;omega,⟨c106 _ hN,c107 _ hs,c108 t.dir 0 2000 (show(8:Nat)<=1000000 by decide),c95 _ _ _,c109 _ hq,c94 _ _,c94 _ _,c93 [_,_,_,_,_,_,_] (by simp),mk5 e1⟩,fun h=>congrArg AV.i (Xs h).symm,fun h=>⟨⟨0,⟨by omega,by intros;omega⟩,rfl⟩,fun g ⟨hg,ha⟩=>⟨fun hd=>?_,fun hd=>?_⟩⟩⟩
   . rw[hlm]at hd
     have hlt:=Js hd
     refine⟨c110 t g hlt hn (hl _ (JoZ hlt)) (fun h0 h1=>?_),fun hx=>?_,fun hx=>⟨by unfold Jg;omega,g+1,⟨hlt,Ve ha hx⟩,by omega,rfl⟩⟩
     . have hc:=(Jkh (ha (g-1) (by omega))).1
       unfold UR at hc
       have:=UN hc
       omega
     have hx:(Q8 t g != 0)=true:=hx
     rw[JbG,UF h hd ha hx]
     rfl
   rw[hlm]at hd
   rw[JbG,UG h hd hg ha]
 exact JU Tryz.f32 ({ fzB (mkB (sp32 t) 32 [] (fun j=>if j.beq 2 then some (la32 t)else none))with cut:=cut32 t,gs:=gs32,cl:=cl32,bx:=fun i=>if i.beq 0 then[.frzo 3]else[] }) key (by kernel_rfl)
theorem c150(s:Sg)(p:Int) :P0 150 [.agg (Ji s),.elt 1 [[.i p]] 0 0] (.bool (decide (s.p>=p))):=by
 have key :
  AV.bool (decide (s.p>=p))=AV.bool (decide (s.p>=p)):=by
   rfl
 exact JU Tryz.f150 (mkB spR 150 [] QJ) key (by kernel_rfl)
def geN(t:Ty)(p:Int):Nat->Nat
 | 0=>0
 | n+1=>if geN t p n < n then geN t p n else if p<=(t.sg n).p then n else n+1
theorem JcE{t:Ty}{p:Int}:∀ {i:Nat},(∀ j,j < i->(t.sg j).p < p)->geN t p i=i
 | 0,_=>rfl
 | i+1,h=>by
  have h1:geN t p i=i:=JcE fun j hj=>h j (by omega)
  have h2:=h i (by omega)
  simp only[geN]
  rw[h1,if_neg (by omega),if_neg (by omega)]
theorem JgQ{t:Ty}{p:Int}{i:Nat}(h:∀ j,j < i->(t.sg j).p < p)(hp:p<=(t.sg i).p):∀ {m:Nat},i < m->geN t p m=i
 | 0,h0=>absurd h0 (by omega)
 | m+1,h0=>by
  simp only[geN]
  by_cases e:i=m
  . subst e
    rw[JcE h,if_neg (by omega),if_pos hp]
  rw[JgQ h hp (m:=m) (by omega),if_pos (by omega)]
def geI(t:Ty)(p:Int):Int:=if geN t p t.st.length=t.st.length then -1 else geN t p t.st.length
def sp149:Nat->List AV->Option AV
 | 150,[.agg [.int _ q,_],.elt _ [[.int _ p]] _ _]=>some (.bool (decide (q>=p)))
 | n,x=>spR n x
def la149(t:Ty)(p:Int):LA:={
 pre:=[.keep [0,1,7,8] [],.bound 1],post:=[.keep [0,1,7,8] [],.bound 1]
 Gh:=Nat
 st:=fun i=>⟨[(0,.sl 2 (t.st.map Ji)),(1,.fn (.func 150) [] [.elt 1 [[.i p]] 0 0]),(7,.i t.st.length),(8,.i i)],[],1⟩
 ok:=fun i=>i<=t.st.length/\∀ j,j < i->(t.sg j).p < p
 ms:=fun i=>t.st.length-i }
abbrev Jqx(t:Ty)(g:Nat):=t.st.getD (g:Int).toNat default
abbrev Jqw(t:Ty):=List.map Ji t.st
abbrev Jun(t:Ty):=(t.st.length:Int)
abbrev Z21d(p:Int):=[AV.elt 1 [[AV.i p]] 0 0]
theorem c149(t:Ty)(p:Int)(hn:t.st.length<=1000):P0 149 [.sl 2 (t.st.map Ji),.fn (.func 150) [] [.elt 1 [[.i p]] 0 0]] (.i (geI t p)):=by
 have key :
  (∃ (g:Nat),(g<=t.st.length/\∀ (j:Nat),j < g->(t.sg j).p < p)/\AS.mk [(0,AV.sl 2 (Jqw t)),(1,AV.fn (Fn.func 150) [] (Z21d p)),(7,AV.i ((Jqw t).length:Int)),(8,AV.i 0)] [] 1=AS.mk [(0,AV.sl 2 (Jqw t)),(1,
  AV.fn (Fn.func 150) [] (Z21d p)),(7,AV.i (Jun t)),(8,AV.i (g:Int))] [] 1)/\∀ (g:Nat),(g<=t.st.length/\∀ (j:Nat),j < g->(t.sg j).p < p)->(decide ((g:Int) < (Jun t))=true->(0:Int)<=(g:Int)/\(g:Int)
  < ((Jqw t).length:Int)/\AV.agg (Jn (Jqw t) (g:Int).toNat)=AV.agg [AV.i (Jqx t g).p,AV.sl 1 (List.map Jh (Jqx t g).e)]/\P0 150 [AV.agg [AV.i (Jqx t g).p,AV.sl 1 (List.map Jh (Jqx t g).e)],AV.elt 1 [[AV.i p]]
  0 0] (AV.bool (decide ((Jqx t g).p>=p)))/\(decide ((Jqx t g).p>=p)=true->AV.i (g:Int)=AV.i (geI t p))/\(decide ((Jqx t g).p>=p)=false->Jg ((g:Int)+1)/\∃ (g':Nat),(g'<=t.st.length/\∀ (j:Nat),j < g'
  → (t.sg j).p < p)/\t.st.length-g' < t.st.length-g/\AS.mk [(0,AV.sl 2 (Jqw t)),(1,AV.fn (Fn.func 150) [] (Z21d p)),(7,AV.i (Jun t)),(8,AV.i ((g:Int)+1))] [] 1=AS.mk [(0,AV.sl 2 (Jqw t)),(1,AV.fn (Fn.func
  150) [] (Z21d p)),(7,AV.i (Jun t)),(8,AV.i (g':Int))] [] 1))/\(decide ((g:Int) < (Jun t))=false->AV.i (-1)=AV.i (geI t p)):=by
   delta Jqx Jqw Jun Z21d
   have hlm:(List.map Ji t.st).length=t.st.length:=Kb _
   refine⟨⟨0,⟨by omega,by intros;omega⟩,by rw[hlm];rfl⟩,fun g ⟨hg,ha⟩=>⟨fun hd=>?_,fun hd=>?_⟩⟩
   . have hlt:=Js hd
     refine⟨by omega,by omega,congrArg AV.agg (Jq Ji hlt),c150 _ _,fun hx=>?_,fun hx=>⟨by unfold Jg;omega,g+1,⟨hlt,fun j hj=>?_⟩,by omega,rfl⟩⟩
     . have hp:p<=(t.sg g).p:=K0 hx
       rw[geI,JgQ ha hp hlt,if_neg (by omega)]
     have hp:¬ (t.sg g).p>=p:=K1 hx
     by_cases e:j=g
     . rw[e];omega
     exact ha j (by omega)
   have e:=Jz hd hg
   subst e
   rw[geI,JcE ha,if_pos rfl]
 exact JU Tryz.f149 (mkB sp149 149 [(4,4,rdL 2 Ji t.st 2 true)] (fun j=>if j.beq 0 then some (la149 t p)else none)) key (by kernel_rfl)
def Xb(l:List Int)(d:Int):Nat->Nat
 | 0=>0
 | n+1=>if decide (l.getD n default<=d)then n else Xb l d n
def emi(t:Ty)(p d:Int):Int :=
 if geN t p t.st.length=t.st.length then eAt (t.sg (t.st.length-1)).e (Xb t.sq d t.sq.length)
 else if geN t p t.st.length=0 ∨ (t.sg (geN t p t.st.length)).p=p then eAt (t.sg (geN t p t.st.length)).e (Xb t.sq d t.sq.length)
 else Jv (eAt (t.sg (geN t p t.st.length-1)).e (Xb t.sq d t.sq.length)) (eAt (t.sg (geN t p t.st.length)).e (Xb t.sq d t.sq.length)) (p-(t.sg (geN t p t.st.length-1)).p) ((t.sg (geN t p t.st.length)).p-(t.sg (geN t p t.st.length-1)).p)
structure OKTy(t:Ty):Prop where
 n1:1<=t.st.length
 n2:t.st.length<=1000
 q1:1<=t.sq.length
 q2:t.sq.length<=1000
 el:∀ i,i < t.st.length->(t.sg i).e.length=t.sq.length
 pb:∀ i,i < t.st.length->1<=(t.sg i).p/\(t.sg i).p<=100
 up:∀ i,i+1 < t.st.length->(t.sg i).p < (t.sg (i+1)).p
 eb:∀ i k,i < t.st.length->k < t.sq.length->0<=eAt (t.sg i).e k/\eAt (t.sg i).e k<=100000000
theorem WV{l:List Int}{d:Int}:∀ {n:Nat},1<=n->Xb l d n < n
 | 0,h=>absurd h (by omega)
 | n+1,_=>by
  simp only[Xb]
  split
  . omega
  by_cases e:n=0
  . subst e;exact Nat.zero_lt_one
  have:=WV (l:=l) (d:=d) (n:=n) (by omega)
  omega
theorem JdT{t:Ty}{p:Int}:∀ m,geN t p m<=m
 | 0=>Kr _
 | m+1=>by
  simp only[geN]
  have:=JdT (t:=t) (p:=p) m
  split
  . omega
  split <;> omega
theorem VA{t:Ty}{p:Int}:∀ m j,j < geN t p m->(t.sg j).p < p
 | 0,j,h=>absurd h (by simp[geN])
 | m+1,j,h=>by
  simp only[geN]at h
  split at h
  . exact VA m j h
  rename_i h1
  have e:geN t p m=m:=by have:=JdT (t:=t) (p:=p) m;omega
  split at h
  . exact VA m j (by omega)
  rename_i h2
  by_cases e2:j=m
  . rw[e2];omega
  exact VA m j (by omega)
theorem JkQ{t:Ty}{p:Int}:∀ m,geN t p m < m->p<=(t.sg (geN t p m)).p
 | 0,h=>absurd h (by omega)
 | m+1,h=>by
  simp only[geN]at h ⊢
  split
  . rename_i h1;exact JkQ m h1
  split
  . rename_i h2;exact h2
  rename_i h1 h2;rw[if_neg h1,if_neg h2]at h;omega
theorem Jnp{t:Ty}{p d:Int}(h:geN t p t.st.length=t.st.length):cI (List.map Jh (t.sg (t.st.length-1)).e) (Xb t.sq d t.sq.length)=emi t p d:=by
 rw[Qb,emi,if_pos h]
 rfl
theorem Jpv{t:Ty}{p d:Int}(h:geN t p t.st.length < t.st.length)(h2:geN t p t.st.length=0 ∨ (t.sg (geN t p t.st.length)).p=p):cI (List.map Jh (t.sg (geN t p t.st.length)).e) (Xb t.sq d t.sq.length)=emi t p d:=by
 rw[Qb,emi,if_neg (by omega),if_pos h2]
 rfl
theorem JrW{t:Ty}{p d:Int}(h:geN t p t.st.length < t.st.length)(h2:¬ (geN t p t.st.length=0 ∨ (t.sg (geN t p t.st.length)).p=p)):Jv (cI (List.map Jh (t.sg (geN t p t.st.length-1)).e) (Xb t.sq d t.sq.length)) (cI (List.map Jh (t.sg (geN t p t.st.length)).e) (Xb t.sq d t.sq.length)) (p-(t.sg (geN t p t.st.length-1)).p) ((t.sg (geN t p t.st.length)).p-(t.sg (geN t p t.st.length-1)).p)=emi t p d:=by
 rw[Qb,Qb,emi,if_neg (by omega),if_neg h2]
 rfl
theorem sg_e{t:Ty}{x:Nat}(h:x < t.st.length):nth (Jn (List.map Ji t.st) x) 1=AV.sl 1 (List.map Jh (t.sg x).e):=by rw[Jq Ji h];rfl
theorem sg_p{t:Ty}{x:Nat}(h:x < t.st.length):nth (Jn (List.map Ji t.st) x) 0=AV.i (t.sg x).p:=by rw[Jq Ji h];rfl
theorem Jk6{t:Ty}{p:Int}{k:Nat}(h:OKTy t)(hp:1<=p)(hp2:p<=100)(hi:geN t p t.st.length < t.st.length)(h0:geN t p t.st.length ≠ 0)(hk:k < t.sq.length):BetOK (cI (List.map Jh (t.sg (geN t p t.st.length-1)).e) k) (cI (List.map Jh (t.sg (geN t p t.st.length)).e) k) (p-(t.sg (geN t p t.st.length-1)).p) ((t.sg (geN t p t.st.length)).p-(t.sg (geN t p t.st.length-1)).p):=by
 rw[Qb,Qb]
 obtain⟨a1,a2⟩:=h.eb (geN t p t.st.length-1) k (by omega) hk
 obtain⟨b1,b2⟩:=h.eb (geN t p t.st.length) k hi hk
 obtain⟨c1,c2⟩:=h.pb (geN t p t.st.length-1) (by omega)
 have c3:=VA t.st.length (geN t p t.st.length-1) (by omega:geN t p t.st.length-1 < geN t p t.st.length)
 have c4:=JkQ (t:=t) (p:=p) t.st.length hi
 have e0:∀ (l:List Int) (k:Nat),l.getD k default=eAt l k:=fun _ _=>rfl
 rw[e0,e0]
 exact⟨by omega,by omega,by omega,by omega,by omega,by omega,by omega⟩
def sp114(t:Ty):Nat->List AV->Option AV
 | 149,[_,.fn _ _ [.elt _ [[.int _ p]] _ _]]=>some (.i (geI t p))
 | 142,[.int _ a,.int _ b,.int _ p,.int _ w]=>some (.i (Jv a b p w))
 | 97,[.int _ a,.int _ b,.int _ p,.int _ w]=>some (.i (Jv a b p w))
 | n,x=>spR n x
def la114(t:Ty)(p d:Int):LA:={
 pre:=[.keep [2,3,4,7,14,15,16] [],.bound 1],post:=[.keep [2,3,4,7,14,15,16] [],.bound 1]
 Gh:=Nat
 st:=fun i=>⟨[(2,.i d),(3,.elt 13 [Jf t] 0 0),(4,.elt 1 [[.i p]] 0 0),(7,.i (Xb t.sq d i)),(14,.sl 1 (t.sq.map Jh)),(15,.i t.sq.length),(16,.i i)],[],1⟩
 ok:=fun i=>i<=t.sq.length
 ms:=fun i=>t.sq.length-i }
abbrev JlW(t:Ty)(p:Int):=t.st.getD (geI t p).toNat default
abbrev Jhr(t:Ty)(p:Int):=List.map Jh (JlW t p).e
abbrev JiX(t:Ty)(p:Int):=t.st.getD (geI t p-1).toNat default
abbrev Up(t:Ty)(d:Int)(g:Nat):=(↑(Xb t.sq d g):Int)
abbrev Jtg(t:Ty):=List.map Ji t.st
abbrev Jhq(t:Ty):=((Jtg t).length:Int)
abbrev JlV(t:Ty)(p:Int):=List.map Jh (JiX t p).e
abbrev JoC(t:Ty)(p:Int)(d:Int)(g:Nat):=cI (Jhr t p) (Up t d g).toNat
abbrev Z22e(t:Ty)(p:Int)(d:Int)(g:Nat):=Jv (cI (JlV t p) (Up t d g).toNat) (JoC t p d g) (p-(JiX t p).p) ((JlW t p).p-(JiX t p).p)
abbrev Jum(t:Ty):=List.map Jh (t.st.getD ((Jhq t)-1).toNat default).e
abbrev JiW(t:Ty):=List.map Jh t.sq
abbrev Jth(t:Ty):=(t.sq.length:Int)
abbrev Z22h(d:Int)(t:Ty)(p:Int)(g':Nat):=[(2,AV.i d),(3,AV.elt 13 [(Jf t)] 0 0),(4,AV.elt 1 [[AV.i p]] 0 0),(7,AV.i (↑(Xb t.sq d g'):Int)),(14,AV.sl 1 (JiW t)),(15,AV.i (Jth t)),(16,AV.i (g':Int))]
abbrev Jul(t:Ty)(p:Int):=Jn (Jtg t) (geI t p).toNat
abbrev Z22m(t:Ty)(p:Int)(d:Int)(g:Nat):=[AV.i (cI (JlV t p) (Up t d g).toNat),AV.i (JoC t p d g),AV.i (p-(JiX t p).p),AV.i ((JlW t p).p-(JiX t p).p)]
theorem c114(t:Ty)(p d:Int)(h:OKTy t)(hp:1<=p)(hp2:p<=100):P0 114 [.agg (Jf t),.i p,.i d] (.i (emi t p d)):=by
 have key :
  (∃ (g:Nat),g<=t.sq.length/\AS.mk [(2,AV.i d),(3,AV.elt 13 [(Jf t)] 0 0),(4,AV.elt 1 [[AV.i p]] 0 0),(7,AV.i 0),(14,AV.sl 1 (JiW t)),(15,AV.i ((JiW t).length:Int)),(16,AV.i 0)] [] 1=AS.mk [(2,AV.i d),
  (3,AV.elt 13 [(Jf t)] 0 0),(4,AV.elt 1 [[AV.i p]] 0 0),(7,AV.i (Up t d g)),(14,AV.sl 1 (JiW t)),(15,AV.i (Jth t)),(16,AV.i (g:Int))] [] 1)/\∀ (g:Nat),g<=t.sq.length->(decide ((g:Int) < (Jth t))=true
  → (0:Int)<=(g:Int)/\(g:Int) < ((JiW t).length:Int)/\nth (Jn (JiW t) (g:Int).toNat) 0=AV.i (cI (JiW t) (g:Int).toNat)/\(decide (cI (JiW t) (g:Int).toNat<=d)=true->Jg ((g:Int)+1)/\∃ (g' :
  Nat),g'<=t.sq.length/\t.sq.length-g' < t.sq.length-g/\AS.mk [(2,AV.i d),(3,AV.elt 13 [(Jf t)] 0 0),(4,AV.elt 1 [[AV.i p]] 0 0),(7,AV.i (g:Int)),(14,AV.sl 1 (JiW t)),(15,AV.i (Jth t)),(16,AV.i ((↑g :
  Int)+1))] [] 1=AS.mk (Z22h d t p g') [] 1)/\(decide (cI (JiW t) (g:Int).toNat<=d)=false->Jg ((g:Int)+1)/\∃ (g':Nat),g'<=t.sq.length/\t.sq.length-g' < t.sq.length-g/\AS.mk [(2,AV.i d),(3,AV.elt 13
  [(Jf t)] 0 0),(4,AV.elt 1 [[AV.i p]] 0 0),(7,AV.i (Up t d g)),(14,AV.sl 1 (JiW t)),(15,AV.i (Jth t)),(16,AV.i ((g:Int)+1))] [] 1=AS.mk (Z22h d t p g') [] 1))/\(decide ((g:Int) < (Jth t))=false->P0
  149 [AV.sl 2 (Jtg t),AV.fn (Fn.func 150) [] [AV.elt 1 [[AV.i p]] 0 0]] (AV.i (geI t p))/\(decide (geI t p < 0)=true->Jg ((Jhq t)-1)/\(0:Int)<=(Jhq t)-1/\(Jhq t)-1 < (Jhq t)/\(0:Int)<=(Up t d g)/\(Up
  t d g) < ((Jum t).length:Int)/\nth (Jn (Jtg t) ((Jhq t)-1).toNat) 1=AV.sl 1 (Jum t)/\nth (Jn (Jum t) (Up t d g).toNat) 0=AV.i (cI (Jum t) (Up t d g).toNat)/\AV.i (cI (Jum t) (Up t d g).toNat)=AV.i
  (emi t p d))/\(decide (geI t p < 0)=false->((geI t p == 0)=true->(true=false->false=true)/\AV.bool (geI t p == 0)=AV.bool true/\(true=true->(0:Int)<=geI t p/\geI t p < (Jhq t)/\(0:Int)<=(Up t d g) /\
  (Up t d g) < ((Jhr t p).length:Int)/\nth (Jul t p) 1=AV.sl 1 (Jhr t p)/\nth (Jn (Jhr t p) (Up t d g).toNat) 0=AV.i (JoC t p d g)/\AV.i (JoC t p d g)=AV.i (emi t p d))/\(true=false->Jg (geI t p-1) /\
  (0:Int)<=geI t p-1/\geI t p-1 < (Jhq t)/\(0:Int)<=geI t p/\geI t p < (Jhq t)/\AV.agg (Jn (Jtg t) (geI t p-1).toNat)=AV.agg [AV.i (JiX t p).p,AV.sl 1 (JlV t p)]/\AV.agg (Jul t p)=AV.agg [AV.i (JlW t
  p).p,AV.sl 1 (Jhr t p)]/\(0:Int)<=(Up t d g)/\(Up t d g) < ((JlV t p).length:Int)/\(0:Int)<=(Up t d g)/\(Up t d g) < ((Jhr t p).length:Int)/\Jg (p-(JiX t p).p)/\Jg ((JlW t p).p-(JiX t p).p)
  /\ nth (Jn (JlV t p) (Up t d g).toNat) 0=AV.i (cI (JlV t p) (Up t d g).toNat)/\nth (Jn (Jhr t p) (Up t d g).toNat) 0=AV.i (JoC t p d g)/\P0 142 (Z22m t p d g) (AV.i (Z22e t p d g))/\AV.i (Z22e t p d g)=AV.i
  (emi t p d)))/\((geI t p == 0)=false->(0:Int)<=geI t p/\geI t p < (Jhq t)/\AV.bool (geI t p == 0)=AV.bool false/\nth (Jul t p) 0=AV.i (JlW t p).p/\(((JlW t p).p == p)=true->(0:Int)<=geI t p/\geI t p <
  (Jhq t)/\(0:Int)<=(Up t d g)/\(Up t d g) < ((Jhr t p).length:Int)/\nth (Jul t p) 1=AV.sl 1 (Jhr t p)/\nth (Jn (Jhr t p) (Up t d g).toNat) 0=AV.i (JoC t p d g)/\AV.i (JoC t p d g)=AV.i (emi t p d)) /\
  (((JlW t p).p == p)=false->Jg (geI t p-1)/\(0:Int)<=geI t p-1/\geI t p-1 < (Jhq t)/\(0:Int)<=geI t p/\geI t p < (Jhq t)/\AV.agg (Jn (Jtg t) (geI t p-1).toNat)=AV.agg [AV.i (JiX t p).p,AV.sl 1 (JlV
  t p)]/\AV.agg (Jul t p)=AV.agg [AV.i (JlW t p).p,AV.sl 1 (Jhr t p)]/\(0:Int)<=(Up t d g)/\(Up t d g) < ((JlV t p).length:Int)/\(0:Int)<=(Up t d g)/\(Up t d g) < ((Jhr t p).length:Int)/\Jg (p -
  (JiX t p).p)/\Jg ((JlW t p).p-(JiX t p).p)/\nth (Jn (JlV t p) (Up t d g).toNat) 0=AV.i (cI (JlV t p) (Up t d g).toNat)/\nth (Jn (Jhr t p) (Up t d g).toNat) 0=AV.i (JoC t p d g)/\P0 142 (Z22m t p d g)
  (AV.i (Z22e t p d g))/\AV.i (Z22e t p d g)=AV.i (emi t p d))))):=by
   delta Jhr JiX Up Jhq Z22e JlW Jum Z22h JlV Jul JoC JiW Z22m Jth Jtg
   have hlm:(List.map Ji t.st).length=t.st.length:=Kb _
   have hlq:(List.map Jh t.sq).length=t.sq.length:=Kb _
   have hn1:=h.n1
   have hn2:=h.n2
   have hq1:=h.q1
   have hq2:=h.q2
   refine⟨⟨0,by omega,by rw[hlq];rfl⟩,fun g hg=>⟨fun hd=>?_,fun hd=>?_⟩⟩
   . have hlt:=Js hd
     have hc:=Qb t.sq g
     refine⟨by omega,by omega,V2 hlt,fun hx=>⟨by unfold Jg;omega,g+1,hlt,by omega,?_⟩,fun hx=>⟨by unfold Jg;omega,g+1,hlt,by omega,?_⟩⟩
     . have hx:decide (cI (List.map Jh t.sq) g<=d)=true:=hx
       rw[hc]at hx
       simp only[Xb]
       rw[if_pos hx]
       rfl
     have hx:decide (cI (List.map Jh t.sq) g<=d)=false:=hx
     rw[hc]at hx
     simp only[Xb]
     rw[if_neg (by rw[hx];decide)]
     rfl
   have e:=Jz hd hg
   subst e
   have hK:=WV (l:=t.sq) (d:=d) hq1
   have hKL:∀ j,j < t.st.length->Xb t.sq d t.sq.length < (List.map Jh (t.sg j).e).length:=fun j hj=>by
    rw[Kb,h.el j hj]
    exact hK
   have hat:∀ j,j < t.st.length->nth (Jn (List.map Jh (t.sg j).e) (Xb t.sq d t.sq.length)) 0=AV.i (cI (List.map Jh (t.sg j).e) (Xb t.sq d t.sq.length)):=fun j hj=>V2 (by rw[h.el j hj];exact hK)
   have hle:=JdT (t:=t) (p:=p) t.st.length
   refine⟨c149 t p hn2,?_⟩
   rw[hlm]
   by_cases hi:geN t p t.st.length=t.st.length
   . have e:geI t p = -1:=if_pos hi
     rw[e]
     refine⟨fun _=>?_,fun hx=>absurd hx (by decide)⟩
     rw[show((t.st.length:Int)-1).toNat=t.st.length-1 by omega]
     have:=hKL (t.st.length-1) (by omega)
     exact⟨by unfold Jg;omega,by omega,by omega,by omega,Int.ofNat_lt.2 this,sg_e (by omega),hat _ (by omega),congrArg AV.i (Jnp hi)⟩
   have hi2:geN t p t.st.length < t.st.length:=by omega
   have e:geI t p=geN t p t.st.length:=if_neg hi
   rw[e]
   have hk:=hKL _ hi2
   refine⟨fun hx=>?_,fun _=>⟨fun h0=>⟨fun hx=>absurd hx (by decide),congrArg AV.bool h0,fun _=>?_,fun hx=>absurd hx (by decide)⟩,fun h0=>⟨by omega,by omega,congrArg AV.bool h0,sg_p hi2,fun h1=>?_,fun h1=>?_⟩⟩⟩
   . have:=K0 hx
     omega
   . have h0':geN t p t.st.length=0:=by have:=beq_iff_eq.1 h0;omega
     exact⟨by omega,by omega,by omega,Int.ofNat_lt.2 hk,sg_e hi2,hat _ hi2,congrArg AV.i (Jpv hi2 (Or.inl h0'))⟩
   . exact⟨by omega,by omega,by omega,Int.ofNat_lt.2 hk,sg_e hi2,hat _ hi2,congrArg AV.i (Jpv hi2 (Or.inr (beq_iff_eq.1 h1)))⟩
   have h0':geN t p t.st.length ≠ 0:=by
    intro hz
    rw[hz]at h0
    exact absurd h0 (by decide)
   have h1':(t.sg (geN t p t.st.length)).p ≠ p:=ne_of_beq_false h1
   rw[show((geN t p t.st.length:Int)-1).toNat=geN t p t.st.length-1 by omega]
   have hk2:=hKL (geN t p t.st.length-1) (by omega)
   have hB:=Jk6 h hp hp2 hi2 h0' hK
   obtain⟨x1,x2⟩:=h.pb (geN t p t.st.length-1) (by omega)
   obtain⟨y1,y2⟩:=h.pb _ hi2
   have x1:1<=(t.st.getD (geN t p t.st.length-1) default).p:=x1
   have x2:(t.st.getD (geN t p t.st.length-1) default).p<=100:=x2
   have y1:1<=(t.st.getD ((geN t p t.st.length:Int)).toNat default).p:=y1
   have y2:(t.st.getD ((geN t p t.st.length:Int)).toNat default).p<=100:=y2
   refine⟨by unfold Jg;omega,by omega,by omega,by omega,by omega,congrArg AV.agg (Jq Ji (by omega)),congrArg AV.agg (Jq Ji hi2),by omega,Int.ofNat_lt.2 hk2,by omega,Int.ofNat_lt.2 hk,?_,?_,hat _ (by omega),hat _ hi2,c142 _ _ _ _ hB,congrArg AV.i (JrW hi2 (fun hx=>hx.elim h0' h1'))⟩
   . unfold Jg
     omega
   unfold Jg
   omega
 exact JU Tryz.f114 ({ fzB (mkB (sp114 t) 114 [(4,2,rdJ),(10,8,rdL 2 Ji t.st 1 false),(10,11,rdJ),(11,8,rdL 2 Ji t.st 1 false),(12,5,rdL 2 Ji t.st 1 false),(12,8,rdJ),(13,5,rdL 2 Ji t.st 2 true),(13,10,rdL 2 Ji t.st 2 true),(14,4,rdJ),(14,9,rdJ)] (fun j=>if j.beq 0 then some (la114 t p d)else none))with split:=fun j=>if j.beq 11 then 1 else 0 }) key (by kernel_rfl)
end Go.Proofs.YtjhjmncjidbieaaGreatDoor
