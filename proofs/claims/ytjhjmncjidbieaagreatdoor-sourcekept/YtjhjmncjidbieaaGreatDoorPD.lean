/-
  What chapter 2's reference emission returns, on a type that passes its checks. What chapter 2's sectors return. What chapter 2's reference sector returns. What chapter 2's heard of a state returns. No condition but the theorems' own.
-/
import Derived.Test.YtjhjmncjidbieaaGreatDoorPC
import Derived.Test.YtjhjmncjidbieaaGreatDoorAvD
import Derived.Test.YtjhjmncjidbieaaGreatDoorPA
import Derived.Shelf.Strings.OnBuilder
import Derived.Shelf.LaysM
import Derived.Shelf.Strconv.Itoa3
import Derived.Test.YtjhjmncjidbieaaGreatDoorProg
namespace Go.Proofs.YtjhjmncjidbieaaGreatDoor
open Go Go.Av Go.RowKit
def sec:Nat->Int->Int->Int->Int
 | 0,_,_,_=>0
 | n+1,i,x,y=>if(decide (x > y) && decide (y>=0)) || (x == 0 && y == 0)then i else if decide (y>=x) && decide (x > 0)then i+1 else sec n (i+2) y (-x)
def rX:Nat->Int->Int->Int
 | 0,x,_=>x
 | 1,_,y=>y
 | 2,x,_ => -x
 | 3,_,y => -y
 | _,x,_=>x
def rY:Nat->Int->Int->Int
 | 0,_,y=>y
 | 1,x,_ => -x
 | 2,_,y => -y
 | 3,x,_=>x
 | _,_,y=>y
def Qw(a b c d:Int):Int:=a * c+b * d
def Qv(a b c d:Int):Int:=a * d-b * c
theorem rX_b{B x y:Int}(hx : -B<=x/\x<=B)(hy : -B<=y/\y<=B):∀ k, -B<=rX k x y/\rX k x y<=B
 | 0=>hx
 | 1=>hy
 | 2=>by simp only[rX];omega
 | 3=>by simp only[rX];omega
 | _+4=>hx
theorem Jgq{x y:Int}:∀ {k:Nat},k < 4->rX (k+1) x y=rY k x y/\rY (k+1) x y=0-rX k x y
 | 0,_=>⟨rfl,by simp only[rX,rY];omega⟩
 | 1,_=>⟨rfl,by simp only[rX,rY];omega⟩
 | 2,_=>⟨rfl,by simp only[rX,rY];omega⟩
 | 3,_=>⟨rfl,by simp only[rX,rY];omega⟩
 | _+4,h=>absurd h (by omega)
theorem sec_in{a b c d:Int}(ha : -200000<=a/\a<=200000)(hb : -200000<=b/\b<=200000)(hc : -200000<=c/\c<=200000)(hd : -200000<=d/\d<=200000) :
 Jg (a * c)/\Jg (b * d)/\Jg (a * c+b * d)/\Jg (a * d)/\Jg (b * c)/\Jg (a * d-b * c)/\(-100000000000<=Qw a b c d/\Qw a b c d<=100000000000)/\(-100000000000<=Qv a b c d/\Qv a b c d<=100000000000):=by
 have h1:=J4 ha.1 ha.2 hc.1 hc.2
 have h2:=J4 hb.1 hb.2 hd.1 hd.2
 have h3:=J4 ha.1 ha.2 hd.1 hd.2
 have h4:=J4 hb.1 hb.2 hc.1 hc.2
 unfold Qw Qv Jg
 generalize a * c=w1 at *
 generalize b * d=w2 at *
 generalize a * d=w3 at *
 generalize b * c=w4 at *
 omega
theorem Jmy{g:Nat}{x y S:Int}(hg:g < 4)(hs:sec (4-g) (2 * g:Nat) (rX g x y) (rY g x y)=S) :
 ((((decide (rX g x y > rY g x y) && decide (rY g x y>=0)) || (rX g x y == 0 && rY g x y == 0))=true->AV.i (2 * g:Nat)=AV.i S) /\
 (((decide (rX g x y > rY g x y) && decide (rY g x y>=0)) || (rX g x y == 0 && rY g x y == 0))=false->(decide (rY g x y>=rX g x y) && decide (rX g x y > 0))=true->AV.i ((2 * g:Nat)+1)=AV.i S) /\
 (((decide (rX g x y > rY g x y) && decide (rY g x y>=0)) || (rX g x y == 0 && rY g x y == 0))=false->(decide (rY g x y>=rX g x y) && decide (rX g x y > 0))=false →
   ∃ g':Nat,(g'<=4/\sec (4-g') (2 * g':Nat) (rX g' x y) (rY g' x y)=S)/\4-g' < 4-g/\rY g x y=rX g' x y/\0-rX g x y=rY g' x y/\((2 * g:Nat):Int)+2=(2 * g':Nat))):=by
 rw[show 4-g=(3-g)+1 by omega]at hs
 simp only[sec]at hs
 refine⟨fun h=>?_,fun h h2=>?_,fun h h2=>⟨g+1,⟨hg,?_⟩,by omega,(Jgq hg).1.symm,(Jgq hg).2.symm,by omega⟩⟩
 . rw[if_pos h]at hs
   rw[hs]
 . rw[if_neg (by rw[h];decide),if_pos h2]at hs
   rw[hs]
 . rw[if_neg (by rw[h];decide),if_neg (by rw[h2];decide)]at hs
   rw[show 4-(g+1)=3-g by omega,(Jgq hg).1,(Jgq hg).2,show((2 * (g+1):Nat):Int)=((2 * g:Nat):Int)+2 by omega,show 0-rX g x y =-rX g x y by omega]
   exact hs
def la116(a b c d:Int):LA:={
 pre:=[.keep [5,6,7] [],.bound 1],post:=[.keep [5,6,7] [],.bound 1]
 Gh:=Nat
 st:=fun k=>⟨[(5,.i (rX k (Qw a b c d) (Qv a b c d))),(6,.i (rY k (Qw a b c d) (Qv a b c d))),(7,.i (2 * k:Nat))],[],1⟩
 ok:=fun k=>k<=4/\sec (4-k) (2 * k:Nat) (rX k (Qw a b c d) (Qv a b c d)) (rY k (Qw a b c d) (Qv a b c d))=sec 4 0 (Qw a b c d) (Qv a b c d)
 ms:=fun k=>4-k }
abbrev Z23g(g:Nat)(a:Int)(b:Int)(c:Int)(d:Int):=rY g (Qw a b c d) (Qv a b c d)>=rX g (Qw a b c d) (Qv a b c d)
abbrev Jc8(g:Nat):=(↑(2 * g):Int)
abbrev Jmm(a:Int)(b:Int)(c:Int)(d:Int):=sec 4 (0:Int) (Qw a b c d) (Qv a b c d)
abbrev Z23i(g':Nat)(a:Int)(b:Int)(c:Int)(d:Int):=g'<=4/\sec (4-g') (↑(2 * g'):Int) (rX g' (Qw a b c d) (Qv a b c d)) (rY g' (Qw a b c d) (Qv a b c d))=sec 4 (0:Int) (Qw a b c d) (Qv a b c d)
abbrev Z23j(g:Nat)(a:Int)(b:Int)(c:Int)(d:Int):=[(5,AV.i (rY g (Qw a b c d) (Qv a b c d))),(6,AV.i ((0:Int)-rX g (Qw a b c d) (Qv a b c d))),(7,AV.i ((Jc8 g)+2))]
abbrev Z23k(g':Nat)(a:Int)(b:Int)(c:Int)(d:Int):=[(5,AV.i (rX g' (Qw a b c d) (Qv a b c d))),(6,AV.i (rY g' (Qw a b c d) (Qv a b c d))),(7,AV.i (↑(2 * g'):Int))]
abbrev Jtf(g:Nat)(a:Int)(b:Int)(c:Int)(d:Int):=decide (Z23g g a b c d)=true->AV.bool (decide (Z23g g a b c d))=AV.bool true/\(decide (rX g (Qw a b c d) (Qv a b c d) > 0)=true->Jg ((Jc8 g)+1)/\AV.i ((Jc8 g)+1)=AV.i (Jmm a b c d))/\(decide (rX g (Qw a b c d) (Qv a b c d) > 0)=false->Jg ((0:Int)-rX g (Qw a b c d) (Qv a b c d))/\Jg ((Jc8 g)+2)/\∃ (g':Nat),(Z23i g' a b c d)/\4-g' < 4-g/\AS.mk (Z23j g a b c d) [] 1=AS.mk (Z23k g' a b c d) [] 1)
abbrev Jtd:=false=true->false=true
abbrev Jte(g:Nat)(a:Int)(b:Int)(c:Int)(d:Int):=decide (Z23g g a b c d)=false->Jtd/\AV.bool (decide (Z23g g a b c d))=AV.bool false/\(false=true->Jg ((Jc8 g)+1)/\AV.i ((Jc8 g)+1)=AV.i (Jmm a b c d))/\(false=false->Jg ((0:Int)-rX g (Qw a b c d) (Qv a b c d))/\Jg ((Jc8 g)+2)/\∃ (g':Nat),(Z23i g' a b c d)/\4-g' < 4-g/\AS.mk (Z23j g a b c d) [] 1=AS.mk (Z23k g' a b c d) [] 1)
abbrev JoB(g:Nat)(a:Int)(b:Int)(c:Int)(d:Int):=rX g (Qw a b c d) (Qv a b c d) > rY g (Qw a b c d) (Qv a b c d)
abbrev JoA(g:Nat)(a:Int)(b:Int)(c:Int)(d:Int):=rX g (Qw a b c d) (Qv a b c d) == 0
abbrev Juk(g:Nat)(a:Int)(b:Int)(c:Int)(d:Int):=rY g (Qw a b c d) (Qv a b c d)>=0
theorem c116(a b c d:Int)(ha : -200000<=a/\a<=200000)(hb : -200000<=b/\b<=200000)(hc : -200000<=c/\c<=200000)(hd : -200000<=d/\d<=200000):P0 116 [.agg [.i a,.i b],.agg [.i c,.i d]] (.i (sec 4 0 (Qw a b c d) (Qv a b c d))):=by
 have key :
  Jg (a * c)/\Jg (b * d)/\Jg (a * c+b * d)/\Jg (a * d)/\Jg (b * c)/\Jg (a * d-b * c)/\(∃ (g:Nat),(g<=4/\sec (4-g) (Jc8 g) (rX g (Qw a b c d) (Qv a b c d)) (rY g (Qw a b c d) (Qv a b c d))=sec 4
  (0:Int) (Qw a b c d) (Qv a b c d))/\AS.mk [(5,AV.i (a * c+b * d)),(6,AV.i (a * d-b * c)),(7,AV.i 0)] [] 1=AS.mk [(5,AV.i (rX g (Qw a b c d) (Qv a b c d))),(6,AV.i (rY g (Qw a b c d) (Qv a b c d))),(7,
  AV.i (Jc8 g))] [] 1)/\∀ (g:Nat),g<=4/\sec (4-g) (Jc8 g) (rX g (Qw a b c d) (Qv a b c d)) (rY g (Qw a b c d) (Qv a b c d))=sec 4 (0:Int) (Qw a b c d) (Qv a b c d)->(decide ((Jc8 g) < 8)=true->(decide
  (JoB g a b c d)=true->(decide (Juk g a b c d)=true->(true=false->false=true)/\AV.bool (decide (JoB g a b c d))=AV.bool true/\AV.bool (decide (Juk g a b c d))=AV.bool true/\(true=true->AV.i (Jc8 g)=AV.i
  (Jmm a b c d))/\(true=false->(Jtf g a b c d)/\(Jte g a b c d)))/\(decide (Juk g a b c d)=false->((JoA g a b c d)=true->AV.bool (decide (JoB g a b c d))=AV.bool true/\AV.bool (decide (Juk g a b c d))=AV.bool
  false/\AV.bool (JoA g a b c d)=AV.bool true/\((rY g (Qw a b c d) (Qv a b c d) == 0)=true->AV.i (Jc8 g)=AV.i (Jmm a b c d))/\((rY g (Qw a b c d) (Qv a b c d) == 0)=false->(Jtf g a b c d)/\(Jte g a b c d)))
  /\ ((JoA g a b c d)=false->Jtd/\AV.bool (decide (JoB g a b c d))=AV.bool true/\AV.bool (decide (Juk g a b c d))=AV.bool false/\AV.bool (JoA g a b c d)=AV.bool false/\(false=true->AV.i (Jc8 g)=AV.i (Jmm a b c
  d))/\(false=false->(Jtf g a b c d)/\(Jte g a b c d)))))/\(decide (JoB g a b c d)=false->(false=true->Jtd/\(true=false->false=true)/\AV.bool (decide (JoB g a b c d))=AV.bool false/\AV.bool false=AV.bool
  true/\(true=true->AV.i (Jc8 g)=AV.i (Jmm a b c d))/\(true=false->(Jtf g a b c d)/\(Jte g a b c d)))/\(false=false->((JoA g a b c d)=true->Jtd/\AV.bool (decide (JoB g a b c d))=AV.bool false/\AV.bool
  false=AV.bool false/\AV.bool (JoA g a b c d)=AV.bool true/\((rY g (Qw a b c d) (Qv a b c d) == 0)=true->AV.i (Jc8 g)=AV.i (Jmm a b c d))/\((rY g (Qw a b c d) (Qv a b c d) == 0)=false->(Jtf g a b c d) /\
  (Jte g a b c d)))/\((JoA g a b c d)=false->Jtd/\Jtd/\AV.bool (decide (JoB g a b c d))=AV.bool false/\AV.bool false=AV.bool false/\AV.bool (JoA g a b c d)=AV.bool false/\(false=true->AV.i (Jc8 g)=AV.i
  (Jmm a b c d))/\(false=false->(Jtf g a b c d)/\(Jte g a b c d))))))/\(decide ((Jc8 g) < 8)=false->AV.i 0=AV.i (Jmm a b c d)):=by
   delta Jtf Jte JoB Jmm Jc8 Jtd Z23g JoA Z23i Z23j Z23k Juk
   obtain⟨i1,i2,i3,i4,i5,i6,bX,bY⟩:=sec_in ha hb hc hd
   refine⟨i1,i2,i3,i4,i5,i6,⟨0,⟨by omega,rfl⟩,rfl⟩,fun g ⟨hg,hs⟩=>⟨fun hy=>?_,fun hy=>?_⟩⟩
   . have hg4:g < 4:=by have:=K0 hy;omega
     obtain⟨f1,f2,f3⟩:=Jmy hg4 hs
     have hbx:=rX_b bX bY g
     have j1:Jg ((2 * g:Nat)+1):=by unfold Jg;omega
     have j2:Jg ((2 * g:Nat)+2):=by unfold Jg;omega
     have j3:Jg (0-rX g (Qw a b c d) (Qv a b c d)):=by unfold Jg;omega
     clear hs hy bX bY hbx i1 i2 i3 i4 i5 i6 ha hb hc hd hg
     generalize sec 4 0 (Qw a b c d) (Qv a b c d)=S at *
     generalize decide (rX g (Qw a b c d) (Qv a b c d) > rY g (Qw a b c d) (Qv a b c d))=p at *
     generalize decide (rY g (Qw a b c d) (Qv a b c d)>=0)=q at *
     generalize (rX g (Qw a b c d) (Qv a b c d) == 0)=r at *
     generalize (rY g (Qw a b c d) (Qv a b c d) == 0)=s at *
     generalize decide (rY g (Qw a b c d) (Qv a b c d)>=rX g (Qw a b c d) (Qv a b c d))=u at *
     generalize decide (rX g (Qw a b c d) (Qv a b c d) > 0)=w at *
     cases p <;> cases q <;> cases r <;> cases s <;> cases u <;> cases w
     all_goals repeat' (first | (intro h;cases h;done) | exact j1 | exact j2 | exact j3 | apply And.intro | intro _)
     all_goals first
      | rfl
      | exact f1 rfl
      | exact f2 rfl rfl
      | (obtain⟨g',q1,q2,q3,q4,q5⟩:=f3 rfl rfl;exact⟨g',q1,q2,by rw[q3,q4,q5]⟩)
   have hg4:g=4:=by have:=K1 hy;omega
   subst hg4
   exact congrArg AV.i hs
 exact JU Tryz.f116 ({ fzB (mkB spR 116 [] (fun j=>if j.beq 0 then some (la116 a b c d)else none))with split:=fun j=>if j.beq 5 then 1 else if j.beq 7 then 1 else 0 }) key (by kernel_rfl)
def JdQ(t:Ty)(a b p u v w:Int):Int:=emi t p (u * u+v * v+w * w) * cI [[AV.i t.d0],[AV.i t.d1],[AV.i t.d2],[AV.i t.d3],[AV.i t.d4],[AV.i t.d5],[AV.i t.d6],[AV.i t.d7]] (sec 4 0 (Qw a b u v) (Qv a b u v)).toNat
def hrd(t:Ty)(a b p u v w:Int):Int:=if decide (4 * (w * w) < u * u+v * v)then(JdQ t a b p u v w * t.side).tdiv 1000000 else(JdQ t a b p u v w).tdiv 1000
def sp117(t:Ty):Nat->List AV->Option AV
 | 113,[.agg [.int _ x,.int _ y,.int _ z],.agg [.int _ x2,.int _ y2,.int _ z2]]=>some (.agg [.i (x-x2),.i (y-y2),.i (z-z2)])
 | 112,[.agg [.int _ x,.int _ y,.int _ z]]=>some (.agg [.i (x * x+y * y),.i (z * z)])
 | 116,[.agg [.int _ a,.int _ b],.agg [.int _ c,.int _ d]]=>some (.i (sec 4 0 (Qw a b c d) (Qv a b c d)))
 | 50,[.agg [.int _ a,.int _ b],.agg [.int _ c,.int _ d]]=>some (.i (sec 4 0 (Qw a b c d) (Qv a b c d)))
 | 114,[_,.int _ p,.int _ d]=>some (.i (emi t p d))
 | 49,[_,.int _ p,.int _ d]=>some (.i (emi t p d))
 | n,x=>spR n x
theorem Jb7{n d B:Int}(_hd:0 < d)(h1 : -B<=n)(h2:n<=B):n.tdiv d<=B /\ -B<=n.tdiv d:=by
 have h:(n.tdiv d).natAbs=n.natAbs / d.natAbs:=Int.natAbs_tdiv n d
 have h4:n.natAbs / d.natAbs<=n.natAbs:=Nat.div_le_self _ _
 omega
theorem JrR{n d:Int}(hd:0 < d)(h1 : -10000000000<=n)(h2:n<=10000000000) : -10000000001<=Qz n d/\Qz n d<=10000000000:=by
 have h3:n.tdiv d<=10000000000 /\ -10000000000<=n.tdiv d:=Jb7 hd h1 h2
 unfold Qz
 split <;> omega
theorem sq_nn(u:Int):0<=u * u:=by
 rcases Int.le_total 0 u with h | h
 . exact Int.mul_nonneg h h
 have:=Int.mul_nonneg (a := -u) (b := -u) (by omega) (by omega)
 rw[Int.neg_mul_neg]at this
 exact this
theorem Jjj{u v:Int}(h:u * u+v * v=0):u=0:=by
 have h1:0<=u * u:=sq_nn u
 have h2:0<=v * v:=sq_nn v
 have h3:u * u=0:=by omega
 rcases Int.mul_eq_zero.1 h3 with h | h <;> exact h
theorem sec_b:∀ (n:Nat) (i x y:Int),0<=i->0<=sec n i x y/\(sec n i x y < i+2 * n ∨ sec n i x y=0)
 | 0,_,_,_,_=>⟨Ks _,.inr rfl⟩
 | n+1,i,x,y,h=>by
  simp only[sec]
  split
  . omega
  split
  . omega
  have:=sec_b n (i+2) y (-x) (by omega)
  omega
theorem Jq2(x y:Int):0<=sec 4 0 x y/\sec 4 0 x y < 8:=by
 have:=sec_b 4 0 x y (by omega)
 omega
theorem emi_b{t:Ty}{p d:Int}(h:OKTy t)(hp:1<=p)(hp2:p<=100) : -20000000000<=emi t p d/\emi t p d<=20000000000:=by
 have hK:=WV (l:=t.sq) (d:=d) h.q1
 have hle:=JdT (t:=t) (p:=p) t.st.length
 have hn:=h.n1
 unfold emi
 split
 . have:=h.eb (t.st.length-1) _ (by omega) hK
   omega
 rename_i h1
 split
 . have:=h.eb (geN t p t.st.length) _ (by omega) hK
   omega
 rename_i h2
 have h0:geN t p t.st.length ≠ 0:=fun e=>h2 (.inl e)
 have hB:=Jk6 h hp hp2 (by omega) h0 hK
 rw[Qb,Qb]at hB
 obtain⟨a1,a2⟩:=h.eb (geN t p t.st.length-1) _ (by omega) hK
 obtain⟨b1,b2⟩:=h.eb (geN t p t.st.length) _ (by omega) hK
 obtain⟨c1,c2⟩:=h.pb (geN t p t.st.length-1) (by omega)
 have hm:=J4 (x:=eAt (t.sg (geN t p t.st.length)).e (Xb t.sq d t.sq.length)-eAt (t.sg (geN t p t.st.length-1)).e (Xb t.sq d t.sq.length)) (y:=p-(t.sg (geN t p t.st.length-1)).p) (A:=100000000) (B:=100) (by omega) (by omega) (by omega) (by omega)
 have hf:=JrR (n:=(eAt (t.sg (geN t p t.st.length)).e (Xb t.sq d t.sq.length)-eAt (t.sg (geN t p t.st.length-1)).e (Xb t.sq d t.sq.length)) * (p-(t.sg (geN t p t.st.length-1)).p)) hB.w (by omega) (by omega)
 unfold Jv
 omega
theorem hrd_in{t:Ty}{a b p u v w:Int}(h:OKTy t)(hp:1<=p/\p<=100)(hD:∀ i,i < 8->0<=t.dir.getD i default/\t.dir.getD i default<=2000)(hs:0<=t.side/\t.side<=1000) :
 Jg (JdQ t a b p u v w)/\Jg (JdQ t a b p u v w * t.side)/\Jg ((JdQ t a b p u v w * t.side).tdiv 1000000)/\Jg ((JdQ t a b p u v w).tdiv 1000):=by
 have h8:=Jq2 (Qw a b u v) (Qv a b u v)
 have hd:=hD (sec 4 0 (Qw a b u v) (Qv a b u v)).toNat (by omega)
 rw[<- Qb]at hd
 have he:=emi_b (d:=u * u+v * v+w * w) h hp.1 hp.2
 have h1:=J4 (A:=20000000000) (B:=2000) he.1 he.2 (by omega) hd.2
 have hv : -(20000000000 * 2000)<=JdQ t a b p u v w/\JdQ t a b p u v w<=20000000000 * 2000:=h1
 have h2:=J4 (A:=40000000000000) (B:=1000) (x:=JdQ t a b p u v w) (y:=t.side) (by omega) (by omega) (by omega) hs.2
 generalize JdQ t a b p u v w * t.side=m at *
 generalize JdQ t a b p u v w=k at *
 refine⟨by unfold Jg;omega,by unfold Jg;omega,?_,?_⟩
 . have:=Jb7 (n:=m) (d:=1000000) (B:=40000000000000000) (by omega) (by omega) (by omega)
   unfold Jg;omega
 . have:=Jb7 (n:=k) (d:=1000) (B:=40000000000000) (by omega) (by omega) (by omega)
   unfold Jg;omega
theorem Jrp{u v w:Int}(hu : -200000<=u/\u<=200000)(hv : -200000<=v/\v<=200000)(hw : -20000<=w/\w<=20000) :
 Jg (u * u)/\Jg (v * v)/\Jg (u * u+v * v)/\Jg (w * w)/\Jg (u * u+v * v+w * w)/\Jg (4 * (w * w))/\Jg (4 * w)/\Jg (4 * w * w):=by
 have h1:=J4 hu.1 hu.2 hu.1 hu.2
 have h2:=J4 hv.1 hv.2 hv.1 hv.2
 have h3:=J4 hw.1 hw.2 hw.1 hw.2
 rw[Int.mul_assoc 4 w w]
 generalize u * u=q1 at *
 generalize v * v=q2 at *
 generalize w * w=q3 at *
 unfold Jg
 omega
abbrev Jev(t:Ty):=[[AV.i t.d0],[AV.i t.d1],[AV.i t.d2],[AV.i t.d3],[AV.i t.d4],[AV.i t.d5],[AV.i t.d6],[AV.i t.d7]]
abbrev Jc7(x2:Int)(x:Int)(y2:Int)(y:Int)(z2:Int)(z:Int):=(x2-x) * (x2-x)+(y2-y) * (y2-y)+(z2-z) * (z2-z)
abbrev Jml(a:Int)(b:Int)(x2:Int)(x:Int)(y2:Int)(y:Int):=sec 4 (0:Int) (Qw a b (x2-x) (y2-y)) (Qv a b (x2-x) (y2-y))
abbrev Z24d(z2:Int)(z:Int)(x2:Int)(x:Int)(y2:Int)(y:Int):=(4:Int) * ((z2-z) * (z2-z)) < (x2-x) * (x2-x)+(y2-y) * (y2-y)
theorem c117(t:Ty)(x y z a b p x2 y2 z2:Int)(h:OKTy t)(hx : -100000<=x/\x<=100000)(hy : -100000<=y/\y<=100000)(hz:0<=z/\z<=20000)(ha : -200000<=a/\a<=200000)(hb : -200000<=b/\b<=200000)(hp:1<=p/\p<=100)(hx2 : -100000<=x2/\x2<=100000)(hy2 : -100000<=y2/\y2<=100000)(hz2:0<=z2/\z2<=20000)(hD:∀ i,i < 8->0<=t.dir.getD i default/\t.dir.getD i default<=2000)(hs:0<=t.side/\t.side<=1000):P0 117 [.agg (Jf t),.agg [.i x,.i y,.i z,.i a,.i b,.i p],.agg [.i x2,.i y2,.i z2]] (.i (hrd t a b p (x2-x) (y2-y) (z2-z))):=by
 have key :
  P0 113 [AV.agg [AV.i x2,AV.i y2,AV.i z2],AV.agg [AV.i x,AV.i y,AV.i z]] (AV.agg [AV.i (x2-x),AV.i (y2-y),AV.i (z2-z)])/\P0 112 [AV.agg [AV.i (x2-x),AV.i (y2-y),AV.i (z2-z)]] (AV.agg [AV.i ((x2-x) * (x2-x)
  + (y2-y) * (y2-y)),AV.i ((z2-z) * (z2-z))])/\((!((x2-x) * (x2-x)+(y2-y) * (y2-y) == 0 && true && ((z2-z) * (z2-z) == 0 && true && true)))=true->P0 116 [AV.agg [AV.i a,AV.i b],AV.agg [AV.i (x2-x),AV.i
  (y2-y)]] (AV.i (Jml a b x2 x y2 y))/\(0:Int)<=0/\(0:Int) < (2:Int)/\(0:Int)<=1/\(1:Int) < (2:Int)/\Jg (Jc7 x2 x y2 y z2 z)/\(0:Int)<=sec 4 (0:Int) (Qw a b (x2-x) (y2-y)) (Qv a b (x2-x) (y2
  - y))/\sec 4 (0:Int) (Qw a b (x2-x) (y2-y)) (Qv a b (x2-x) (y2-y)) < (8:Int)/\Jg (emi t p (Jc7 x2 x y2 y z2 z) * cI (Jev t) (Jml a b x2 x y2 y).toNat)/\P0 114 [AV.agg (Jf t),AV.i p,AV.i (Jc7 x2 x y2 y
  z2 z)] (AV.i (emi t p (Jc7 x2 x y2 y z2 z)))/\nth (Jn (Jev t) (Jml a b x2 x y2 y).toNat) 0=AV.i (cI (Jev t) (Jml a b x2 x y2 y).toNat)/\(0:Int)<=1/\(1:Int) < (2:Int)/\Jg ((4:Int) * ((z2-z) * (z2-z))) /\
  (0:Int)<=0/\(0:Int) < (2:Int)/\(decide (Z24d z2 z x2 x y2 y)=true->Jg (emi t p (Jc7 x2 x y2 y z2 z) * cI (Jev t) (Jml a b x2 x y2 y).toNat * t.side)/\¬(1000000:Int)=(0:Int)/\Jg ((emi t p (Jc7 x2 x y2 y
  z2 z) * cI (Jev t) (Jml a b x2 x y2 y).toNat * t.side).tdiv 1000000)/\AV.i ((emi t p (Jc7 x2 x y2 y z2 z) * cI (Jev t) (Jml a b x2 x y2 y).toNat * t.side).tdiv 1000000)=AV.i (hrd t a b p (x2-x) (y2-y) (z2-z))) /\
  (decide (Z24d z2 z x2 x y2 y)=false->¬(1000:Int)=(0:Int)/\Jg ((emi t p (Jc7 x2 x y2 y z2 z) * cI (Jev t) (Jml a b x2 x y2 y).toNat).tdiv 1000)/\AV.i ((emi t p (Jc7 x2 x y2 y z2 z) * cI (Jev t) (Jml a b x2 x y2
  y).toNat).tdiv 1000)=AV.i (hrd t a b p (x2-x) (y2-y) (z2-z))))/\((!((x2-x) * (x2-x)+(y2-y) * (y2-y) == 0 && true && ((z2-z) * (z2-z) == 0 && true && true)))=false->(0:Int)<=0/\(0:Int) < (2:Int) /\
  (0:Int)<=1/\(1:Int) < (2:Int)/\Jg (Jc7 x2 x y2 y z2 z)/\(0:Int)<=0/\(0:Int) < (8:Int)/\Jg (emi t p (Jc7 x2 x y2 y z2 z) * cI (Jev t) 0)/\P0 114 [AV.agg (Jf t),AV.i p,AV.i (Jc7 x2 x y2 y z2 z)]
  (AV.i (emi t p (Jc7 x2 x y2 y z2 z)))/\AV.i t.d0=AV.i (cI (Jev t) 0)/\(0:Int)<=1/\(1:Int) < (2:Int)/\Jg ((4:Int) * ((z2-z) * (z2-z)))/\(0:Int)<=0/\(0:Int) < (2:Int)/\(decide (Z24d z2 z x2 x y2 y)
  = true->Jg (emi t p (Jc7 x2 x y2 y z2 z) * cI (Jev t) 0 * t.side)/\¬(1000000:Int)=(0:Int)/\Jg ((emi t p (Jc7 x2 x y2 y z2 z) * cI (Jev t) 0 * t.side).tdiv 1000000)/\AV.i ((emi t p (Jc7 x2 x y2 y z2 z) * cI (Jev
  t) 0 * t.side).tdiv 1000000)=AV.i (hrd t a b p (x2-x) (y2-y) (z2-z)))/\(decide (Z24d z2 z x2 x y2 y)=false->¬(1000:Int)=(0:Int)/\Jg ((emi t p (Jc7 x2 x y2 y z2 z) * cI (Jev t) 0).tdiv 1000)/\AV.i ((emi t p
  (Jc7 x2 x y2 y z2 z) * cI (Jev t) 0).tdiv 1000)=AV.i (hrd t a b p (x2-x) (y2-y) (z2-z)))):=by
   delta Jev Jc7 Jml Z24d
   obtain⟨k1,k2,k3,k4,k5,k6,k7,k8⟩:=Jrp (u:=x2-x) (v:=y2-y) (w:=z2-z) (by omega) (by omega) (by omega)
   obtain⟨m1,m2,m3,m4⟩:=hrd_in (a:=a) (b:=b) (u:=x2-x) (v:=y2-y) (w:=z2-z) h hp hD hs
   have h8:=Jq2 (Qw a b (x2-x) (y2-y)) (Qv a b (x2-x) (y2-y))
   refine⟨c113 _ _ _ _ _ _ (by unfold Jg;omega) (by unfold Jg;omega) (by unfold Jg;omega),c112 _ _ _ k1 k2 k3 k4,fun hn=>?_,fun hn=>?_⟩
   . refine⟨c116 _ _ _ _ ha hb (by omega) (by omega),by omega,by omega,by omega,by omega,k5,h8.1,h8.2,m1,c114 t _ _ h hp.1 hp.2,V2 (l:=t.dir) (i:=(sec 4 0 (Qw a b (x2-x) (y2-y)) (Qv a b (x2-x) (y2-y))).toNat) (show _ < (8:Nat) by omega),by omega,by omega,k6,by omega,by omega,fun e=>⟨m2,by omega,m3,?_⟩,fun e=>⟨by omega,m4,?_⟩⟩
     . rw[hrd,if_pos e]
       rfl
     rw[hrd,if_neg (by rw[e];decide)]
     rfl
   have hz0:(x2-x) * (x2-x)+(y2-y) * (y2-y)=0:=by
    simp only[Bool.not_eq_false',Kd,beq_iff_eq]at hn
    exact hn.1.1
   have e1:x2-x=0:=Jjj hz0
   have e2:y2-y=0:=Jjj (by rw[Int.add_comm];exact hz0)
   have es:sec 4 0 (Qw a b (x2-x) (y2-y)) (Qv a b (x2-x) (y2-y))=0:=by
    rw[e1,e2]
    simp only[Qw,Qv,Int.mul_zero,Int.add_zero,Int.sub_zero]
    rfl
   have ev:JdQ t a b p (x2-x) (y2-y) (z2-z)=emi t p ((x2-x) * (x2-x)+(y2-y) * (y2-y)+(z2-z) * (z2-z)) * cI [[AV.i t.d0],[AV.i t.d1],[AV.i t.d2],[AV.i t.d3],[AV.i t.d4],[AV.i t.d5],[AV.i t.d6],[AV.i t.d7]] 0:=by
    unfold JdQ
    rw[es]
    rfl
   rw[ev]at m1 m2 m3 m4
   refine⟨by omega,by omega,by omega,by omega,k5,by omega,by omega,m1,c114 t _ _ h hp.1 hp.2,rfl,by omega,by omega,k6,by omega,by omega,fun e=>⟨m2,by omega,m3,?_⟩,fun e=>⟨by omega,m4,?_⟩⟩
   . rw[hrd,if_pos e,ev]
   rw[hrd,if_neg (by rw[e];decide),ev]
 exact JU Tryz.f117 (fzB (mkB (sp117 t) 117 [(6,12,rdJ)] QJ)) key (by kernel_rfl)
theorem XH{f:Nat->Int}{n:Nat}{fin:Int}(h:QI f n fin=0):(∀ k,k < n->f k=0)/\fin=0:=by
 have h1:∀ l:List Int,Jb (l++[fin])=0->(∀ x,x ∈ l->x=0)/\fin=0:=by
  intro l
  induction l with
  | nil=>intro h;rw[List.nil_append,Jd]at h;exact⟨by simp,h.1⟩
  | cons x l ih =>
   intro h
   rw[List.cons_append,Jd]at h
   obtain⟨h2,h3⟩:=h
   have:=ih h3
   exact⟨fun y hy=>by rcases List.mem_cons.1 hy with e | e;(· rw[e];exact h2);(· exact this.1 y e),this.2⟩
 have:=h1 _ h
 exact⟨fun k hk=>this.1 _ (List.mem_map.2 ⟨k,List.mem_range.2 hk,rfl⟩),this.2⟩
theorem X9{c:Int}{f:Nat->Int}{n:Nat}{fin:Int}(h:sLS c f n fin=0):c=0/\(∀ k,k < n->f k=0)/\fin=0:=by
 unfold sLS at h
 split at h
 . rename_i hc;rw[h]at hc;exact absurd hc (by decide)
 rename_i hc
 exact⟨by simpa using hc,XH h⟩
theorem V4{b:Bool}{e:Int}(he:e ≠ 0)(h:Jk b e=0):b=false:=by
 cases b
 . rfl
 exact absurd h (by simpa[Jk]using he)
theorem QX{n m:Int}(h:JF n m=0):n ≠ 0/\n<=m:=by
 unfold JF at h
 rw[Jd,Jd]at h
 have h1:=V4 (by decide) h.1
 have h2:=V4 (by decide) h.2.1
 have:=K1 h2
 exact⟨ne_of_beq_false h1,by omega⟩
theorem JhK{t:Ty}(h:Qs t=0):OKTy t:=by
 unfold Qs at h
 split at h
 . rename_i h1;rw[h]at h1;exact absurd h1 (by decide)
 obtain⟨h2,h3,h4⟩:=X9 h
 unfold UQ at h2
 rw[Jd,Jd,Jd,Jd]at h2
 obtain⟨_,_,hq,_⟩:=h2
 have hq:=QX hq
 obtain⟨hn,hS,_⟩:=X9 h4
 have hn:=QX hn
 have hc:∀ i,i < t.st.length->Jb [Jc (t.sg i).p 1 100,Jk (decide ((t.sg i).p<=Ug t i)) 11,Jk (((t.sg i).e.length:Int) != (t.sq.length:Int)) 2,Qx (t.sg i).e 100000000]=0:=fun i hi=>(X9 (hS i hi)).1
 have hel:∀ i,i < t.st.length->(t.sg i).e.length=t.sq.length:=fun i hi=>UN (hc i hi)
 refine⟨by omega,by omega,by omega,by omega,hel,fun i hi=>?_,fun i hi=>?_,fun i k hi hk=>?_⟩
 . have:=hc i hi
   rw[Jd,within_zero]at this
   exact this.1
 . have:=hc (i+1) hi
   rw[Jd,Jd]at this
   have h5:=K1 (V4 (by decide) this.2.1)
   have e:Ug t (i+1)=(t.sg i).p:=rfl
   rw[e]at h5
   omega
 have:=hc i hi
 rw[Jd,Jd,Jd,Jd]at this
 exact QE this.2.2.2.1 k (by rw[hel i hi];exact hk)
theorem Jak{t:Ty}(h:Qs t=0):(∀ i,i < 8->0<=t.dir.getD i default/\t.dir.getD i default<=2000)/\0<=t.side/\t.side<=1000:=by
 unfold Qs at h
 split at h
 . rename_i h1;rw[h]at h1;exact absurd h1 (by decide)
 obtain⟨h2,_,_⟩:=X9 h
 unfold UQ at h2
 rw[Jd,Jd,within_zero]at h2
 exact⟨fun i hi=>QE h2.1 i hi,h2.2.1⟩
theorem Jgw{x y z:Int}(h:JT x y z=0):(-100000<=x/\x<=100000)/\(-100000<=y/\y<=100000)/\(0<=z/\z<=20000):=by
 unfold JT at h
 rw[Jd,Jd,Jd,within_zero,within_zero,within_zero]at h
 exact⟨h.1,h.2.1,h.2.2.1⟩
def la54(l m:List Int):LA:={
 pre:=[.keep [0,1,5] [],.bound 1],post:=[.keep [0,1,5] [],.bound 1]
 Gh:=Nat
 st:=fun i=>⟨[(0,.sl 1 (l.map Jh)),(1,.sl 1 (m.map Jh)),(5,.i i)],[],1⟩
 ok:=fun i=>i<=l.length/\∀ j,j < i->l.getD j default=m.getD j default
 ms:=fun i=>l.length-i }
abbrev Jmk(l:List Int):=List.map Jh l
abbrev Juj(l:List Int):=((Jmk l).length:Int)
abbrev JiV(m:List Int):=List.map Jh m
theorem c54(l m:List Int)(hl:l.length<=1000):P0 54 [.sl 1 (l.map Jh),.sl 1 (m.map Jh)] (.bool (l == m)):=by
 have key :
  (((Juj l) != ((JiV m).length:Int))=true->AV.bool false=AV.bool (l == m))/\(((Juj l) != ((JiV m).length:Int))=false->(∃ (g:Nat),(g<=l.length/\∀ (j:Nat),j < g->l.getD j default=m.getD j default)/\AS.mk
  [(0,AV.sl 1 (Jmk l)),(1,AV.sl 1 (JiV m)),(5,AV.i 0)] [] 1=AS.mk [(0,AV.sl 1 (Jmk l)),(1,AV.sl 1 (JiV m)),(5,AV.i (g:Int))] [] 1)/\∀ (g:Nat),(g<=l.length/\∀ (j:Nat),j < g->l.getD j default=m.getD j
  default)->(decide ((g:Int) < (Juj l))=true->(0:Int)<=(g:Int)/\(g:Int) < (Juj l)/\(0:Int)<=(g:Int)/\(g:Int) < ((JiV m).length:Int)/\nth (Jn (Jmk l) (g:Int).toNat) 0=AV.i (cI (Jmk l) (↑g :
  Int).toNat)/\nth (Jn (JiV m) (g:Int).toNat) 0=AV.i (cI (JiV m) (g:Int).toNat)/\((cI (Jmk l) (g:Int).toNat != cI (JiV m) (g:Int).toNat)=true->AV.bool false=AV.bool (l == m))/\((cI (Jmk l) (↑g :
  Int).toNat != cI (JiV m) (g:Int).toNat)=false->Jg ((g:Int)+1)/\∃ (g':Nat),(g'<=l.length/\∀ (j:Nat),j < g'->l.getD j default=m.getD j default)/\l.length-g' < l.length-g/\AS.mk [(0,AV.sl 1 (Jmk l)),
  (1,AV.sl 1 (JiV m)),(5,AV.i ((g:Int)+1))] [] 1=AS.mk [(0,AV.sl 1 (Jmk l)),(1,AV.sl 1 (JiV m)),(5,AV.i (g':Int))] [] 1))/\(decide ((g:Int) < (Juj l))=false->AV.bool true=AV.bool (l == m))):=by
   delta Juj JiV Jmk
   have hle:(List.map Jh l).length=l.length:=Kb _
   have hme:(List.map Jh m).length=m.length:=Kb _
   rw[hle,hme]
   refine⟨fun h=>?_,fun h=>⟨⟨0,⟨by omega,by intros;omega⟩,rfl⟩,fun g ⟨hg,ha⟩=>⟨fun hd=>?_,fun hd=>?_⟩⟩⟩
   . have h1:l ≠ m:=fun e=>by rw[e]at h;exact absurd h (by simp)
     rw[beq_false_of_ne h1]
   . have h1:l.length=m.length:=by have h2:(l.length:Int)=(m.length:Int):=(by simpa using h);omega
     have hlt:=Js hd
     have c1:=Qb l g
     have c2:=Qb m g
     refine⟨by omega,by omega,by omega,by omega,V2 hlt,V2 (by omega),fun e=>?_,fun e=>⟨by unfold Jg;omega,g+1,⟨hlt,fun j hj=>?_⟩,by omega,rfl⟩⟩
     . have e:(cI (List.map Jh l) g != cI (List.map Jh m) g)=true:=e
       rw[c1,c2]at e
       have h2:l ≠ m:=fun q=>by rw[q]at e;exact absurd e (by simp)
       rw[beq_false_of_ne h2]
     have e:(cI (List.map Jh l) g != cI (List.map Jh m) g)=false:=e
     rw[c1,c2]at e
     by_cases q:j=g
     . rw[q];simpa using e
     exact ha j (by omega)
   have h1:l.length=m.length:=by have h2:(l.length:Int)=(m.length:Int):=(by simpa using h);omega
   have e:=Jz hd hg
   subst e
   have:l=m:=List.ext_getElem h1 fun i h2 h3=>by
    have:=ha i h2
    rw[Ka,Ka,Kj h2,Kj h3]at this
    exact this
   rw[this,Kz]
 exact JU Tryz.f54 (mkB spR 54 [(6,3,rdJ),(6,7,rdJ)] (fun j=>if j.beq 0 then some (la54 l m)else none)) key (by kernel_rfl)
def orE(a b:Int):Int:=if a ≠ 0 then a else b
theorem QG(x:Int)(l:List Int):Jb (x::l)=orE x (Jb l):=rfl
theorem VD:Jb []=0:=rfl
theorem JdE(a:Int):orE a 0=a:=by
 unfold orE
 split <;> omega
theorem JdD(a b c:Int):orE (orE a b) c=orE a (orE b c):=by
 unfold orE
 by_cases h:a=0
 . simp[h]
 simp[h]
theorem JmP{a b c:Int}(h:a=0->b=c):orE a b=orE a c:=by
 unfold orE
 by_cases e:a=0
 . rw[h e]
 rw[if_pos e,if_pos e]
theorem JkD(c x:Int):(if(c != 0)=true then c else x)=orE c x:=by
 unfold orE
 by_cases h:c=0
 . simp[h]
 simp[h]
theorem JhS(c:Int)(f:Nat->Int)(n:Nat)(fin:Int):sLS c f n fin=orE c (QI f n fin):=JkD _ _
theorem JaO(m:List Int):∀ l,Jb (l++m)=orE (Jb l) (Jb m)
 | []=>by
  rw[List.nil_append,VD]
  rfl
 | x::l=>by rw[List.cons_append,QG,QG,JaO m l,JdD]
theorem Jq3(f:Nat->Int)(n:Nat)(fin:Int):QI f n fin=orE (QI f n 0) fin:=by
 unfold QI
 rw[JaO,JaO,QG,VD,JdE,QG,VD,JdE,JdE]
theorem Uu{f g:Nat->Int}{n:Nat}{fin:Int}(h:∀ k,k < n->f k=g k):QI f n fin=QI g n fin:=by
 unfold QI
 rw[List.map_congr_left (fun k hk=>h k (List.mem_range.1 hk))]
theorem JrX(n k:Nat):eAt (List.replicate n 0) k=0:=by
 unfold eAt
 rw[Ka,List.getElem?_replicate]
 split <;> rfl
theorem Jr5(t:Ty)(i:Nat):WE t i=UR t i:=by
 unfold WE UR
 rw[QG,QG (Qd _)]
 show orE (Jc (t.sg i).p 1 100) _=orE (Jc (t.sg i).p 1 100) _
 refine JmP fun h=>?_
 have hp:=within_zero.1 h
 have e:decide ((t.sg i).p<=Ug t i)=if i=0 then false else decide ((t.sg i).p<=(t.sg (i-1)).p):=by
  unfold Ug
  by_cases e0:i=0
  . rw[if_pos e0,if_pos e0]
    exact decide_eq_false (by omega)
  rw[if_neg e0,if_neg e0]
 rw[e]
 rfl
theorem JrT(t:Ty)(i:Nat):Jbl t i=Q8 t i:=by
 unfold Jbl Q8
 rw[JhS,JhS,Jr5]
 refine JmP fun h=>Uu fun k hk=>?_
 have e:Jha t i k=JiK t i k:=by
  unfold Jha JiK
  congr 1
  by_cases e0:i=0
  . rw[if_pos e0,XM,if_pos e0,JrX]
    unfold UR at h
    simp only[Jd]at h
    have:=QE h.2.2.2.1 k hk
    exact decide_eq_false (by unfold eAt;omega)
  rw[if_neg e0,XM,if_neg e0]
 rw[e]
theorem Jjr(l:List Int):QS l=orE (JF l.length 8) (orE (Qx l 1000) (Jk (Jca l l.length != 1000) 1)):=by
 unfold QS JF Qx
 rw[JkD]
 simp only[QG,VD,JdE,JdD]
theorem JhC(l:List Int):JP l=orE (JF l.length 8) (orE (Qx l 100000000000) (QI (fSq l) l.length 0)):=by
 unfold JP JF Qx
 rw[JhS]
 simp only[QG,VD,JdE,JdD]
theorem Jjf{l:List Int}(h:∀ k,k < l.length->0<=l.getD k default/\l.getD k default<=1000)(hl:l.length<=1000):∀ i,i<=l.length->JbA l i=Jca l i
 | 0,_=>rfl
 | i+1,hi=>by
  have h1:=U2 h (i+1) hi
  have h2:=Jjf h hl i (by omega)
  show IntKind.i64.wrap (JbA l i+l.getD i default)=Jca l i+l.getD i default
  rw[h2]
  have h3:Jca l (i+1)=Jca l i+l.getD i default:=rfl
  rw[<- h3]
  have:(0:Int)<=1000 * ((i+1:Nat):Int)/\1000 * ((i+1:Nat):Int)<=1000000:=by omega
  exact QF (by unfold Jg;omega)
theorem JqL(t:Ty):Qs t=JbG t:=by
 have e1:Um t=orE (Jk (!JH t.name) 8) (QS t.sh):=by
  unfold Um
  rw[Jjr,QG,QG,QG,QG,VD,JdE]
  refine congrArg _ (JmP fun h1=>JmP fun h2=>?_)
  have h3:t.sh.length<=8:=by
   have:=(QX h1).2
   omega
  rw[Jjf (QE h2) (by omega) _ (by omega)]
 have e2:Vs t=orE (Jk ((t.st.length:Int) == 0) 12) (orE (Jk (decide ((t.st.length:Int) > 6)) 5) (QI (Q8 t) t.st.length 0)):=by
  unfold Vs
  rw[JhS,Uu fun k _=>JrT t k]
  unfold JF
  simp only[QG,VD,JdE,JdD]
 unfold Qs JbG UQ Jny
 rw[JkD,JhS,JhS,Jq3 (fSq t.sq),e1,e2]
 simp only[QG,VD,JdE,JdD,JhC]
 rfl
def gsB(g:Nat->List GS)(B:BA):BA:={ B with gs:=fun i=>B.gs i++g i }
theorem JgR{n d:Int}(hd:0 < d):Qz n d=n / d:=by
 have e1:=Int.mul_tdiv_add_tmod n d
 have e2:=Int.tmod_lt_of_pos n hd
 have e3 : -d < n.tmod d:=by
  have:=Int.lt_tmod_of_pos n hd
  omega
 have key:∀ q:Int,q * d<=n->n < (q+1) * d->q=n / d:=fun q h1 h2=>by
  have h3:=(Int.le_ediv_iff_mul_le hd).2 h1
  have h4:=(Int.ediv_lt_iff_lt_mul hd).2 h2
  omega
 have e4:d * n.tdiv d=n.tdiv d * d:=Int.mul_comm _ _
 unfold Qz
 split
 . rename_i h
   refine key _ ?_ ?_
   . rw[Int.sub_mul,Int.one_mul]
     omega
   rw[Int.sub_add_cancel]
   exact h
 rename_i h
 have h5:0<=n.tmod d:=by omega
 refine key _ (by omega) ?_
 rw[Int.add_mul,Int.one_mul]
 omega
theorem JpB{a b p w:Int}(hw:0 < w):Jv a b p w=(a * (w-p)+b * p) / w:=by
 unfold Jv
 rw[JgR hw]
 have e:a * (w-p)+b * p=(b-a) * p+a * w:=by
  rw[Int.mul_sub,Int.sub_mul]
  omega
 rw[e,Int.add_mul_ediv_right _ _ (by omega)]
 omega
theorem Jg8{a b a' b' p w:Int}(hw:0 < w)(h0:0<=p)(h1:p<=w)(ha:a<=a')(hb:b<=b'):Jv a b p w<=Jv a' b' p w:=by
 rw[JpB hw,JpB hw]
 refine Int.ediv_le_ediv hw ?_
 have e1:=Int.mul_le_mul_of_nonneg_right ha (show 0<=w-p by omega)
 have e2:=Int.mul_le_mul_of_nonneg_right hb h0
 omega
theorem Jg7{a p w:Int}(hw:0 < w):Jv a a p w=a:=by
 unfold Jv
 rw[JgR hw,Int.sub_self,Int.zero_mul,Int.zero_ediv]
 omega
theorem Jed{a b x p w:Int}(hw:0 < w)(h0:0<=p)(h1:p<=w)(ha:x<=a)(hb:x<=b):x<=Jv a b p w:=by
 have:=Jg8 hw h0 h1 ha hb
 rwa [Jg7 hw]at this
theorem Jg9{a b x p w:Int}(hw:0 < w)(h0:0<=p)(h1:p<=w)(ha:a<=x)(hb:b<=x):Jv a b p w<=x:=by
 have:=Jg8 hw h0 h1 ha hb
 rwa [Jg7 hw]at this
def val(E P:Nat->Int)(n g:Nat)(p:Int):Int :=
 if g=n then E (n-1)else if g=0 ∨ P g=p then E g else Jv (E (g-1)) (E g) (p-P (g-1)) (P g-P (g-1))
structure Gat(P:Nat->Int)(n g:Nat)(p:Int):Prop where
 le:g<=n
 below:∀ j,j < g->P j < p
 at_:g < n->p<=P g
theorem JrM{P:Nat->Int}{n g:Nat}{p:Int}(h:Gat P n g p)(h1:¬ g=n)(h2:¬ (g=0 ∨ P g=p)):0 < P g-P (g-1)/\0<=p-P (g-1)/\p-P (g-1)<=P g-P (g-1):=by
 have a1:=h.at_ (by have:=h.le;omega)
 have a2:=h.below (g-1) (by omega)
 omega
theorem val_nn{E P:Nat->Int}{n g:Nat}{p x:Int}(hn:1<=n)(h:Gat P n g p)(hE:∀ i,i < n->x<=E i):x<=val E P n g p:=by
 unfold val
 split
 . exact hE _ (by omega)
 rename_i h1
 have:=h.le
 split
 . exact hE _ (by omega)
 rename_i h2
 have:=JrM h h1 h2
 exact Jed (by omega) (by omega) (by omega) (hE _ (by omega)) (hE _ (by omega))
structure UpTy(t:Ty):Prop where
 u:∀ i k,i+1 < t.st.length->k < t.sq.length->eAt (t.sg i).e k<=eAt (t.sg (i+1)).e k
 d:∀ i k,i < t.st.length->k+1 < t.sq.length->eAt (t.sg i).e (k+1)<=eAt (t.sg i).e k
def enF(t:Ty)(d:Int)(i:Nat):Int:=eAt (t.sg i).e (Xb t.sq d t.sq.length)
def pwF(t:Ty)(i:Nat):Int:=(t.sg i).p
theorem JrV(t:Ty)(p d:Int):emi t p d=val (enF t d) (pwF t) t.st.length (geN t p t.st.length) p:=rfl
theorem gat(t:Ty)(p:Int):Gat (pwF t) t.st.length (geN t p t.st.length) p:=⟨JdT _,VA _,JkQ _⟩
theorem emi_nn{t:Ty}{p d:Int}(h:Qs t=0):0<=emi t p d:=by
 have hO:=JhK h
 rw[JrV]
 exact val_nn hO.n1 (gat t p) fun i hi=>(hO.eb i _ hi (WV hO.q1)).1
def sp28:Nat->List AV->Option AV
 | 58,[.agg c]=>some (.agg c)
 | n,x=>spR n x
def JoR:List AV:=[.str [],.ex (.slice none 0 0),.i 0,.i 0,.i 0,.i 0,.i 0,.i 0,.i 0,.i 0,.i 0,.ex (.slice none 0 0),.ex (.slice none 0 0)]
def la28(t:Ty):LA:={
 pre:=[.reno 3 1,.reno 2 3,.ownb 1 12 182 2,.renc 1 12 2,.keep [2,3,20,21,22] [1,2,3],.bound 4],post:=[.renc 1 12 2,.keep [2,3,20,21,22] [1,2,3],.bound 4]
 Gh:=Nat
 st:=fun i=>⟨[(2,.ptr 3 0),(3,.ptr 1 0),(20,.sl 2 (t.st.map Ji)),(21,.i t.st.length),(22,.i i)],[(1,.box [.str t.name,.sl 1 (t.sh.map Jh),.i t.d0,.i t.d1,.i t.d2,.i t.d3,.i t.d4,.i t.d5,.i t.d6,.i t.d7,.i t.side,.sl 1 (t.sq.map Jh),.own 2 ((t.st.take i).map Ji).length]),(2,.buf 182 2 ((t.st.take i).map Ji)),(3,.box JoR)],4⟩
 ok:=fun i=>i<=t.st.length
 ms:=fun i=>t.st.length-i }
abbrev Z26a:=[AV.str [],AV.ex (Value.slice none 0 0),AV.i 0,AV.i 0,AV.i 0,AV.i 0,AV.i 0,AV.i 0,AV.i 0,AV.i 0,AV.i 0,AV.ex (Value.slice none 0 0),AV.ex (Value.slice none 0 0)]
abbrev Jtb(t:Ty):=List.map Jh t.sh
abbrev Jta(t:Ty):=List.map Jh t.sq
abbrev Joz(t:Ty):=List.map Ji t.st
abbrev Z26b(t:Ty):=[AV.str t.name,AV.sl 1 (Jtb t),AV.i t.d0,AV.i t.d1,AV.i t.d2,AV.i t.d3,AV.i t.d4,AV.i t.d5,AV.i t.d6,AV.i t.d7,AV.i t.side,AV.sl 1 (Jta t),AV.sl 2 (Joz t)]
abbrev Jtc(g:Nat)(t:Ty):=List.map Ji (List.take g t.st)
abbrev Z26d(t:Ty)(g:Nat):=[AV.i (t.st.getD (g:Int).toNat default).p,AV.sl 1 (List.map Jh (t.st.getD (g:Int).toNat default).e)]
abbrev Jui(t:Ty):=(t.st.length:Int)
theorem c28(t:Ty)(hl:t.st.length<=1000)(h2:t.sh.length<=1000)(h3:t.sq.length<=1000)(h4:∀ s,s ∈ t.st->s.e.length<=1000):P0 28 [.agg (Jf t)] (.agg (Jf t)):=by
 have key :
  P0 58 [AV.agg (Z26b t)] (AV.agg (Z26b t))/\(∃ (g:Nat),g<=t.st.length/\AS.mk [(2,AV.ptr 3 0),(3,AV.ptr 1 0),(20,AV.sl 2 (Joz t)),(21,AV.i ((Joz t).length:Int)),(22,AV.i 0)] [(1,ABlk.box [AV.str t.name,AV.sl 1
  (Jtb t),AV.i t.d0,AV.i t.d1,AV.i t.d2,AV.i t.d3,AV.i t.d4,AV.i t.d5,AV.i t.d6,AV.i t.d7,AV.i t.side,AV.sl 1 (Jta t),AV.own 2 0]),(2,ABlk.buf 182 2 []),(3,ABlk.box Z26a)] 4=AS.mk [(2,AV.ptr 3 0),(3,AV.ptr 1 0),
  (20,AV.sl 2 (Joz t)),(21,AV.i (Jui t)),(22,AV.i (g:Int))] [(1,ABlk.box [AV.str t.name,AV.sl 1 (Jtb t),AV.i t.d0,AV.i t.d1,AV.i t.d2,AV.i t.d3,AV.i t.d4,AV.i t.d5,AV.i t.d6,AV.i t.d7,AV.i t.side,AV.sl 1 (Jta
  t),AV.own 2 (Jtc g t).length]),(2,ABlk.buf 182 2 (Jtc g t)),(3,ABlk.box Z26a)] 4)/\∀ (g:Nat),g<=t.st.length->(decide ((g:Int) < (Jui t))=true->(0:Int)<=(g:Int)/\(g:Int) < ((Joz t).length:Int) /\
  AV.agg (Jn (Joz t) (g:Int).toNat)=AV.agg (Z26d t g)/\(Jtc g t).length+1<=9223372036854775807/\((Jtc g t).length+1) * 32<=140737488355328/\Jg ((g:Int)+1)/\∃ (g':Nat),g'<=t.st.length/\t.st.length-g'
  < t.st.length-g/\AS.mk [(2,AV.ptr 3 0),(3,AV.ptr 1 0),(20,AV.sl 2 (Joz t)),(21,AV.i (Jui t)),(22,AV.i ((g:Int)+1))] [(1,ABlk.box [AV.str t.name,AV.sl 1 (Jtb t),AV.i t.d0,AV.i t.d1,AV.i t.d2,AV.i t.d3,AV.i
  t.d4,AV.i t.d5,AV.i t.d6,AV.i t.d7,AV.i t.side,AV.sl 1 (Jta t),AV.own 2 ((Jtc g t).length+1)]),(2,ABlk.buf 182 2 (List.map Ji (List.take g t.st)++[(Z26d t g)])),(3,ABlk.box Z26a)] 4=AS.mk [(2,AV.ptr 3 0),(3,
  AV.ptr 1 0),(20,AV.sl 2 (Joz t)),(21,AV.i (Jui t)),(22,AV.i (g':Int))] [(1,ABlk.box [AV.str t.name,AV.sl 1 (Jtb t),AV.i t.d0,AV.i t.d1,AV.i t.d2,AV.i t.d3,AV.i t.d4,AV.i t.d5,AV.i t.d6,AV.i t.d7,AV.i t.side,
  AV.sl 1 (Jta t),AV.own 2 (List.map Ji (List.take g' t.st)).length]),(2,ABlk.buf 182 2 (List.map Ji (List.take g' t.st))),(3,ABlk.box Z26a)] 4)/\(decide ((g:Int) < (Jui t))=false->AV.agg [AV.str t.name,AV.sl 1
  (Jtb t),AV.i t.d0,AV.i t.d1,AV.i t.d2,AV.i t.d3,AV.i t.d4,AV.i t.d5,AV.i t.d6,AV.i t.d7,AV.i t.side,AV.sl 1 (Jta t),AV.sl 2 (Jtc g t)]=AV.agg (Z26b t)):=by
   delta Z26a Z26b Jtc Z26d Joz Jtb Jta Jui
   have hlm:(List.map Ji t.st).length=t.st.length:=Kb _
   refine⟨c58 t hl h2 h3 h4,⟨0,by omega,by rw[hlm];rfl⟩,fun g hg=>⟨fun hd=>?_,fun hd=>?_⟩⟩
   . have hlt:=Js hd
     have h6:=Xd Ji hlt
     have h7:(List.map Ji (List.take g t.st)).length=g:=by rw[Kb,Kg];omega
     have h8:(List.map Ji (List.take (g+1) t.st)).length=g+1:=by rw[Kb,Kg];omega
     refine⟨by omega,by omega,congrArg AV.agg (Jq Ji hlt),by omega,by omega,by unfold Jg;omega,g+1,hlt,by omega,?_⟩
     rw[h8,<- h6,h7]
     rfl
   rw[Jz hd hg,Ky]
 exact JU Tryz.f28 ({ Jkc 6 4 (fun a=>{ a with fz:=false }) (mkB sp28 28 [(5,1,rdL 2 Ji t.st 2 true)] (fun i=>if i.beq 0 then some (la28 t)else none))with bx:=fun i=>if i.beq 0 then[.frzc 1 12]else[],gs:=fun i=>if i.beq 1 then[.frzo 1]else[] }) key (by kernel_rfl)
def la82(t:Ty):LA:={
 pre:=[.reno 3 1,.reno 2 3,.ownb 1 12 117 2,.renc 1 12 2,.keep [2,3,18,19,20] [1,2,3],.bound 4],post:=[.renc 1 12 2,.keep [2,3,18,19,20] [1,2,3],.bound 4]
 Gh:=Nat
 st:=fun i=>⟨[(2,.ptr 3 0),(3,.ptr 1 0),(18,.sl 2 (t.st.map Ji)),(19,.i t.st.length),(20,.i i)],[(1,.box [.str t.name,.sl 1 (t.sh.map Jh),.i t.d0,.i t.d1,.i t.d2,.i t.d3,.i t.d4,.i t.d5,.i t.d6,.i t.d7,.i t.side,.sl 1 (t.sq.map Jh),.own 2 ((t.st.take i).map Ji).length]),(2,.buf 117 2 ((t.st.take i).map Ji)),(3,.box JoR)],4⟩
 ok:=fun i=>i<=t.st.length
 ms:=fun i=>t.st.length-i }
abbrev Z27a:=[AV.str [],AV.ex (Value.slice none 0 0),AV.i 0,AV.i 0,AV.i 0,AV.i 0,AV.i 0,AV.i 0,AV.i 0,AV.i 0,AV.i 0,AV.ex (Value.slice none 0 0),AV.ex (Value.slice none 0 0)]
abbrev Js9(g:Nat)(t:Ty):=List.map Ji (List.take g t.st)
abbrev Z27c(t:Ty)(g:Nat):=[AV.i (t.st.getD (g:Int).toNat default).p,AV.sl 1 (List.map Jh (t.st.getD (g:Int).toNat default).e)]
abbrev Joy(t:Ty):=List.map Ji t.st
abbrev Js8(t:Ty):=List.map Jh t.sh
abbrev Js7(t:Ty):=List.map Jh t.sq
abbrev Juh(t:Ty):=(t.st.length:Int)
theorem c82(t:Ty)(hl:t.st.length<=1000)(h2:t.sh.length<=1000)(h3:t.sq.length<=1000)(h4:∀ s,s ∈ t.st->s.e.length<=1000):P0 82 [.agg (Jf t)] (.agg (Jf t)):=by
 have key :
  (∃ (g:Nat),g<=t.st.length/\AS.mk [(2,AV.ptr 3 0),(3,AV.ptr 1 0),(18,AV.sl 2 (Joy t)),(19,AV.i ((Joy t).length:Int)),(20,AV.i 0)] [(1,ABlk.box [AV.str t.name,AV.sl 1 (Js8 t),AV.i t.d0,AV.i t.d1,AV.i t.d2,
  AV.i t.d3,AV.i t.d4,AV.i t.d5,AV.i t.d6,AV.i t.d7,AV.i t.side,AV.sl 1 (Js7 t),AV.own 2 0]),(2,ABlk.buf 117 2 []),(3,ABlk.box Z27a)] 4=AS.mk [(2,AV.ptr 3 0),(3,AV.ptr 1 0),(18,AV.sl 2 (Joy t)),(19,AV.i (Juh
  t)),(20,AV.i (g:Int))] [(1,ABlk.box [AV.str t.name,AV.sl 1 (Js8 t),AV.i t.d0,AV.i t.d1,AV.i t.d2,AV.i t.d3,AV.i t.d4,AV.i t.d5,AV.i t.d6,AV.i t.d7,AV.i t.side,AV.sl 1 (Js7 t),AV.own 2 (Js9 g t).length]),(2,
  ABlk.buf 117 2 (Js9 g t)),(3,ABlk.box Z27a)] 4)/\∀ (g:Nat),g<=t.st.length->(decide ((g:Int) < (Juh t))=true->(0:Int)<=(g:Int)/\(g:Int) < ((Joy t).length:Int)/\AV.agg (Jn (Joy t) (g:Int).toNat) =
  AV.agg (Z27c t g)/\(Js9 g t).length+1<=9223372036854775807/\((Js9 g t).length+1) * 32<=140737488355328/\Jg ((g:Int)+1)/\∃ (g':Nat),g'<=t.st.length/\t.st.length-g' < t.st.length-g/\AS.mk [(2,AV.ptr 3
  0),(3,AV.ptr 1 0),(18,AV.sl 2 (Joy t)),(19,AV.i (Juh t)),(20,AV.i ((g:Int)+1))] [(1,ABlk.box [AV.str t.name,AV.sl 1 (Js8 t),AV.i t.d0,AV.i t.d1,AV.i t.d2,AV.i t.d3,AV.i t.d4,AV.i t.d5,AV.i t.d6,AV.i t.d7,
  AV.i t.side,AV.sl 1 (Js7 t),AV.own 2 ((Js9 g t).length+1)]),(2,ABlk.buf 117 2 (List.map Ji (List.take g t.st)++[(Z27c t g)])),(3,ABlk.box Z27a)] 4=AS.mk [(2,AV.ptr 3 0),(3,AV.ptr 1 0),(18,AV.sl 2 (Joy t)),
  (19,AV.i (Juh t)),(20,AV.i (g':Int))] [(1,ABlk.box [AV.str t.name,AV.sl 1 (Js8 t),AV.i t.d0,AV.i t.d1,AV.i t.d2,AV.i t.d3,AV.i t.d4,AV.i t.d5,AV.i t.d6,AV.i t.d7,AV.i t.side,AV.sl 1 (Js7 t),AV.own 2 (List.map
  Ji (List.take g' t.st)).length]),(2,ABlk.buf 117 2 (List.map Ji (List.take g' t.st))),(3,ABlk.box Z27a)] 4)/\(decide ((g:Int) < (Juh t))=false->AV.agg [AV.str t.name,AV.sl 1 (Js8 t),AV.i t.d0,AV.i t.d1,AV.i
  t.d2,AV.i t.d3,AV.i t.d4,AV.i t.d5,AV.i t.d6,AV.i t.d7,AV.i t.side,AV.sl 1 (Js7 t),AV.sl 2 (Js9 g t)]=AV.agg [AV.str t.name,AV.sl 1 (Js8 t),AV.i t.d0,AV.i t.d1,AV.i t.d2,AV.i t.d3,AV.i t.d4,AV.i t.d5,AV.i t.d6,
  AV.i t.d7,AV.i t.side,AV.sl 1 (Js7 t),AV.sl 2 (Joy t)]):=by
   delta Z27a Js9 Z27c Joy Js8 Js7 Juh
   have hlm:(List.map Ji t.st).length=t.st.length:=Kb _
   refine⟨⟨0,by omega,by rw[hlm];rfl⟩,fun g hg=>⟨fun hd=>?_,fun hd=>?_⟩⟩
   . have hlt:=Js hd
     have h6:=Xd Ji hlt
     have h7:(List.map Ji (List.take g t.st)).length=g:=by rw[Kb,Kg];omega
     have h8:(List.map Ji (List.take (g+1) t.st)).length=g+1:=by rw[Kb,Kg];omega
     refine⟨by omega,by omega,congrArg AV.agg (Jq Ji hlt),by omega,by omega,by unfold Jg;omega,g+1,hlt,by omega,?_⟩
     rw[h8,<- h6,h7]
     rfl
   rw[Jz hd hg,Ky]
 exact JU Tryz.f82 ({ Jkc 5 4 (fun a=>{ a with fz:=false }) (mkB sp28 82 [(4,1,rdL 2 Ji t.st 2 true)] (fun i=>if i.beq 0 then some (la82 t)else none))with bx:=fun i=>if i.beq 0 then[.frzc 1 12]else[] }) key (by kernel_rfl)
structure Ask where
 p:Int
 d:Int
 x:Int
 y:Int
 z:Int
 a:Int
 b:Int
 q:Int
 x2:Int
 y2:Int
 z2:Int
 u:Int
 v:Int
 e:Int
def encAsk(k:Ask):List AV:=[.i k.p,.i k.d,.i k.x,.i k.y,.i k.z,.i k.a,.i k.b,.i k.q,.i k.x2,.i k.y2,.i k.z2,.i k.u,.i k.v,.i k.e]
structure ShortTy(t:Ty):Prop where
 n:t.name.length<=40
 s:t.sh.length<=9
 q:t.sq.length<=9
 st:t.st.length<=7
 e:∀ x,x ∈ t.st->x.e.length<=9
theorem Jmx{t:Ty}(h:Qg t=true):ShortTy t:=by
 unfold Qg at h
 simp only[Kd,List.all_eq_true,Ko]at h
 exact⟨h.2.1,h.2.2.1,h.2.2.2.1,h.2.2.2.2,h.1⟩
def rdT:List AV->Option AV:=fun _=>some (.bool true)
def noSym(r:Nat)(B:BA):BA:={ B with ra:=fun i=>if i.beq r then { B.ra i with ans:=(B.ra i).ans.map fun a=>{ a with sym:=false } }else B.ra i }
def b6(t:Ty)(k:Ask):List (Nat × AV):=[(2,.elt 13 [Jf t] 0 0),(3,.elt 14 [encAsk k] 0 0),(4,.bool false)]
def hrL(a:Int)(H:Nat->Int)(n:Nat):List (List AV):=(List.range n).map fun(i:Nat)=>[.i (a+i),.i (H i)]
def la144(l:Nat)(a b:Int)(tc:List AV)(tr:AV)(rx ry rz:Int)(H:Nat->Int):LA:={
 pre:=[.keep [0,1,2,3,4,6] [0],.bound 1],post:=[.keep [0,1,2,3,4,6] [0],.bound 1]
 Gh:=Nat
 st:=fun i=>⟨[(0,.yld l),(1,.elt 2 [[.i a,.i b]] 0 0),(2,.elt 13 [tc] 0 0),(3,.elt 1 [[tr]] 0 0),(4,.elt 3 [[.i rx,.i ry,.i rz]] 0 0),(6,.i (a+i))],[(0,.ready l (hrL a H i))],1⟩
 ok:=fun i=>i<=(b-a).toNat
 ms:=fun i=>(b-a).toNat-i }
def sp144(a:Int)(S:Nat->List AV)(hd:List AV->Int):Nat->List AV->Option AV
 | 126,[_,.int _ t]=>some (.agg (S (t-a).toNat))
 | 117,[_,.agg s,_]=>some (.i (hd s))
 | _,_=>none
def B144(a b:Int)(tc:List AV)(tr:AV)(rx ry rz:Int)(S:Nat->List AV)(hd:List AV->Int)(l:Nat):BA :=
 mkB (sp144 a S hd) 144 [] (fun i=>if i.beq 0 then some (la144 l a b tc tr rx ry rz fun i=>hd (S i))else none)
theorem s_of {f : Nat} {cap : List AV} {L : List (List AV)} (fn : Func) (B : Nat → BA) {q : Nat → Prop} (hq : ∀ l, q l) (h : ∀ l, VC (Qh Tryz.prog T0 G0 fn.ntmps L) (B l) 10000 0 (Xx fn) (Jgd l cap) (seqQ l L) = q l) (hf : Tryz.prog.funcs[f]? = some fn := by kernel_rfl) (hb : fn.body = some (Xx fn) := by kernel_rfl) (hn : (fn.name == "runtime.NumGoroutine") = false := by kernel_rfl) (hlen : Nat.ble (cap.length + 1) fn.ntmps = true := by kernel_rfl) (hres : fn.results.toList = [] := by kernel_rfl) : PSeq Tryz.prog G0 f cap L :=
 Jjv tok mix hf hb hn (Kl hlen) hres B fun l=>Ji4 (hq l) (h l)
theorem JkL(a:Int)(H:Nat->Int)(n:Nat):hrL a H n++[[.i (a+n),.i (H n)]]=hrL a H (n+1):=by
 simp[hrL,List.range_succ]
theorem JrI(a:Int)(H:Nat->Int):∀ {n m:Nat},n < m->∃ post,hrL a H m=hrL a H n++[.i (a+n),.i (H n)]::post
 | n,m,h=>by
  refine⟨(List.range' (n+1) (m-(n+1))).map fun(i:Nat)=>[.i (a+i),.i (H i)],?_⟩
  rw[<- List.singleton_append,<- List.append_assoc,JkL]
  unfold hrL
  rw[<- Db,List.range_eq_range',List.range_eq_range',show List.range' (n+1) (m-(n+1))=List.range' (0+(n+1)) (m-(n+1)) by rw[Nat.zero_add],List.range'_append_1,show n+1+(m-(n+1))=m by omega]
theorem s144(a b:Int)(c0 c1 c2 c3 c4 c5 c6 c7 c8 c9 c10 c11 c12:AV)(rows:List (List AV))(rx ry rz:Int)(S:Nat->List AV)(hd:List AV->Int)(ha : -1000000000<=a)(hb:b<=1000000000)
 (h1:∀ i:Nat,i < (b-a).toNat->P0 126 [.sl 5 rows,.i (a+i)] (.agg (S i)))
 (h2:∀ i:Nat,i < (b-a).toNat->P0 117 [.agg [c0,c1,c2,c3,c4,c5,c6,c7,c8,c9,c10,c11,c12],.agg (S i),.agg [.i rx,.i ry,.i rz]] (.i (hd (S i)))) :
 PSeq Tryz.prog G0 144 [.elt 2 [[.i a,.i b]] 0 0,.elt 13 [[c0,c1,c2,c3,c4,c5,c6,c7,c8,c9,c10,c11,c12]] 0 0,.elt 1 [[.sl 5 rows]] 0 0,.elt 3 [[.i rx,.i ry,.i rz]] 0 0] (hrL a (fun i=>hd (S i)) (b-a).toNat):=by
 have key:∀ l:Nat,
  (∃ (g:Nat),
  g<=(b-a).toNat /\
  AS.mk
  [((0:Nat),AV.yld l),
  ((1:Nat),AV.elt (2:Nat) [[AV.i a,AV.i b]] (0:Nat) (0:Nat)),
  ((2:Nat),
  AV.elt (13:Nat) [[c0,c1,c2,c3,c4,c5,c6,c7,c8,c9,c10,c11,c12]] (0:Nat) (0:Nat)),
  ((3:Nat),AV.elt (1:Nat) [[AV.sl (5:Nat) rows]] (0:Nat) (0:Nat)),
  ((4:Nat),
  AV.elt (3:Nat) [[AV.i rx,AV.i ry,AV.i rz]] (0:Nat)
  (0:Nat)),
  ((6:Nat),AV.i a)]
  [((0:Nat),ABlk.ready l [])] (1:Nat) =
  AS.mk
  [((0:Nat),AV.yld l),
  ((1:Nat),AV.elt (2:Nat) [[AV.i a,AV.i b]] (0:Nat) (0:Nat)),
  ((2:Nat),
  AV.elt (13:Nat) [[c0,c1,c2,c3,c4,c5,c6,c7,c8,c9,c10,c11,c12]] (0:Nat) (0:Nat)),
  ((3:Nat),AV.elt (1:Nat) [[AV.sl (5:Nat) rows]] (0:Nat) (0:Nat)),
  ((4:Nat),
  AV.elt (3:Nat) [[AV.i rx,AV.i ry,AV.i rz]] (0:Nat)
  (0:Nat)),
  ((6:Nat),AV.i (a+(g:Int)))]
  [((0:Nat),ABlk.ready l (hrL a (fun(i:Nat)=>hd (S i)) g))] (1:Nat)) /\
  ∀ (g:Nat),
  g<=(b-a).toNat →
  (decide (a+(g:Int) < b)=true →
  l=l /\
  P0 (126:Nat) [AV.sl (5:Nat) rows,AV.i (a+(g:Int))]
  (AV.agg (S (a+(g:Int)-a).toNat)) /\
  P0 (117:Nat)
  [AV.agg [c0,c1,c2,c3,c4,c5,c6,c7,c8,c9,c10,c11,c12],
  AV.agg (S (a+(g:Int)-a).toNat),
  AV.agg [AV.i rx,AV.i ry,AV.i rz]]
  (AV.i (hd (S (a+(g:Int)-a).toNat))) /\
  (∃ (post:List (List AV)),
  hrL a (fun(i:Nat)=>hd (S i)) (b-a).toNat =
  hrL a (fun(i:Nat)=>hd (S i)) g ++
  [AV.i (a+(g:Int)),
  AV.i (hd (S (a+(g:Int)-a).toNat))] ::
  post) /\
  l=l /\
  (hrL a (fun(i:Nat)=>hd (S i)) g ++
  [[AV.i (a+(g:Int)),
  AV.i (hd (S (a+(g:Int)-a).toNat))]]).length =
  (hrL a (fun(i:Nat)=>hd (S i)) g).length+(1:Nat) /\
  (Jg (a+(g:Int)+(1:Int)) /\
  ∃ (g':Nat),
  g'<=(b-a).toNat /\
  (b-a).toNat-g' < (b-a).toNat-g /\
  AS.mk
  [((0:Nat),AV.yld l),
  ((1:Nat),
  AV.elt (2:Nat) [[AV.i a,AV.i b]] (0:Nat)
  (0:Nat)),
  ((2:Nat),
  AV.elt (13:Nat) [[c0,c1,c2,c3,c4,c5,c6,c7,c8,c9,c10,c11,c12]]
  (0:Nat) (0:Nat)),
  ((3:Nat),AV.elt (1:Nat) [[AV.sl (5:Nat) rows]] (0:Nat) (0:Nat)),
  ((4:Nat),
  AV.elt (3:Nat)
  [[AV.i rx,AV.i ry,AV.i rz]]
  (0:Nat) (0:Nat)),
  ((6:Nat),AV.i (a+(g:Int)+(1:Int)))]
  [((0:Nat),
  ABlk.ready l
  (hrL a (fun(i:Nat)=>hd (S i)) g ++
  [[AV.i (a+(g:Int)),
  AV.i (hd (S (a+(g:Int)-a).toNat))]]))]
  (1:Nat) =
  AS.mk
  [((0:Nat),AV.yld l),
  ((1:Nat),
  AV.elt (2:Nat) [[AV.i a,AV.i b]] (0:Nat)
  (0:Nat)),
  ((2:Nat),
  AV.elt (13:Nat) [[c0,c1,c2,c3,c4,c5,c6,c7,c8,c9,c10,c11,c12]]
  (0:Nat) (0:Nat)),
  ((3:Nat),AV.elt (1:Nat) [[AV.sl (5:Nat) rows]] (0:Nat) (0:Nat)),
  ((4:Nat),
  AV.elt (3:Nat)
  [[AV.i rx,AV.i ry,AV.i rz]]
  (0:Nat) (0:Nat)),
  ((6:Nat),AV.i (a+(g':Int)))]
  [((0:Nat),ABlk.ready l (hrL a (fun(i:Nat)=>hd (S i)) g'))] (1:Nat)) /\
  (ABlk.stop l=ABlk.ready l (hrL a (fun(i:Nat)=>hd (S i)) (b-a).toNat) ∨
  ABlk.stop l=ABlk.stop l)) /\
  (decide (a+(g:Int) < b)=false →
  ABlk.ready l (hrL a (fun(i:Nat)=>hd (S i)) g) =
  ABlk.ready l (hrL a (fun(i:Nat)=>hd (S i)) (b-a).toNat) ∨
  ABlk.ready l (hrL a (fun(i:Nat)=>hd (S i)) g)=ABlk.stop l):=by
  intro l
  refine⟨⟨0,by omega,by simp[hrL]⟩,fun g hg=>⟨fun hlt=>?_,fun hge=>?_⟩⟩
  . simp only[Ko]at hlt
    have hl:g < (b-a).toNat:=by omega
    have e:(a+(g:Int)-a).toNat=g:=by omega
    simp only[e]
    have hs:=JkL a (fun i=>hd (S i)) g
    refine⟨trivial,h1 g hl,h2 g hl,JrI a (fun i=>hd (S i)) hl,trivial,by simp,⟨by unfold Jg;omega,g+1,hl,by omega,?_⟩,.inr trivial⟩
    rw[hs,show a+(g:Int)+1=a+((g+1:Nat):Int) by omega]
  . simp only[decide_eq_false_iff_not]at hge
    have:g=(b-a).toNat:=by omega
    subst this
    exact .inl rfl
 exact s_of Tryz.f144 (B144 a b [c0,c1,c2,c3,c4,c5,c6,c7,c8,c9,c10,c11,c12] (.sl 5 rows) rx ry rz S hd) key (fun l=>by kernel_rfl)
def Jsc:Option AV->Option (List AV)
 | some (.agg s)=>some s
 | _=>none
def JrG:Option AV->Option Int
 | some (.int .i64 n)=>some n
 | _=>none
theorem JnM{x:Option AV}{s:List AV}(h:Jsc x=some s):x=some (.agg s):=by
 cases x with
 | none=>cases h
 | some v=>cases v <;> simp[Jsc]at h;rw[h]
theorem Jm9{x:Option AV}{n:Int}(h:JrG x=some n):x=some (.i n):=by
 cases x with
 | none=>cases h
 | some v=>cases v <;> simp[JrG]at h;rename_i k m;cases k <;> simp at h;rw[h]
def stOf(rec:Nat->List AV->Option AV)(rows:List (List AV))(a:Int)(i:Nat):Option (List AV):=Jsc (rec 126 [.sl 5 rows,.i (a+i)])
def hrOf(rec:Nat->List AV->Option AV)(tc r:List AV)(s:List AV):Option Int:=JrG (rec 117 [.agg tc,.agg s,.agg r])
def sqH(rec:Nat->List AV->Option AV)(f:Nat)(cap:List AV):Option (List (List AV)) :=
 match cap with
 | [.elt 2 [[.int .i64 a,.int .i64 b]] 0 0,.elt 13 [[c0,c1,c2,c3,c4,c5,c6,c7,c8,c9,c10,c11,c12]] 0 0,.elt 1 [[.sl 5 rows]] 0 0,.elt 3 [[.int .i64 rx,.int .i64 ry,.int .i64 rz]] 0 0] =>
  if Nat.beq f 144 && (decide (-1000000000<=a) && (decide (b<=1000000000) && (List.range (b-a).toNat).all fun i=>match stOf rec rows a i with
   | some s=>(hrOf rec [c0,c1,c2,c3,c4,c5,c6,c7,c8,c9,c10,c11,c12] [.i rx,.i ry,.i rz] s).isSome
   | none=>false))then
   some (hrL a (fun i=>(hrOf rec [c0,c1,c2,c3,c4,c5,c6,c7,c8,c9,c10,c11,c12] [.i rx,.i ry,.i rz] ((stOf rec rows a i).getD [])).getD 0) (b-a).toNat)
  else none
 | _=>none
theorem sqH_ok(rec:Nat->List AV->Option AV)(hrec:∀ f args r,rec f args=some r->P0 f args r)(f:Nat)(cap:List AV)(L:List (List AV))(h:sqH rec f cap=some L):PSeqX Tryz.prog G0 f cap L:=by
 unfold sqH at h
 split at h
 . rename_i a b c0 c1 c2 c3 c4 c5 c6 c7 c8 c9 c10 c11 c12 rows rx ry rz
   split at h
   . rename_i hb
     simp only[Kd,Ko,List.all_eq_true,List.mem_range]at hb
     obtain⟨h1,h2,h3,h4⟩:=hb
     have:=Kc h1
     subst this
     cases h
     have key:∀ i:Nat,i < (b-a).toNat->∃ s n,stOf rec rows a i=some s/\hrOf rec [c0,c1,c2,c3,c4,c5,c6,c7,c8,c9,c10,c11,c12] [.i rx,.i ry,.i rz] s=some n:=fun i hi=>by
      have:=h4 i hi
      split at this
      . rename_i s hs
        obtain⟨n,hn⟩:=Option.isSome_iff_exists.1 this
        exact⟨s,n,hs,hn⟩
      cases this
     show PSeq Tryz.prog G0 144 _ _
     refine s144 a b c0 c1 c2 c3 c4 c5 c6 c7 c8 c9 c10 c11 c12 rows rx ry rz (fun i=>(stOf rec rows a i).getD []) (fun s=>(hrOf rec [c0,c1,c2,c3,c4,c5,c6,c7,c8,c9,c10,c11,c12] [.i rx,.i ry,.i rz] s).getD 0) h2 h3 (fun i hi=>?_) (fun i hi=>?_)
     . obtain⟨s,n,hs,hn⟩:=key i hi
       rw[hs]
       exact hrec _ _ _ (JnM hs)
     obtain⟨s,n,hs,hn⟩:=key i hi
     simp only[hs,Option.getD_some,hn]
     exact hrec _ _ _ (Jm9 hn)
   cases h
 cases h
end Go.Proofs.YtjhjmncjidbieaaGreatDoor
namespace Go.Proofs
open Go.Shelf
def Tryz.lays156_ren:Go.Shelf.Ren:=⟨fun | 156=>161 | 165=>173 | 166=>174 | 169=>175 | 240=>182 | 241=>183 | 276=>190 | 277=>191 | n=>n,fun | 31=>160 | 9=>9 | 3=>3 | 4=>4 | 0=>0 | 20=>20 | 72=>261 | 76=>265 | 70=>258 | 37=>259 | 75=>264 | 127=>270 | 164=>274 | 5=>5 | 80=>229 | n=>n,fun | n=>n⟩
theorem Tryz.lays156:Go.Proofs.Lays.n156 Tryz.prog Tryz.lays156_ren:={
 mixed:=by kernel_rfl
 f156:=Tryz.func161.trans (congrArg some (by kernel_rfl))
 f165:=Tryz.func173.trans (congrArg some (by kernel_rfl))
 f166:=Tryz.func174.trans (congrArg some (by kernel_rfl))
 f169:=Tryz.func175.trans (congrArg some (by kernel_rfl))
 f240:=Tryz.func182.trans (congrArg some (by kernel_rfl))
 f241:=Tryz.func183.trans (congrArg some (by kernel_rfl))
 f276:=Tryz.func190.trans (congrArg some (by kernel_rfl))
 f277:=Tryz.func191.trans (congrArg some (by kernel_rfl))
 t0:=Tryz.underlying0
 a0:=Tryz.isAgg0
 z0:=Tryz.sizeOf0
 v0:=Tryz.zeroValue0
 t3:=Tryz.underlying3
 a3:=Tryz.isAgg3
 z3:=Tryz.sizeOf3
 v3:=Tryz.zeroValue3
 t4:=Tryz.underlying4
 a4:=Tryz.isAgg4
 z4:=Tryz.sizeOf4
 v4:=Tryz.zeroValue4
 t9:=Tryz.underlying9
 a9:=Tryz.isAgg9
 z9:=Tryz.sizeOf9
 v9:=Tryz.zeroValue9
 t20:=Tryz.underlying20
 a20:=Tryz.isAgg20
 z20:=Tryz.sizeOf20
 v20:=Tryz.zeroValue20
 t31:=Tryz.underlying160
 a31:=Tryz.isAgg160
 z31:=Tryz.sizeOf160
 v31:=Tryz.zeroValue160
 t37:=Tryz.underlying259
 a37:=Tryz.isAgg259
 z37:=Tryz.sizeOf259
 v37:=Tryz.zeroValue259
 t70:=Tryz.underlying258
 a70:=Tryz.isAgg258
 z70:=Tryz.sizeOf258
 v70:=Tryz.zeroValue258
 t72:=Tryz.underlying261
 a72:=Tryz.isAgg261
 z72:=Tryz.sizeOf261
 v72:=Tryz.zeroValue261
 t75:=Tryz.underlying264
 a75:=Tryz.isAgg264
 z75:=Tryz.sizeOf264
 v75:=Tryz.zeroValue264
 t76:=Tryz.underlying265
 a76:=Tryz.isAgg265
 z76:=Tryz.sizeOf265
 v76:=Tryz.zeroValue265
 t127:=Tryz.underlying270
 a127:=Tryz.isAgg270
 z127:=Tryz.sizeOf270
 v127:=Tryz.zeroValue270
 t164:=Tryz.underlying274
 a164:=Tryz.isAgg274
 z164:=Tryz.sizeOf274
 v164:=Tryz.zeroValue274 }
theorem Tryz.Builder_Extra_156:Builder.Extra Tryz.prog Tryz.lays156_ren:={
 sizeBuilder:=by kernel_rfl
 liesBuilder:=by kernel_rfl
 t5:=Tryz.underlying5
 a5:=Tryz.isAgg5
 z5:=Tryz.sizeOf5
 v5:=Tryz.zeroValue5
 infoByte:=by kernel_rfl
 cellsByte:=by kernel_rfl
 sizeByte:=by kernel_rfl
 neB5:=by decide }
open Go.RowKit in
theorem Tryz.strings_Join_none(a:Option Addr)(c:Nat)(sep:ByteArray)(w:World) :
 Calls Tryz.prog 161 #[.slice a 0 c,.string sep] w fun e w'=>e=.returned (.string ⟨#[]⟩)/\w'=w:=Any.strings_Join_none Tryz.lays156 Tryz.Builder_Extra_156 a c sep w
open Go.RowKit in
theorem Tryz.strings_Join(bk o c:Nat)(xs:List ByteArray)(sep:ByteArray)(w:World)(hcells:∀ (j:Nat) x,xs[j]?=some x->w.cell? ⟨bk,o+j,none⟩=some (.string x))(hbk:bk < w.heap.size)(hN:xs.length<=140737488355328)(hcap:xs.length<=c)(hlen:(Lib.join (xs.map (·.data.toList)) sep.data.toList).length<=140737488355328) :
 Calls Tryz.prog 161 #[.slice (some ⟨bk,o,none⟩) xs.length c,.string sep] w fun e w'=>e=.returned (.string ⟨(Lib.join (xs.map (·.data.toList)) sep.data.toList).toArray⟩)/\Below w.heap.size w w':=Any.strings_Join Tryz.lays156 Tryz.Builder_Extra_156 bk o c xs sep w hcells hbk hN hcap hlen
def Tryz.laysM171_ren:Go.Shelf.Ren:=⟨fun | 171=>163 | 243=>176 | 246=>184 | 283=>192 | 284=>193 | 285=>194 | 286=>195 | 129=>201 | 317=>200 | 318=>202 | 319=>203 | 320=>204 | 337=>206 | 338=>207 | n=>n,fun | 3=>3 | 9=>9 | 2=>2 | 4=>4 | 171=>277 | 0=>0 | 53=>278 | 37=>259 | 5=>5 | 173=>281 | 212=>285 | 51=>78 | 20=>20 | 213=>286 | 46=>283 | 232=>295 | 233=>296 | n=>n,fun | 17=>4 | 18=>7 | 19=>8 | n=>n⟩
theorem Tryz.laysM171:Go.Proofs.LaysM.n171 Tryz.prog Tryz.laysM171_ren:={
 mixed:=by kernel_rfl
 f129:=Tryz.func201.trans (congrArg some (by kernel_rfl))
 f171:=Tryz.func163.trans (congrArg some (by kernel_rfl))
 f243:=Tryz.func176.trans (congrArg some (by kernel_rfl))
 f246:=Tryz.func184.trans (congrArg some (by kernel_rfl))
 f283:=Tryz.func192.trans (congrArg some (by kernel_rfl))
 f284:=Tryz.func193.trans (congrArg some (by kernel_rfl))
 f285:=Tryz.func194.trans (congrArg some (by kernel_rfl))
 f286:=Tryz.func195.trans (congrArg some (by kernel_rfl))
 f317:=Tryz.func200.trans (congrArg some (by kernel_rfl))
 f318:=Tryz.func202.trans (congrArg some (by kernel_rfl))
 f319:=Tryz.func203.trans (congrArg some (by kernel_rfl))
 f320:=Tryz.func204.trans (congrArg some (by kernel_rfl))
 f337:=Tryz.func206.trans (congrArg some (by kernel_rfl))
 f338:=Tryz.func207.trans (congrArg some (by kernel_rfl))
 t0:=Tryz.underlying0
 a0:=Tryz.isAgg0
 z0:=Tryz.sizeOf0
 v0:=Tryz.zeroValue0
 t2:=Tryz.underlying2
 a2:=Tryz.isAgg2
 z2:=Tryz.sizeOf2
 v2:=Tryz.zeroValue2
 t3:=Tryz.underlying3
 a3:=Tryz.isAgg3
 z3:=Tryz.sizeOf3
 v3:=Tryz.zeroValue3
 t4:=Tryz.underlying4
 a4:=Tryz.isAgg4
 z4:=Tryz.sizeOf4
 v4:=Tryz.zeroValue4
 t5:=Tryz.underlying5
 a5:=Tryz.isAgg5
 z5:=Tryz.sizeOf5
 v5:=Tryz.zeroValue5
 t9:=Tryz.underlying9
 a9:=Tryz.isAgg9
 z9:=Tryz.sizeOf9
 v9:=Tryz.zeroValue9
 t20:=Tryz.underlying20
 a20:=Tryz.isAgg20
 z20:=Tryz.sizeOf20
 v20:=Tryz.zeroValue20
 t37:=Tryz.underlying259
 a37:=Tryz.isAgg259
 z37:=Tryz.sizeOf259
 v37:=Tryz.zeroValue259
 t46:=Tryz.underlying283
 a46:=Tryz.isAgg283
 z46:=Tryz.sizeOf283
 v46:=Tryz.zeroValue283
 t51:=Tryz.underlying78
 a51:=Tryz.isAgg78
 z51:=Tryz.sizeOf78
 v51:=Tryz.zeroValue78
 t53:=Tryz.underlying278
 a53:=Tryz.isAgg278
 z53:=Tryz.sizeOf278
 v53:=Tryz.zeroValue278
 t171:=Tryz.underlying277
 a171:=Tryz.isAgg277
 z171:=Tryz.sizeOf277
 v171:=Tryz.zeroValue277
 t173:=Tryz.underlying281
 a173:=Tryz.isAgg281
 z173:=Tryz.sizeOf281
 v173:=Tryz.zeroValue281
 t212:=Tryz.underlying285
 a212:=Tryz.isAgg285
 z212:=Tryz.sizeOf285
 v212:=Tryz.zeroValue285
 t213:=Tryz.underlying286
 a213:=Tryz.isAgg286
 z213:=Tryz.sizeOf286
 t232:=Tryz.underlying295
 a232:=Tryz.isAgg295
 z232:=Tryz.sizeOf295
 v232:=Tryz.zeroValue295
 t233:=Tryz.underlying296
 a233:=Tryz.isAgg296
 z233:=Tryz.sizeOf296
 v233:=Tryz.zeroValue296
 g17:=by kernel_rfl
 g18:=by kernel_rfl
 g19:=by kernel_rfl
 i0:=by kernel_rfl
 i2:=by kernel_rfl
 i3:=by kernel_rfl
 i4:=by kernel_rfl
 i5:=by kernel_rfl
 i9:=by kernel_rfl
 i20:=by kernel_rfl
 i37:=by kernel_rfl
 i46:=by kernel_rfl
 i51:=by kernel_rfl
 i53:=by kernel_rfl
 i171:=by kernel_rfl
 i173:=by kernel_rfl
 i212:=by kernel_rfl
 i232:=by kernel_rfl
 i233:=by kernel_rfl
 m17:=by kernel_rfl
 m18:=by kernel_rfl
 m19:=by kernel_rfl }
open Go.RowKit Go.Sort Go.Lib in
theorem Tryz.strconv_Itoa (n : Int) (h0 : -9223372036854775808 ≤ n) (h1 : n ≤ 9223372036854775807) (w : World) (htab : Lib.TabIs Tryz.prog w "internal/strconv.uint64pow10" .u64 Lib.pow10Tab) :
 Calls Tryz.prog 163 #[.int .i64 n] w fun e w'=>e=.returned (.string ⟨(Lib.itoa n).toArray⟩)/\∃ k os,w'=grow (w.drewN k) os:=Any.strconv_Itoa Tryz.laysM171 n h0 h1 w htab
end Go.Proofs
namespace Go.Proofs.YtjhjmncjidbieaaGreatDoor
open Go Go.Av Go.RowKit
theorem Jar{X:Nat->Prop}{w:World}{v:Value}{k:IntKind}{n:Int}(h:Rep X w v (.int k n)):v=.int k n:=by cases h;rfl
theorem Jap{X:Nat->Prop}{w:World}{v:Value}{l:List UInt8}(h:Rep X w v (.str l)):v=.string ⟨l.toArray⟩:=by cases h;rfl
theorem Jk7{X:Nat->Prop}{w:World}{pv:Value}{k i0 j0:Nat}{rows:List (List AV)}(h:Rep X w pv (.elt k rows i0 j0)):∃ b o,pv=.pointer (some ⟨b,o+i0 * k+j0,none⟩)/\∃ cv:Nat->Nat->Value,
 (∀ i,i < rows.length->∀ j,j < k->w.cell? ⟨b,o+i * k+j,none⟩=some (cv i j))/\∀ i,i < rows.length->∀ j,j < k->Rep X w (cv i j) (nth (Jn rows i) j):=by
 cases h with
 | elt b o k rows i0 j0 cv hb hX hi hk hc hr h1=>exact⟨b,o,rfl,cv,hc,hr⟩
theorem JkP{X:Nat->Prop}{w:World}{g:Nat}{zs:List Int}{q:IntKind}(h:GlobOK X w g (zs.map fun z=>AV.int q z)):∃ cs T z,w.heap[g]?=some (.cells cs T z)/\cs=(zs.map fun z=>Value.int q z).toArray:=by
 obtain⟨h1,cs,T,z,h2,h3⟩:=h
 refine⟨cs,T,z,h2,?_⟩
 rw[Kb]at h3
 obtain⟨b,o,hp,cv,hc,hr⟩:=Jk7 h1
 simp only[Value.pointer.injEq,Option.some.injEq,Addr.mk.injEq,Nat.zero_mul,Nat.add_zero]at hp
 obtain⟨rfl,rfl, -⟩:=hp
 refine Array.ext (by simp[h3]) fun i hi1 hi2=>?_
 have hik:i < zs.length:=by omega
 have e1:=hc 0 (by simp) i (by simpa using hik)
 have e2:=hr 0 (by simp) i (by simpa using hik)
 have e3:nth (Jn [zs.map fun z=>AV.int q z] 0) i=.int q zs[i]:=by
  simp[Jn,nth,List.getD_eq_getElem?_getD,hik]
 rw[e3]at e2
 have e4:=Jar e2
 rw[e4]at e1
 simp only[Nat.zero_mul,Nat.add_zero,Nat.zero_add]at e1
 have e5:w.cell? ⟨g,i,none⟩=cs[i]?:=by unfold World.cell?;simp[h2]
 rw[e5,Array.getElem?_eq_getElem hi1]at e1
 simp only[Option.some.injEq]at e1
 rw[e1]
 simp
theorem tab_of {w : World} {X : Nat → Prop} (h : GlobOK X w 4 (Lib.pow10Tab.map fun z => AV.int .u64 z)) : Lib.TabIs Tryz.prog w "internal/strconv.uint64pow10" .u64 Lib.pow10Tab := by
 obtain⟨cs,T,z,h2,h3⟩:=JkP h
 unfold Lib.TabIs World.var?
 rw [show Tryz.prog.globalNamed "internal/strconv.uint64pow10" = some 4 by kernel_rfl]
 simp only[Option.bind_some,h2,h3]
theorem c163(n:Int)(h:Jg n):P0 163 [.i n] (.str (Lib.itoa n)):=by
 refine⟨⟨Tryz.f163,Xx Tryz.f163,by kernel_rfl,by kernel_rfl,by kernel_rfl⟩,fun w X vs hX hG hz=>?_⟩
 obtain⟨h1,h2⟩:=hz
 obtain⟨v,rfl⟩:∃ v,vs=#[v]:=by
  obtain⟨l⟩:=vs
  match l,h1 with
  | [v],_=>exact⟨v,rfl⟩
 have hv:=Jar (h2 0 v (.i n) rfl rfl)
 subst hv
 refine(Tryz.strconv_Itoa n h.1 h.2 w (tab_of (hG 4 _ (by kernel_rfl)))).mono fun e w' ⟨he,k,os,hw⟩=>⟨_,he,?_,.str _⟩
 subst hw
 exact⟨rfl,rfl,rfl,by show w.heap.size<=(w.heap++os).size;simp,fun i hi=>by
  show(w.heap++os)[i]?=_
  rw[Array.getElem?_append_left hi]⟩
theorem c161(xs:List (List UInt8))(sep:List UInt8)(hn:xs.length<=140737488355328)(hl:(Lib.join xs sep).length<=140737488355328):P0 161 [.sl 1 (xs.map fun x=>[.str x]),.str sep] (.str (Lib.join xs sep)):=by
 refine⟨⟨Tryz.f161,Xx Tryz.f161,by kernel_rfl,by kernel_rfl,by kernel_rfl⟩,fun w X vs hX hG hz=>?_⟩
 obtain⟨h1,h2⟩:=hz
 obtain⟨v,s,rfl⟩:∃ v s,vs=#[v,s]:=by
  obtain⟨l⟩:=vs
  match l,h1 with
  | [v,s],_=>exact⟨v,s,rfl⟩
 have hs:=Jap (h2 1 s (.str sep) rfl rfl)
 subst hs
 have hv:=h2 0 v _ rfl rfl
 clear h1 h2
 generalize hr:(xs.map fun x=>[AV.str x])=rows at hv
 have hlen:rows.length=xs.length:=by rw[<- hr];simp
 cases hv with
 | slE a cap =>
  have:xs=[]:=by simpa using hr
  subst this
  exact(Tryz.strings_Join_none a cap _ w).mono fun e w' ⟨he,hw⟩=>⟨_,he,by rw[hw];exact Below.refl _ _,.str _⟩
 | sl b o cap k rows cv hb hX2 hcap hmax hk hc hrr h1 =>
  have key:=Tryz.strings_Join b o cap (xs.map fun x=>⟨x.toArray⟩) ⟨sep.toArray⟩ w (fun j x hx=>?_) hb (by simpa using hn) (by simp;omega) (by
   rw[Dc,show((fun x:ByteArray=>x.data.toList) ∘ fun x:List UInt8=>(⟨x.toArray⟩:ByteArray))=id by funext x;simp,List.map_id]
   exact hl)
  . rw[Dc,show((fun x:ByteArray=>x.data.toList) ∘ fun x:List UInt8=>(⟨x.toArray⟩:ByteArray))=id by funext x;simp,List.map_id]at key
    rw[Kb]at key
    rw[hlen]
    exact key.mono fun e w' ⟨he,hw⟩=>⟨_,he,hw,.str _⟩
  obtain⟨y,hy,rfl⟩:∃ y,xs[j]?=some y/\(⟨y.toArray⟩:ByteArray)=x:=by
   rw[Kk]at hx
   simpa using hx
  have hj:j < xs.length:=(List.getElem?_eq_some_iff.1 hy).1
  have e1:=hc j (by omega) 0 (by omega)
  have e2:=hrr j (by omega) 0 (by omega)
  have e3:nth (Jn rows j) 0=.str y:=by
   rw[<- hr]
   simp[Jn,nth,List.getD_eq_getElem?_getD,hy]
  rw[e3]at e2
  rw[Jap e2]at e1
  simpa using e1
def ddF:Nat->Nat->List UInt8
 | 0,u=>[UInt8.ofNat (48+u)]
 | k+1,u=>if u < 10 then[UInt8.ofNat (48+u)]else ddF k (u / 10)++[UInt8.ofNat (48+u % 10)]
theorem Jg1:∀ (k u:Nat),u < 10 ^ (k+1)->ddF k u=Lib.decDigits u
 | 0,u,h=>by
  rw[Lib.decDigits,dif_pos (by simpa using h)]
  rfl
 | k+1,u,h=>by
  rw[Lib.decDigits,ddF]
  by_cases h10:u < 10
  . rw[if_pos h10,dif_pos h10]
  rw[if_neg h10,dif_neg h10,Jg1 k (u / 10) (by rw[Nat.pow_succ]at h;omega)]
def Jgb:List (List AV)->Option (List (List UInt8))
 | []=>some []
 | [.str x]::l=>match Jgb l with
  | some m=>some (x::m)
  | none=>none
 | _=>none
theorem Jdk:∀ {rows:List (List AV)} {xs:List (List UInt8)},Jgb rows=some xs->rows=xs.map fun x=>[.str x]
 | [],xs,h=>by cases h;rfl
 | row::l,xs,h=>by
  unfold Jgb at h
  split at h
  . rename_i h1;cases h1
  . rename_i x m h1
    cases h1
    split at h
    . rename_i m hm
      cases h
      rw[Jdk hm]
      rfl
    cases h
  cases h
def libO(f:Nat):List AV->Option AV
 | [.int .i64 n]=>if Nat.beq f 163 && (decide (0<=n) && decide (n < 1000000000))then some (.str (ddF 9 n.toNat))else none
 | [.sl 1 rows,.str sep]=>if Nat.beq f 161 then match Jgb rows with
  | some xs=>if decide (xs.length<=1000) && decide ((Lib.join xs sep).length<=1000000)then some (.str (Lib.join xs sep))else none
  | none=>none
  else none
 | _=>none
theorem JrC(f:Nat)(a:List AV)(r:AV)(h:libO f a=some r):P0 f a r:=by
 unfold libO at h
 split at h
 . rename_i n
   split at h
   . rename_i hb
     simp only[Kd,Ko]at hb
     obtain⟨h1,h2,h3⟩:=hb
     have:=Kc h1
     subst this
     cases h
     have:=c163 n (by unfold Jg;omega)
     rw[Lib.itoa,if_neg (by omega),<- Jg1 9 n.toNat (by omega)]at this
     exact this
   cases h
 . rename_i rows sep
   split at h
   . rename_i h1
     have:=Kc h1
     subst this
     split at h
     . rename_i xs hxs
       split at h
       . rename_i hb
         simp only[Kd,Ko]at hb
         cases h
         rw[Jdk hxs]
         exact c161 xs sep (by omega) (by omega)
       cases h
     cases h
   cases h
 cases h
def orcL(l:List Mem)(f:Nat)(a:List AV):Option AV:=match libO f a with
 | some r=>some r
 | none=>orcM l f a
theorem Jrv{l:List Mem}(hl:KnownM Tryz.prog G0 l)(f:Nat)(a:List AV)(r:AV)(h:orcL l f a=some r):P0 f a r:=by
 unfold orcL at h
 split at h
 . rename_i r' hr
   cases h
   exact JrC f a _ hr
 exact JjZ hl f a r h
theorem ftok:FTOK Tryz.prog F0:=by unfold FTOK;kernel_rfl
theorem Jt{l:List Mem}(hl:KnownM Tryz.prog G0 l){f:Nat}{a:List AV}{r:AV}(h:Jll Tryz.prog T0 G0 F0 (orcL l) sqH 10000 60 f a=some r):P0 f a r :=
 Jg4 tok mix ftok (Jrv hl) sqH_ok _ _ _ _ h
end Go.Proofs.YtjhjmncjidbieaaGreatDoor
