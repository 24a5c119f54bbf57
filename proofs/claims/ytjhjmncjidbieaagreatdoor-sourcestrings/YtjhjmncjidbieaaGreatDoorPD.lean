/-
  What chapter 2's reference emission returns, on a type that passes its checks. What chapter 2's sectors return. What chapter 2's reference sector returns. What chapter 2's heard of a state returns. No condition but the theorems' own.
-/
import Derived.Test.YtjhjmncjidbieaaGreatDoorPC
import Derived.Test.YtjhjmncjidbieaaGreatDoorAvD
import Derived.Test.YtjhjmncjidbieaaGreatDoorPA
import Derived.Shelf.Strings.OnBuilder
import Derived.Shelf.LaysM
import Derived.Shelf.Strconv.Itoa3
import Derived.Test.YtjhjmncjidbieaaGreatDoorProg
namespace Go.Proofs.YtjhjmncjidbieaaGreatDoor
open Go Go.Av Go.RowKit
end Go.Proofs.YtjhjmncjidbieaaGreatDoor
namespace Go.Proofs.YtjhjmncjidbieaaGreatDoor
open Go Go.Av Go.RowKit
def sec:Nat->Int->Int->Int->Int
 | 0,_,_,_=>0
 | n+1,i,x,y=>if (decide (x > y) && decide (y>=0)) || (x == 0 && y == 0) then i else if decide (y>=x) && decide (x > 0) then i+1 else sec n (i+2) y (-x)
def secX (a b c d:Int):Int:=a * c+b * d
def secY (a b c d:Int):Int:=a * d-b * c
end Go.Proofs.YtjhjmncjidbieaaGreatDoor
namespace Go.Proofs.YtjhjmncjidbieaaGreatDoor
open Go Go.Av Go.RowKit
end Go.Proofs.YtjhjmncjidbieaaGreatDoor
namespace Go.Proofs.YtjhjmncjidbieaaGreatDoor
open Go Go.Av Go.RowKit
end Go.Proofs.YtjhjmncjidbieaaGreatDoor
namespace Go.Proofs.YtjhjmncjidbieaaGreatDoor
open Go Go.Av Go.RowKit
def hrdV (t:Ty) (a b p u v w:Int):Int:=emi t p (u * u+v * v+w * w) * cI [[AV.i t.d0],[AV.i t.d1],[AV.i t.d2],[AV.i t.d3],[AV.i t.d4],[AV.i t.d5],[AV.i t.d6],[AV.i t.d7]] (sec 4 0 (secX a b u v) (secY a b u v)).toNat
def hrd (t:Ty) (a b p u v w:Int):Int:=if decide (4 * (w * w) < u * u+v * v) then (hrdV t a b p u v w * t.side).tdiv 1000000 else (hrdV t a b p u v w).tdiv 1000
end Go.Proofs.YtjhjmncjidbieaaGreatDoor
namespace Go.Proofs.YtjhjmncjidbieaaGreatDoor
open Go Go.Av Go.RowKit
end Go.Proofs.YtjhjmncjidbieaaGreatDoor
namespace Go.Proofs.YtjhjmncjidbieaaGreatDoor
open Go Go.Av Go.RowKit
theorem scan_zero {f:Nat->Int} {n:Nat} {fin:Int} (h:sScan f n fin=0):(∀ k,k < n->f k=0)∧fin=0:=by
 have h1:∀ l:List Int,sFirst (l++[fin])=0->(∀ x,x ∈ l->x=0)∧fin=0:=by
  intro l
  induction l with
  | nil=>intro h;rw [List.nil_append,first_zero] at h;exact ⟨by simp,h.1⟩
  | cons x l ih =>
   intro h
   rw [List.cons_append,first_zero] at h
   obtain ⟨h2,h3⟩:=h
   have:=ih h3
   exact ⟨fun y hy=>by rcases List.mem_cons.1 hy with e | e;(· rw [e];exact h2);(· exact this.1 y e),this.2⟩
 have:=h1 _ h
 exact ⟨fun k hk=>this.1 _ (List.mem_map.2 ⟨k,List.mem_range.2 hk,rfl⟩),this.2⟩
theorem ls_zero' {c:Int} {f:Nat->Int} {n:Nat} {fin:Int} (h:sLS c f n fin=0):c=0∧(∀ k,k < n->f k=0)∧fin=0:=by
 unfold sLS at h
 split at h
 · rename_i hc;rw [h] at hc;exact absurd hc (by decide)
 · rename_i hc
   exact ⟨by simpa using hc,scan_zero h⟩
theorem when_z {b:Bool} {e:Int} (he:e ≠ 0) (h:sWhen b e=0):b=false:=by
 cases b
 · rfl
 · exact absurd h (by simpa [sWhen] using he)
theorem counted_zero {n m:Int} (h:sCounted n m=0):n ≠ 0∧n<=m:=by
 unfold sCounted at h
 rw [first_zero,first_zero] at h
 have h1:=when_z (by decide) h.1
 have h2:=when_z (by decide) h.2.1
 have:=of_decide_eq_false h2
 exact ⟨ne_of_beq_false h1,by omega⟩
theorem ok_of {t:Ty} (h:sTyS t=0):OKTy t:=by
 unfold sTyS at h
 split at h
 · rename_i h1;rw [h] at h1;exact absurd h1 (by decide)
 · obtain ⟨h2,h3,h4⟩:=ls_zero' h
   unfold cTyS2 at h2
   rw [first_zero,first_zero,first_zero,first_zero] at h2
   obtain ⟨_,_,hq,_⟩:=h2
   have hq:=counted_zero hq
   obtain ⟨hn,hS,_⟩:=ls_zero' h4
   have hn:=counted_zero hn
   have hc:∀ i,i < t.st.length->sFirst [sWithin (t.sg i).p 1 100,sWhen (decide ((t.sg i).p<=lastP t i)) 11,sWhen (((t.sg i).e.length:Int) != (t.sq.length:Int)) 2,sRanged (t.sg i).e 100000000]=0:=fun i hi=>(ls_zero' (hS i hi)).1
   have hel:∀ i,i < t.st.length->(t.sg i).e.length=t.sq.length:=fun i hi=>first4_3 (hc i hi)
   refine ⟨by omega,by omega,by omega,by omega,hel,fun i hi=>?_,fun i hi=>?_,fun i k hi hk=>?_⟩
   · have:=hc i hi
     rw [first_zero,within_zero] at this
     exact this.1
   · have:=hc (i+1) hi
     rw [first_zero,first_zero] at this
     have h5:=of_decide_eq_false (when_z (by decide) this.2.1)
     have e:lastP t (i+1)=(t.sg i).p:=rfl
     rw [e] at h5
     omega
   · have:=hc i hi
     rw [first_zero,first_zero,first_zero,first_zero] at this
     exact ranged_of this.2.2.2.1 k (by rw [hel i hi];exact hk)
end Go.Proofs.YtjhjmncjidbieaaGreatDoor
namespace Go.Proofs.YtjhjmncjidbieaaGreatDoor
open Go Go.Av Go.RowKit
theorem side_of {t:Ty} (h:sTyS t=0):(∀ i,i < 8->0<=t.dir.getD i default∧t.dir.getD i default<=2000)∧0<=t.side∧t.side<=1000:=by
 unfold sTyS at h
 split at h
 · rename_i h1;rw [h] at h1;exact absurd h1 (by decide)
 · obtain ⟨h2,_,_⟩:=ls_zero' h
   unfold cTyS2 at h2
   rw [first_zero,first_zero,within_zero] at h2
   exact ⟨fun i hi=>ranged_of h2.1 i hi,h2.2.1⟩
end Go.Proofs.YtjhjmncjidbieaaGreatDoor
namespace Go.Proofs.YtjhjmncjidbieaaGreatDoor
open Go Go.Av Go.RowKit
def la54 (l m:List Int):LA:={
 pre:=[.keep [0,1,5] [],.bound 1],post:=[.keep [0,1,5] [],.bound 1]
 Gh:=Nat
 st:=fun i=>⟨[(0,.sl 1 (l.map encI)),(1,.sl 1 (m.map encI)),(5,.i i)],[],1⟩
 ok:=fun i=>i<=l.length∧∀ j,j < i->l.getD j default=m.getD j default
 ms:=fun i=>l.length-i }
theorem c54 (l m:List Int) (hl:l.length<=1000):PCall Tryz.prog G0 54 [.sl 1 (l.map encI),.sl 1 (m.map encI)] (.bool (l == m)):=by
 have key :
  (((↑(List.map encI l).length:Int) != (↑(List.map encI m).length:Int))=true->AV.bool false=AV.bool (l == m))∧(((↑(List.map encI l).length:Int) != (↑(List.map encI m).length:Int))=false->(∃ (g:Nat),(g<=l.length
  ∧ ∀ (j:Nat),j < g->l.getD j default=m.getD j default)∧AS.mk [(0,AV.sl 1 (List.map encI l)),(1,AV.sl 1 (List.map encI m)),(5,AV.i 0)] [] 1=AS.mk [(0,AV.sl 1 (List.map encI l)),(1,AV.sl 1 (List.map encI m)),(5,
  AV.i (g:Int))] [] 1)∧∀ (g:Nat),(g<=l.length∧∀ (j:Nat),j < g->l.getD j default=m.getD j default)->(decide ((g:Int) < (↑(List.map encI l).length:Int))=true->(0:Int)<=(g:Int)∧(g:Int) < (↑(List.map
  encI l).length:Int)∧(0:Int)<=(g:Int)∧(g:Int) < (↑(List.map encI m).length:Int)∧nth (nthR (List.map encI l) (g:Int).toNat) 0=AV.i (cI (List.map encI l) (g:Int).toNat)∧nth (nthR (List.map encI m) (↑g :
  Int).toNat) 0=AV.i (cI (List.map encI m) (g:Int).toNat)∧((cI (List.map encI l) (g:Int).toNat != cI (List.map encI m) (g:Int).toNat)=true->AV.bool false=AV.bool (l == m))∧((cI (List.map encI l) (g:Int).toNat
  != cI (List.map encI m) (g:Int).toNat)=false->In64 ((g:Int)+1)∧∃ (g':Nat),(g'<=l.length∧∀ (j:Nat),j < g'->l.getD j default=m.getD j default)∧l.length-g' < l.length-g∧AS.mk [(0,AV.sl 1 (List.map
  encI l)),(1,AV.sl 1 (List.map encI m)),(5,AV.i ((g:Int)+1))] [] 1=AS.mk [(0,AV.sl 1 (List.map encI l)),(1,AV.sl 1 (List.map encI m)),(5,AV.i (↑g':Int))] [] 1))∧(decide ((g:Int) < (↑(List.map encI l).length :
  Int))=false->AV.bool true=AV.bool (l == m))):=by
   have hle:(List.map encI l).length=l.length:=List.length_map _
   have hme:(List.map encI m).length=m.length:=List.length_map _
   rw [hle,hme]
   refine ⟨fun h=>?_,fun h=>⟨⟨0,⟨by omega,by intros;omega⟩,rfl⟩,fun g ⟨hg,ha⟩=>⟨fun hd=>?_,fun hd=>?_⟩⟩⟩
   · have h1:l ≠ m:=fun e=>by rw [e] at h;exact absurd h (by simp)
     rw [beq_false_of_ne h1]
   · have h1:l.length=m.length:=by have h2:(l.length:Int)=(m.length:Int):=(by simpa using h);omega
     have hlt:=lt_of_dec hd
     have c1:=cI_map l g
     have c2:=cI_map m g
     refine ⟨by omega,by omega,by omega,by omega,cI_at hlt,cI_at (by omega),fun e=>?_,fun e=>⟨by unfold In64;omega,g+1,⟨hlt,fun j hj=>?_⟩,by omega,rfl⟩⟩
     · have e:(cI (List.map encI l) g != cI (List.map encI m) g)=true:=e
       rw [c1,c2] at e
       have h2:l ≠ m:=fun q=>by rw [q] at e;exact absurd e (by simp)
       rw [beq_false_of_ne h2]
     · have e:(cI (List.map encI l) g != cI (List.map encI m) g)=false:=e
       rw [c1,c2] at e
       by_cases q:j=g
       · rw [q];simpa using e
       · exact ha j (by omega)
   · have h1:l.length=m.length:=by have h2:(l.length:Int)=(m.length:Int):=(by simpa using h);omega
     have e:=ge_of_dec hd hg
     subst e
     have:l=m:=List.ext_getElem h1 fun i h2 h3=>by
      have:=ha i h2
      rw [List.getD_eq_getElem?_getD,List.getD_eq_getElem?_getD,List.getElem?_eq_getElem h2,List.getElem?_eq_getElem h3] at this
      exact this
     rw [this,beq_self_eq_true]
 exact c_of Tryz.f54 (mkB spR 54 [(6,3,rdJ),(6,7,rdJ)] (fun j=>if j.beq 0 then some (la54 l m) else none)) (by kernel_rfl) (by kernel_rfl) (by kernel_rfl) (by kernel_rfl) key (by kernel_rfl)
end Go.Proofs.YtjhjmncjidbieaaGreatDoor
namespace Go.Proofs.YtjhjmncjidbieaaGreatDoor
open Go Go.Av Go.RowKit
end Go.Proofs.YtjhjmncjidbieaaGreatDoor
namespace Go.Proofs.YtjhjmncjidbieaaGreatDoor
open Go Go.Av Go.RowKit
def orE (a b:Int):Int:=if a ≠ 0 then a else b
theorem first_c (x:Int) (l:List Int):sFirst (x::l)=orE x (sFirst l):=rfl
theorem first_n:sFirst []=0:=rfl
theorem orE_0 (a:Int):orE a 0=a:=by
 unfold orE
 split <;> omega
theorem orE_as (a b c:Int):orE (orE a b) c=orE a (orE b c):=by
 unfold orE
 by_cases h:a=0
 · simp [h]
 · simp [h]
theorem orE_c {a b c:Int} (h:a=0->b=c):orE a b=orE a c:=by
 unfold orE
 by_cases e:a=0
 · rw [h e]
 · rw [if_pos e,if_pos e]
theorem ite_or (c x:Int):(if (c != 0)=true then c else x)=orE c x:=by
 unfold orE
 by_cases h:c=0
 · simp [h]
 · simp [h]
theorem ls_or (c:Int) (f:Nat->Int) (n:Nat) (fin:Int):sLS c f n fin=orE c (sScan f n fin):=ite_or _ _
theorem first_app (m:List Int):∀ l,sFirst (l++m)=orE (sFirst l) (sFirst m)
 | []=>by
  rw [List.nil_append,first_n]
  rfl
 | x::l=>by rw [List.cons_append,first_c,first_c,first_app m l,orE_as]
theorem scan_or (f:Nat->Int) (n:Nat) (fin:Int):sScan f n fin=orE (sScan f n 0) fin:=by
 unfold sScan
 rw [first_app,first_app,first_c,first_n,orE_0,first_c,first_n,orE_0,orE_0]
theorem scan_same {f g:Nat->Int} {n:Nat} {fin:Int} (h:∀ k,k < n->f k=g k):sScan f n fin=sScan g n fin:=by
 unfold sScan
 rw [List.map_congr_left (fun k hk=>h k (List.mem_range.1 hk))]
theorem eAt_rep (n k:Nat):eAt (List.replicate n 0) k=0:=by
 unfold eAt
 rw [List.getD_eq_getElem?_getD,List.getElem?_replicate]
 split <;> rfl
theorem cSet_eq (t:Ty) (i:Nat):cSetS t i=cSetR t i:=by
 unfold cSetS cSetR
 rw [first_c,first_c (sPower _)]
 show orE (sWithin (t.sg i).p 1 100) _=orE (sWithin (t.sg i).p 1 100) _
 refine orE_c fun h=>?_
 have hp:=within_zero.1 h
 have e:decide ((t.sg i).p<=lastP t i)=if i=0 then false else decide ((t.sg i).p<=(t.sg (i-1)).p):=by
  unfold lastP
  by_cases e0:i=0
  · rw [if_pos e0,if_pos e0]
    exact decide_eq_false (by omega)
  · rw [if_neg e0,if_neg e0]
 rw [e]
 rfl
theorem fSet_eq (t:Ty) (i:Nat):fSetS t i=fSetR t i:=by
 unfold fSetS fSetR
 rw [ls_or,ls_or,cSet_eq]
 refine orE_c fun h=>scan_same fun k hk=>?_
 have e:badS t i k=badR t i k:=by
  unfold badS badR
  congr 1
  by_cases e0:i=0
  · rw [if_pos e0,lastE,if_pos e0,eAt_rep]
    unfold cSetR at h
    simp only [first_zero] at h
    have:=ranged_of h.2.2.2.1 k hk
    exact decide_eq_false (by unfold eAt;omega)
  · rw [if_neg e0,lastE,if_neg e0]
 rw [e]
theorem shares_or (l:List Int):sShares l=orE (sCounted l.length 8) (orE (sRanged l 1000) (sWhen (sumI l l.length != 1000) 1)):=by
 unfold sShares sCounted sRanged
 rw [ite_or]
 simp only [first_c,first_n,orE_0,orE_as]
theorem squares_or (l:List Int):sSquares l=orE (sCounted l.length 8) (orE (sRanged l 100000000000) (sScan (fSq l) l.length 0)):=by
 unfold sSquares sCounted sRanged
 rw [ls_or]
 simp only [first_c,first_n,orE_0,orE_as]
theorem sumW_eq {l:List Int} (h:∀ k,k < l.length->0<=l.getD k default∧l.getD k default<=1000) (hl:l.length<=1000):∀ i,i<=l.length->sumW l i=sumI l i
 | 0,_=>rfl
 | i+1,hi=>by
  have h1:=sumI_bound h (i+1) hi
  have h2:=sumW_eq h hl i (by omega)
  show IntKind.i64.wrap (sumW l i+l.getD i default)=sumI l i+l.getD i default
  rw [h2]
  have h3:sumI l (i+1)=sumI l i+l.getD i default:=rfl
  rw [<- h3]
  have:(0:Int)<=1000 * ((i+1:Nat):Int)∧1000 * ((i+1:Nat):Int)<=1000000:=by omega
  exact in64_wrap (by unfold In64;omega)
theorem ty_eq (t:Ty):sTyS t=sTyR t:=by
 have e1:cTyS1 t=orE (sWhen (!sName t.name) 8) (sShares t.sh):=by
  unfold cTyS1
  rw [shares_or,first_c,first_c,first_c,first_c,first_n,orE_0]
  refine congrArg _ (orE_c fun h1=>orE_c fun h2=>?_)
  have h3:t.sh.length<=8:=by
   have:=(counted_zero h1).2
   omega
  rw [sumW_eq (ranged_of h2) (by omega) _ (by omega)]
 have e2:sSets t=orE (sWhen ((t.st.length:Int) == 0) 12) (orE (sWhen (decide ((t.st.length:Int) > 6)) 5) (sScan (fSetR t) t.st.length 0)):=by
  unfold sSets
  rw [ls_or,scan_same fun k _=>fSet_eq t k]
  unfold sCounted
  simp only [first_c,first_n,orE_0,orE_as]
 unfold sTyS sTyR cTyS2 cTyR
 rw [ite_or,ls_or,ls_or,scan_or (fSq t.sq),e1,e2]
 simp only [first_c,first_n,orE_0,orE_as,squares_or]
 rfl
end Go.Proofs.YtjhjmncjidbieaaGreatDoor
namespace Go.Proofs.YtjhjmncjidbieaaGreatDoor
open Go Go.Av Go.RowKit
end Go.Proofs.YtjhjmncjidbieaaGreatDoor
namespace Go.Proofs.YtjhjmncjidbieaaGreatDoor
open Go Go.Av Go.RowKit
def gsB (g:Nat->List GS) (B:BA):BA:={ B with gs:=fun i=>B.gs i++g i }
end Go.Proofs.YtjhjmncjidbieaaGreatDoor
namespace Go.Proofs.YtjhjmncjidbieaaGreatDoor
open Go Go.Av Go.RowKit
def val (E P:Nat->Int) (n g:Nat) (p:Int):Int :=
 if g=n then E (n-1) else if g=0 ∨ P g=p then E g else sBetween (E (g-1)) (E g) (p-P (g-1)) (P g-P (g-1))
structure Gat (P:Nat->Int) (n g:Nat) (p:Int):Prop where
 le:g<=n
 below:∀ j,j < g->P j < p
 at_:g < n->p<=P g
structure UpTy (t:Ty):Prop where
 u:∀ i k,i+1 < t.st.length->k < t.sq.length->eAt (t.sg i).e k<=eAt (t.sg (i+1)).e k
 d:∀ i k,i < t.st.length->k+1 < t.sq.length->eAt (t.sg i).e (k+1)<=eAt (t.sg i).e k
end Go.Proofs.YtjhjmncjidbieaaGreatDoor
namespace Go.Proofs.YtjhjmncjidbieaaGreatDoor
open Go Go.Av Go.RowKit
def sp28:Nat->List AV->Option AV
 | 58,[.agg c]=>some (.agg c)
 | n,x=>spR n x
def zeroTy:List AV:=[.str [],.ex (.slice none 0 0),.i 0,.i 0,.i 0,.i 0,.i 0,.i 0,.i 0,.i 0,.i 0,.ex (.slice none 0 0),.ex (.slice none 0 0)]
def la28 (t:Ty):LA:={
 pre:=[.reno 3 1,.reno 2 3,.ownb 1 12 182 2,.renc 1 12 2,.keep [2,3,20,21,22] [1,2,3],.bound 4],post:=[.renc 1 12 2,.keep [2,3,20,21,22] [1,2,3],.bound 4]
 Gh:=Nat
 st:=fun i=>⟨[(2,.ptr 3 0),(3,.ptr 1 0),(20,.sl 2 (t.st.map encSg)),(21,.i t.st.length),(22,.i i)],[(1,.box [.str t.name,.sl 1 (t.sh.map encI),.i t.d0,.i t.d1,.i t.d2,.i t.d3,.i t.d4,.i t.d5,.i t.d6,.i t.d7,.i t.side,.sl 1 (t.sq.map encI),.own 2 ((t.st.take i).map encSg).length]),(2,.buf 182 2 ((t.st.take i).map encSg)),(3,.box zeroTy)],4⟩
 ok:=fun i=>i<=t.st.length
 ms:=fun i=>t.st.length-i }
abbrev zc28a:=[AV.str [],AV.ex (Value.slice none 0 0),AV.i 0,AV.i 0,AV.i 0,AV.i 0,AV.i 0,AV.i 0,AV.i 0,AV.i 0,AV.i 0,AV.ex (Value.slice none 0 0),AV.ex (Value.slice none 0 0)]
abbrev zc28b (t:Ty):=[AV.str t.name,AV.sl 1 (List.map encI t.sh),AV.i t.d0,AV.i t.d1,AV.i t.d2,AV.i t.d3,AV.i t.d4,AV.i t.d5,AV.i t.d6,AV.i t.d7,AV.i t.side,AV.sl 1 (List.map encI t.sq),AV.sl 2 (List.map encSg t.st)]
theorem c28 (t:Ty) (hl:t.st.length<=1000) (h2:t.sh.length<=1000) (h3:t.sq.length<=1000) (h4:∀ s,s ∈ t.st->s.e.length<=1000):PCall Tryz.prog G0 28 [.agg (encTy t)] (.agg (encTy t)):=by
 have key :
  PCall Tryz.prog G0 58 [AV.agg (zc28b t)] (AV.agg (zc28b t))∧(∃ (g:Nat),g<=t.st.length∧AS.mk [(2,AV.ptr 3 0),(3,AV.ptr 1 0),(20,AV.sl 2 (List.map encSg t.st)),(21,AV.i (↑(List.map encSg t.st).length:Int)),(22,AV.i
  0)] [(1,ABlk.box [AV.str t.name,AV.sl 1 (List.map encI t.sh),AV.i t.d0,AV.i t.d1,AV.i t.d2,AV.i t.d3,AV.i t.d4,AV.i t.d5,AV.i t.d6,AV.i t.d7,AV.i t.side,AV.sl 1 (List.map encI t.sq),AV.own 2 0]),(2,ABlk.buf 182 2
  []),(3,ABlk.box zc28a)] 4=AS.mk [(2,AV.ptr 3 0),(3,AV.ptr 1 0),(20,AV.sl 2 (List.map encSg t.st)),(21,AV.i (↑t.st.length:Int)),(22,AV.i (g:Int))] [(1,ABlk.box [AV.str t.name,AV.sl 1 (List.map encI t.sh),AV.i
  t.d0,AV.i t.d1,AV.i t.d2,AV.i t.d3,AV.i t.d4,AV.i t.d5,AV.i t.d6,AV.i t.d7,AV.i t.side,AV.sl 1 (List.map encI t.sq),AV.own 2 (List.map encSg (List.take g t.st)).length]),(2,ABlk.buf 182 2 (List.map encSg (List.take g
  t.st))),(3,ABlk.box zc28a)] 4)∧∀ (g:Nat),g<=t.st.length->(decide ((g:Int) < (↑t.st.length:Int))=true->(0:Int)<=(g:Int)∧(g:Int) < (↑(List.map encSg t.st).length:Int)∧AV.agg (nthR (List.map encSg t.st)
  (g:Int).toNat)=AV.agg [AV.i (t.st.getD (g:Int).toNat default).p,AV.sl 1 (List.map encI (t.st.getD (g:Int).toNat default).e)]∧(List.map encSg (List.take g t.st)).length+1<=9223372036854775807∧((List.map encSg
  (List.take g t.st)).length+1) * 32<=140737488355328∧In64 ((g:Int)+1)∧∃ (g':Nat),g'<=t.st.length∧t.st.length-g' < t.st.length-g∧AS.mk [(2,AV.ptr 3 0),(3,AV.ptr 1 0),(20,AV.sl 2 (List.map encSg t.st)),
  (21,AV.i (↑t.st.length:Int)),(22,AV.i ((g:Int)+1))] [(1,ABlk.box [AV.str t.name,AV.sl 1 (List.map encI t.sh),AV.i t.d0,AV.i t.d1,AV.i t.d2,AV.i t.d3,AV.i t.d4,AV.i t.d5,AV.i t.d6,AV.i t.d7,AV.i t.side,AV.sl 1
  (List.map encI t.sq),AV.own 2 ((List.map encSg (List.take g t.st)).length+1)]),(2,ABlk.buf 182 2 (List.map encSg (List.take g t.st)++[[AV.i (t.st.getD (g:Int).toNat default).p,AV.sl 1 (List.map encI (t.st.getD (↑g :
  Int).toNat default).e)]])),(3,ABlk.box zc28a)] 4=AS.mk [(2,AV.ptr 3 0),(3,AV.ptr 1 0),(20,AV.sl 2 (List.map encSg t.st)),(21,AV.i (↑t.st.length:Int)),(22,AV.i (↑g':Int))] [(1,ABlk.box [AV.str t.name,AV.sl 1
  (List.map encI t.sh),AV.i t.d0,AV.i t.d1,AV.i t.d2,AV.i t.d3,AV.i t.d4,AV.i t.d5,AV.i t.d6,AV.i t.d7,AV.i t.side,AV.sl 1 (List.map encI t.sq),AV.own 2 (List.map encSg (List.take g' t.st)).length]),(2,ABlk.buf 182 2
  (List.map encSg (List.take g' t.st))),(3,ABlk.box zc28a)] 4)∧(decide ((g:Int) < (↑t.st.length:Int))=false->AV.agg [AV.str t.name,AV.sl 1 (List.map encI t.sh),AV.i t.d0,AV.i t.d1,AV.i t.d2,AV.i t.d3,AV.i t.d4,AV.i
  t.d5,AV.i t.d6,AV.i t.d7,AV.i t.side,AV.sl 1 (List.map encI t.sq),AV.sl 2 (List.map encSg (List.take g t.st))]=AV.agg (zc28b t)):=by
   delta zc28a zc28b
   have hlm:(List.map encSg t.st).length=t.st.length:=List.length_map _
   refine ⟨c58 t hl h2 h3 h4,⟨0,by omega,by rw [hlm];rfl⟩,fun g hg=>⟨fun hd=>?_,fun hd=>?_⟩⟩
   · have hlt:=lt_of_dec hd
     have h6:=take_succ encSg hlt
     have h7:(List.map encSg (List.take g t.st)).length=g:=by rw [List.length_map,List.length_take];omega
     have h8:(List.map encSg (List.take (g+1) t.st)).length=g+1:=by rw [List.length_map,List.length_take];omega
     refine ⟨by omega,by omega,congrArg AV.agg (row_at encSg hlt),by omega,by omega,by unfold In64;omega,g+1,hlt,by omega,?_⟩
     rw [h8,<- h6,h7]
     rfl
   · rw [ge_of_dec hd hg,List.take_length]
 exact c_of Tryz.f28 ({ modA 6 4 (fun a=>{ a with fz:=false }) (mkB sp28 28 [(5,1,rdL 2 encSg t.st 2 true)] (fun i=>if i.beq 0 then some (la28 t) else none)) with bx:=fun i=>if i.beq 0 then [.frzc 1 12] else [],gs:=fun i=>if i.beq 1 then [.frzo 1] else [] }) (by kernel_rfl) (by kernel_rfl) (by kernel_rfl) (by kernel_rfl) key (by kernel_rfl)
def la82 (t:Ty):LA:={
 pre:=[.reno 3 1,.reno 2 3,.ownb 1 12 117 2,.renc 1 12 2,.keep [2,3,18,19,20] [1,2,3],.bound 4],post:=[.renc 1 12 2,.keep [2,3,18,19,20] [1,2,3],.bound 4]
 Gh:=Nat
 st:=fun i=>⟨[(2,.ptr 3 0),(3,.ptr 1 0),(18,.sl 2 (t.st.map encSg)),(19,.i t.st.length),(20,.i i)],[(1,.box [.str t.name,.sl 1 (t.sh.map encI),.i t.d0,.i t.d1,.i t.d2,.i t.d3,.i t.d4,.i t.d5,.i t.d6,.i t.d7,.i t.side,.sl 1 (t.sq.map encI),.own 2 ((t.st.take i).map encSg).length]),(2,.buf 117 2 ((t.st.take i).map encSg)),(3,.box zeroTy)],4⟩
 ok:=fun i=>i<=t.st.length
 ms:=fun i=>t.st.length-i }
abbrev zc82a:=[AV.str [],AV.ex (Value.slice none 0 0),AV.i 0,AV.i 0,AV.i 0,AV.i 0,AV.i 0,AV.i 0,AV.i 0,AV.i 0,AV.i 0,AV.ex (Value.slice none 0 0),AV.ex (Value.slice none 0 0)]
theorem c82 (t:Ty) (hl:t.st.length<=1000) (h2:t.sh.length<=1000) (h3:t.sq.length<=1000) (h4:∀ s,s ∈ t.st->s.e.length<=1000):PCall Tryz.prog G0 82 [.agg (encTy t)] (.agg (encTy t)):=by
 have key :
  (∃ (g:Nat),g<=t.st.length∧AS.mk [(2,AV.ptr 3 0),(3,AV.ptr 1 0),(18,AV.sl 2 (List.map encSg t.st)),(19,AV.i (↑(List.map encSg t.st).length:Int)),(20,AV.i 0)] [(1,ABlk.box [AV.str t.name,AV.sl 1 (List.map encI
  t.sh),AV.i t.d0,AV.i t.d1,AV.i t.d2,AV.i t.d3,AV.i t.d4,AV.i t.d5,AV.i t.d6,AV.i t.d7,AV.i t.side,AV.sl 1 (List.map encI t.sq),AV.own 2 0]),(2,ABlk.buf 117 2 []),(3,ABlk.box zc82a)] 4=AS.mk [(2,AV.ptr 3 0),(3,
  AV.ptr 1 0),(18,AV.sl 2 (List.map encSg t.st)),(19,AV.i (↑t.st.length:Int)),(20,AV.i (g:Int))] [(1,ABlk.box [AV.str t.name,AV.sl 1 (List.map encI t.sh),AV.i t.d0,AV.i t.d1,AV.i t.d2,AV.i t.d3,AV.i t.d4,AV.i t.d5,
  AV.i t.d6,AV.i t.d7,AV.i t.side,AV.sl 1 (List.map encI t.sq),AV.own 2 (List.map encSg (List.take g t.st)).length]),(2,ABlk.buf 117 2 (List.map encSg (List.take g t.st))),(3,ABlk.box zc82a)] 4)∧∀ (g:Nat),g<=t.st.length
  → (decide ((g:Int) < (↑t.st.length:Int))=true->(0:Int)<=(g:Int)∧(g:Int) < (↑(List.map encSg t.st).length:Int)∧AV.agg (nthR (List.map encSg t.st) (g:Int).toNat)=AV.agg [AV.i (t.st.getD (g:Int).toNat
  default).p,AV.sl 1 (List.map encI (t.st.getD (g:Int).toNat default).e)]∧(List.map encSg (List.take g t.st)).length+1<=9223372036854775807∧((List.map encSg (List.take g t.st)).length+1) * 32<=140737488355328∧In64
  ((g:Int)+1)∧∃ (g':Nat),g'<=t.st.length∧t.st.length-g' < t.st.length-g∧AS.mk [(2,AV.ptr 3 0),(3,AV.ptr 1 0),(18,AV.sl 2 (List.map encSg t.st)),(19,AV.i (↑t.st.length:Int)),(20,AV.i ((g:Int)+1))]
  [(1,ABlk.box [AV.str t.name,AV.sl 1 (List.map encI t.sh),AV.i t.d0,AV.i t.d1,AV.i t.d2,AV.i t.d3,AV.i t.d4,AV.i t.d5,AV.i t.d6,AV.i t.d7,AV.i t.side,AV.sl 1 (List.map encI t.sq),AV.own 2 ((List.map encSg (List.take g
  t.st)).length+1)]),(2,ABlk.buf 117 2 (List.map encSg (List.take g t.st)++[[AV.i (t.st.getD (g:Int).toNat default).p,AV.sl 1 (List.map encI (t.st.getD (g:Int).toNat default).e)]])),(3,ABlk.box zc82a)] 4=AS.mk [(2,
  AV.ptr 3 0),(3,AV.ptr 1 0),(18,AV.sl 2 (List.map encSg t.st)),(19,AV.i (↑t.st.length:Int)),(20,AV.i (↑g':Int))] [(1,ABlk.box [AV.str t.name,AV.sl 1 (List.map encI t.sh),AV.i t.d0,AV.i t.d1,AV.i t.d2,AV.i t.d3,
  AV.i t.d4,AV.i t.d5,AV.i t.d6,AV.i t.d7,AV.i t.side,AV.sl 1 (List.map encI t.sq),AV.own 2 (List.map encSg (List.take g' t.st)).length]),(2,ABlk.buf 117 2 (List.map encSg (List.take g' t.st))),(3,ABlk.box zc82a)] 4) ∧
  (decide ((g:Int) < (↑t.st.length:Int))=false->AV.agg [AV.str t.name,AV.sl 1 (List.map encI t.sh),AV.i t.d0,AV.i t.d1,AV.i t.d2,AV.i t.d3,AV.i t.d4,AV.i t.d5,AV.i t.d6,AV.i t.d7,AV.i t.side,AV.sl 1 (List.map encI
  t.sq),AV.sl 2 (List.map encSg (List.take g t.st))]=AV.agg [AV.str t.name,AV.sl 1 (List.map encI t.sh),AV.i t.d0,AV.i t.d1,AV.i t.d2,AV.i t.d3,AV.i t.d4,AV.i t.d5,AV.i t.d6,AV.i t.d7,AV.i t.side,AV.sl 1 (List.map encI
  t.sq),AV.sl 2 (List.map encSg t.st)]):=by
   delta zc82a
   have hlm:(List.map encSg t.st).length=t.st.length:=List.length_map _
   refine ⟨⟨0,by omega,by rw [hlm];rfl⟩,fun g hg=>⟨fun hd=>?_,fun hd=>?_⟩⟩
   · have hlt:=lt_of_dec hd
     have h6:=take_succ encSg hlt
     have h7:(List.map encSg (List.take g t.st)).length=g:=by rw [List.length_map,List.length_take];omega
     have h8:(List.map encSg (List.take (g+1) t.st)).length=g+1:=by rw [List.length_map,List.length_take];omega
     refine ⟨by omega,by omega,congrArg AV.agg (row_at encSg hlt),by omega,by omega,by unfold In64;omega,g+1,hlt,by omega,?_⟩
     rw [h8,<- h6,h7]
     rfl
   · rw [ge_of_dec hd hg,List.take_length]
 exact c_of Tryz.f82 ({ modA 5 4 (fun a=>{ a with fz:=false }) (mkB sp28 82 [(4,1,rdL 2 encSg t.st 2 true)] (fun i=>if i.beq 0 then some (la82 t) else none)) with bx:=fun i=>if i.beq 0 then [.frzc 1 12] else [] }) (by kernel_rfl) (by kernel_rfl) (by kernel_rfl) (by kernel_rfl) key (by kernel_rfl)
end Go.Proofs.YtjhjmncjidbieaaGreatDoor
namespace Go.Proofs.YtjhjmncjidbieaaGreatDoor
open Go Go.Av Go.RowKit
structure Ask where
 p:Int
 d:Int
 x:Int
 y:Int
 z:Int
 a:Int
 b:Int
 q:Int
 x2:Int
 y2:Int
 z2:Int
 u:Int
 v:Int
 e:Int
def encAsk (k:Ask):List AV:=[.i k.p,.i k.d,.i k.x,.i k.y,.i k.z,.i k.a,.i k.b,.i k.q,.i k.x2,.i k.y2,.i k.z2,.i k.u,.i k.v,.i k.e]
structure ShortTy (t:Ty):Prop where
 n:t.name.length<=40
 s:t.sh.length<=9
 q:t.sq.length<=9
 st:t.st.length<=7
 e:∀ x,x ∈ t.st->x.e.length<=9
theorem short_of {t:Ty} (h:sShort t=true):ShortTy t:=by
 unfold sShort at h
 simp only [Bool.and_eq_true,List.all_eq_true,decide_eq_true_eq] at h
 exact ⟨h.2.1,h.2.2.1,h.2.2.2.1,h.2.2.2.2,h.1⟩
def b6 (t:Ty) (k:Ask):List (Nat × AV):=[(2,.elt 13 [encTy t] 0 0),(3,.elt 14 [encAsk k] 0 0),(4,.bool false)]
end Go.Proofs.YtjhjmncjidbieaaGreatDoor
namespace Go.Proofs.YtjhjmncjidbieaaGreatDoor
open Go Go.Av Go.RowKit
def hrL (a:Int) (H:Nat->Int) (n:Nat):List (List AV):=(List.range n).map fun (i:Nat)=>[.i (a+i),.i (H i)]
def la144 (l:Nat) (a b:Int) (tc:List AV) (tr:AV) (rx ry rz:Int) (H:Nat->Int):LA:={
 pre:=[.keep [0,1,2,3,4,6] [0],.bound 1],post:=[.keep [0,1,2,3,4,6] [0],.bound 1]
 Gh:=Nat
 st:=fun i=>⟨[(0,.yld l),(1,.elt 2 [[.i a,.i b]] 0 0),(2,.elt 13 [tc] 0 0),(3,.elt 1 [[tr]] 0 0),(4,.elt 3 [[.i rx,.i ry,.i rz]] 0 0),(6,.i (a+i))],[(0,.ready l (hrL a H i))],1⟩
 ok:=fun i=>i<=(b-a).toNat
 ms:=fun i=>(b-a).toNat-i }
def sp144 (a:Int) (S:Nat->List AV) (hd:List AV->Int):Nat->List AV->Option AV
 | 126,[_,.int _ t]=>some (.agg (S (t-a).toNat))
 | 117,[_,.agg s,_]=>some (.i (hd s))
 | _,_=>none
def B144 (a b:Int) (tc:List AV) (tr:AV) (rx ry rz:Int) (S:Nat->List AV) (hd:List AV->Int) (l:Nat):BA :=
 mkB (sp144 a S hd) 144 [] (fun i=>if i.beq 0 then some (la144 l a b tc tr rx ry rz fun i=>hd (S i)) else none)
theorem s_of {f : Nat} {cap : List AV} {L : List (List AV)} (fn : Func) (B : Nat → BA) (hf : Tryz.prog.funcs[f]? = some fn) (hb : fn.body = some (bodyOf fn)) (hn : (fn.name == "runtime.NumGoroutine") = false) (hlen : Nat.ble (cap.length + 1) fn.ntmps = true) (hres : fn.results.toList = [])
 {q:Nat->Prop} (hq:∀ l,q l) (h:∀ l,VC (bodyE Tryz.prog T0 G0 fn.ntmps L) (B l) 10000 0 (bodyOf fn) (startI l cap) (seqQ l L)=q l):PSeq Tryz.prog G0 f cap L :=
 seq_of_VC tok mix hf hb hn (Nat.le_of_ble_eq_true hlen) hres B fun l=>vc_of (hq l) (h l)
theorem hr_succ (a:Int) (H:Nat->Int) (n:Nat):hrL a H n++[[.i (a+n),.i (H n)]]=hrL a H (n+1):=by
 simp [hrL,List.range_succ]
theorem hr_post (a:Int) (H:Nat->Int):∀ {n m:Nat},n < m->∃ post,hrL a H m=hrL a H n++[.i (a+n),.i (H n)]::post
 | n,m,h=>by
  refine ⟨(List.range' (n+1) (m-(n+1))).map fun (i:Nat)=>[.i (a+i),.i (H i)],?_⟩
  rw [<- List.singleton_append,<- List.append_assoc,hr_succ]
  unfold hrL
  rw [<- List.map_append,List.range_eq_range',List.range_eq_range',show List.range' (n+1) (m-(n+1))=List.range' (0+(n+1)) (m-(n+1)) by rw [Nat.zero_add],List.range'_append_1,show n+1+(m-(n+1))=m by omega]
theorem s144 (a b:Int) (c0 c1 c2 c3 c4 c5 c6 c7 c8 c9 c10 c11 c12:AV) (rows:List (List AV)) (rx ry rz:Int) (S:Nat->List AV) (hd:List AV->Int) (ha : -1000000000<=a) (hb:b<=1000000000)
 (h1:∀ i:Nat,i < (b-a).toNat->PCall Tryz.prog G0 126 [.sl 5 rows,.i (a+i)] (.agg (S i)))
 (h2:∀ i:Nat,i < (b-a).toNat->PCall Tryz.prog G0 117 [.agg [c0,c1,c2,c3,c4,c5,c6,c7,c8,c9,c10,c11,c12],.agg (S i),.agg [.i rx,.i ry,.i rz]] (.i (hd (S i)))) :
 PSeq Tryz.prog G0 144 [.elt 2 [[.i a,.i b]] 0 0,.elt 13 [[c0,c1,c2,c3,c4,c5,c6,c7,c8,c9,c10,c11,c12]] 0 0,.elt 1 [[.sl 5 rows]] 0 0,.elt 3 [[.i rx,.i ry,.i rz]] 0 0] (hrL a (fun i=>hd (S i)) (b-a).toNat):=by
 have key:∀ l:Nat,
  (∃ (g:Nat),
  g<=(b-a).toNat ∧
  AS.mk
  [((0:Nat),AV.yld l),
  ((1:Nat),AV.elt (2:Nat) [[AV.int IntKind.i64 a,AV.int IntKind.i64 b]] (0:Nat) (0:Nat)),
  ((2:Nat),
  AV.elt (13:Nat) [[c0,c1,c2,c3,c4,c5,c6,c7,c8,c9,c10,c11,c12]] (0:Nat) (0:Nat)),
  ((3:Nat),AV.elt (1:Nat) [[AV.sl (5:Nat) rows]] (0:Nat) (0:Nat)),
  ((4:Nat),
  AV.elt (3:Nat) [[AV.int IntKind.i64 rx,AV.int IntKind.i64 ry,AV.int IntKind.i64 rz]] (0:Nat)
  (0:Nat)),
  ((6:Nat),AV.int IntKind.i64 a)]
  [((0:Nat),ABlk.ready l [])] (1:Nat) =
  AS.mk
  [((0:Nat),AV.yld l),
  ((1:Nat),AV.elt (2:Nat) [[AV.int IntKind.i64 a,AV.int IntKind.i64 b]] (0:Nat) (0:Nat)),
  ((2:Nat),
  AV.elt (13:Nat) [[c0,c1,c2,c3,c4,c5,c6,c7,c8,c9,c10,c11,c12]] (0:Nat) (0:Nat)),
  ((3:Nat),AV.elt (1:Nat) [[AV.sl (5:Nat) rows]] (0:Nat) (0:Nat)),
  ((4:Nat),
  AV.elt (3:Nat) [[AV.int IntKind.i64 rx,AV.int IntKind.i64 ry,AV.int IntKind.i64 rz]] (0:Nat)
  (0:Nat)),
  ((6:Nat),AV.int IntKind.i64 (a+(g:Int)))]
  [((0:Nat),ABlk.ready l (hrL a (fun (i:Nat)=>hd (S i)) g))] (1:Nat)) ∧
  ∀ (g:Nat),
  g<=(b-a).toNat →
  (decide (a+(g:Int) < b)=true →
  l=l ∧
  PCall Tryz.prog G0 (126:Nat) [AV.sl (5:Nat) rows,AV.int IntKind.i64 (a+(g:Int))]
  (AV.agg (S (a+(g:Int)-a).toNat)) ∧
  PCall Tryz.prog G0 (117:Nat)
  [AV.agg [c0,c1,c2,c3,c4,c5,c6,c7,c8,c9,c10,c11,c12],
  AV.agg (S (a+(g:Int)-a).toNat),
  AV.agg [AV.int IntKind.i64 rx,AV.int IntKind.i64 ry,AV.int IntKind.i64 rz]]
  (AV.int IntKind.i64 (hd (S (a+(g:Int)-a).toNat))) ∧
  (∃ (post:List (List AV)),
  hrL a (fun (i:Nat)=>hd (S i)) (b-a).toNat =
  hrL a (fun (i:Nat)=>hd (S i)) g ++
  [AV.int IntKind.i64 (a+(g:Int)),
  AV.int IntKind.i64 (hd (S (a+(g:Int)-a).toNat))] ::
  post) ∧
  l=l ∧
  (hrL a (fun (i:Nat)=>hd (S i)) g ++
  [[AV.int IntKind.i64 (a+(g:Int)),
  AV.int IntKind.i64 (hd (S (a+(g:Int)-a).toNat))]]).length =
  (hrL a (fun (i:Nat)=>hd (S i)) g).length+(1:Nat) ∧
  (In64 (a+(g:Int)+(1:Int)) ∧
  ∃ (g':Nat),
  g'<=(b-a).toNat ∧
  (b-a).toNat-g' < (b-a).toNat-g ∧
  AS.mk
  [((0:Nat),AV.yld l),
  ((1:Nat),
  AV.elt (2:Nat) [[AV.int IntKind.i64 a,AV.int IntKind.i64 b]] (0:Nat)
  (0:Nat)),
  ((2:Nat),
  AV.elt (13:Nat) [[c0,c1,c2,c3,c4,c5,c6,c7,c8,c9,c10,c11,c12]]
  (0:Nat) (0:Nat)),
  ((3:Nat),AV.elt (1:Nat) [[AV.sl (5:Nat) rows]] (0:Nat) (0:Nat)),
  ((4:Nat),
  AV.elt (3:Nat)
  [[AV.int IntKind.i64 rx,AV.int IntKind.i64 ry,AV.int IntKind.i64 rz]]
  (0:Nat) (0:Nat)),
  ((6:Nat),AV.int IntKind.i64 (a+(g:Int)+(1:Int)))]
  [((0:Nat),
  ABlk.ready l
  (hrL a (fun (i:Nat)=>hd (S i)) g ++
  [[AV.int IntKind.i64 (a+(g:Int)),
  AV.int IntKind.i64 (hd (S (a+(g:Int)-a).toNat))]]))]
  (1:Nat) =
  AS.mk
  [((0:Nat),AV.yld l),
  ((1:Nat),
  AV.elt (2:Nat) [[AV.int IntKind.i64 a,AV.int IntKind.i64 b]] (0:Nat)
  (0:Nat)),
  ((2:Nat),
  AV.elt (13:Nat) [[c0,c1,c2,c3,c4,c5,c6,c7,c8,c9,c10,c11,c12]]
  (0:Nat) (0:Nat)),
  ((3:Nat),AV.elt (1:Nat) [[AV.sl (5:Nat) rows]] (0:Nat) (0:Nat)),
  ((4:Nat),
  AV.elt (3:Nat)
  [[AV.int IntKind.i64 rx,AV.int IntKind.i64 ry,AV.int IntKind.i64 rz]]
  (0:Nat) (0:Nat)),
  ((6:Nat),AV.int IntKind.i64 (a+(↑g':Int)))]
  [((0:Nat),ABlk.ready l (hrL a (fun (i:Nat)=>hd (S i)) g'))] (1:Nat)) ∧
  (ABlk.stop l=ABlk.ready l (hrL a (fun (i:Nat)=>hd (S i)) (b-a).toNat) ∨
  ABlk.stop l=ABlk.stop l)) ∧
  (decide (a+(g:Int) < b)=false →
  ABlk.ready l (hrL a (fun (i:Nat)=>hd (S i)) g) =
  ABlk.ready l (hrL a (fun (i:Nat)=>hd (S i)) (b-a).toNat) ∨
  ABlk.ready l (hrL a (fun (i:Nat)=>hd (S i)) g)=ABlk.stop l):=by
  intro l
  refine ⟨⟨0,by omega,by simp [hrL]⟩,fun g hg=>⟨fun hlt=>?_,fun hge=>?_⟩⟩
  · simp only [decide_eq_true_eq] at hlt
    have hl:g < (b-a).toNat:=by omega
    have e:(a+(g:Int)-a).toNat=g:=by omega
    simp only [e]
    have hs:=hr_succ a (fun i=>hd (S i)) g
    refine ⟨trivial,h1 g hl,h2 g hl,hr_post a (fun i=>hd (S i)) hl,trivial,by simp,⟨by unfold In64;omega,g+1,hl,by omega,?_⟩,.inr trivial⟩
    rw [hs,show a+(g:Int)+1=a+((g+1:Nat):Int) by omega]
  · simp only [decide_eq_false_iff_not] at hge
    have:g=(b-a).toNat:=by omega
    subst this
    exact .inl rfl
 exact s_of Tryz.f144 (B144 a b [c0,c1,c2,c3,c4,c5,c6,c7,c8,c9,c10,c11,c12] (.sl 5 rows) rx ry rz S hd) (by kernel_rfl) (by kernel_rfl) (by kernel_rfl) (by kernel_rfl) (by kernel_rfl) key (fun l=>by kernel_rfl)
end Go.Proofs.YtjhjmncjidbieaaGreatDoor
namespace Go.Proofs.YtjhjmncjidbieaaGreatDoor
open Go Go.Av Go.RowKit
def aggOf:Option AV->Option (List AV)
 | some (.agg s)=>some s
 | _=>none
def intOf:Option AV->Option Int
 | some (.int .i64 n)=>some n
 | _=>none
theorem aggOf_ok {x:Option AV} {s:List AV} (h:aggOf x=some s):x=some (.agg s):=by
 cases x with
 | none=>cases h
 | some v=>cases v <;> simp [aggOf] at h;rw [h]
theorem intOf_ok {x:Option AV} {n:Int} (h:intOf x=some n):x=some (.i n):=by
 cases x with
 | none=>cases h
 | some v=>cases v <;> simp [intOf] at h;rename_i k m;cases k <;> simp at h;rw [h]
def stOf (rec:Nat->List AV->Option AV) (rows:List (List AV)) (a:Int) (i:Nat):Option (List AV):=aggOf (rec 126 [.sl 5 rows,.i (a+i)])
def hrOf (rec:Nat->List AV->Option AV) (tc r:List AV) (s:List AV):Option Int:=intOf (rec 117 [.agg tc,.agg s,.agg r])
def sqH (rec:Nat->List AV->Option AV) (f:Nat) (cap:List AV):Option (List (List AV)) :=
 match cap with
 | [.elt 2 [[.int .i64 a,.int .i64 b]] 0 0,.elt 13 [[c0,c1,c2,c3,c4,c5,c6,c7,c8,c9,c10,c11,c12]] 0 0,.elt 1 [[.sl 5 rows]] 0 0,.elt 3 [[.int .i64 rx,.int .i64 ry,.int .i64 rz]] 0 0] =>
  if Nat.beq f 144 && (decide (-1000000000<=a) && (decide (b<=1000000000) && (List.range (b-a).toNat).all fun i=>match stOf rec rows a i with
   | some s=>(hrOf rec [c0,c1,c2,c3,c4,c5,c6,c7,c8,c9,c10,c11,c12] [.i rx,.i ry,.i rz] s).isSome
   | none=>false)) then
   some (hrL a (fun i=>(hrOf rec [c0,c1,c2,c3,c4,c5,c6,c7,c8,c9,c10,c11,c12] [.i rx,.i ry,.i rz] ((stOf rec rows a i).getD [])).getD 0) (b-a).toNat)
  else none
 | _=>none
theorem sqH_ok (rec:Nat->List AV->Option AV) (hrec:∀ f args r,rec f args=some r->PCall Tryz.prog G0 f args r) (f:Nat) (cap:List AV) (L:List (List AV)) (h:sqH rec f cap=some L):PSeqX Tryz.prog G0 f cap L:=by
 unfold sqH at h
 split at h
 · rename_i a b c0 c1 c2 c3 c4 c5 c6 c7 c8 c9 c10 c11 c12 rows rx ry rz
   split at h
   · rename_i hb
     simp only [Bool.and_eq_true,decide_eq_true_eq,List.all_eq_true,List.mem_range] at hb
     obtain ⟨h1,h2,h3,h4⟩:=hb
     have:=Nat.eq_of_beq_eq_true h1
     subst this
     cases h
     have key:∀ i:Nat,i < (b-a).toNat->∃ s n,stOf rec rows a i=some s∧hrOf rec [c0,c1,c2,c3,c4,c5,c6,c7,c8,c9,c10,c11,c12] [.i rx,.i ry,.i rz] s=some n:=fun i hi=>by
      have:=h4 i hi
      split at this
      · rename_i s hs
        obtain ⟨n,hn⟩:=Option.isSome_iff_exists.1 this
        exact ⟨s,n,hs,hn⟩
      · cases this
     show PSeq Tryz.prog G0 144 _ _
     refine s144 a b c0 c1 c2 c3 c4 c5 c6 c7 c8 c9 c10 c11 c12 rows rx ry rz (fun i=>(stOf rec rows a i).getD []) (fun s=>(hrOf rec [c0,c1,c2,c3,c4,c5,c6,c7,c8,c9,c10,c11,c12] [.i rx,.i ry,.i rz] s).getD 0) h2 h3 (fun i hi=>?_) (fun i hi=>?_)
     · obtain ⟨s,n,hs,hn⟩:=key i hi
       rw [hs]
       exact hrec _ _ _ (aggOf_ok hs)
     · obtain ⟨s,n,hs,hn⟩:=key i hi
       simp only [hs,Option.getD_some,hn]
       exact hrec _ _ _ (intOf_ok hn)
   · cases h
 · cases h
end Go.Proofs.YtjhjmncjidbieaaGreatDoor
namespace Go.Proofs
open Go.Shelf
def Tryz.lays156_ren:Go.Shelf.Ren:=⟨fun | 156=>161 | 165=>173 | 166=>174 | 169=>175 | 240=>182 | 241=>183 | 276=>190 | 277=>191 | n=>n,fun | 31=>160 | 9=>9 | 3=>3 | 4=>4 | 0=>0 | 20=>20 | 72=>261 | 76=>265 | 70=>258 | 37=>259 | 75=>264 | 127=>270 | 164=>274 | 5=>5 | 80=>229 | n=>n,fun | n=>n⟩
theorem Tryz.lays156:Go.Proofs.Lays.n156 Tryz.prog Tryz.lays156_ren:={
 mixed:=by kernel_rfl
 f156:=Tryz.func161.trans (congrArg some (by kernel_rfl))
 f165:=Tryz.func173.trans (congrArg some (by kernel_rfl))
 f166:=Tryz.func174.trans (congrArg some (by kernel_rfl))
 f169:=Tryz.func175.trans (congrArg some (by kernel_rfl))
 f240:=Tryz.func182.trans (congrArg some (by kernel_rfl))
 f241:=Tryz.func183.trans (congrArg some (by kernel_rfl))
 f276:=Tryz.func190.trans (congrArg some (by kernel_rfl))
 f277:=Tryz.func191.trans (congrArg some (by kernel_rfl))
 t0:=Tryz.underlying0
 a0:=Tryz.isAgg0
 z0:=Tryz.sizeOf0
 v0:=Tryz.zeroValue0
 t3:=Tryz.underlying3
 a3:=Tryz.isAgg3
 z3:=Tryz.sizeOf3
 v3:=Tryz.zeroValue3
 t4:=Tryz.underlying4
 a4:=Tryz.isAgg4
 z4:=Tryz.sizeOf4
 v4:=Tryz.zeroValue4
 t9:=Tryz.underlying9
 a9:=Tryz.isAgg9
 z9:=Tryz.sizeOf9
 v9:=Tryz.zeroValue9
 t20:=Tryz.underlying20
 a20:=Tryz.isAgg20
 z20:=Tryz.sizeOf20
 v20:=Tryz.zeroValue20
 t31:=Tryz.underlying160
 a31:=Tryz.isAgg160
 z31:=Tryz.sizeOf160
 v31:=Tryz.zeroValue160
 t37:=Tryz.underlying259
 a37:=Tryz.isAgg259
 z37:=Tryz.sizeOf259
 v37:=Tryz.zeroValue259
 t70:=Tryz.underlying258
 a70:=Tryz.isAgg258
 z70:=Tryz.sizeOf258
 v70:=Tryz.zeroValue258
 t72:=Tryz.underlying261
 a72:=Tryz.isAgg261
 z72:=Tryz.sizeOf261
 v72:=Tryz.zeroValue261
 t75:=Tryz.underlying264
 a75:=Tryz.isAgg264
 z75:=Tryz.sizeOf264
 v75:=Tryz.zeroValue264
 t76:=Tryz.underlying265
 a76:=Tryz.isAgg265
 z76:=Tryz.sizeOf265
 v76:=Tryz.zeroValue265
 t127:=Tryz.underlying270
 a127:=Tryz.isAgg270
 z127:=Tryz.sizeOf270
 v127:=Tryz.zeroValue270
 t164:=Tryz.underlying274
 a164:=Tryz.isAgg274
 z164:=Tryz.sizeOf274
 v164:=Tryz.zeroValue274 }
theorem Tryz.Builder_Extra_156:Builder.Extra Tryz.prog Tryz.lays156_ren:={
 sizeBuilder:=by kernel_rfl
 liesBuilder:=by kernel_rfl
 t5:=Tryz.underlying5
 a5:=Tryz.isAgg5
 z5:=Tryz.sizeOf5
 v5:=Tryz.zeroValue5
 infoByte:=by kernel_rfl
 cellsByte:=by kernel_rfl
 sizeByte:=by kernel_rfl
 neB5:=by decide }
open Go.RowKit in
theorem Tryz.strings_Join_none (a:Option Addr) (c:Nat) (sep:ByteArray) (w:World) :
 Calls Tryz.prog 161 #[.slice a 0 c,.string sep] w fun e w'=>e=.returned (.string ⟨#[]⟩)∧w'=w:=Any.strings_Join_none Tryz.lays156 Tryz.Builder_Extra_156 a c sep w
open Go.RowKit in
theorem Tryz.strings_Join (bk o c:Nat) (xs:List ByteArray) (sep:ByteArray) (w:World) (hcells:∀ (j:Nat) x,xs[j]?=some x->w.cell? ⟨bk,o+j,none⟩=some (.string x)) (hbk:bk < w.heap.size) (hN:xs.length<=140737488355328) (hcap:xs.length<=c) (hlen:(Lib.join (xs.map (·.data.toList)) sep.data.toList).length<=140737488355328) :
 Calls Tryz.prog 161 #[.slice (some ⟨bk,o,none⟩) xs.length c,.string sep] w fun e w'=>e=.returned (.string ⟨(Lib.join (xs.map (·.data.toList)) sep.data.toList).toArray⟩)∧Below w.heap.size w w':=Any.strings_Join Tryz.lays156 Tryz.Builder_Extra_156 bk o c xs sep w hcells hbk hN hcap hlen
def Tryz.laysM171_ren:Go.Shelf.Ren:=⟨fun | 171=>163 | 243=>176 | 246=>184 | 283=>192 | 284=>193 | 285=>194 | 286=>195 | 129=>201 | 317=>200 | 318=>202 | 319=>203 | 320=>204 | 337=>206 | 338=>207 | n=>n,fun | 3=>3 | 9=>9 | 2=>2 | 4=>4 | 171=>277 | 0=>0 | 53=>278 | 37=>259 | 5=>5 | 173=>281 | 212=>285 | 51=>78 | 20=>20 | 213=>286 | 46=>283 | 232=>295 | 233=>296 | n=>n,fun | 17=>4 | 18=>7 | 19=>8 | n=>n⟩
theorem Tryz.laysM171:Go.Proofs.LaysM.n171 Tryz.prog Tryz.laysM171_ren:={
 mixed:=by kernel_rfl
 f129:=Tryz.func201.trans (congrArg some (by kernel_rfl))
 f171:=Tryz.func163.trans (congrArg some (by kernel_rfl))
 f243:=Tryz.func176.trans (congrArg some (by kernel_rfl))
 f246:=Tryz.func184.trans (congrArg some (by kernel_rfl))
 f283:=Tryz.func192.trans (congrArg some (by kernel_rfl))
 f284:=Tryz.func193.trans (congrArg some (by kernel_rfl))
 f285:=Tryz.func194.trans (congrArg some (by kernel_rfl))
 f286:=Tryz.func195.trans (congrArg some (by kernel_rfl))
 f317:=Tryz.func200.trans (congrArg some (by kernel_rfl))
 f318:=Tryz.func202.trans (congrArg some (by kernel_rfl))
 f319:=Tryz.func203.trans (congrArg some (by kernel_rfl))
 f320:=Tryz.func204.trans (congrArg some (by kernel_rfl))
 f337:=Tryz.func206.trans (congrArg some (by kernel_rfl))
 f338:=Tryz.func207.trans (congrArg some (by kernel_rfl))
 t0:=Tryz.underlying0
 a0:=Tryz.isAgg0
 z0:=Tryz.sizeOf0
 v0:=Tryz.zeroValue0
 t2:=Tryz.underlying2
 a2:=Tryz.isAgg2
 z2:=Tryz.sizeOf2
 v2:=Tryz.zeroValue2
 t3:=Tryz.underlying3
 a3:=Tryz.isAgg3
 z3:=Tryz.sizeOf3
 v3:=Tryz.zeroValue3
 t4:=Tryz.underlying4
 a4:=Tryz.isAgg4
 z4:=Tryz.sizeOf4
 v4:=Tryz.zeroValue4
 t5:=Tryz.underlying5
 a5:=Tryz.isAgg5
 z5:=Tryz.sizeOf5
 v5:=Tryz.zeroValue5
 t9:=Tryz.underlying9
 a9:=Tryz.isAgg9
 z9:=Tryz.sizeOf9
 v9:=Tryz.zeroValue9
 t20:=Tryz.underlying20
 a20:=Tryz.isAgg20
 z20:=Tryz.sizeOf20
 v20:=Tryz.zeroValue20
 t37:=Tryz.underlying259
 a37:=Tryz.isAgg259
 z37:=Tryz.sizeOf259
 v37:=Tryz.zeroValue259
 t46:=Tryz.underlying283
 a46:=Tryz.isAgg283
 z46:=Tryz.sizeOf283
 v46:=Tryz.zeroValue283
 t51:=Tryz.underlying78
 a51:=Tryz.isAgg78
 z51:=Tryz.sizeOf78
 v51:=Tryz.zeroValue78
 t53:=Tryz.underlying278
 a53:=Tryz.isAgg278
 z53:=Tryz.sizeOf278
 v53:=Tryz.zeroValue278
 t171:=Tryz.underlying277
 a171:=Tryz.isAgg277
 z171:=Tryz.sizeOf277
 v171:=Tryz.zeroValue277
 t173:=Tryz.underlying281
 a173:=Tryz.isAgg281
 z173:=Tryz.sizeOf281
 v173:=Tryz.zeroValue281
 t212:=Tryz.underlying285
 a212:=Tryz.isAgg285
 z212:=Tryz.sizeOf285
 v212:=Tryz.zeroValue285
 t213:=Tryz.underlying286
 a213:=Tryz.isAgg286
 z213:=Tryz.sizeOf286
 t232:=Tryz.underlying295
 a232:=Tryz.isAgg295
 z232:=Tryz.sizeOf295
 v232:=Tryz.zeroValue295
 t233:=Tryz.underlying296
 a233:=Tryz.isAgg296
 z233:=Tryz.sizeOf296
 v233:=Tryz.zeroValue296
 g17:=by kernel_rfl
 g18:=by kernel_rfl
 g19:=by kernel_rfl
 i0:=by kernel_rfl
 i2:=by kernel_rfl
 i3:=by kernel_rfl
 i4:=by kernel_rfl
 i5:=by kernel_rfl
 i9:=by kernel_rfl
 i20:=by kernel_rfl
 i37:=by kernel_rfl
 i46:=by kernel_rfl
 i51:=by kernel_rfl
 i53:=by kernel_rfl
 i171:=by kernel_rfl
 i173:=by kernel_rfl
 i212:=by kernel_rfl
 i232:=by kernel_rfl
 i233:=by kernel_rfl
 m17:=by kernel_rfl
 m18:=by kernel_rfl
 m19:=by kernel_rfl }
open Go.RowKit Go.Sort Go.Lib in
theorem Tryz.strconv_Itoa (n : Int) (h0 : -9223372036854775808 ≤ n) (h1 : n ≤ 9223372036854775807) (w : World) (htab : Lib.TabIs Tryz.prog w "internal/strconv.uint64pow10" .u64 Lib.pow10Tab) :
 Calls Tryz.prog 163 #[.int .i64 n] w fun e w'=>e=.returned (.string ⟨(Lib.itoa n).toArray⟩)∧∃ k os,w'=grow (w.drewN k) os:=Any.strconv_Itoa Tryz.laysM171 n h0 h1 w htab
end Go.Proofs
namespace Go.Proofs.YtjhjmncjidbieaaGreatDoor
open Go Go.Av Go.RowKit
theorem rep_int {X:Nat->Prop} {w:World} {v:Value} {k:IntKind} {n:Int} (h:Rep X w v (.int k n)):v=.int k n:=by cases h;rfl
theorem rep_str {X:Nat->Prop} {w:World} {v:Value} {l:List UInt8} (h:Rep X w v (.str l)):v=.string ⟨l.toArray⟩:=by cases h;rfl
theorem elt_cells {X:Nat->Prop} {w:World} {pv:Value} {k i0 j0:Nat} {rows:List (List AV)} (h:Rep X w pv (.elt k rows i0 j0)):∃ b o,pv=.pointer (some ⟨b,o+i0 * k+j0,none⟩)∧∃ cv:Nat->Nat->Value,
 (∀ i,i < rows.length->∀ j,j < k->w.cell? ⟨b,o+i * k+j,none⟩=some (cv i j))∧∀ i,i < rows.length->∀ j,j < k->Rep X w (cv i j) (nth (nthR rows i) j):=by
 cases h with
 | elt b o k rows i0 j0 cv hb hX hi hk hc hr h1=>exact ⟨b,o,rfl,cv,hc,hr⟩
theorem glob_ints {X:Nat->Prop} {w:World} {g:Nat} {zs:List Int} {q:IntKind} (h:GlobOK X w g (zs.map fun z=>AV.int q z)):∃ cs T z,w.heap[g]?=some (.cells cs T z)∧cs=(zs.map fun z=>Value.int q z).toArray:=by
 obtain ⟨h1,cs,T,z,h2,h3⟩:=h
 refine ⟨cs,T,z,h2,?_⟩
 rw [List.length_map] at h3
 obtain ⟨b,o,hp,cv,hc,hr⟩:=elt_cells h1
 simp only [Value.pointer.injEq,Option.some.injEq,Addr.mk.injEq,Nat.zero_mul,Nat.add_zero] at hp
 obtain ⟨rfl,rfl, -⟩:=hp
 refine Array.ext (by simp [h3]) fun i hi1 hi2=>?_
 have hik:i < zs.length:=by omega
 have e1:=hc 0 (by simp) i (by simpa using hik)
 have e2:=hr 0 (by simp) i (by simpa using hik)
 have e3:nth (nthR [zs.map fun z=>AV.int q z] 0) i=.int q zs[i]:=by
  simp [nthR,nth,List.getD_eq_getElem?_getD,hik]
 rw [e3] at e2
 have e4:=rep_int e2
 rw [e4] at e1
 simp only [Nat.zero_mul,Nat.add_zero,Nat.zero_add] at e1
 have e5:w.cell? ⟨g,i,none⟩=cs[i]?:=by unfold World.cell?;simp [h2]
 rw [e5,Array.getElem?_eq_getElem hi1] at e1
 simp only [Option.some.injEq] at e1
 rw [e1]
 simp
theorem tab_of {w : World} {X : Nat → Prop} (h : GlobOK X w 4 (Lib.pow10Tab.map fun z => AV.int .u64 z)) : Lib.TabIs Tryz.prog w "internal/strconv.uint64pow10" .u64 Lib.pow10Tab := by
 obtain ⟨cs,T,z,h2,h3⟩:=glob_ints h
 unfold Lib.TabIs World.var?
 rw [show Tryz.prog.globalNamed "internal/strconv.uint64pow10" = some 4 by kernel_rfl]
 simp only [Option.bind_some,h2,h3]
theorem c163 (n:Int) (h:In64 n):PCall Tryz.prog G0 163 [.i n] (.str (Lib.itoa n)):=by
 refine ⟨⟨Tryz.f163,bodyOf Tryz.f163,by kernel_rfl,by kernel_rfl,by kernel_rfl⟩,fun w X vs hX hG hz=>?_⟩
 obtain ⟨h1,h2⟩:=hz
 obtain ⟨v,rfl⟩:∃ v,vs=#[v]:=by
  obtain ⟨l⟩:=vs
  match l,h1 with
  | [v],_=>exact ⟨v,rfl⟩
 have hv:=rep_int (h2 0 v (.i n) rfl rfl)
 subst hv
 refine (Tryz.strconv_Itoa n h.1 h.2 w (tab_of (hG 4 _ (by kernel_rfl)))).mono fun e w' ⟨he,k,os,hw⟩=>⟨_,he,?_,.str _⟩
 subst hw
 exact ⟨rfl,rfl,rfl,by show w.heap.size<=(w.heap++os).size;simp,fun i hi=>by
  show (w.heap++os)[i]?=_
  rw [Array.getElem?_append_left hi]⟩
theorem c161 (xs:List (List UInt8)) (sep:List UInt8) (hn:xs.length<=140737488355328) (hl:(Lib.join xs sep).length<=140737488355328):PCall Tryz.prog G0 161 [.sl 1 (xs.map fun x=>[.str x]),.str sep] (.str (Lib.join xs sep)):=by
 refine ⟨⟨Tryz.f161,bodyOf Tryz.f161,by kernel_rfl,by kernel_rfl,by kernel_rfl⟩,fun w X vs hX hG hz=>?_⟩
 obtain ⟨h1,h2⟩:=hz
 obtain ⟨v,s,rfl⟩:∃ v s,vs=#[v,s]:=by
  obtain ⟨l⟩:=vs
  match l,h1 with
  | [v,s],_=>exact ⟨v,s,rfl⟩
 have hs:=rep_str (h2 1 s (.str sep) rfl rfl)
 subst hs
 have hv:=h2 0 v _ rfl rfl
 clear h1 h2
 generalize hr:(xs.map fun x=>[AV.str x])=rows at hv
 have hlen:rows.length=xs.length:=by rw [<- hr];simp
 cases hv with
 | slE a cap =>
  have:xs=[]:=by simpa using hr
  subst this
  exact (Tryz.strings_Join_none a cap _ w).mono fun e w' ⟨he,hw⟩=>⟨_,he,by rw [hw];exact Below.refl _ _,.str _⟩
 | sl b o cap k rows cv hb hX2 hcap hmax hk hc hrr h1 =>
  have key:=Tryz.strings_Join b o cap (xs.map fun x=>⟨x.toArray⟩) ⟨sep.toArray⟩ w (fun j x hx=>?_) hb (by simpa using hn) (by simp;omega) (by
   rw [List.map_map,show ((fun x:ByteArray=>x.data.toList) ∘ fun x:List UInt8=>(⟨x.toArray⟩:ByteArray))=id by funext x;simp,List.map_id]
   exact hl)
  · rw [List.map_map,show ((fun x:ByteArray=>x.data.toList) ∘ fun x:List UInt8=>(⟨x.toArray⟩:ByteArray))=id by funext x;simp,List.map_id] at key
    rw [List.length_map] at key
    rw [hlen]
    exact key.mono fun e w' ⟨he,hw⟩=>⟨_,he,hw,.str _⟩
  · obtain ⟨y,hy,rfl⟩:∃ y,xs[j]?=some y∧(⟨y.toArray⟩:ByteArray)=x:=by
     rw [List.getElem?_map] at hx
     simpa using hx
    have hj:j < xs.length:=(List.getElem?_eq_some_iff.1 hy).1
    have e1:=hc j (by omega) 0 (by omega)
    have e2:=hrr j (by omega) 0 (by omega)
    have e3:nth (nthR rows j) 0=.str y:=by
     rw [<- hr]
     simp [nthR,nth,List.getD_eq_getElem?_getD,hy]
    rw [e3] at e2
    rw [rep_str e2] at e1
    simpa using e1
end Go.Proofs.YtjhjmncjidbieaaGreatDoor
namespace Go.Proofs.YtjhjmncjidbieaaGreatDoor
open Go Go.Av Go.RowKit
def ddF:Nat->Nat->List UInt8
 | 0,u=>[UInt8.ofNat (48+u)]
 | k+1,u=>if u < 10 then [UInt8.ofNat (48+u)] else ddF k (u / 10)++[UInt8.ofNat (48+u % 10)]
theorem ddF_eq:∀ (k u:Nat),u < 10 ^ (k+1)->ddF k u=Lib.decDigits u
 | 0,u,h=>by
  rw [Lib.decDigits,dif_pos (by simpa using h)]
  rfl
 | k+1,u,h=>by
  rw [Lib.decDigits,ddF]
  by_cases h10:u < 10
  · rw [if_pos h10,dif_pos h10]
  · rw [if_neg h10,dif_neg h10,ddF_eq k (u / 10) (by rw [Nat.pow_succ] at h;omega)]
def strsOf:List (List AV)->Option (List (List UInt8))
 | []=>some []
 | [.str x]::l=>match strsOf l with
  | some m=>some (x::m)
  | none=>none
 | _=>none
theorem strsOf_ok:∀ {rows:List (List AV)} {xs:List (List UInt8)},strsOf rows=some xs->rows=xs.map fun x=>[.str x]
 | [],xs,h=>by cases h;rfl
 | row::l,xs,h=>by
  unfold strsOf at h
  split at h
  · rename_i h1;cases h1
  · rename_i x m h1
    cases h1
    split at h
    · rename_i m hm
      cases h
      rw [strsOf_ok hm]
      rfl
    · cases h
  · cases h
def libO (f:Nat):List AV->Option AV
 | [.int .i64 n]=>if Nat.beq f 163 && (decide (0<=n) && decide (n < 1000000000)) then some (.str (ddF 9 n.toNat)) else none
 | [.sl 1 rows,.str sep]=>if Nat.beq f 161 then match strsOf rows with
  | some xs=>if decide (xs.length<=1000) && decide ((Lib.join xs sep).length<=1000000) then some (.str (Lib.join xs sep)) else none
  | none=>none
  else none
 | _=>none
theorem libO_ok (f:Nat) (a:List AV) (r:AV) (h:libO f a=some r):PCall Tryz.prog G0 f a r:=by
 unfold libO at h
 split at h
 · rename_i n
   split at h
   · rename_i hb
     simp only [Bool.and_eq_true,decide_eq_true_eq] at hb
     obtain ⟨h1,h2,h3⟩:=hb
     have:=Nat.eq_of_beq_eq_true h1
     subst this
     cases h
     have:=c163 n (by unfold In64;omega)
     rw [Lib.itoa,if_neg (by omega),<- ddF_eq 9 n.toNat (by omega)] at this
     exact this
   · cases h
 · rename_i rows sep
   split at h
   · rename_i h1
     have:=Nat.eq_of_beq_eq_true h1
     subst this
     split at h
     · rename_i xs hxs
       split at h
       · rename_i hb
         simp only [Bool.and_eq_true,decide_eq_true_eq] at hb
         cases h
         rw [strsOf_ok hxs]
         exact c161 xs sep (by omega) (by omega)
       · cases h
     · cases h
   · cases h
 · cases h
def orcL (l:List Mem) (f:Nat) (a:List AV):Option AV:=match libO f a with
 | some r=>some r
 | none=>orcM l f a
theorem orcL_ok {l:List Mem} (hl:KnownM Tryz.prog G0 l) (f:Nat) (a:List AV) (r:AV) (h:orcL l f a=some r):PCall Tryz.prog G0 f a r:=by
 unfold orcL at h
 split at h
 · rename_i r' hr
   cases h
   exact libO_ok f a _ hr
 · exact orcM_ok hl f a r h
theorem ftok:FTOK Tryz.prog F0:=by unfold FTOK;kernel_rfl
theorem run_c {l:List Mem} (hl:KnownM Tryz.prog G0 l) {f:Nat} {a:List AV} {r:AV} (h:callM Tryz.prog T0 G0 F0 (orcL l) sqH 10000 60 f a=some r):PCall Tryz.prog G0 f a r :=
 callM_ok tok mix ftok (orcL_ok hl) sqH_ok _ _ _ _ h
end Go.Proofs.YtjhjmncjidbieaaGreatDoor
