/-
  What chapter 2's checks of settings and of types return. What chapter 2's Flown returns. What the source's checks of settings return. What chapter 2's checks of a type return. What chapter 2's emission returns. No condition but the theorems' own.
-/
import Derived.Test.YtnbhfmaamloodaaDoorPA
import Derived.Test.YtnbhfmaamloodaaDoorAvD
namespace Go.Proofs.YtnbhfmaamloodaaDoor
open Go Go.Av Go.RowKit
def fzB (B:BA):BA:={ B with gs:=fun i=>(B.ra i).fz.map GS.frzo++B.gs i }
def Ty.sg (t:Ty) (i:Nat):Sg:=t.st.getD i default
def eAt (l:List Int) (k:Nat):Int:=l.getD k default
def up (l:List Int) (k:Nat):Bool:=if k=0 then false else decide (eAt l k > eAt l (k-1))
def badR (t:Ty) (i k:Nat):Bool:=up (t.sg i).e k || (if i=0 then false else decide (eAt (t.sg i).e k < eAt (t.sg (i-1)).e k))
def cSetR (t:Ty) (i:Nat):Int:=sFirst [sPower (t.sg i).p,sWhen (if i=0 then false else decide ((t.sg i).p<=(t.sg (i-1)).p)) 11,sWhen (((t.sg i).e.length:Int) != (t.sq.length:Int)) 2,sFirst ((t.sg i).e.map fun x=>sWithin x 0 100000000)]
def fSetR (t:Ty) (i:Nat):Int:=sLS (cSetR t i) (fun k=>if badR t i k then 21 else 0) (t.sg i).e.length 0
def lastP (t:Ty) (i:Nat):Int:=if i=0 then 0 else (t.sg (i-1)).p
def lastE (t:Ty) (i:Nat):List Int:=if i=0 then List.replicate t.sq.length 0 else (t.sg (i-1)).e
def badS (t:Ty) (i k:Nat):Bool:=up (t.sg i).e k || decide (eAt (t.sg i).e k < eAt (lastE t i) k)
def cSetS (t:Ty) (i:Nat):Int:=sFirst [sWithin (t.sg i).p 1 100,sWhen (decide ((t.sg i).p<=lastP t i)) 11,sWhen (((t.sg i).e.length:Int) != (t.sq.length:Int)) 2,sRanged (t.sg i).e 100000000]
def fSetS (t:Ty) (i:Nat):Int:=sLS (cSetS t i) (fun k=>if badS t i k then 21 else 0) (t.sg i).e.length 0
theorem first4_3 {a b d:Int} {x y:Nat} (h:sFirst [a,b,sWhen ((x:Int) != (y:Int)) 2,d]=0):x=y:=by
 have e:∀ z w,sFirst (z::w)=if z ≠ 0 then z else sFirst w:=fun _ _=>rfl
 rw [e,e,e] at h
 by_cases ha:a=0
 · rw [if_neg (by simp [ha])] at h
   by_cases hb:b=0
   · rw [if_neg (by simp [hb])] at h
     by_cases hx:x=y
     · exact hx
     · have:((x:Int) != (y:Int))=true:=by rw [bne_iff_ne];omega
       rw [this,if_pos (show sWhen true 2 ≠ 0 by decide)] at h
       exact absurd h (by decide)
   · rw [if_pos hb] at h;exact absurd h hb
 · rw [if_pos ha] at h;exact absurd h ha
theorem mk7 {a b c d:AV} {x y:Int} (h:x=y):AS.mk [(1,a),(2,b),(5,c),(6,d),(7,AV.i x)] [] 1=AS.mk [(1,a),(2,b),(5,c),(6,d),(7,AV.i y)] [] 1:=by rw [h]
def sp110 (t:Ty) (i:Nat):Nat->List AV->Option AV
 | 43,_=>some (.i (sFirst ((t.sg i).e.map fun x=>sWithin x 0 100000000)))
 | n,x=>spR n x
def la110 (t:Ty) (i:Nat):LA:={
 pre:=[.keep [1,2,5,6,8] [],.bound 1],post:=[.keep [1,2,5,6,8] [],.bound 1]
 Gh:=Nat
 st:=fun k=>⟨[(1,.i i),(2,.elt 13 [encTy t] 0 0),(5,.elt 2 [encSg (t.sg i)] 0 0),(6,.elt 2 [encSg (t.sg (prv i))] 0 0),(8,.i k)],[],1⟩
 ok:=fun k=>k<=(t.sg i).e.length∧∀ j,j < k->badR t i j=false
 ms:=fun k=>(t.sg i).e.length-k }
def cut110 (t:Ty) (i:Nat):Nat->Option (AS->AS):=fun j=>if j.beq 2 then some (cutA [1,2,5,6,7] [] 1 7 fun _=>.i (cSetR t i)) else none
def gs110:Nat->List GS:=fun j=>if j.beq 1 then [.frzo 5,.frzo 6] else if j.beq 2 then [.keep [1,2,5,6,7] [],.bound 1] else []
abbrev zc47f (t:Ty) (i:Nat):=List.map encI (t.sg i).e
abbrev zc47m (t:Ty) (i:Nat):=List.map encI (t.sg (prv i)).e
abbrev zc47a (i:Nat) (t:Ty) (g:Nat):=[(1,AV.i (i:Int)),(2,AV.elt 13 [(encTy t)] 0 0),(5,AV.elt 2 [[AV.i (t.sg i).p,AV.sl 1 (zc47f t i)]] 0 0),(6,AV.elt 2 [[AV.i (t.sg (prv i)).p,AV.sl 1 (zc47m t i)]] 0 0),(8,AV.i ((g:Int)+1))]
abbrev zc47b (i:Nat) (t:Ty) (g':Nat):=[(1,AV.i (i:Int)),(2,AV.elt 13 [(encTy t)] 0 0),(5,AV.elt 2 [[AV.i (t.sg i).p,AV.sl 1 (zc47f t i)]] 0 0),(6,AV.elt 2 [[AV.i (t.sg (prv i)).p,AV.sl 1 (zc47m t i)]] 0 0),(8,AV.i (↑g':Int))]
abbrev zc47c (t:Ty) (i:Nat):=t.st.getD (i:Int).toNat default
abbrev zc47d (t:Ty) (i:Nat):=t.st.getD (maxI (0:Int) ((i:Int)-1)).toNat default
abbrev zc47e (t:Ty) (i:Nat):=(↑(List.map encI (zc47c t i).e).length:Int) != (↑(List.map encI t.sq).length:Int)
abbrev zc47g (t:Ty) (i:Nat):=sFirst (List.map (fun (x:Int)=>sWithin x (0:Int) (100000000:Int)) (t.sg i).e)
abbrev zc47l (g':Nat) (t:Ty) (i:Nat):=(g'<=(t.sg i).e.length∧∀ (j:Nat),j < g'->badR t i j=false)
abbrev zc47h (t:Ty) (i:Nat) (g:Nat):=(decide (cI (zc47f t i) (g:Int).toNat < cI (zc47m t i) (g:Int).toNat)=false->In64 ((g:Int)+1)∧∃ (g':Nat),(zc47l g' t i)∧(t.sg i).e.length-g' < (t.sg i).e.length-g∧AS.mk (zc47a i t g) [] 1=AS.mk (zc47b i t g') [] 1)
abbrev zc47i (t:Ty) (i:Nat) (g:Nat):=cI (zc47f t i) (g:Int).toNat > cI (zc47f t i) (maxI (0:Int) ((g:Int)-1)).toNat
abbrev zc47j (t:Ty) (i:Nat):=[AV.i (zc47c t i).p,AV.sl 1 (List.map encI (zc47c t i).e)]
abbrev zc47k (t:Ty) (i:Nat):=[AV.i (zc47d t i).p,AV.sl 1 (List.map encI (zc47d t i).e)]
abbrev zc47n (t:Ty) (i:Nat):=sFirst [hdI [AV.i (sPower (zc47c t i).p)],hdI [AV.i (sWhen (decide ((zc47c t i).p<=(zc47d t i).p)) (11:Int))],hdI [AV.i (sWhen (zc47e t i) (2:Int))],hdI [AV.i (zc47g t i)]]
theorem c47 (t:Ty) (i:Nat) (hi:i < t.st.length) (hn:t.st.length<=1000) (hl:(t.sg i).e.length<=1000) (hp:i ≠ 0->(t.sg i).e.length=t.sq.length->(t.sg i).e.length<=(t.sg (i-1)).e.length):PCall Tryd.prog G0 47 [.agg (encTy t),.i i] (.i (fSetR t i)):=by
 have key :
  (0:Int)<=(i:Int)∧(i:Int) < (↑(List.map encSg t.st).length:Int)∧In64 ((i:Int)-1)∧(0:Int)<=maxI (0:Int) ((i:Int)-1)∧maxI (0:Int) ((i:Int)-1) < (↑(List.map encSg t.st).length:Int)∧AV.agg
  (nthR (List.map encSg t.st) (i:Int).toNat)=AV.agg (zc47j t i)∧AV.agg (nthR (List.map encSg t.st) (maxI (0:Int) ((i:Int)-1)).toNat)=AV.agg (zc47k t i)∧((decide ((i:Int) > 0)=true->PCall Tryd.prog G0 49 [AV.i
  (zc47c t i).p] (AV.i (sPower (zc47c t i).p))∧AV.bool (decide ((i:Int) > 0))=AV.bool true∧PCall Tryd.prog G0 46 [AV.bool (decide ((zc47c t i).p<=(zc47d t i).p)),AV.i 11] (AV.i (sWhen (decide ((zc47c t i).p<=(zc47d t
  i).p)) (11:Int)))∧PCall Tryd.prog G0 46 [AV.bool (zc47e t i),AV.i 2] (AV.i (sWhen (zc47e t i) (2:Int)))∧PCall Tryd.prog G0 43 [AV.sl 1 (List.map encI (zc47c t i).e),AV.i 0,AV.i 100000000] (AV.i (zc47g t i))∧PCall
  Tryd.prog G0 40 [AV.sl 1 [[AV.i (sPower (zc47c t i).p)],[AV.i (sWhen (decide ((zc47c t i).p<=(zc47d t i).p)) (11:Int))],[AV.i (sWhen (zc47e t i) (2:Int))],[AV.i (zc47g t i)]]] (AV.i (zc47n t i))∧AS.mk [(1,AV.i (↑i :
  Int)),(2,AV.elt 13 [(encTy t)] 0 0),(5,AV.elt 2 [(zc47j t i)] 0 0),(6,AV.elt 2 [(zc47k t i)] 0 0),(7,AV.i (zc47n t i))] [] 1=AS.mk [(1,AV.i (i:Int)),(2,AV.elt 13 [(encTy t)] 0 0),(5,AV.elt 2 [(zc47j t i)] 0 0),
  (6,AV.elt 2 [(zc47k t i)] 0 0),(7,AV.i (cSetR t i))] [] 1)∧(decide ((i:Int) > 0)=false->(false=true->false=true)∧PCall Tryd.prog G0 49 [AV.i (zc47c t i).p] (AV.i (sPower (zc47c t i).p))∧AV.bool (decide ((↑i :
  Int) > 0))=AV.bool false∧PCall Tryd.prog G0 46 [AV.bool false,AV.i 11] (AV.i (sWhen false (11:Int)))∧PCall Tryd.prog G0 46 [AV.bool (zc47e t i),AV.i 2] (AV.i (sWhen (zc47e t i) (2:Int)))∧PCall Tryd.prog G0 43 [AV.sl 1
  (List.map encI (zc47c t i).e),AV.i 0,AV.i 100000000] (AV.i (zc47g t i))∧PCall Tryd.prog G0 40 [AV.sl 1 [[AV.i (sPower (zc47c t i).p)],[AV.i (sWhen false (11:Int))],[AV.i (sWhen (zc47e t i) (2:Int))],[AV.i (zc47g t i)]]]
  (AV.i (sFirst [hdI [AV.i (sPower (zc47c t i).p)],hdI [AV.i (sWhen false (11:Int))],hdI [AV.i (sWhen (zc47e t i) (2:Int))],hdI [AV.i (zc47g t i)]]))∧AS.mk [(1,AV.i (i:Int)),(2,AV.elt 13 [(encTy t)] 0 0),(5,AV.elt 2
  [(zc47j t i)] 0 0),(6,AV.elt 2 [(zc47k t i)] 0 0),(7,AV.i (sFirst [hdI [AV.i (sPower (zc47c t i).p)],hdI [AV.i (sWhen false (11:Int))],hdI [AV.i (sWhen (zc47e t i) (2:Int))],hdI [AV.i (zc47g t i)]]))] [] 1=AS.mk [(1,
  AV.i (i:Int)),(2,AV.elt 13 [(encTy t)] 0 0),(5,AV.elt 2 [(zc47j t i)] 0 0),(6,AV.elt 2 [(zc47k t i)] 0 0),(7,AV.i (cSetR t i))] [] 1))∧((cSetR t i != 0)=true->AV.i (cSetR t i)=AV.i (fSetR t i))∧((cSetR t i != 0)
  = false->(∃ (g:Nat),(g<=(t.sg i).e.length∧∀ (j:Nat),j < g->badR t i j=false)∧AS.mk [(1,AV.i (i:Int)),(2,AV.elt 13 [(encTy t)] 0 0),(5,AV.elt 2 [(zc47j t i)] 0 0),(6,AV.elt 2 [(zc47k t i)] 0 0),(8,AV.i 0)]
  [] 1=AS.mk [(1,AV.i (i:Int)),(2,AV.elt 13 [(encTy t)] 0 0),(5,AV.elt 2 [[AV.i (t.sg i).p,AV.sl 1 (zc47f t i)]] 0 0),(6,AV.elt 2 [[AV.i (t.sg (prv i)).p,AV.sl 1 (zc47m t i)]] 0 0),(8,AV.i (g:Int))] [] 1)∧∀ (g :
  Nat),(g<=(t.sg i).e.length∧∀ (j:Nat),j < g->badR t i j=false)->(decide ((g:Int) < (↑(zc47f t i).length:Int))=true->(decide ((g:Int) > 0)=true->(decide (zc47i t i g)=true->(0:Int)<=(g:Int)∧(↑g :
  Int) < (↑(zc47f t i).length:Int)∧In64 ((g:Int)-1)∧(0:Int)<=maxI (0:Int) ((g:Int)-1)∧maxI (0:Int) ((g:Int)-1) < (↑(zc47f t i).length:Int)∧(true=false->false=true)∧AV.bool (decide ((g:Int)
  > 0))=AV.bool true∧nth (nthR (zc47f t i) (g:Int).toNat) 0=AV.i (cI (zc47f t i) (g:Int).toNat)∧nth (nthR (zc47f t i) (maxI (0:Int) ((g:Int)-1)).toNat) 0=AV.i (cI (zc47f t i) (maxI (0:Int) ((g:Int) -
  1)).toNat)∧AV.bool (decide (zc47i t i g))=AV.bool true∧(true=true->AV.i 21=AV.i (fSetR t i))∧(true=false->In64 ((g:Int)+1)∧∃ (g':Nat),(zc47l g' t i)∧(t.sg i).e.length-g' < (t.sg i).e.length-g∧AS.mk
  (zc47a i t g) [] 1=AS.mk (zc47b i t g') [] 1))∧(decide (zc47i t i g)=false->(decide ((i:Int) > 0)=true->(0:Int)<=(g:Int)∧(g:Int) < (↑(zc47f t i).length:Int)∧In64 ((g:Int)-1)∧(0:Int)<=maxI (0 :
  Int) ((g:Int)-1)∧maxI (0:Int) ((g:Int)-1) < (↑(zc47f t i).length:Int)∧(0:Int)<=(g:Int)∧(g:Int) < (↑(zc47f t i).length:Int)∧(0:Int)<=(g:Int)∧(g:Int) < (↑(zc47m t i).length:Int)∧AV.bool
  (decide ((g:Int) > 0))=AV.bool true∧nth (nthR (zc47f t i) (g:Int).toNat) 0=AV.i (cI (zc47f t i) (g:Int).toNat)∧nth (nthR (zc47f t i) (maxI (0:Int) ((g:Int)-1)).toNat) 0=AV.i (cI (zc47f t i) (maxI (0:Int)
  ((g:Int)-1)).toNat)∧AV.bool (decide (zc47i t i g))=AV.bool false∧AV.bool (decide ((i:Int) > 0))=AV.bool true∧nth (nthR (zc47f t i) (g:Int).toNat) 0=AV.i (cI (zc47f t i) (g:Int).toNat)∧nth (nthR (zc47m t
  i) (g:Int).toNat) 0=AV.i (cI (zc47m t i) (g:Int).toNat)∧(decide (cI (zc47f t i) (g:Int).toNat < cI (zc47m t i) (g:Int).toNat)=true->AV.i 21=AV.i (fSetR t i))∧(zc47h t i g))∧(decide ((i:Int) > 0)=false
  → (0:Int)<=(g:Int)∧(g:Int) < (↑(zc47f t i).length:Int)∧In64 ((g:Int)-1)∧(0:Int)<=maxI (0:Int) ((g:Int)-1)∧maxI (0:Int) ((g:Int)-1) < (↑(zc47f t i).length:Int)∧(false=true->false =
  true)∧AV.bool (decide ((g:Int) > 0))=AV.bool true∧nth (nthR (zc47f t i) (g:Int).toNat) 0=AV.i (cI (zc47f t i) (g:Int).toNat)∧nth (nthR (zc47f t i) (maxI (0:Int) ((g:Int)-1)).toNat) 0=AV.i (cI (zc47f t i)
  (maxI (0:Int) ((g:Int)-1)).toNat)∧AV.bool (decide (zc47i t i g))=AV.bool false∧AV.bool (decide ((i:Int) > 0))=AV.bool false∧(false=true->AV.i 21=AV.i (fSetR t i))∧(false=false->In64 ((g:Int)+1) ∧
  ∃ (g':Nat),(zc47l g' t i)∧(t.sg i).e.length-g' < (t.sg i).e.length-g∧AS.mk (zc47a i t g) [] 1=AS.mk (zc47b i t g') [] 1))))∧(decide ((g:Int) > 0)=false->(false=true->(false=true->false=true)∧(true =
  false->false=true)∧AV.bool (decide ((g:Int) > 0))=AV.bool false∧AV.bool false=AV.bool true∧(true=true->AV.i 21=AV.i (fSetR t i))∧(true=false->In64 ((g:Int)+1)∧∃ (g':Nat),(zc47l g' t i)∧(t.sg
  i).e.length-g' < (t.sg i).e.length-g∧AS.mk (zc47a i t g) [] 1=AS.mk (zc47b i t g') [] 1))∧(false=false->(decide ((i:Int) > 0)=true->(false=true->false=true)∧(0:Int)<=(g:Int)∧(g:Int) < (↑(zc47f t
  i).length:Int)∧(0:Int)<=(g:Int)∧(g:Int) < (↑(zc47m t i).length:Int)∧AV.bool (decide ((g:Int) > 0))=AV.bool false∧AV.bool false=AV.bool false∧AV.bool (decide ((i:Int) > 0))=AV.bool true∧nth (nthR
  (zc47f t i) (g:Int).toNat) 0=AV.i (cI (zc47f t i) (g:Int).toNat)∧nth (nthR (zc47m t i) (g:Int).toNat) 0=AV.i (cI (zc47m t i) (g:Int).toNat)∧(decide (cI (zc47f t i) (g:Int).toNat < cI (zc47m t i) (↑g :
  Int).toNat)=true->AV.i 21=AV.i (fSetR t i))∧(zc47h t i g))∧(decide ((i:Int) > 0)=false->(false=true->false=true)∧(false=true->false=true)∧AV.bool (decide ((g:Int) > 0))=AV.bool false∧AV.bool
  false=AV.bool false∧AV.bool (decide ((i:Int) > 0))=AV.bool false∧(false=true->AV.i 21=AV.i (fSetR t i))∧(false=false->In64 ((g:Int)+1)∧∃ (g':Nat),(zc47l g' t i)∧(t.sg i).e.length-g' < (t.sg
  i).e.length-g∧AS.mk (zc47a i t g) [] 1=AS.mk (zc47b i t g') [] 1)))))∧(decide ((g:Int) < (↑(zc47f t i).length:Int))=false->AV.i 0=AV.i (fSetR t i))):=by
   delta zc47a zc47b zc47c zc47d zc47e zc47f zc47g zc47h zc47i zc47j zc47k zc47l zc47m zc47n
   have hlm:(List.map encSg t.st).length=t.st.length:=List.length_map _
   have hle:(List.map encI (t.sg i).e).length=(t.sg i).e.length:=List.length_map _
   have hlq:(List.map encI t.sq).length=t.sq.length:=List.length_map _
   have hlp:(List.map encI (t.sg (prv i)).e).length=(t.sg (prv i)).e.length:=List.length_map _
   have hm:=max_prev_lt hi
   refine ⟨by omega,by omega,by unfold In64;omega,by omega,by omega,congrArg AV.agg (row_at encSg (i:=i) hi),congrArg AV.agg (row_at encSg (by omega)),⟨fun h0=>?_,fun h0=>?_⟩,fun h=>?_,fun h=>⟨⟨0,⟨by omega,by intros;omega⟩,rfl⟩,fun g ⟨hg,ha⟩=>⟨fun hd=>?_,fun hd=>?_⟩⟩⟩
   · refine ⟨c49 _,congrArg AV.bool h0,c46 _ _,c46 _ _,c43 (t.sg i).e 0 100000000 (by omega),c40 [_,_,_,_] (by simp),?_⟩
     refine mk7 ?_
     have h1:i ≠ 0:=by have:=of_decide_eq_true h0;omega
     unfold cSetR
     rw [if_neg h1,max_prev h1,<- hle,<- hlq]
     rfl
   · refine ⟨fun h=>h,c49 _,congrArg AV.bool h0,c46 _ _,c46 _ _,c43 (t.sg i).e 0 100000000 (by omega),c40 [_,_,_,_] (by simp),?_⟩
     refine mk7 ?_
     have h1:i=0:=by have:=of_decide_eq_false h0;omega
     unfold cSetR
     rw [if_pos h1,<- hle,<- hlq]
     rfl
   · exact congrArg AV.i (ls_first h).symm
   · rw [hle] at hd
     have hlt:=lt_of_dec hd
     have hm2:=max_prev_lt hlt
     have hF:badR t i g=true->AV.i 21=AV.i (fSetR t i):=fun hb=>by
      rw [fSetR,ls_hit (i:=g) h hd (fun k hk=>by rw [ha k hk];rfl) (by rw [hb];decide),hb]
      rfl
     have hN:badR t i g=false->∃ (g':Nat),(g'<=(t.sg i).e.length∧∀ (j:Nat),j < g'->badR t i j=false)∧(t.sg i).e.length-g' < (t.sg i).e.length-g∧(g:Int)+1=(g':Int):=fun hb =>
      ⟨g+1,⟨hlt,fun j hj=>by by_cases e:j=g;(· rw [e];exact hb);(· exact ha j (by omega))⟩,by omega,rfl⟩
     have hb:badR t i g=(((decide ((g:Int) > 0)) && decide (cI (List.map encI (t.sg i).e) ((g:Int)).toNat > cI (List.map encI (t.sg i).e) (maxI 0 ((g:Int)-1)).toNat)) || (decide ((i:Int) > 0) && decide (cI (List.map encI (t.sg i).e) ((g:Int)).toNat < cI (List.map encI (t.sg (prv i)).e) ((g:Int)).toNat))):=by
      rw [cI_map,cI_map,cI_map]
      unfold badR up
      congr 1
      · by_cases e0:g=0
        · rw [if_pos e0,e0];rfl
        · rw [if_neg e0,max_prev e0,show decide ((g:Int) > 0)=true from decide_eq_true (by omega)];rfl
      · by_cases e0:i=0
        · rw [if_pos e0,show decide ((i:Int) > 0)=false from decide_eq_false (by omega)];rfl
        · rw [if_neg e0,show decide ((i:Int) > 0)=true from decide_eq_true (by omega),show prv i=i-1 from max_prev e0];rfl
     have hpl:decide ((i:Int) > 0)=true->(t.sg i).e.length=t.sq.length->(t.sg i).e.length<=(t.sg (prv i)).e.length:=fun e1 e2=>by
      have e0:i ≠ 0:=by have:=of_decide_eq_true e1;omega
      rw [show prv i=i-1 from max_prev e0]
      exact hp e0 e2
     have hlen:(t.sg i).e.length=t.sq.length:=by
      have hc:cSetR t i=0:=by simpa using h
      unfold cSetR at hc
      exact first4_3 hc
     have hat:=cI_at hlt
     have hat2:=cI_at (l:=(t.sg i).e) (i:=(maxI 0 ((g:Int)-1)).toNat) (by omega)
     rw [hb] at hF hN
     have h64:In64 ((g:Int)+1):=by unfold In64;omega
     have h65:In64 ((g:Int)-1):=by unfold In64;omega
     have hpl:decide ((i:Int) > 0)=true->(g:Int) < (List.map encI (t.sg (prv i)).e).length:=fun e=>by
      have:=hpl e hlen
      omega
     have hat4:(g:Int) < (List.map encI (t.sg (prv i)).e).length->nth (nthR (List.map encI (t.sg (prv i)).e) ((g:Int)).toNat) 0=AV.i (cI (List.map encI (t.sg (prv i)).e) ((g:Int)).toNat):=fun e=>cI_at (by omega)
     generalize hA:decide ((g:Int) > 0)=a at hF hN ⊢
     generalize hB:decide ((i:Int) > 0)=b at hF hN hpl ⊢
     generalize hC:decide (cI (List.map encI (t.sg i).e) ((g:Int)).toNat > cI (List.map encI (t.sg i).e) (maxI 0 ((g:Int)-1)).toNat)=c at hF hN ⊢
     generalize hD:decide (cI (List.map encI (t.sg i).e) ((g:Int)).toNat < cI (List.map encI (t.sg (prv i)).e) ((g:Int)).toNat)=d at hF hN ⊢
     clear hb h ha hA hB hC hD hlen hd hp
     obtain ⟨_,_⟩:=h64
     obtain ⟨_,_⟩:=h65
     cases a <;> cases b <;> cases c <;> cases d
     all_goals repeat' (first | apply And.intro | (intro h;cases h;done) | intro _)
     all_goals try first
      | omega
      | (unfold In64;omega)
      | rfl
      | exact hF rfl
      | (obtain ⟨g',q1,q2,q3⟩:=hN rfl;exact ⟨g',q1,q2,by rw [q3]⟩)
      | exact hpl rfl
      | exact hat
      | exact hat2
      | exact hat4 (hpl rfl)
   · rw [hle] at hd
     exact congrArg AV.i (ls_end h hd hg (fun k hk=>by rw [ha k hk];rfl)).symm
 exact c_of Tryd.f47 ({ fzB (mkB (sp110 t i) 47 [(1,4,rdL 2 encSg t.st 2 true),(1,11,rdL 2 encSg t.st 2 true),(8,7,rdJ),(8,14,rdJ),(8,25,rdJ),(8,30,rdJ)] (fun j=>if j.beq 0 then some (la110 t i) else none)) with cut:=cut110 t i,gs:=gs110,split:=fun j=>if j.beq 2 then 1 else if j.beq 8 then 1 else 0 }) (by kernel_rfl) (by kernel_rfl) (by kernel_rfl) (by kernel_rfl) key (by kernel_rfl)
end Go.Proofs.YtnbhfmaamloodaaDoor
namespace Go.Proofs.YtnbhfmaamloodaaDoor
open Go Go.Av Go.RowKit
theorem ls_zero {c:Int} {f:Nat->Int} {n:Nat} (h:sLS c f n 0=0):c=0∧∀ k,k < n->f k=0:=by
 unfold sLS at h
 split at h
 · rename_i hc;rw [h] at hc;simp at hc
 · rename_i hc
   refine ⟨by simpa using hc,fun k=>?_⟩
   induction k using Nat.strongRecOn with
   | _ k ih =>
    intro hk
    by_cases e:f k=0
    · exact e
    · rw [scan_hit hk (fun j hj=>ih j hj (by omega)) e] at h
      exact absurd h e
structure PathOK (l:List Pt):Prop where
 n1:2<=l.length
 n2:l.length<=16
 b:∀ i,i < l.length -> -100000<=(l.getD i default).x∧(l.getD i default).x<=100000 ∧ -100000<=(l.getD i default).y∧(l.getD i default).y<=100000
end Go.Proofs.YtnbhfmaamloodaaDoor
namespace Go.Proofs.YtnbhfmaamloodaaDoor
open Go Go.Av Go.RowKit
def la125a (t:Ty):LA:={
 pre:=[.reno 4 1,.keep [1,4,23,24,25] [1],.bound 2],post:=[.reno 4 1,.keep [1,4,23,24,25] [1],.bound 2]
 Gh:=Nat
 st:=fun i=>⟨[(1,.elt 13 [encTy t] 0 0),(4,.ptr 1 0),(23,.sl 2 (t.st.map encSg)),(24,.i t.st.length),(25,.i i)],[(1,.box [.i (lastP t i),.sl 1 ((lastE t i).map encI)])],2⟩
 ok:=fun i=>i<=t.st.length∧∀ j,j < i->fSetS t j=0
 ms:=fun i=>t.st.length-i }
def la125b (t:Ty):LA:={
 pre:=[.keep [1,4,6,23,24,25,55,56,57] [1],.bound 2],post:=[.keep [1,4,6,23,24,25,55,56,57] [1],.bound 2]
 Gh:=Nat × Nat
 st:=fun g=>⟨[(1,.elt 13 [encTy t] 0 0),(4,.ptr 1 0),(6,.elt 2 [encSg (t.sg g.1)] 0 0),(23,.sl 2 (t.st.map encSg)),(24,.i t.st.length),(25,.i g.1),(55,.sl 1 ((t.sg g.1).e.map encI)),(56,.i (t.sg g.1).e.length),(57,.i g.2)],[(1,.box [.i (lastP t g.1),.sl 1 ((lastE t g.1).map encI)])],2⟩
 ok:=fun g=>g.1 < t.st.length∧g.2<=(t.sg g.1).e.length∧∀ j,j < g.2->badS t g.1 j=false
 ms:=fun g=>(t.sg g.1).e.length-g.2
 rel:=some fun g h=>h.1=g.1 }
def sSets (t:Ty):Int:=sLS (sCounted t.st.length 6) (fSetS t) t.st.length 0
def sp125:Nat->List AV->Option AV
 | 61,[.sl _ rows,.int _ m]=>some (.i (sFirst (rows.map fun r=>sWithin (hdI r) 0 m)))
 | n,x=>spR n x
theorem c61r (l:List Int) (m:Int) (hl:l.length<=1000):PCall Tryd.prog G0 61 [.sl 1 (l.map encI),.i m] (.i (sFirst ((l.map encI).map fun r=>sWithin (hdI r) 0 m))):=by
 rw [List.map_map]
 exact c61 l m hl
theorem mk56 {a b c d e f g h:AV} {B:List (Nat × ABlk)} {x y:Int} (q:x=y):AS.mk [(1,a),(4,b),(6,c),(23,d),(24,e),(25,f),(55,g),(56,AV.i x),(57,h)] B 2=AS.mk [(1,a),(4,b),(6,c),(23,d),(24,e),(25,f),(55,g),(56,AV.i y),(57,h)] B 2:=by rw [q]
theorem sg_mem {t:Ty} {g:Nat} (h:g < t.st.length):t.sg g ∈ t.st:=by
 rw [Ty.sg,List.getD_eq_getElem?_getD,List.getElem?_eq_getElem h]
 exact List.getElem_mem h
abbrev zc64a (t:Ty):=[[AV.str t.name,AV.sl (1:Nat) (List.map encI t.sh),AV.i t.d0,AV.i t.d1,AV.i t.d2,AV.i t.d3,AV.i t.d4,AV.i t.d5,AV.i t.d6,AV.i t.d7,AV.i t.side,AV.sl (1:Nat) (List.map encI t.sq),AV.sl (2:Nat) (List.map encSg t.st)]]
abbrev zc64c (t:Ty) (g:Nat):=t.st.getD (g:Int).toNat default
abbrev zc64i (t:Ty):=(↑(List.map encI t.sq).length:Int)
abbrev zc64k (t:Ty) (g:Nat):=sFirst (List.map (fun (r:List AV)=>sWithin (hdI r) (0:Int) (100000000:Int)) (List.map encI (zc64c t g).e))
abbrev zc64b (t:Ty) (g:Nat):=[hdI [AV.i (sWithin (zc64c t g).p (1:Int) (100:Int))],hdI [AV.i (sWhen (decide ((zc64c t g).p<=lastP t g)) (11:Int))],hdI [AV.i (sWhen ((↑(List.map encI (zc64c t g).e).length:Int) != (zc64i t)) (2:Int))],hdI [AV.i (zc64k t g)]]
abbrev zc64d (t:Ty) (g_1:Nat × Nat):=List.map encI (t.sg g_1.fst).e
abbrev zc64e (t:Ty) (g':Nat × Nat):=[((1:Nat),AV.elt (13:Nat) (zc64a t) (0:Nat) (0:Nat)),((4:Nat),AV.ptr (1:Nat) (0:Nat)),((6:Nat),AV.elt (2:Nat) [[AV.i (t.sg g'.fst).p,AV.sl (1:Nat) (List.map encI (t.sg g'.fst).e)]] (0:Nat) (0:Nat)),((23:Nat),AV.sl (2:Nat) (List.map encSg t.st)),((24:Nat),AV.i (↑t.st.length:Int)),((25:Nat),AV.i (↑g'.fst:Int)),((55:Nat),AV.sl (1:Nat) (List.map encI (t.sg g'.fst).e)),((56:Nat),AV.i (↑(t.sg g'.fst).e.length:Int)),((57:Nat),AV.i (↑g'.snd:Int))]
abbrev zc64f (t:Ty) (g_1:Nat × Nat):=[((1:Nat),AV.elt (13:Nat) (zc64a t) (0:Nat) (0:Nat)),((4:Nat),AV.ptr (1:Nat) (0:Nat)),((6:Nat),AV.elt (2:Nat) [[AV.i (t.sg g_1.fst).p,AV.sl (1:Nat) (zc64d t g_1)]] (0:Nat) (0:Nat)),((23:Nat),AV.sl (2:Nat) (List.map encSg t.st)),((24:Nat),AV.i (↑t.st.length:Int)),((25:Nat),AV.i (↑g_1.fst:Int)),((55:Nat),AV.sl (1:Nat) (zc64d t g_1)),((56:Nat),AV.i (↑(t.sg g_1.fst).e.length:Int)),((57:Nat),AV.i ((↑g_1.snd:Int)+1))]
abbrev zc64g (g':Nat × Nat) (t:Ty):=(g'.fst < t.st.length∧g'.snd<=(t.sg g'.fst).e.length∧∀ (j:Nat),j < g'.snd->badS t g'.fst j=false)
abbrev zc64m (t:Ty) (g_1:Nat × Nat):=List.map encI (lastE t g_1.fst)
abbrev zc64h (t:Ty) (g_1:Nat × Nat):=cI (zc64d t g_1) (↑g_1.snd:Int).toNat < cI (zc64m t g_1) (↑g_1.snd:Int).toNat
abbrev zc64j (t:Ty) (g_1:Nat × Nat):=cI (zc64d t g_1) (↑g_1.snd:Int).toNat > cI (zc64d t g_1) ((↑g_1.snd:Int)-1).toNat
abbrev zc64l (t:Ty):=(↑(List.map encSg t.st).length:Int)
abbrev zc64n (t:Ty) (g':Nat × Nat):=[AV.i (lastP t g'.fst),AV.sl (1:Nat) (List.map encI (lastE t g'.fst))]
theorem c64 (t:Ty) (hn:t.st.length<=1000) (hq:t.sq.length<=1000) (hl:∀ s,s ∈ t.st->s.e.length<=1000):PCall Tryd.prog G0 64 [.agg (encTy t)] (.i (sSets t)):=by
 have key :
  PCall Tryd.prog G0 60 [AV.i (zc64l t),AV.i 6] (AV.i (sCounted (zc64l t) (6:Int)))∧((sCounted (zc64l t) (6:Int) != 0)=true->AV.i (sCounted (zc64l t) (6:Int))=AV.i (sSets t))∧((sCounted (zc64l t) (6:Int) != 0) =
  false->(0:Int)<=(zc64i t)∧(zc64i t)<=(zc64i t)∧(zc64i t)<=9223372036854775807∧(zc64i t) * (8:Int)<=140737488355328∧(∃ (g:Nat),(g<=t.st.length∧∀ (j:Nat),j < g->fSetS t j=(0:Int))∧AS.mk [(1,AV.elt
  13 [(encTy t)] 0 0),(4,AV.ptr 1 0),(23,AV.sl 2 (List.map encSg t.st)),(24,AV.i (zc64l t)),(25,AV.i 0)] [(1,ABlk.box [AV.i 0,AV.sl 1 (List.replicate (zc64i t).toNat [AV.i 0])])] 2=AS.mk [(1,AV.elt 13 [(encTy t)] 0 0),
  (4,AV.ptr 1 0),(23,AV.sl 2 (List.map encSg t.st)),(24,AV.i (↑t.st.length:Int)),(25,AV.i (g:Int))] [(1,ABlk.box [AV.i (lastP t g),AV.sl 1 (List.map encI (lastE t g))])] 2)∧∀ (g:Nat),(g<=t.st.length∧∀ (j:Nat),
  j < g->fSetS t j=(0:Int))->(decide ((g:Int) < (↑t.st.length:Int))=true->(0:Int)<=(g:Int)∧(g:Int) < (zc64l t)∧AV.agg (nthR (List.map encSg t.st) (g:Int).toNat)=AV.agg [AV.i (zc64c t g).p,AV.sl 1
  (List.map encI (zc64c t g).e)]∧PCall Tryd.prog G0 63 [AV.i (zc64c t g).p,AV.i 1,AV.i 100] (AV.i (sWithin (zc64c t g).p (1:Int) (100:Int)))∧PCall Tryd.prog G0 54 [AV.bool (decide ((zc64c t g).p<=lastP t g)),AV.i 11]
  (AV.i (sWhen (decide ((zc64c t g).p<=lastP t g)) (11:Int)))∧PCall Tryd.prog G0 54 [AV.bool ((↑(List.map encI (zc64c t g).e).length:Int) != (zc64i t)),AV.i 2] (AV.i (sWhen ((↑(List.map encI (zc64c t g).e).length:Int) !=
  (zc64i t)) (2:Int)))∧PCall Tryd.prog G0 61 [AV.sl 1 (List.map encI (zc64c t g).e),AV.i 100000000] (AV.i (zc64k t g))∧PCall Tryd.prog G0 35 [AV.sl 1 [[AV.i (sWithin (zc64c t g).p (1:Int) (100:Int))],[AV.i (sWhen (decide
  ((zc64c t g).p<=lastP t g)) (11:Int))],[AV.i (sWhen ((↑(List.map encI (zc64c t g).e).length:Int) != (zc64i t)) (2:Int))],[AV.i (zc64k t g)]]] (AV.i (sFirst (zc64b t g)))∧((sFirst (zc64b t g) != 0)=true->AV.i (sFirst
  (zc64b t g))=AV.i (sSets t))∧((sFirst (zc64b t g) != 0)=false->∃ (g0:Nat × Nat),(g0.fst < t.st.length∧g0.snd<=(t.sg g0.fst).e.length∧∀ (j:Nat),j < g0.snd->badS t g0.fst j=false)∧g0.fst=g0.fst∧AS.mk [(1,
  AV.elt 13 [(encTy t)] 0 0),(4,AV.ptr 1 0),(6,AV.elt 2 [[AV.i (zc64c t g).p,AV.sl 1 (List.map encI (zc64c t g).e)]] 0 0),(23,AV.sl 2 (List.map encSg t.st)),(24,AV.i (↑t.st.length:Int)),(25,AV.i (g:Int)),(55,AV.sl 1
  (List.map encI (zc64c t g).e)),(56,AV.i (↑(List.map encI (zc64c t g).e).length:Int)),(57,AV.i 0)] [(1,ABlk.box [AV.i (lastP t g),AV.sl 1 (List.map encI (lastE t g))])] 2=AS.mk [(1,AV.elt 13 [(encTy t)] 0 0),(4,AV.ptr 1
  0),(6,AV.elt 2 [[AV.i (t.sg g0.fst).p,AV.sl 1 (List.map encI (t.sg g0.fst).e)]] 0 0),(23,AV.sl 2 (List.map encSg t.st)),(24,AV.i (↑t.st.length:Int)),(25,AV.i (↑g0.fst:Int)),(55,AV.sl 1 (List.map encI (t.sg
  g0.fst).e)),(56,AV.i (↑(t.sg g0.fst).e.length:Int)),(57,AV.i (↑g0.snd:Int))] [(1,ABlk.box [AV.i (lastP t g0.fst),AV.sl 1 (List.map encI (lastE t g0.fst))])] 2∧∀ (g_1:Nat × Nat),(g_1.fst < t.st.length∧g_1.snd ≤
  (t.sg g_1.fst).e.length∧∀ (j:Nat),j < g_1.snd->badS t g_1.fst j=false)->g_1.fst=g0.fst->(decide ((↑g_1.snd:Int) < (↑(t.sg g_1.fst).e.length:Int))=true->(0:Int)<=(↑g_1.snd:Int)∧(↑g_1.snd:Int) < (↑(zc64d t
  g_1).length:Int)∧nth (nthR (zc64d t g_1) (↑g_1.snd:Int).toNat) 0=AV.i (cI (zc64d t g_1) (↑g_1.snd:Int).toNat)∧(decide ((↑g_1.snd:Int) > 0)=true->(decide (zc64j t g_1)=true->In64 ((↑g_1.snd:Int)-1)∧(0 :
  Int)<=(↑g_1.snd:Int)-1∧(↑g_1.snd:Int)-1 < (↑(zc64d t g_1).length:Int)∧(true=false->false=true)∧AV.bool (decide ((↑g_1.snd:Int) > 0))=AV.bool true∧nth (nthR (zc64d t g_1) ((↑g_1.snd:Int)-1).toNat) 0 =
  AV.i (cI (zc64d t g_1) ((↑g_1.snd:Int)-1).toNat)∧AV.bool (decide (zc64j t g_1))=AV.bool true∧(true=true->AV.i 21=AV.i (sSets t))∧(true=false->In64 ((↑g_1.snd:Int)+1)∧∃ (g':Nat × Nat),(zc64g g' t) ∧
  g'.fst=g0.fst∧(t.sg g'.fst).e.length-g'.snd < (t.sg g_1.fst).e.length-g_1.snd∧AS.mk (zc64f t g_1) [((1:Nat),ABlk.box [AV.i (lastP t g_1.fst),AV.sl (1:Nat) (zc64m t g_1)])] (2:Nat)=AS.mk (zc64e t g') [((1:Nat),
  ABlk.box (zc64n t g'))] (2:Nat)))∧(decide (zc64j t g_1)=false->In64 ((↑g_1.snd:Int)-1)∧(0:Int)<=(↑g_1.snd:Int)-1∧(↑g_1.snd:Int)-1 < (↑(zc64d t g_1).length:Int)∧(0:Int)<=(↑g_1.snd:Int)∧(↑g_1.snd
  : Int) < (↑(zc64m t g_1).length:Int)∧AV.bool (decide ((↑g_1.snd:Int) > 0))=AV.bool true∧nth (nthR (zc64d t g_1) ((↑g_1.snd:Int)-1).toNat) 0=AV.i (cI (zc64d t g_1) ((↑g_1.snd:Int)-1).toNat)∧AV.bool (decide
  (zc64j t g_1))=AV.bool false∧nth (nthR (zc64m t g_1) (↑g_1.snd:Int).toNat) 0=AV.i (cI (zc64m t g_1) (↑g_1.snd:Int).toNat)∧(decide (zc64h t g_1)=true->AV.i 21=AV.i (sSets t))∧(decide (zc64h t g_1)=false->In64
  ((↑g_1.snd:Int)+1)∧∃ (g':Nat × Nat),(zc64g g' t)∧g'.fst=g0.fst∧(t.sg g'.fst).e.length-g'.snd < (t.sg g_1.fst).e.length-g_1.snd∧AS.mk (zc64f t g_1) [((1:Nat),ABlk.box [AV.i (lastP t g_1.fst),AV.sl (1:Nat)
  (zc64m t g_1)])] (2:Nat)=AS.mk (zc64e t g') [((1:Nat),ABlk.box (zc64n t g'))] (2:Nat))))∧(decide ((↑g_1.snd:Int) > 0)=false->(false=true->(false=true->false=true)∧(true=false->false=true)∧AV.bool
  (decide ((↑g_1.snd:Int) > 0))=AV.bool false∧AV.bool false=AV.bool true∧(true=true->AV.i 21=AV.i (sSets t))∧(true=false->In64 ((↑g_1.snd:Int)+1)∧∃ (g':Nat × Nat),(zc64g g' t)∧g'.fst=g0.fst∧(t.sg
  g'.fst).e.length-g'.snd < (t.sg g_1.fst).e.length-g_1.snd∧AS.mk [(1,AV.elt 13 (zc64a t) 0 (0:Nat)),(4,AV.ptr 1 (0:Nat)),(6,AV.elt 2 [[AV.i (t.sg g_1.fst).p,AV.sl (1:Nat) (zc64d t g_1)]] 0 (0:Nat)),(23,AV.sl 2
  (List.map encSg t.st)),(24,AV.i (↑t.st.length:Int)),(25,AV.i (↑g_1.fst:Int)),(55,AV.sl 1 (zc64d t g_1)),(56,AV.i (↑(t.sg g_1.fst).e.length:Int)),(57,AV.i ((↑g_1.snd:Int)+1))] [(1,ABlk.box [AV.i (lastP t
  g_1.fst),AV.sl (1:Nat) (zc64m t g_1)])] 2=AS.mk [(1,AV.elt 13 (zc64a t) 0 (0:Nat)),(4,AV.ptr 1 (0:Nat)),(6,AV.elt 2 [[AV.i (t.sg g'.fst).p,AV.sl (1:Nat) (List.map encI (t.sg g'.fst).e)]] 0 (0:Nat)),(23,AV.sl 2
  (List.map encSg t.st)),(24,AV.i (↑t.st.length:Int)),(25,AV.i (↑g'.fst:Int)),(55,AV.sl 1 (List.map encI (t.sg g'.fst).e)),(56,AV.i (↑(t.sg g'.fst).e.length:Int)),(57,AV.i (↑g'.snd:Int))] [(1,ABlk.box (zc64n t
  g'))] 2))∧(false=false->(false=true->false=true)∧(0:Int)<=(↑g_1.snd:Int)∧(↑g_1.snd:Int) < (↑(zc64m t g_1).length:Int)∧AV.bool (decide ((↑g_1.snd:Int) > 0))=AV.bool false∧AV.bool false=AV.bool false
  ∧ nth (nthR (zc64m t g_1) (↑g_1.snd:Int).toNat) 0=AV.i (cI (zc64m t g_1) (↑g_1.snd:Int).toNat)∧(decide (zc64h t g_1)=true->AV.i 21=AV.i (sSets t))∧(decide (zc64h t g_1)=false->In64 ((↑g_1.snd:Int)+1)∧∃ (g' :
  Nat × Nat),(zc64g g' t)∧g'.fst=g0.fst∧(t.sg g'.fst).e.length-g'.snd < (t.sg g_1.fst).e.length-g_1.snd∧AS.mk [(1,AV.elt (13:Nat) (zc64a t) (0:Nat) (0:Nat)),((4:Nat),AV.ptr (1:Nat) (0:Nat)),((6:Nat),
  AV.elt (2:Nat) [[AV.i (t.sg g_1.fst).p,AV.sl (1:Nat) (zc64d t g_1)]] (0:Nat) (0:Nat)),((23:Nat),AV.sl (2:Nat) (List.map encSg t.st)),((24:Nat),AV.i (↑t.st.length:Int)),((25:Nat),AV.i (↑g_1.fst:Int)),((55
  : Nat),AV.sl (1:Nat) (zc64d t g_1)),((56:Nat),AV.i (↑(t.sg g_1.fst).e.length:Int)),((57:Nat),AV.i ((↑g_1.snd:Int)+1))] [(1,ABlk.box [AV.i (lastP t g_1.fst),AV.sl (1:Nat) (zc64m t g_1)])] 2=AS.mk [(1,AV.elt
  (13:Nat) (zc64a t) (0:Nat) (0:Nat)),((4:Nat),AV.ptr (1:Nat) (0:Nat)),((6:Nat),AV.elt (2:Nat) [[AV.i (t.sg g'.fst).p,AV.sl (1:Nat) (List.map encI (t.sg g'.fst).e)]] (0:Nat) (0:Nat)),((23:Nat),AV.sl (2
  : Nat) (List.map encSg t.st)),((24:Nat),AV.i (↑t.st.length:Int)),((25:Nat),AV.i (↑g'.fst:Int)),((55:Nat),AV.sl (1:Nat) (List.map encI (t.sg g'.fst).e)),((56:Nat),AV.i (↑(t.sg g'.fst).e.length:Int)),((57 :
  Nat),AV.i (↑g'.snd:Int))] [(1,ABlk.box (zc64n t g'))] (2:Nat)))))∧(decide ((↑g_1.snd:Int) < (↑(t.sg g_1.fst).e.length:Int))=false->In64 ((↑g_1.fst:Int)+1)∧∃ (g':Nat),(g'<=t.st.length∧∀ (j:Nat),j < g' →
  fSetS t j=(0:Int))∧t.st.length-g' < t.st.length-g∧AS.mk [(1,AV.elt 13 [(encTy t)] 0 0),(4,AV.ptr 1 0),(23,AV.sl 2 (List.map encSg t.st)),(24,AV.i (↑t.st.length:Int)),(25,AV.i ((↑g_1.fst:Int)+1))] [(1,
  ABlk.box [AV.i (t.sg g_1.fst).p,AV.sl 1 (zc64d t g_1)])] 2=AS.mk [(1,AV.elt 13 [(encTy t)] 0 0),(4,AV.ptr 1 0),(23,AV.sl 2 (List.map encSg t.st)),(24,AV.i (↑t.st.length:Int)),(25,AV.i (↑g':Int))] [(1,ABlk.box [AV.i
  (lastP t g'),AV.sl 1 (List.map encI (lastE t g'))])] 2)))∧(decide ((g:Int) < (↑t.st.length:Int))=false->AV.i 0=AV.i (sSets t))):=by
   delta zc64a zc64b zc64c zc64d zc64e zc64f zc64g zc64h zc64i zc64j zc64k zc64l zc64m zc64n
   have hlm:(List.map encSg t.st).length=t.st.length:=List.length_map _
   have hlq:(List.map encI t.sq).length=t.sq.length:=List.length_map _
   refine ⟨c60 _ _,fun h=>?_,fun h=>⟨by omega,by omega,by omega,by omega,⟨0,⟨by omega,by intros;omega⟩,?_⟩,fun g ⟨hg,ha⟩=>⟨fun hd=>?_,fun hd=>?_⟩⟩⟩
   · rw [hlm] at h ⊢
     exact congrArg AV.i (ls_first h).symm
   · have e1:List.replicate ((List.map encI t.sq).length:Int).toNat [AV.i 0]=List.map encI (lastE t 0):=by
      rw [Int.toNat_natCast,hlq]
      show _=List.map encI (List.replicate t.sq.length 0)
      rw [List.map_replicate]
      rfl
     rw [e1,hlm]
     rfl
   · have hlt:=lt_of_dec hd
     have hle:(List.map encI (t.sg g).e).length=(t.sg g).e.length:=List.length_map _
     have hS:=hl _ (sg_mem hlt)
     rw [hlm] at h
     have hc:sFirst [sWithin (t.sg g).p 1 100,sWhen (decide ((t.sg g).p<=lastP t g)) 11,sWhen (((List.map encI (t.sg g).e).length:Int) != ((List.map encI t.sq).length:Int)) 2,sFirst (List.map (fun r=>sWithin (hdI r) 0 100000000) (List.map encI (t.sg g).e))]=cSetS t g:=by
      unfold cSetS
      rw [<- hle,<- hlq,List.map_map]
      rfl
     refine ⟨by omega,by omega,congrArg AV.agg (row_at encSg hlt),c63 _ _ _,c54 _ _,c54 _ _,c61r _ _ hS,c35 [_,_,_,_] (by simp),fun hx=>?_,fun hx=>⟨(g,0),⟨hlt,by omega,fun _ hj=>absurd hj (by omega)⟩,rfl,?_,fun ⟨h1,k⟩ ⟨q1,q2,q3⟩ q4=>⟨fun hy=>?_,fun hy=>?_⟩⟩⟩
     · have hx:(cSetS t g != 0)=true:=by rw [<- hc];exact hx
       have e1:fSetS t g=cSetS t g:=ls_first hx
       refine congrArg AV.i ?_
       rw [sSets,ls_hit (i:=g) h hd ha (by rw [e1];exact hx),e1]
       exact hc
     · exact mk56 (congrArg Nat.cast hle)
     · have hx:(cSetS t g != 0)=false:=by rw [<- hc];exact hx
       clear hc
       have q4:h1=g:=q4
       have q3:∀ j,j < k->badS t h1 j=false:=q3
       have hy:decide ((k:Int) < (t.sg h1).e.length)=true:=hy
       clear q1 q2
       subst q4
       have hlt2:=lt_of_dec hy
       have hlE:(t.sg h1).e.length=t.sq.length:=by
        have hcz:cSetS t h1=0:=by simpa using hx
        unfold cSetS at hcz
        exact first4_3 hcz
       have hlL:(lastE t h1).length=t.sq.length:=by
        unfold lastE
        split
        · exact List.length_replicate
        · have hcz:=(ls_zero (ha (h1-1) (by omega))).1
          unfold cSetS at hcz
          exact first4_3 hcz
       have hF:badS t h1 k=true->AV.i 21=AV.i (sSets t):=fun hb=>by
        have e1:fSetS t h1=21:=by
         rw [fSetS,ls_hit (i:=k) hx hy (fun j hj=>by rw [q3 j hj];rfl) (by rw [hb];decide),hb]
         rfl
        rw [sSets,ls_hit (i:=h1) h hd ha (by rw [e1];decide),e1]
       have hN:badS t h1 k=false->∃ (k':Nat),(h1 < t.st.length∧k'<=(t.sg h1).e.length∧∀ (j:Nat),j < k'->badS t h1 j=false)∧(t.sg h1).e.length-k' < (t.sg h1).e.length-k∧(k:Int)+1=(k':Int):=fun hb =>
        ⟨k+1,⟨hlt,hlt2,fun j hj=>by by_cases e:j=k;(· rw [e];exact hb);(· exact q3 j (by omega))⟩,by omega,rfl⟩
       have hb:badS t h1 k=(((decide ((k:Int) > 0)) && decide (cI (List.map encI (t.sg h1).e) ((k:Int)).toNat > cI (List.map encI (t.sg h1).e) ((k:Int)-1).toNat)) || (decide (cI (List.map encI (t.sg h1).e) ((k:Int)).toNat < cI (List.map encI (lastE t h1)) ((k:Int)).toNat))):=by
        rw [cI_map,cI_map,cI_map]
        unfold badS up
        congr 1
        by_cases e0:k=0
        · rw [if_pos e0,e0];rfl
        · rw [if_neg e0,show ((k:Int)-1).toNat=k-1 by omega,show decide ((k:Int) > 0)=true from decide_eq_true (by omega)];rfl
       have hlL2:(List.map encI (lastE t h1)).length=(lastE t h1).length:=List.length_map _
       have hat:=cI_at hlt2
       have hat2:(k:Int) > 0->nth (nthR (List.map encI (t.sg h1).e) ((k:Int)-1).toNat) 0=AV.i (cI (List.map encI (t.sg h1).e) ((k:Int)-1).toNat):=fun _=>cI_at (by omega)
       have hat3:nth (nthR (List.map encI (lastE t h1)) ((k:Int)).toNat) 0=AV.i (cI (List.map encI (lastE t h1)) ((k:Int)).toNat):=cI_at (by omega)
       rw [hb] at hF hN
       have h64:In64 ((k:Int)+1):=by unfold In64;omega
       have h65:In64 ((k:Int)-1):=by unfold In64;omega
       clear hb h hx ha q3 hd hy
       dsimp only
       refine ⟨by omega,by omega,hat,?_⟩
       by_cases hk:(k:Int) > 0
       · have hA:decide ((k:Int) > 0)=true:=decide_eq_true hk
         have hat2:=hat2 hk
         rw [hA] at hF hN ⊢
         generalize hC:decide (cI (List.map encI (t.sg h1).e) ((k:Int)).toNat > cI (List.map encI (t.sg h1).e) ((k:Int)-1).toNat)=c at hF hN ⊢
         generalize hD:decide (cI (List.map encI (t.sg h1).e) ((k:Int)).toNat < cI (List.map encI (lastE t h1)) ((k:Int)).toNat)=d at hF hN ⊢
         clear hA hC hD
         obtain ⟨_,_⟩:=h64
         obtain ⟨_,_⟩:=h65
         cases c <;> cases d
         all_goals repeat' (first | apply And.intro | (intro h;cases h;done) | intro _)
         all_goals try first
          | omega
          | (unfold In64;omega)
          | rfl
          | exact hat2
          | exact hat3
          | exact hF rfl
          | (obtain ⟨g',q1,q2,q3⟩:=hN rfl;exact ⟨(h1,g'),q1,rfl,q2,by rw [q3]⟩)
       · have hA:decide ((k:Int) > 0)=false:=decide_eq_false hk
         rw [hA] at hF hN ⊢
         generalize hC:decide (cI (List.map encI (t.sg h1).e) ((k:Int)).toNat > cI (List.map encI (t.sg h1).e) ((k:Int)-1).toNat)=c at hF hN ⊢
         generalize hD:decide (cI (List.map encI (t.sg h1).e) ((k:Int)).toNat < cI (List.map encI (lastE t h1)) ((k:Int)).toNat)=d at hF hN ⊢
         clear hA hC hD
         obtain ⟨_,_⟩:=h64
         obtain ⟨_,_⟩:=h65
         cases d
         all_goals repeat' (first | apply And.intro | (intro h;cases h;done) | intro _)
         all_goals try first
          | omega
          | (unfold In64;omega)
          | rfl
          | exact hat3
          | exact hF rfl
          | (obtain ⟨g',q1,q2,q3⟩:=hN rfl;exact ⟨(h1,g'),q1,rfl,q2,by rw [q3]⟩)
     · have hx:(cSetS t g != 0)=false:=by rw [<- hc];exact hx
       clear hc
       have q4:h1=g:=q4
       have q3:∀ j,j < k->badS t h1 j=false:=q3
       have q2:k<=(t.sg h1).e.length:=q2
       have hy:decide ((k:Int) < (t.sg h1).e.length)=false:=hy
       subst q4
       have ez:fSetS t h1=0:=ls_end (i:=k) hx hy q2 (fun j hj=>by rw [q3 j hj];rfl)
       exact ⟨by unfold In64;dsimp only;omega,h1+1,⟨hlt,all_succ ha (by rw [ez];rfl)⟩,by omega,rfl⟩
   · rw [hlm] at h
     exact congrArg AV.i (ls_end h hd hg ha).symm
 exact c_of Tryd.f64 ({ fzB (mkB sp125 64 [(7,1,rdL 2 encSg t.st 2 true),(13,2,rdJ),(14,9,rdJ),(14,18,rdJ)] (fun j=>if j.beq 0 then some (la125a t) else if j.beq 2 then some (la125b t) else none)) with split:=fun j=>if j.beq 14 then 1 else 0 }) (by kernel_rfl) (by kernel_rfl) (by kernel_rfl) (by kernel_rfl) key (by kernel_rfl)
end Go.Proofs.YtnbhfmaamloodaaDoor
namespace Go.Proofs.YtnbhfmaamloodaaDoor
open Go Go.Av Go.RowKit
def cTyS1 (t:Ty):Int:=sFirst [sWhen (!sName t.name) 8,sCounted t.sh.length 8,sRanged t.sh 1000,sWhen (sumW t.sh t.sh.length != 1000) 1]
def cTyS2 (t:Ty):Int:=sFirst [sRanged t.dir 2000,sWithin t.side 0 1000,sCounted t.sq.length 8,sRanged t.sq 100000000000]
def sTyS (t:Ty):Int:=if cTyS1 t != 0 then cTyS1 t else sLS (cTyS2 t) (fSq t.sq) t.sq.length (sSets t)
theorem mk3 {a:AV} {x y:Int} (h:x=y):AS.mk [(1,a),(3,AV.i x)] [] 1=AS.mk [(1,a),(3,AV.i y)] [] 1:=by rw [h]
theorem mk4 {a:AV} {x y:Int} (h:x=y):AS.mk [(1,a),(4,AV.i x)] [] 1=AS.mk [(1,a),(4,AV.i y)] [] 1:=by rw [h]
theorem mk5 {a:AV} {x y:Int} (h:x=y):AS.mk [(1,a),(5,AV.i x)] [] 1=AS.mk [(1,a),(5,AV.i y)] [] 1:=by rw [h]
theorem mk49 {a b d:AV} {x y:Int} (h:x=y):AS.mk [(1,a),(48,b),(49,AV.i x),(50,d)] [] 1=AS.mk [(1,a),(48,b),(49,AV.i y),(50,d)] [] 1:=by rw [h]
def sp53 (t:Ty):Nat->List AV->Option AV
 | 59,[.str s]=>some (.bool (sName s))
 | 62,_=>some (.i (sumW t.sh t.sh.length))
 | 64,_=>some (.i (sSets t))
 | 61,[.sl _ rows,.int _ m]=>some (.i (sFirst (rows.map fun r=>sWithin (hdI r) 0 m)))
 | n,x=>spR n x
def la53 (t:Ty):LA:={
 pre:=[.keep [1,48,49,50] [],.bound 1],post:=[.keep [1,48,49,50] [],.bound 1]
 Gh:=Nat
 st:=fun i=>⟨[(1,.elt 13 [encTy t] 0 0),(48,.sl 1 (t.sq.map encI)),(49,.i t.sq.length),(50,.i i)],[],1⟩
 ok:=fun i=>i<=t.sq.length∧∀ k,k < i->fSq t.sq k=0
 ms:=fun i=>t.sq.length-i }
def cut53 (t:Ty):Nat->Option (AS->AS):=fun j=>if j.beq 1 then some (cutA [1,3] [] 1 3 fun _=>.i (cTyS1 t)) else if j.beq 4 then some (cutA [1,4] [] 1 4 fun _=>.i (cTyS2 t)) else none
def gs53:Nat->List GS:=fun j=>if j.beq 1 then [.keep [1,3] [],.bound 1] else if j.beq 4 then [.keep [1,4] [],.bound 1] else []
abbrev zc36a (t:Ty):=sFirst [sWithin (hdI [AV.i t.d0]) (0:Int) (2000:Int),sWithin (hdI [AV.i t.d1]) (0:Int) (2000:Int),sWithin (hdI [AV.i t.d2]) (0:Int) (2000:Int),sWithin (hdI [AV.i t.d3]) (0:Int) (2000:Int),sWithin (hdI [AV.i t.d4]) (0:Int) (2000:Int),sWithin (hdI [AV.i t.d5]) (0:Int) (2000:Int),sWithin (hdI [AV.i t.d6]) (0:Int) (2000:Int),sWithin (hdI [AV.i t.d7]) (0:Int) (2000:Int)]
abbrev zc36b (t:Ty) (g:Nat):=[(1,AV.elt 13 [(encTy t)] 0 0),(48,AV.sl 1 (List.map encI t.sq)),(49,AV.i (↑t.sq.length:Int)),(50,AV.i ((g:Int)+1))]
abbrev zc36c (t:Ty) (g':Nat):=[(1,AV.elt 13 [(encTy t)] 0 0),(48,AV.sl 1 (List.map encI t.sq)),(49,AV.i (↑t.sq.length:Int)),(50,AV.i (↑g':Int))]
abbrev zc36j (t:Ty) (g:Nat):=cI (List.map encI t.sq) (g:Int).toNat<=cI (List.map encI t.sq) ((g:Int)-1).toNat
abbrev zc36g (g':Nat) (t:Ty):=(g'<=t.sq.length∧∀ (k:Nat),k < g'->fSq t.sq k=(0:Int))
abbrev zc36d (t:Ty) (g:Nat):=(decide (zc36j t g)=false->In64 ((g:Int)+1)∧∃ (g':Nat),(zc36g g' t)∧t.sq.length-g' < t.sq.length-g∧AS.mk (zc36b t g) [] 1=AS.mk (zc36c t g') [] 1)
abbrev zc36e (t:Ty):=sFirst (List.map (fun (r:List AV)=>sWithin (hdI r) (0:Int) (100000000000:Int)) (List.map encI t.sq))
abbrev zc36i (t:Ty):=sFirst (List.map (fun (r:List AV)=>sWithin (hdI r) (0:Int) (1000:Int)) (List.map encI t.sh))
abbrev zc36f (t:Ty):=sFirst [hdI [AV.i (sWhen (!sName t.name) (8:Int))],hdI [AV.i (sCounted (↑(List.map encI t.sh).length:Int) (8:Int))],hdI [AV.i (zc36i t)],hdI [AV.i (sWhen (sumW t.sh t.sh.length != 1000) (1:Int))]]
abbrev zc36h (t:Ty):=(↑(List.map encI t.sq).length:Int)
theorem c36 (t:Ty) (hn:t.st.length<=1000) (hs:t.sh.length<=1000) (hq:t.sq.length<=1000) (hl:∀ s,s ∈ t.st->s.e.length<=1000) (hN:t.name.length<=1000000):PCall Tryd.prog G0 36 [.agg (encTy t)] (.i (sTyS t)):=by
 have key :
  (PCall Tryd.prog G0 59 [AV.str t.name] (AV.bool (sName t.name))∧PCall Tryd.prog G0 54 [AV.bool !sName t.name,AV.i 8] (AV.i (sWhen (!sName t.name) (8:Int)))∧PCall Tryd.prog G0 60 [AV.i (↑(List.map encI t.sh).length:Int),
  AV.i 8] (AV.i (sCounted (↑(List.map encI t.sh).length:Int) (8:Int)))∧PCall Tryd.prog G0 61 [AV.sl 1 (List.map encI t.sh),AV.i 1000] (AV.i (zc36i t))∧PCall Tryd.prog G0 62 [AV.sl 1 (List.map encI t.sh)] (AV.i (sumW t.sh
  t.sh.length))∧PCall Tryd.prog G0 54 [AV.bool (sumW t.sh t.sh.length != 1000),AV.i 1] (AV.i (sWhen (sumW t.sh t.sh.length != 1000) (1:Int)))∧PCall Tryd.prog G0 35 [AV.sl 1 [[AV.i (sWhen (!sName t.name) (8:Int))],[AV.i
  (sCounted (↑(List.map encI t.sh).length:Int) (8:Int))],[AV.i (zc36i t)],[AV.i (sWhen (sumW t.sh t.sh.length != 1000) (1:Int))]]] (AV.i (zc36f t))∧AS.mk [(1,AV.elt 13 [(encTy t)] 0 0),(3,AV.i (zc36f t))] [] 1=AS.mk
  [(1,AV.elt 13 [(encTy t)] 0 0),(3,AV.i (cTyS1 t))] [] 1)∧((cTyS1 t != 0)=true->AV.i (cTyS1 t)=AV.i (sTyS t))∧((cTyS1 t != 0)=false->(PCall Tryd.prog G0 61 [AV.sl 1 [[AV.i t.d0],[AV.i t.d1],[AV.i t.d2],[AV.i t.d3],
  [AV.i t.d4],[AV.i t.d5],[AV.i t.d6],[AV.i t.d7]],AV.i 2000] (AV.i (zc36a t))∧PCall Tryd.prog G0 63 [AV.i t.side,AV.i 0,AV.i 1000] (AV.i (sWithin t.side (0:Int) (1000:Int)))∧PCall Tryd.prog G0 60 [AV.i (zc36h t),AV.i
  8] (AV.i (sCounted (zc36h t) (8:Int)))∧PCall Tryd.prog G0 61 [AV.sl 1 (List.map encI t.sq),AV.i 100000000000] (AV.i (zc36e t))∧PCall Tryd.prog G0 35 [AV.sl 1 [[AV.i (zc36a t)],[AV.i (sWithin t.side (0:Int) (1000:Int))],
  [AV.i (sCounted (zc36h t) (8:Int))],[AV.i (zc36e t)]]] (AV.i (sFirst [hdI [AV.i (zc36a t)],hdI [AV.i (sWithin t.side (0:Int) (1000:Int))],hdI [AV.i (sCounted (zc36h t) (8:Int))],hdI [AV.i (zc36e t)]]))∧AS.mk [(1,
  AV.elt 13 [(encTy t)] 0 0),(4,AV.i (sFirst [hdI [AV.i (zc36a t)],hdI [AV.i (sWithin t.side (0:Int) (1000:Int))],hdI [AV.i (sCounted (zc36h t) (8:Int))],hdI [AV.i (zc36e t)]]))] [] 1=AS.mk [(1,AV.elt 13 [(encTy t)] 0
  0),(4,AV.i (cTyS2 t))] [] 1)∧((cTyS2 t != 0)=true->AV.i (cTyS2 t)=AV.i (sTyS t))∧((cTyS2 t != 0)=false->(∃ (g:Nat),(g<=t.sq.length∧∀ (k:Nat),k < g->fSq t.sq k=(0:Int))∧AS.mk [(1,AV.elt 13 [(encTy t)]
  0 0),(48,AV.sl 1 (List.map encI t.sq)),(49,AV.i (zc36h t)),(50,AV.i 0)] [] 1=AS.mk [(1,AV.elt 13 [(encTy t)] 0 0),(48,AV.sl 1 (List.map encI t.sq)),(49,AV.i (↑t.sq.length:Int)),(50,AV.i (g:Int))] [] 1)∧∀ (g :
  Nat),(g<=t.sq.length∧∀ (k:Nat),k < g->fSq t.sq k=(0:Int))->(decide ((g:Int) < (↑t.sq.length:Int))=true->(0:Int)<=(g:Int)∧(g:Int) < (zc36h t)∧nth (nthR (List.map encI t.sq) (g:Int).toNat) 0 =
  AV.i (cI (List.map encI t.sq) (g:Int).toNat)∧(((g:Int) == 0)=true->((cI (List.map encI t.sq) (g:Int).toNat != 0)=true->(true=false->false=true)∧AV.bool ((g:Int) == 0)=AV.bool true∧AV.bool (cI
  (List.map encI t.sq) (g:Int).toNat != 0)=AV.bool true∧(true=true->AV.i 11=AV.i (sTyS t))∧(true=false->In64 ((g:Int)+1)∧∃ (g':Nat),(zc36g g' t)∧t.sq.length-g' < t.sq.length-g∧AS.mk (zc36b t g) [] 1
  = AS.mk (zc36c t g') [] 1))∧((cI (List.map encI t.sq) (g:Int).toNat != 0)=false->(decide ((g:Int) > 0)=true->In64 ((g:Int)-1)∧(0:Int)<=(g:Int)-1∧(g:Int)-1 < (zc36h t)∧AV.bool ((g:Int) == 0)
  = AV.bool true∧AV.bool (cI (List.map encI t.sq) (g:Int).toNat != 0)=AV.bool false∧AV.bool (decide ((g:Int) > 0))=AV.bool true∧nth (nthR (List.map encI t.sq) ((g:Int)-1).toNat) 0=AV.i (cI (List.map encI t.sq)
  ((g:Int)-1).toNat)∧(decide (zc36j t g)=true->AV.i 11=AV.i (sTyS t))∧(zc36d t g))∧(decide ((g:Int) > 0)=false->(false=true->false=true)∧AV.bool ((g:Int) == 0)=AV.bool true∧AV.bool (cI (List.map
  encI t.sq) (g:Int).toNat != 0)=AV.bool false∧AV.bool (decide ((g:Int) > 0))=AV.bool false∧(false=true->AV.i 11=AV.i (sTyS t))∧(false=false->In64 ((g:Int)+1)∧∃ (g':Nat),(zc36g g' t)∧t.sq.length -
  g' < t.sq.length-g∧AS.mk (zc36b t g) [] 1=AS.mk (zc36c t g') [] 1))))∧(((g:Int) == 0)=false->(false=true->(false=true->false=true)∧(true=false->false=true)∧AV.bool ((g:Int) == 0)=AV.bool false ∧
  AV.bool false=AV.bool true∧(true=true->AV.i 11=AV.i (sTyS t))∧(true=false->In64 ((g:Int)+1)∧∃ (g':Nat),(zc36g g' t)∧t.sq.length-g' < t.sq.length-g∧AS.mk (zc36b t g) [] 1=AS.mk (zc36c t g') [] 1)) ∧
  (false=false->(decide ((g:Int) > 0)=true->(false=true->false=true)∧In64 ((g:Int)-1)∧(0:Int)<=(g:Int)-1∧(g:Int)-1 < (zc36h t)∧AV.bool ((g:Int) == 0)=AV.bool false∧AV.bool false =
  AV.bool false∧AV.bool (decide ((g:Int) > 0))=AV.bool true∧nth (nthR (List.map encI t.sq) ((g:Int)-1).toNat) 0=AV.i (cI (List.map encI t.sq) ((g:Int)-1).toNat)∧(decide (zc36j t g)=true->AV.i 11=AV.i (sTyS
  t))∧(zc36d t g))∧(decide ((g:Int) > 0)=false->(false=true->false=true)∧(false=true->false=true)∧AV.bool ((g:Int) == 0)=AV.bool false∧AV.bool false=AV.bool false∧AV.bool (decide ((g:Int) > 0)) =
  AV.bool false∧(false=true->AV.i 11=AV.i (sTyS t))∧(false=false->In64 ((g:Int)+1)∧∃ (g':Nat),(zc36g g' t)∧t.sq.length-g' < t.sq.length-g∧AS.mk (zc36b t g) [] 1=AS.mk (zc36c t g') [] 1)))))∧(decide
  ((g:Int) < (↑t.sq.length:Int))=false->PCall Tryd.prog G0 64 [AV.agg (encTy t)] (AV.i (sSets t))∧AV.i (sSets t)=AV.i (sTyS t)))):=by
   delta zc36a zc36b zc36c zc36d zc36e zc36f zc36g zc36h zc36i zc36j
   have hls:(List.map encI t.sh).length=t.sh.length:=List.length_map _
   have hlq:(List.map encI t.sq).length=t.sq.length:=List.length_map _
   have e1:sFirst [sWhen (!sName t.name) 8,sCounted ((List.map encI t.sh).length:Int) 8,sFirst (List.map (fun r=>sWithin (hdI r) 0 1000) (List.map encI t.sh)),sWhen (sumW t.sh t.sh.length != 1000) 1]=cTyS1 t:=by
    unfold cTyS1
    rw [hls,List.map_map]
    rfl
   have e2:sFirst [sRanged t.dir 2000,sWithin t.side 0 1000,sCounted ((List.map encI t.sq).length:Int) 8,sFirst (List.map (fun r=>sWithin (hdI r) 0 100000000000) (List.map encI t.sq))]=cTyS2 t:=by
    unfold cTyS2
    rw [hlq,List.map_map]
    rfl
   refine ⟨⟨c59 _ hN,c54 _ _,c60 _ _,c61r _ _ hs,c62 _ (by omega),c54 _ _,c35 [_,_,_,_] (by simp),mk3 e1⟩,fun h=>?_,fun h=>⟨⟨c61r t.dir 2000 (show (8:Nat)<=1000 by decide),c63 _ _ _,c60 _ _,c61r _ _ hq,c35 [_,_,_,_] (by simp),mk4 e2⟩,fun h2=>?_,fun h2=>⟨⟨0,⟨by omega,by intros;omega⟩,mk49 (congrArg Nat.cast hlq)⟩,fun g ⟨hg,ha⟩=>⟨fun hd=>?_,fun hd=>?_⟩⟩⟩⟩
   · exact congrArg AV.i (if_pos h).symm
   · rw [sTyS,if_neg (by rw [h];decide),ls_first h2]
   · have hlt:=lt_of_dec hd
     have hF:sqBad t.sq g=true->AV.i 11=AV.i (sTyS t):=fun hb=>by
      have e:fSq t.sq g=11:=by rw [fSq,if_pos hb]
      rw [sTyS,if_neg (by rw [h];decide),ls_hit (f:=fSq t.sq) h2 hd ha (by rw [e];decide),e]
     have hN:sqBad t.sq g=false->∃ (g':Nat),(g'<=t.sq.length∧∀ (k:Nat),k < g'->fSq t.sq k=0)∧t.sq.length-g' < t.sq.length-g∧(g:Int)+1=(g':Int):=fun hb =>
      ⟨g+1,⟨hlt,all_succ ha (by rw [(fSq_z t.sq g).2 hb];rfl)⟩,by omega,rfl⟩
     have hb:sqBad t.sq g=(((((g:Int)) == 0) && cI (List.map encI t.sq) ((g:Int)).toNat != 0) || (decide ((g:Int) > 0) && decide (cI (List.map encI t.sq) ((g:Int)).toNat<=cI (List.map encI t.sq) ((g:Int)-1).toNat))):=by
      rw [cI_map,cI_map]
      unfold sqBad
      by_cases e0:g=0
      · subst e0
        exact (Bool.or_false _).symm
      · rw [if_neg e0,show ((g:Int)-1).toNat=g-1 by omega,show decide ((g:Int) > 0)=true from decide_eq_true (by omega),show ((g:Int) == 0)=false from beq_false_of_ne (by omega)]
        rfl
     have hat:nth (nthR (List.map encI t.sq) ((g:Int)).toNat) 0=AV.i (cI (List.map encI t.sq) ((g:Int)).toNat):=cI_at hlt
     have hat2:(g:Int) > 0->nth (nthR (List.map encI t.sq) ((g:Int)-1).toNat) 0=AV.i (cI (List.map encI t.sq) ((g:Int)-1).toNat):=fun _=>cI_at (by omega)
     rw [hb] at hF hN
     have h64:In64 ((g:Int)+1):=by unfold In64;omega
     have h65:In64 ((g:Int)-1):=by unfold In64;omega
     clear hb h h2 ha hd e1 e2
     generalize sTyS t=q at hF ⊢
     generalize hC:(cI (List.map encI t.sq) ((g:Int)).toNat != 0)=c at hF hN ⊢
     generalize hD:decide (cI (List.map encI t.sq) ((g:Int)).toNat<=cI (List.map encI t.sq) ((g:Int)-1).toNat)=d at hF hN ⊢
     clear hC hD
     obtain ⟨_,_⟩:=h64
     obtain ⟨_,_⟩:=h65
     refine ⟨by omega,by omega,hat,?_⟩
     by_cases hk:g=0
     · have hA:decide ((g:Int) > 0)=false:=decide_eq_false (by omega)
       have hB:((g:Int) == 0)=true:=by rw [beq_iff_eq];omega
       rw [hA,hB] at hF hN ⊢
       cases c <;> cases d
       all_goals repeat' (first | apply And.intro | (intro h;cases h;done) | intro _)
       all_goals try first
        | omega
        | (unfold In64;omega)
        | rfl
        | exact hF rfl
        | (obtain ⟨g',q1,q2,q3⟩:=hN rfl;exact ⟨g',q1,q2,by rw [q3]⟩)
     · have hA:decide ((g:Int) > 0)=true:=decide_eq_true (by omega)
       have hB:((g:Int) == 0)=false:=beq_false_of_ne (by omega)
       have hat2:=hat2 (by omega)
       rw [hA,hB] at hF hN ⊢
       cases c <;> cases d
       all_goals repeat' (first | apply And.intro | (intro h;cases h;done) | intro _)
       all_goals try first
        | omega
        | (unfold In64;omega)
        | rfl
        | exact hat2
        | exact hF rfl
        | (obtain ⟨g',q1,q2,q3⟩:=hN rfl;exact ⟨g',q1,q2,by rw [q3]⟩)
   · refine ⟨c64 t hn hq hl,?_⟩
     rw [sTyS,if_neg (by rw [h];decide),ls_end h2 hd hg ha]
 exact c_of Tryd.f36 ({ fzB (mkB (sp53 t) 36 [(9,2,rdJ),(10,16,rdJ)] (fun j=>if j.beq 0 then some (la53 t) else none)) with cut:=cut53 t,gs:=gs53,split:=fun j=>if j.beq 10 then 1 else 0 }) (by kernel_rfl) (by kernel_rfl) (by kernel_rfl) (by kernel_rfl) key (by kernel_rfl)
def cTyR (t:Ty):Int:=sFirst [sWhen (!sName t.name) 8,sShares t.sh,sFirst (t.dir.map fun x=>sWithin x 0 2000),sWithin t.side 0 1000,sSquares t.sq,sWhen ((t.st.length:Int) == 0) 12,sWhen (decide ((t.st.length:Int) > 6)) 5]
def sTyR (t:Ty):Int:=sLS (cTyR t) (fSetR t) t.st.length 0
def sp32 (t:Ty):Nat->List AV->Option AV
 | 42,_=>some (.i (sShares t.sh))
 | 45,_=>some (.i (sSquares t.sq))
 | 47,[_,.int _ n]=>some (.i (fSetR t n.toNat))
 | 43,_=>some (.i (sFirst (t.dir.map fun x=>sWithin x 0 2000)))
 | n,x=>spR n x
def la32 (t:Ty):LA:={
 pre:=[.keep [1,6] [],.bound 1],post:=[.keep [1,6] [],.bound 1]
 Gh:=Nat
 st:=fun i=>⟨[(1,.elt 13 [encTy t] 0 0),(6,.i i)],[],1⟩
 ok:=fun i=>i<=t.st.length∧∀ k,k < i->fSetR t k=0
 ms:=fun i=>t.st.length-i }
def cut32 (t:Ty):Nat->Option (AS->AS):=fun j=>if j.beq 6 then some (cutA [1,5] [] 1 5 fun _=>.i (cTyR t)) else none
def gs32:Nat->List GS:=fun j=>if j.beq 6 then [.keep [1,5] [],.bound 1] else []
def cl32:Operand->Bool
 | .tmp t=>t.beq 10
 | _=>false
abbrev zc16a (t:Ty):=sFirst [sWithin t.d0 (0:Int) (2000:Int),sWithin t.d1 (0:Int) (2000:Int),sWithin t.d2 (0:Int) (2000:Int),sWithin t.d3 (0:Int) (2000:Int),sWithin t.d4 (0:Int) (2000:Int),sWithin t.d5 (0:Int) (2000:Int),sWithin t.d6 (0:Int) (2000:Int),sWithin t.d7 (0:Int) (2000:Int)]
abbrev zc16b (t:Ty):=[[AV.str t.name,AV.sl (1:Nat) (List.map encI t.sh),AV.i t.d0,AV.i t.d1,AV.i t.d2,AV.i t.d3,AV.i t.d4,AV.i t.d5,AV.i t.d6,AV.i t.d7,AV.i t.side,AV.sl (1:Nat) (List.map encI t.sq),AV.sl (2:Nat) (List.map encSg t.st)]]
abbrev zc16d (t:Ty):=(↑(List.map encSg t.st).length:Int)
abbrev zc16c (t:Ty):=sFirst [hdI [AV.i (sWhen (!sName t.name) (8:Int))],hdI [AV.i (sShares t.sh)],hdI [AV.i (zc16a t)],hdI [AV.i (sWithin t.side (0:Int) (1000:Int))],hdI [AV.i (sSquares t.sq)],hdI [AV.i (sWhen ((zc16d t) == 0) (12:Int))],hdI [AV.i (sWhen (decide ((zc16d t) > 6)) (5:Int))]]
theorem c16 (t:Ty) (hn:t.st.length<=1000) (hs:t.sh.length<=1000) (hq:t.sq.length<=1000) (hl:∀ s,s ∈ t.st->s.e.length<=1000) (hN:t.name.length<=1000000):PCall Tryd.prog G0 16 [.agg (encTy t)] (.i (sTyR t)):=by
 have key :
  (0:Int)<=0∧(0:Int) < (8:Int)∧1<=9223372036854775807∧8<=140737488355328∧In64 ((0:Int)+1)∧(0:Int)<=0+1∧(0:Int)+1 < (8:Int)∧2<=9223372036854775807∧16<=140737488355328∧In64 ((0:Int)+1 +
  1)∧(0:Int)<=0+1+1∧(0:Int)+1+1 < (8:Int)∧3<=9223372036854775807∧24<=140737488355328∧In64 ((0:Int)+1+1+1)∧(0:Int)<=0+1+1+1∧(0:Int)+1+1+1 < (8:Int)∧4<=9223372036854775807
  ∧ 32<=140737488355328∧In64 ((0:Int)+1+1+1+1)∧(0:Int)<=0+1+1+1+1∧(0:Int)+1+1+1+1 < (8:Int)∧5<=9223372036854775807∧40<=140737488355328∧In64 ((0:Int)+1+1+1+1+1)∧(0:Int)
  ≤ 0+1+1+1+1+1∧(0:Int)+1+1+1+1+1 < (8:Int)∧6<=9223372036854775807∧48<=140737488355328∧In64 ((0:Int)+1+1+1+1+1+1)∧(0:Int)<=0+1+1+1+1+1+1∧(0:Int)+1+1+1+1 +
  1+1 < (8:Int)∧7<=9223372036854775807∧56<=140737488355328∧In64 ((0:Int)+1+1+1+1+1+1+1)∧(0:Int)<=0+1+1+1+1+1+1+1∧(0:Int)+1+1+1+1+1+1+1 < (8:Int)∧8 ≤
  9223372036854775807∧64<=140737488355328∧In64 ((0:Int)+1+1+1+1+1+1+1+1)∧(PCall Tryd.prog G0 41 [AV.str t.name] (AV.i (sWhen (!sName t.name) (8:Int)))∧PCall Tryd.prog G0 42 [AV.sl 1 (List.map encI t.sh)]
  (AV.i (sShares t.sh))∧PCall Tryd.prog G0 43 [AV.sl 1 [[AV.i t.d0],[AV.i t.d1],[AV.i t.d2],[AV.i t.d3],[AV.i t.d4],[AV.i t.d5],[AV.i t.d6],[AV.i t.d7]],AV.i 0,AV.i 2000] (AV.i (zc16a t))∧PCall Tryd.prog G0 44 [AV.i
  t.side,AV.i 0,AV.i 1000] (AV.i (sWithin t.side (0:Int) (1000:Int)))∧PCall Tryd.prog G0 45 [AV.sl 1 (List.map encI t.sq)] (AV.i (sSquares t.sq))∧PCall Tryd.prog G0 46 [AV.bool ((zc16d t) == 0),AV.i 12] (AV.i (sWhen
  ((zc16d t) == 0) (12:Int)))∧PCall Tryd.prog G0 46 [AV.bool (decide ((zc16d t) > 6)),AV.i 5] (AV.i (sWhen (decide ((zc16d t) > 6)) (5:Int)))∧PCall Tryd.prog G0 40 [AV.sl 1 [[AV.i (sWhen (!sName t.name) (8:Int))],[AV.i
  (sShares t.sh)],[AV.i (zc16a t)],[AV.i (sWithin t.side (0:Int) (1000:Int))],[AV.i (sSquares t.sq)],[AV.i (sWhen ((zc16d t) == 0) (12:Int))],[AV.i (sWhen (decide ((zc16d t) > 6)) (5:Int))]]] (AV.i (zc16c t))∧AS.mk
  [(1,AV.elt 13 (zc16b t) 0 (0:Nat)),(5,AV.i (zc16c t))] [] 1=AS.mk [(1,AV.elt 13 (zc16b t) 0 (0:Nat)),(5,AV.i (cTyR t))] [] 1)∧((cTyR t != 0)=true->AV.i (cTyR t)=AV.i (sTyR t))∧((cTyR t != 0)=false->(∃ (g :
  Nat),(g<=t.st.length∧∀ (k:Nat),k < g->fSetR t k=(0:Int))∧AS.mk [(1,AV.elt 13 [(encTy t)] 0 0),(6,AV.i 0)] [] 1=AS.mk [(1,AV.elt 13 [(encTy t)] 0 0),(6,AV.i (g:Int))] [] 1)∧∀ (g:Nat),(g<=t.st.length ∧
  ∀ (k:Nat),k < g->fSetR t k=(0:Int))->(decide ((g:Int) < (zc16d t))=true->PCall Tryd.prog G0 47 [AV.agg (encTy t),AV.i (g:Int)] (AV.i (fSetR t (g:Int).toNat))∧((fSetR t (g:Int).toNat != 0)=true->AV.i
  (fSetR t (g:Int).toNat)=AV.i (sTyR t))∧((fSetR t (g:Int).toNat != 0)=false->In64 ((g:Int)+1)∧∃ (g':Nat),(g'<=t.st.length∧∀ (k:Nat),k < g'->fSetR t k=(0:Int))∧t.st.length-g' < t.st.length-g ∧
  AS.mk [((1:Nat),AV.elt (13:Nat) (zc16b t) (0:Nat) (0:Nat)),((6:Nat),AV.i ((g:Int)+1))] [] (1:Nat)=AS.mk [((1:Nat),AV.elt (13:Nat) (zc16b t) (0:Nat) (0:Nat)),((6:Nat),AV.i (↑g':Int))] [] (1 :
  Nat)))∧(decide ((g:Int) < (zc16d t))=false->AV.i 0=AV.i (sTyR t))):=by
   delta zc16a zc16b zc16c zc16d
   have hlm:(List.map encSg t.st).length=t.st.length:=List.length_map _
   have e1:sFirst [sWhen (!sName t.name) 8,sShares t.sh,sFirst [sWithin t.d0 0 2000,sWithin t.d1 0 2000,sWithin t.d2 0 2000,sWithin t.d3 0 2000,sWithin t.d4 0 2000,sWithin t.d5 0 2000,sWithin t.d6 0 2000,sWithin t.d7 0 2000],sWithin t.side 0 1000,sSquares t.sq,sWhen (((List.map encSg t.st).length:Int) == 0) 12,sWhen (decide (((List.map encSg t.st).length:Int) > 6)) 5]=cTyR t:=by
    unfold cTyR
    rw [<- hlm]
    rfl
   refine ⟨by omega,by omega,by omega,by omega,by unfold In64;omega,by omega,by omega,by omega,by omega,by unfold In64;omega,by omega,by omega,by omega,by omega,by unfold In64;omega,by omega,by omega,by omega,by omega,by unfold In64;omega,by omega,by omega,by omega,by omega,by unfold In64;omega,by omega,by omega,by omega,by omega,by unfold In64;omega,by omega,by omega,by omega,by omega,by unfold In64;omega,by omega,by omega,by omega,by omega,by unfold In64;omega,⟨c41 _ hN,c42 _ hs,c43 t.dir 0 2000 (show (8:Nat)<=1000000 by decide),c44 _ _ _,c45 _ hq,c46 _ _,c46 _ _,c40 [_,_,_,_,_,_,_] (by simp),mk5 e1⟩,fun h=>congrArg AV.i (ls_first h).symm,fun h=>⟨⟨0,⟨by omega,by intros;omega⟩,rfl⟩,fun g ⟨hg,ha⟩=>⟨fun hd=>?_,fun hd=>?_⟩⟩⟩
   · rw [hlm] at hd
     have hlt:=lt_of_dec hd
     refine ⟨c47 t g hlt hn (hl _ (sg_mem hlt)) (fun h0 h1=>?_),fun hx=>?_,fun hx=>⟨by unfold In64;omega,g+1,⟨hlt,all_succ ha hx⟩,by omega,rfl⟩⟩
     · have hc:=(ls_zero (ha (g-1) (by omega))).1
       unfold cSetR at hc
       have:=first4_3 hc
       omega
     · have hx:(fSetR t g != 0)=true:=hx
       rw [sTyR,ls_hit h hd ha hx]
       rfl
   · rw [hlm] at hd
     rw [sTyR,ls_end h hd hg ha]
 exact c_of Tryd.f16 ({ fzB (mkB (sp32 t) 16 [] (fun j=>if j.beq 2 then some (la32 t) else none)) with cut:=cut32 t,gs:=gs32,cl:=cl32,bx:=fun i=>if i.beq 0 then [.frzo 3] else [] }) (by kernel_rfl) (by kernel_rfl) (by kernel_rfl) (by kernel_rfl) key (by kernel_rfl)
end Go.Proofs.YtnbhfmaamloodaaDoor
namespace Go.Proofs.YtnbhfmaamloodaaDoor
open Go Go.Av Go.RowKit
theorem c78 (s:Sg) (p:Int) :PCall Tryd.prog G0 78 [.agg (encSg s),.elt 1 [[.i p]] 0 0] (.bool (decide (s.p>=p))):=by
 have key :
  AV.bool (decide (s.p>=p))=AV.bool (decide (s.p>=p)):=by
   rfl
 exact c_of Tryd.f78 (mkB spR 78 [] noLa) (by kernel_rfl) (by kernel_rfl) (by kernel_rfl) (by kernel_rfl) key (by kernel_rfl)
def geN (t:Ty) (p:Int):Nat->Nat
 | 0=>0
 | n+1=>if geN t p n < n then geN t p n else if p<=(t.sg n).p then n else n+1
theorem geN_none {t:Ty} {p:Int}:∀ {i:Nat},(∀ j,j < i->(t.sg j).p < p)->geN t p i=i
 | 0,_=>rfl
 | i+1,h=>by
  have h1:geN t p i=i:=geN_none fun j hj=>h j (by omega)
  have h2:=h i (by omega)
  simp only [geN]
  rw [h1,if_neg (by omega),if_neg (by omega)]
theorem geN_some {t:Ty} {p:Int} {i:Nat} (h:∀ j,j < i->(t.sg j).p < p) (hp:p<=(t.sg i).p):∀ {m:Nat},i < m->geN t p m=i
 | 0,h0=>absurd h0 (by omega)
 | m+1,h0=>by
  simp only [geN]
  by_cases e:i=m
  · subst e
    rw [geN_none h,if_neg (by omega),if_pos hp]
  · rw [geN_some h hp (m:=m) (by omega),if_pos (by omega)]
def geI (t:Ty) (p:Int):Int:=if geN t p t.st.length=t.st.length then -1 else geN t p t.st.length
def sp149:Nat->List AV->Option AV
 | 78,[.agg [.int _ q,_],.elt _ [[.int _ p]] _ _]=>some (.bool (decide (q>=p)))
 | n,x=>spR n x
def la149 (t:Ty) (p:Int):LA:={
 pre:=[.keep [0,1,7,8] [],.bound 1],post:=[.keep [0,1,7,8] [],.bound 1]
 Gh:=Nat
 st:=fun i=>⟨[(0,.sl 2 (t.st.map encSg)),(1,.fn (.func 78) [] [.elt 1 [[.i p]] 0 0]),(7,.i t.st.length),(8,.i i)],[],1⟩
 ok:=fun i=>i<=t.st.length∧∀ j,j < i->(t.sg j).p < p
 ms:=fun i=>t.st.length-i }
theorem c77 (t:Ty) (p:Int) (hn:t.st.length<=1000):PCall Tryd.prog G0 77 [.sl 2 (t.st.map encSg),.fn (.func 78) [] [.elt 1 [[.i p]] 0 0]] (.i (geI t p)):=by
 have key :
  (∃ (g:Nat),(g<=t.st.length∧∀ (j:Nat),j < g->(t.sg j).p < p)∧AS.mk [(0,AV.sl 2 (List.map encSg t.st)),(1,AV.fn (Fn.func 78) [] [AV.elt 1 [[AV.i p]] 0 0]),(7,AV.i (↑(List.map encSg t.st).length:Int)),(8,AV.i 0)]
  [] 1=AS.mk [(0,AV.sl 2 (List.map encSg t.st)),(1,AV.fn (Fn.func 78) [] [AV.elt 1 [[AV.i p]] 0 0]),(7,AV.i (↑t.st.length:Int)),(8,AV.i (g:Int))] [] 1)∧∀ (g:Nat),(g<=t.st.length∧∀ (j:Nat),j < g->(t.sg j).p <
  p)->(decide ((g:Int) < (↑t.st.length:Int))=true->(0:Int)<=(g:Int)∧(g:Int) < (↑(List.map encSg t.st).length:Int)∧AV.agg (nthR (List.map encSg t.st) (g:Int).toNat)=AV.agg [AV.i (t.st.getD (g:Int).toNat
  default).p,AV.sl 1 (List.map encI (t.st.getD (g:Int).toNat default).e)]∧PCall Tryd.prog G0 78 [AV.agg [AV.i (t.st.getD (g:Int).toNat default).p,AV.sl 1 (List.map encI (t.st.getD (g:Int).toNat default).e)],AV.elt 1
  [[AV.i p]] 0 0] (AV.bool (decide ((t.st.getD (g:Int).toNat default).p>=p)))∧(decide ((t.st.getD (g:Int).toNat default).p>=p)=true->AV.i (g:Int)=AV.i (geI t p))∧(decide ((t.st.getD (g:Int).toNat default).p ≥
  p)=false->In64 ((g:Int)+1)∧∃ (g':Nat),(g'<=t.st.length∧∀ (j:Nat),j < g'->(t.sg j).p < p)∧t.st.length-g' < t.st.length-g∧AS.mk [(0,AV.sl 2 (List.map encSg t.st)),(1,AV.fn (Fn.func 78) [] [AV.elt 1
  [[AV.i p]] 0 0]),(7,AV.i (↑t.st.length:Int)),(8,AV.i ((g:Int)+1))] [] 1=AS.mk [(0,AV.sl 2 (List.map encSg t.st)),(1,AV.fn (Fn.func 78) [] [AV.elt 1 [[AV.i p]] 0 0]),(7,AV.i (↑t.st.length:Int)),(8,AV.i (↑g' :
  Int))] [] 1))∧(decide ((g:Int) < (↑t.st.length:Int))=false->AV.i (-1)=AV.i (geI t p)):=by
   have hlm:(List.map encSg t.st).length=t.st.length:=List.length_map _
   refine ⟨⟨0,⟨by omega,by intros;omega⟩,by rw [hlm];rfl⟩,fun g ⟨hg,ha⟩=>⟨fun hd=>?_,fun hd=>?_⟩⟩
   · have hlt:=lt_of_dec hd
     refine ⟨by omega,by omega,congrArg AV.agg (row_at encSg hlt),c78 _ _,fun hx=>?_,fun hx=>⟨by unfold In64;omega,g+1,⟨hlt,fun j hj=>?_⟩,by omega,rfl⟩⟩
     · have hp:p<=(t.sg g).p:=of_decide_eq_true hx
       rw [geI,geN_some ha hp hlt,if_neg (by omega)]
     · have hp:¬ (t.sg g).p>=p:=of_decide_eq_false hx
       by_cases e:j=g
       · rw [e];omega
       · exact ha j (by omega)
   · have e:=ge_of_dec hd hg
     subst e
     rw [geI,geN_none ha,if_pos rfl]
 exact c_of Tryd.f77 (mkB sp149 77 [(4,4,rdL 2 encSg t.st 2 true)] (fun j=>if j.beq 0 then some (la149 t p) else none)) (by kernel_rfl) (by kernel_rfl) (by kernel_rfl) (by kernel_rfl) key (by kernel_rfl)
end Go.Proofs.YtnbhfmaamloodaaDoor
namespace Go.Proofs.YtnbhfmaamloodaaDoor
open Go Go.Av Go.RowKit
def bandN (l:List Int) (d:Int):Nat->Nat
 | 0=>0
 | n+1=>if decide (l.getD n default<=d) then n else bandN l d n
def emi (t:Ty) (p d:Int):Int :=
 if geN t p t.st.length=t.st.length then eAt (t.sg (t.st.length-1)).e (bandN t.sq d t.sq.length)
 else if geN t p t.st.length=0 ∨ (t.sg (geN t p t.st.length)).p=p then eAt (t.sg (geN t p t.st.length)).e (bandN t.sq d t.sq.length)
 else sBetween (eAt (t.sg (geN t p t.st.length-1)).e (bandN t.sq d t.sq.length)) (eAt (t.sg (geN t p t.st.length)).e (bandN t.sq d t.sq.length)) (p-(t.sg (geN t p t.st.length-1)).p) ((t.sg (geN t p t.st.length)).p-(t.sg (geN t p t.st.length-1)).p)
structure OKTy (t:Ty):Prop where
 n1:1<=t.st.length
 n2:t.st.length<=1000
 q1:1<=t.sq.length
 q2:t.sq.length<=1000
 el:∀ i,i < t.st.length->(t.sg i).e.length=t.sq.length
 pb:∀ i,i < t.st.length->1<=(t.sg i).p∧(t.sg i).p<=100
 up:∀ i,i+1 < t.st.length->(t.sg i).p < (t.sg (i+1)).p
 eb:∀ i k,i < t.st.length->k < t.sq.length->0<=eAt (t.sg i).e k∧eAt (t.sg i).e k<=100000000
theorem bandN_lt {l:List Int} {d:Int}:∀ {n:Nat},1<=n->bandN l d n < n
 | 0,h=>absurd h (by omega)
 | n+1,_=>by
  simp only [bandN]
  split
  · omega
  · by_cases e:n=0
    · subst e;exact Nat.zero_lt_one
    · have:=bandN_lt (l:=l) (d:=d) (n:=n) (by omega)
      omega
theorem geN_le {t:Ty} {p:Int}:∀ m,geN t p m<=m
 | 0=>Nat.le_refl _
 | m+1=>by
  simp only [geN]
  have:=geN_le (t:=t) (p:=p) m
  split
  · omega
  · split <;> omega
theorem geN_below {t:Ty} {p:Int}:∀ m j,j < geN t p m->(t.sg j).p < p
 | 0,j,h=>absurd h (by simp [geN])
 | m+1,j,h=>by
  simp only [geN] at h
  split at h
  · exact geN_below m j h
  · rename_i h1
    have e:geN t p m=m:=by have:=geN_le (t:=t) (p:=p) m;omega
    split at h
    · exact geN_below m j (by omega)
    · rename_i h2
      by_cases e2:j=m
      · rw [e2];omega
      · exact geN_below m j (by omega)
theorem geN_at {t:Ty} {p:Int}:∀ m,geN t p m < m->p<=(t.sg (geN t p m)).p
 | 0,h=>absurd h (by omega)
 | m+1,h=>by
  simp only [geN] at h ⊢
  split
  · rename_i h1;exact geN_at m h1
  · split
    · rename_i h2;exact h2
    · rename_i h1 h2;rw [if_neg h1,if_neg h2] at h;omega
theorem emi_last {t:Ty} {p d:Int} (h:geN t p t.st.length=t.st.length):cI (List.map encI (t.sg (t.st.length-1)).e) (bandN t.sq d t.sq.length)=emi t p d:=by
 rw [cI_map,emi,if_pos h]
 rfl
theorem emi_at {t:Ty} {p d:Int} (h:geN t p t.st.length < t.st.length) (h2:geN t p t.st.length=0 ∨ (t.sg (geN t p t.st.length)).p=p):cI (List.map encI (t.sg (geN t p t.st.length)).e) (bandN t.sq d t.sq.length)=emi t p d:=by
 rw [cI_map,emi,if_neg (by omega),if_pos h2]
 rfl
theorem emi_btw {t:Ty} {p d:Int} (h:geN t p t.st.length < t.st.length) (h2:¬ (geN t p t.st.length=0 ∨ (t.sg (geN t p t.st.length)).p=p)):sBetween (cI (List.map encI (t.sg (geN t p t.st.length-1)).e) (bandN t.sq d t.sq.length)) (cI (List.map encI (t.sg (geN t p t.st.length)).e) (bandN t.sq d t.sq.length)) (p-(t.sg (geN t p t.st.length-1)).p) ((t.sg (geN t p t.st.length)).p-(t.sg (geN t p t.st.length-1)).p)=emi t p d:=by
 rw [cI_map,cI_map,emi,if_neg (by omega),if_neg h2]
 rfl
theorem sg_e {t:Ty} {x:Nat} (h:x < t.st.length):nth (nthR (List.map encSg t.st) x) 1=AV.sl 1 (List.map encI (t.sg x).e):=by rw [row_at encSg h];rfl
theorem sg_p {t:Ty} {x:Nat} (h:x < t.st.length):nth (nthR (List.map encSg t.st) x) 0=AV.i (t.sg x).p:=by rw [row_at encSg h];rfl
theorem emi_bet {t:Ty} {p:Int} {k:Nat} (h:OKTy t) (hp:1<=p) (hp2:p<=100) (hi:geN t p t.st.length < t.st.length) (h0:geN t p t.st.length ≠ 0) (hk:k < t.sq.length):BetOK (cI (List.map encI (t.sg (geN t p t.st.length-1)).e) k) (cI (List.map encI (t.sg (geN t p t.st.length)).e) k) (p-(t.sg (geN t p t.st.length-1)).p) ((t.sg (geN t p t.st.length)).p-(t.sg (geN t p t.st.length-1)).p):=by
 rw [cI_map,cI_map]
 obtain ⟨a1,a2⟩:=h.eb (geN t p t.st.length-1) k (by omega) hk
 obtain ⟨b1,b2⟩:=h.eb (geN t p t.st.length) k hi hk
 obtain ⟨c1,c2⟩:=h.pb (geN t p t.st.length-1) (by omega)
 have c3:=geN_below t.st.length (geN t p t.st.length-1) (by omega:geN t p t.st.length-1 < geN t p t.st.length)
 have c4:=geN_at (t:=t) (p:=p) t.st.length hi
 have e0:∀ (l:List Int) (k:Nat),l.getD k default=eAt l k:=fun _ _=>rfl
 rw [e0,e0]
 exact ⟨by omega,by omega,by omega,by omega,by omega,by omega,by omega⟩
def sp114 (t:Ty):Nat->List AV->Option AV
 | 77,[_,.fn _ _ [.elt _ [[.int _ p]] _ _]]=>some (.i (geI t p))
 | 71,[.int _ a,.int _ b,.int _ p,.int _ w]=>some (.i (sBetween a b p w))
 | 1097,[.int _ a,.int _ b,.int _ p,.int _ w]=>some (.i (sBetween a b p w))
 | n,x=>spR n x
def la114 (t:Ty) (p d:Int):LA:={
 pre:=[.keep [2,3,4,7,14,15,16] [],.bound 1],post:=[.keep [2,3,4,7,14,15,16] [],.bound 1]
 Gh:=Nat
 st:=fun i=>⟨[(2,.i d),(3,.elt 13 [encTy t] 0 0),(4,.elt 1 [[.i p]] 0 0),(7,.i (bandN t.sq d i)),(14,.sl 1 (t.sq.map encI)),(15,.i t.sq.length),(16,.i i)],[],1⟩
 ok:=fun i=>i<=t.sq.length
 ms:=fun i=>t.sq.length-i }
abbrev zc67f (t:Ty) (p:Int):=t.st.getD (geI t p).toNat default
abbrev zc67a (t:Ty) (p:Int):=List.map encI (zc67f t p).e
abbrev zc67b (t:Ty) (p:Int):=t.st.getD (geI t p-1).toNat default
abbrev zc67h (t:Ty) (p:Int) (d:Int) (g:Nat):=cI (List.map encI (zc67b t p).e) (↑(bandN t.sq d g):Int).toNat
abbrev zc67e (t:Ty) (p:Int) (d:Int) (g:Nat):=cI (zc67a t p) (↑(bandN t.sq d g):Int).toNat
abbrev zc67c (t:Ty) (p:Int) (d:Int) (g:Nat):=sBetween (zc67h t p d g) (zc67e t p d g) (p-(zc67b t p).p) ((zc67f t p).p-(zc67b t p).p)
abbrev zc67d (t:Ty):=(↑(List.map encSg t.st).length:Int)
abbrev zc67g (t:Ty):=List.map encI (t.st.getD ((zc67d t)-1).toNat default).e
abbrev zc67i (d:Int) (t:Ty) (p:Int) (g':Nat):=[(2,AV.i d),(3,AV.elt 13 [(encTy t)] 0 0),(4,AV.elt 1 [[AV.i p]] 0 0),(7,AV.i (↑(bandN t.sq d g'):Int)),(14,AV.sl 1 (List.map encI t.sq)),(15,AV.i (↑t.sq.length:Int)),(16,AV.i (↑g':Int))]
theorem c67 (t:Ty) (p d:Int) (h:OKTy t) (hp:1<=p) (hp2:p<=100):PCall Tryd.prog G0 67 [.agg (encTy t),.i p,.i d] (.i (emi t p d)):=by
 have key :
  (∃ (g:Nat),g<=t.sq.length∧AS.mk [(2,AV.i d),(3,AV.elt 13 [(encTy t)] 0 0),(4,AV.elt 1 [[AV.i p]] 0 0),(7,AV.i 0),(14,AV.sl 1 (List.map encI t.sq)),(15,AV.i (↑(List.map encI t.sq).length:Int)),(16,AV.i 0)] [] 1
  = AS.mk [(2,AV.i d),(3,AV.elt 13 [(encTy t)] 0 0),(4,AV.elt 1 [[AV.i p]] 0 0),(7,AV.i (↑(bandN t.sq d g):Int)),(14,AV.sl 1 (List.map encI t.sq)),(15,AV.i (↑t.sq.length:Int)),(16,AV.i (g:Int))] [] 1)∧∀ (g :
  Nat),g<=t.sq.length->(decide ((g:Int) < (↑t.sq.length:Int))=true->(0:Int)<=(g:Int)∧(g:Int) < (↑(List.map encI t.sq).length:Int)∧nth (nthR (List.map encI t.sq) (g:Int).toNat) 0=AV.i (cI (List.map encI
  t.sq) (g:Int).toNat)∧(decide (cI (List.map encI t.sq) (g:Int).toNat<=d)=true->In64 ((g:Int)+1)∧∃ (g':Nat),g'<=t.sq.length∧t.sq.length-g' < t.sq.length-g∧AS.mk [(2,AV.i d),(3,AV.elt 13 [(encTy t)] 0
  0),(4,AV.elt 1 [[AV.i p]] 0 0),(7,AV.i (g:Int)),(14,AV.sl 1 (List.map encI t.sq)),(15,AV.i (↑t.sq.length:Int)),(16,AV.i ((g:Int)+1))] [] 1=AS.mk (zc67i d t p g') [] 1)∧(decide (cI (List.map encI t.sq) (↑g :
  Int).toNat<=d)=false->In64 ((g:Int)+1)∧∃ (g':Nat),g'<=t.sq.length∧t.sq.length-g' < t.sq.length-g∧AS.mk [(2,AV.i d),(3,AV.elt 13 [(encTy t)] 0 0),(4,AV.elt 1 [[AV.i p]] 0 0),(7,AV.i (↑(bandN t.sq d g) :
  Int)),(14,AV.sl 1 (List.map encI t.sq)),(15,AV.i (↑t.sq.length:Int)),(16,AV.i ((g:Int)+1))] [] 1=AS.mk (zc67i d t p g') [] 1))∧(decide ((g:Int) < (↑t.sq.length:Int))=false->PCall Tryd.prog G0 77 [AV.sl 2
  (List.map encSg t.st),AV.fn (Fn.func 78) [] [AV.elt 1 [[AV.i p]] 0 0]] (AV.i (geI t p))∧(decide (geI t p < 0)=true->In64 ((zc67d t)-1)∧(0:Int)<=(zc67d t)-1∧(zc67d t)-1 < (zc67d t)∧(0:Int)<=(↑(bandN t.sq d g)
  : Int)∧(↑(bandN t.sq d g):Int) < (↑(zc67g t).length:Int)∧nth (nthR (List.map encSg t.st) ((zc67d t)-1).toNat) 1=AV.sl 1 (zc67g t)∧nth (nthR (zc67g t) (↑(bandN t.sq d g):Int).toNat) 0=AV.i (cI (zc67g t) (↑(bandN
  t.sq d g):Int).toNat)∧AV.i (cI (zc67g t) (↑(bandN t.sq d g):Int).toNat)=AV.i (emi t p d))∧(decide (geI t p < 0)=false->((geI t p == 0)=true->(true=false->false=true)∧AV.bool (geI t p == 0)=AV.bool true ∧
  (true=true->(0:Int)<=geI t p∧geI t p < (zc67d t)∧(0:Int)<=(↑(bandN t.sq d g):Int)∧(↑(bandN t.sq d g):Int) < (↑(zc67a t p).length:Int)∧nth (nthR (List.map encSg t.st) (geI t p).toNat) 1=AV.sl 1 (zc67a t p) ∧
  nth (nthR (zc67a t p) (↑(bandN t.sq d g):Int).toNat) 0=AV.i (zc67e t p d g)∧AV.i (zc67e t p d g)=AV.i (emi t p d))∧(true=false->In64 (geI t p-1)∧(0:Int)<=geI t p-1∧geI t p-1 < (zc67d t)∧(0:Int)<=geI t
  p∧geI t p < (zc67d t)∧AV.agg (nthR (List.map encSg t.st) (geI t p-1).toNat)=AV.agg [AV.i (zc67b t p).p,AV.sl 1 (List.map encI (zc67b t p).e)]∧AV.agg (nthR (List.map encSg t.st) (geI t p).toNat)=AV.agg [AV.i (zc67f t
  p).p,AV.sl 1 (zc67a t p)]∧(0:Int)<=(↑(bandN t.sq d g):Int)∧(↑(bandN t.sq d g):Int) < (↑(List.map encI (zc67b t p).e).length:Int)∧(0:Int)<=(↑(bandN t.sq d g):Int)∧(↑(bandN t.sq d g):Int) < (↑(zc67a t
  p).length:Int)∧In64 (p-(zc67b t p).p)∧In64 ((zc67f t p).p-(zc67b t p).p)∧nth (nthR (List.map encI (zc67b t p).e) (↑(bandN t.sq d g):Int).toNat) 0=AV.i (zc67h t p d g)∧nth (nthR (zc67a t p) (↑(bandN t.sq d g) :
  Int).toNat) 0=AV.i (zc67e t p d g)∧PCall Tryd.prog G0 71 [AV.i (zc67h t p d g),AV.i (zc67e t p d g),AV.i (p-(zc67b t p).p),AV.i ((zc67f t p).p-(zc67b t p).p)] (AV.i (zc67c t p d g))∧AV.i (zc67c t p d g)=AV.i (emi t p
  d)))∧((geI t p == 0)=false->(0:Int)<=geI t p∧geI t p < (zc67d t)∧AV.bool (geI t p == 0)=AV.bool false∧nth (nthR (List.map encSg t.st) (geI t p).toNat) 0=AV.i (zc67f t p).p∧(((zc67f t p).p == p)=true->(0 :
  Int)<=geI t p∧geI t p < (zc67d t)∧(0:Int)<=(↑(bandN t.sq d g):Int)∧(↑(bandN t.sq d g):Int) < (↑(zc67a t p).length:Int)∧nth (nthR (List.map encSg t.st) (geI t p).toNat) 1=AV.sl 1 (zc67a t p)∧nth (nthR (zc67a t
  p) (↑(bandN t.sq d g):Int).toNat) 0=AV.i (zc67e t p d g)∧AV.i (zc67e t p d g)=AV.i (emi t p d))∧(((zc67f t p).p == p)=false->In64 (geI t p-1)∧(0:Int)<=geI t p-1∧geI t p-1 < (zc67d t)∧(0:Int)<=geI t p
  ∧ geI t p < (zc67d t)∧AV.agg (nthR (List.map encSg t.st) (geI t p-1).toNat)=AV.agg [AV.i (zc67b t p).p,AV.sl 1 (List.map encI (zc67b t p).e)]∧AV.agg (nthR (List.map encSg t.st) (geI t p).toNat)=AV.agg [AV.i (zc67f t
  p).p,AV.sl 1 (zc67a t p)]∧(0:Int)<=(↑(bandN t.sq d g):Int)∧(↑(bandN t.sq d g):Int) < (↑(List.map encI (zc67b t p).e).length:Int)∧(0:Int)<=(↑(bandN t.sq d g):Int)∧(↑(bandN t.sq d g):Int) < (↑(zc67a t
  p).length:Int)∧In64 (p-(zc67b t p).p)∧In64 ((zc67f t p).p-(zc67b t p).p)∧nth (nthR (List.map encI (zc67b t p).e) (↑(bandN t.sq d g):Int).toNat) 0=AV.i (zc67h t p d g)∧nth (nthR (zc67a t p) (↑(bandN t.sq d g) :
  Int).toNat) 0=AV.i (zc67e t p d g)∧PCall Tryd.prog G0 71 [AV.i (zc67h t p d g),AV.i (zc67e t p d g),AV.i (p-(zc67b t p).p),AV.i ((zc67f t p).p-(zc67b t p).p)] (AV.i (zc67c t p d g))∧AV.i (zc67c t p d g)=AV.i (emi t p
  d))))):=by
   delta zc67a zc67b zc67c zc67d zc67e zc67f zc67g zc67h zc67i
   have hlm:(List.map encSg t.st).length=t.st.length:=List.length_map _
   have hlq:(List.map encI t.sq).length=t.sq.length:=List.length_map _
   have hn1:=h.n1
   have hn2:=h.n2
   have hq1:=h.q1
   have hq2:=h.q2
   refine ⟨⟨0,by omega,by rw [hlq];rfl⟩,fun g hg=>⟨fun hd=>?_,fun hd=>?_⟩⟩
   · have hlt:=lt_of_dec hd
     have hc:=cI_map t.sq g
     refine ⟨by omega,by omega,cI_at hlt,fun hx=>⟨by unfold In64;omega,g+1,hlt,by omega,?_⟩,fun hx=>⟨by unfold In64;omega,g+1,hlt,by omega,?_⟩⟩
     · have hx:decide (cI (List.map encI t.sq) g<=d)=true:=hx
       rw [hc] at hx
       simp only [bandN]
       rw [if_pos hx]
       rfl
     · have hx:decide (cI (List.map encI t.sq) g<=d)=false:=hx
       rw [hc] at hx
       simp only [bandN]
       rw [if_neg (by rw [hx];decide)]
       rfl
   · have e:=ge_of_dec hd hg
     subst e
     have hK:=bandN_lt (l:=t.sq) (d:=d) hq1
     have hKL:∀ j,j < t.st.length->bandN t.sq d t.sq.length < (List.map encI (t.sg j).e).length:=fun j hj=>by
      rw [List.length_map,h.el j hj]
      exact hK
     have hat:∀ j,j < t.st.length->nth (nthR (List.map encI (t.sg j).e) (bandN t.sq d t.sq.length)) 0=AV.i (cI (List.map encI (t.sg j).e) (bandN t.sq d t.sq.length)):=fun j hj=>cI_at (by rw [h.el j hj];exact hK)
     have hle:=geN_le (t:=t) (p:=p) t.st.length
     refine ⟨c77 t p hn2,?_⟩
     rw [hlm]
     by_cases hi:geN t p t.st.length=t.st.length
     · have e:geI t p = -1:=if_pos hi
       rw [e]
       refine ⟨fun _=>?_,fun hx=>absurd hx (by decide)⟩
       rw [show ((t.st.length:Int)-1).toNat=t.st.length-1 by omega]
       have:=hKL (t.st.length-1) (by omega)
       exact ⟨by unfold In64;omega,by omega,by omega,by omega,Int.ofNat_lt.2 this,sg_e (by omega),hat _ (by omega),congrArg AV.i (emi_last hi)⟩
     · have hi2:geN t p t.st.length < t.st.length:=by omega
       have e:geI t p=geN t p t.st.length:=if_neg hi
       rw [e]
       have hk:=hKL _ hi2
       refine ⟨fun hx=>?_,fun _=>⟨fun h0=>⟨fun hx=>absurd hx (by decide),congrArg AV.bool h0,fun _=>?_,fun hx=>absurd hx (by decide)⟩,fun h0=>⟨by omega,by omega,congrArg AV.bool h0,sg_p hi2,fun h1=>?_,fun h1=>?_⟩⟩⟩
       · have:=of_decide_eq_true hx
         omega
       · have h0':geN t p t.st.length=0:=by have:=beq_iff_eq.1 h0;omega
         exact ⟨by omega,by omega,by omega,Int.ofNat_lt.2 hk,sg_e hi2,hat _ hi2,congrArg AV.i (emi_at hi2 (Or.inl h0'))⟩
       · exact ⟨by omega,by omega,by omega,Int.ofNat_lt.2 hk,sg_e hi2,hat _ hi2,congrArg AV.i (emi_at hi2 (Or.inr (beq_iff_eq.1 h1)))⟩
       · have h0':geN t p t.st.length ≠ 0:=by
          intro hz
          rw [hz] at h0
          exact absurd h0 (by decide)
         have h1':(t.sg (geN t p t.st.length)).p ≠ p:=ne_of_beq_false h1
         rw [show ((geN t p t.st.length:Int)-1).toNat=geN t p t.st.length-1 by omega]
         have hk2:=hKL (geN t p t.st.length-1) (by omega)
         have hB:=emi_bet h hp hp2 hi2 h0' hK
         obtain ⟨x1,x2⟩:=h.pb (geN t p t.st.length-1) (by omega)
         obtain ⟨y1,y2⟩:=h.pb _ hi2
         have x1:1<=(t.st.getD (geN t p t.st.length-1) default).p:=x1
         have x2:(t.st.getD (geN t p t.st.length-1) default).p<=100:=x2
         have y1:1<=(t.st.getD ((geN t p t.st.length:Int)).toNat default).p:=y1
         have y2:(t.st.getD ((geN t p t.st.length:Int)).toNat default).p<=100:=y2
         refine ⟨by unfold In64;omega,by omega,by omega,by omega,by omega,congrArg AV.agg (row_at encSg (by omega)),congrArg AV.agg (row_at encSg hi2),by omega,Int.ofNat_lt.2 hk2,by omega,Int.ofNat_lt.2 hk,?_,?_,hat _ (by omega),hat _ hi2,c71 _ _ _ _ hB,congrArg AV.i (emi_btw hi2 (fun hx=>hx.elim h0' h1'))⟩
         · unfold In64
           omega
         · unfold In64
           omega
 exact c_of Tryd.f67 ({ fzB (mkB (sp114 t) 67 [(4,2,rdJ),(10,8,rdL 2 encSg t.st 1 false),(10,11,rdJ),(11,8,rdL 2 encSg t.st 1 false),(12,5,rdL 2 encSg t.st 1 false),(12,8,rdJ),(13,5,rdL 2 encSg t.st 2 true),(13,10,rdL 2 encSg t.st 2 true),(14,4,rdJ),(14,9,rdJ)] (fun j=>if j.beq 0 then some (la114 t p d) else none)) with split:=fun j=>if j.beq 11 then 1 else 0 }) (by kernel_rfl) (by kernel_rfl) (by kernel_rfl) (by kernel_rfl) key (by kernel_rfl)
end Go.Proofs.YtnbhfmaamloodaaDoor
namespace Go.Proofs.YtnbhfmaamloodaaDoor
open Go Go.Av Go.RowKit
end Go.Proofs.YtnbhfmaamloodaaDoor
namespace Go.Proofs.YtnbhfmaamloodaaDoor
open Go Go.Av Go.RowKit
def sec:Nat->Int->Int->Int->Int
 | 0,_,_,_=>0
 | n+1,i,x,y=>if (decide (x > y) && decide (y>=0)) || (x == 0 && y == 0) then i else if decide (y>=x) && decide (x > 0) then i+1 else sec n (i+2) y (-x)
def rX:Nat->Int->Int->Int
 | 0,x,_=>x
 | 1,_,y=>y
 | 2,x,_ => -x
 | 3,_,y => -y
 | _,x,_=>x
def rY:Nat->Int->Int->Int
 | 0,_,y=>y
 | 1,x,_ => -x
 | 2,_,y => -y
 | 3,x,_=>x
 | _,_,y=>y
def secX (a b c d:Int):Int:=a * c+b * d
def secY (a b c d:Int):Int:=a * d-b * c
theorem rX_b {B x y:Int} (hx : -B<=x∧x<=B) (hy : -B<=y∧y<=B):∀ k, -B<=rX k x y∧rX k x y<=B
 | 0=>hx
 | 1=>hy
 | 2=>by simp only [rX];omega
 | 3=>by simp only [rX];omega
 | _+4=>hx
theorem r_step {x y:Int}:∀ {k:Nat},k < 4->rX (k+1) x y=rY k x y∧rY (k+1) x y=0-rX k x y
 | 0,_=>⟨rfl,by simp only [rX,rY];omega⟩
 | 1,_=>⟨rfl,by simp only [rX,rY];omega⟩
 | 2,_=>⟨rfl,by simp only [rX,rY];omega⟩
 | 3,_=>⟨rfl,by simp only [rX,rY];omega⟩
 | _+4,h=>absurd h (by omega)
theorem sec_in {a b c d:Int} (ha : -200000<=a∧a<=200000) (hb : -200000<=b∧b<=200000) (hc : -200000<=c∧c<=200000) (hd : -200000<=d∧d<=200000) :
 In64 (a * c)∧In64 (b * d)∧In64 (a * c+b * d)∧In64 (a * d)∧In64 (b * c)∧In64 (a * d-b * c)∧(-100000000000<=secX a b c d∧secX a b c d<=100000000000)∧(-100000000000<=secY a b c d∧secY a b c d<=100000000000):=by
 have h1:=mul_bound ha.1 ha.2 hc.1 hc.2
 have h2:=mul_bound hb.1 hb.2 hd.1 hd.2
 have h3:=mul_bound ha.1 ha.2 hd.1 hd.2
 have h4:=mul_bound hb.1 hb.2 hc.1 hc.2
 unfold secX secY In64
 generalize a * c=w1 at *
 generalize b * d=w2 at *
 generalize a * d=w3 at *
 generalize b * c=w4 at *
 omega
theorem sec_step {g:Nat} {x y S:Int} (hg:g < 4) (hs:sec (4-g) (2 * g:Nat) (rX g x y) (rY g x y)=S) :
 ((((decide (rX g x y > rY g x y) && decide (rY g x y>=0)) || (rX g x y == 0 && rY g x y == 0))=true->AV.i (2 * g:Nat)=AV.i S) ∧
 (((decide (rX g x y > rY g x y) && decide (rY g x y>=0)) || (rX g x y == 0 && rY g x y == 0))=false->(decide (rY g x y>=rX g x y) && decide (rX g x y > 0))=true->AV.i ((2 * g:Nat)+1)=AV.i S) ∧
 (((decide (rX g x y > rY g x y) && decide (rY g x y>=0)) || (rX g x y == 0 && rY g x y == 0))=false->(decide (rY g x y>=rX g x y) && decide (rX g x y > 0))=false →
   ∃ g':Nat,(g'<=4∧sec (4-g') (2 * g':Nat) (rX g' x y) (rY g' x y)=S)∧4-g' < 4-g∧rY g x y=rX g' x y∧0-rX g x y=rY g' x y∧((2 * g:Nat):Int)+2=(2 * g':Nat))):=by
 rw [show 4-g=(3-g)+1 by omega] at hs
 simp only [sec] at hs
 refine ⟨fun h=>?_,fun h h2=>?_,fun h h2=>⟨g+1,⟨hg,?_⟩,by omega,(r_step hg).1.symm,(r_step hg).2.symm,by omega⟩⟩
 · rw [if_pos h] at hs
   rw [hs]
 · rw [if_neg (by rw [h];decide),if_pos h2] at hs
   rw [hs]
 · rw [if_neg (by rw [h];decide),if_neg (by rw [h2];decide)] at hs
   rw [show 4-(g+1)=3-g by omega,(r_step hg).1,(r_step hg).2,show ((2 * (g+1):Nat):Int)=((2 * g:Nat):Int)+2 by omega,show 0-rX g x y =-rX g x y by omega]
   exact hs
def la116 (a b c d:Int):LA:={
 pre:=[.keep [5,6,7] [],.bound 1],post:=[.keep [5,6,7] [],.bound 1]
 Gh:=Nat
 st:=fun k=>⟨[(5,.i (rX k (secX a b c d) (secY a b c d))),(6,.i (rY k (secX a b c d) (secY a b c d))),(7,.i (2 * k:Nat))],[],1⟩
 ok:=fun k=>k<=4∧sec (4-k) (2 * k:Nat) (rX k (secX a b c d) (secY a b c d)) (rY k (secX a b c d) (secY a b c d))=sec 4 0 (secX a b c d) (secY a b c d)
 ms:=fun k=>4-k }
abbrev zc74d (a:Int) (b:Int) (c:Int) (d:Int):=sec 4 (0:Int) (secX a b c d) (secY a b c d)
abbrev zc74a (g:Nat) (a:Int) (b:Int) (c:Int) (d:Int):=decide (rY g (secX a b c d) (secY a b c d)>=rX g (secX a b c d) (secY a b c d))=true->AV.bool (decide (rY g (secX a b c d) (secY a b c d)>=rX g (secX a b c d) (secY a b c d)))=AV.bool true∧(decide (rX g (secX a b c d) (secY a b c d) > 0)=true->In64 ((↑(2 * g):Int)+1)∧AV.i ((↑(2 * g):Int)+1)=AV.i (zc74d a b c d))∧(decide (rX g (secX a b c d) (secY a b c d) > 0)=false->In64 ((0:Int)-rX g (secX a b c d) (secY a b c d))∧In64 ((↑(2 * g):Int)+2)∧∃ (g':Nat),(g'<=4∧sec (4-g') (↑(2 * g'):Int) (rX g' (secX a b c d) (secY a b c d)) (rY g' (secX a b c d) (secY a b c d))=sec 4 (0:Int) (secX a b c d) (secY a b c d))∧4-g' < 4-g∧AS.mk [(5,AV.i (rY g (secX a b c d) (secY a b c d))),(6,AV.i ((0:Int)-rX g (secX a b c d) (secY a b c d))),(7,AV.i ((↑(2 * g):Int)+2))] [] 1=AS.mk [(5,AV.i (rX g' (secX a b c d) (secY a b c d))),(6,AV.i (rY g' (secX a b c d) (secY a b c d))),(7,AV.i (↑(2 * g'):Int))] [] 1)
abbrev zc74b (g:Nat) (a:Int) (b:Int) (c:Int) (d:Int):=decide (rY g (secX a b c d) (secY a b c d)>=rX g (secX a b c d) (secY a b c d))=false->(false=true->false=true)∧AV.bool (decide (rY g (secX a b c d) (secY a b c d)>=rX g (secX a b c d) (secY a b c d)))=AV.bool false∧(false=true->In64 ((↑(2 * g):Int)+1)∧AV.i ((↑(2 * g):Int)+1)=AV.i (zc74d a b c d))∧(false=false->In64 ((0:Int)-rX g (secX a b c d) (secY a b c d))∧In64 ((↑(2 * g):Int)+2)∧∃ (g':Nat),(g'<=4∧sec (4-g') (↑(2 * g'):Int) (rX g' (secX a b c d) (secY a b c d)) (rY g' (secX a b c d) (secY a b c d))=sec 4 (0:Int) (secX a b c d) (secY a b c d))∧4-g' < 4-g∧AS.mk [(5,AV.i (rY g (secX a b c d) (secY a b c d))),(6,AV.i ((0:Int)-rX g (secX a b c d) (secY a b c d))),(7,AV.i ((↑(2 * g):Int)+2))] [] 1=AS.mk [(5,AV.i (rX g' (secX a b c d) (secY a b c d))),(6,AV.i (rY g' (secX a b c d) (secY a b c d))),(7,AV.i (↑(2 * g'):Int))] [] 1)
abbrev zc74c (g:Nat) (a:Int) (b:Int) (c:Int) (d:Int):=rX g (secX a b c d) (secY a b c d) > rY g (secX a b c d) (secY a b c d)
theorem c74 (a b c d:Int) (ha : -200000<=a∧a<=200000) (hb : -200000<=b∧b<=200000) (hc : -200000<=c∧c<=200000) (hd : -200000<=d∧d<=200000):PCall Tryd.prog G0 74 [.agg [.i a,.i b],.agg [.i c,.i d]] (.i (sec 4 0 (secX a b c d) (secY a b c d))):=by
 have key :
  In64 (a * c)∧In64 (b * d)∧In64 (a * c+b * d)∧In64 (a * d)∧In64 (b * c)∧In64 (a * d-b * c)∧(∃ (g:Nat),(g<=4∧sec (4-g) (↑(2 * g):Int) (rX g (secX a b c d) (secY a b c d)) (rY g (secX a b c d) (secY a b c d))
  = sec 4 (0:Int) (secX a b c d) (secY a b c d))∧AS.mk [(5,AV.i (a * c+b * d)),(6,AV.i (a * d-b * c)),(7,AV.i 0)] [] 1=AS.mk [(5,AV.i (rX g (secX a b c d) (secY a b c d))),(6,AV.i (rY g (secX a b c d) (secY a b c
  d))),(7,AV.i (↑(2 * g):Int))] [] 1)∧∀ (g:Nat),g<=4∧sec (4-g) (↑(2 * g):Int) (rX g (secX a b c d) (secY a b c d)) (rY g (secX a b c d) (secY a b c d))=sec 4 (0:Int) (secX a b c d) (secY a b c d)->(decide ((↑(2 *
  g):Int) < 8)=true->(decide (zc74c g a b c d)=true->(decide (rY g (secX a b c d) (secY a b c d)>=0)=true->(true=false->false=true)∧AV.bool (decide (zc74c g a b c d))=AV.bool true∧AV.bool (decide (rY g (secX a
  b c d) (secY a b c d)>=0))=AV.bool true∧(true=true->AV.i (↑(2 * g):Int)=AV.i (zc74d a b c d))∧(true=false->(zc74a g a b c d)∧(zc74b g a b c d)))∧(decide (rY g (secX a b c d) (secY a b c d)>=0)=false->((rX g
  (secX a b c d) (secY a b c d) == 0)=true->AV.bool (decide (zc74c g a b c d))=AV.bool true∧AV.bool (decide (rY g (secX a b c d) (secY a b c d)>=0))=AV.bool false∧AV.bool (rX g (secX a b c d) (secY a b c d) == 0) =
  AV.bool true∧((rY g (secX a b c d) (secY a b c d) == 0)=true->AV.i (↑(2 * g):Int)=AV.i (zc74d a b c d))∧((rY g (secX a b c d) (secY a b c d) == 0)=false->(zc74a g a b c d)∧(zc74b g a b c d)))∧((rX g (secX a b c d)
  (secY a b c d) == 0)=false->(false=true->false=true)∧AV.bool (decide (zc74c g a b c d))=AV.bool true∧AV.bool (decide (rY g (secX a b c d) (secY a b c d)>=0))=AV.bool false∧AV.bool (rX g (secX a b c d) (secY a b c
  d) == 0)=AV.bool false∧(false=true->AV.i (↑(2 * g):Int)=AV.i (zc74d a b c d))∧(false=false->(zc74a g a b c d)∧(zc74b g a b c d)))))∧(decide (zc74c g a b c d)=false->(false=true->(false=true->false =
  true)∧(true=false->false=true)∧AV.bool (decide (zc74c g a b c d))=AV.bool false∧AV.bool false=AV.bool true∧(true=true->AV.i (↑(2 * g):Int)=AV.i (zc74d a b c d))∧(true=false->(zc74a g a b c d)∧(zc74b g
  a b c d)))∧(false=false->((rX g (secX a b c d) (secY a b c d) == 0)=true->(false=true->false=true)∧AV.bool (decide (zc74c g a b c d))=AV.bool false∧AV.bool false=AV.bool false∧AV.bool (rX g (secX a b c d)
  (secY a b c d) == 0)=AV.bool true∧((rY g (secX a b c d) (secY a b c d) == 0)=true->AV.i (↑(2 * g):Int)=AV.i (zc74d a b c d))∧((rY g (secX a b c d) (secY a b c d) == 0)=false->(zc74a g a b c d)∧(zc74b g a b c d)))
  ∧ ((rX g (secX a b c d) (secY a b c d) == 0)=false->(false=true->false=true)∧(false=true->false=true)∧AV.bool (decide (zc74c g a b c d))=AV.bool false∧AV.bool false=AV.bool false∧AV.bool (rX g (secX a b c
  d) (secY a b c d) == 0)=AV.bool false∧(false=true->AV.i (↑(2 * g):Int)=AV.i (zc74d a b c d))∧(false=false->(zc74a g a b c d)∧(zc74b g a b c d))))))∧(decide ((↑(2 * g):Int) < 8)=false->AV.i 0=AV.i (zc74d a
  b c d)):=by
   delta zc74a zc74b zc74c zc74d
   obtain ⟨i1,i2,i3,i4,i5,i6,bX,bY⟩:=sec_in ha hb hc hd
   refine ⟨i1,i2,i3,i4,i5,i6,⟨0,⟨by omega,rfl⟩,rfl⟩,fun g ⟨hg,hs⟩=>⟨fun hy=>?_,fun hy=>?_⟩⟩
   · have hg4:g < 4:=by have:=of_decide_eq_true hy;omega
     obtain ⟨f1,f2,f3⟩:=sec_step hg4 hs
     have hbx:=rX_b bX bY g
     have j1:In64 ((2 * g:Nat)+1):=by unfold In64;omega
     have j2:In64 ((2 * g:Nat)+2):=by unfold In64;omega
     have j3:In64 (0-rX g (secX a b c d) (secY a b c d)):=by unfold In64;omega
     clear hs hy bX bY hbx i1 i2 i3 i4 i5 i6 ha hb hc hd hg
     generalize sec 4 0 (secX a b c d) (secY a b c d)=S at *
     generalize decide (rX g (secX a b c d) (secY a b c d) > rY g (secX a b c d) (secY a b c d))=p at *
     generalize decide (rY g (secX a b c d) (secY a b c d)>=0)=q at *
     generalize (rX g (secX a b c d) (secY a b c d) == 0)=r at *
     generalize (rY g (secX a b c d) (secY a b c d) == 0)=s at *
     generalize decide (rY g (secX a b c d) (secY a b c d)>=rX g (secX a b c d) (secY a b c d))=u at *
     generalize decide (rX g (secX a b c d) (secY a b c d) > 0)=w at *
     cases p <;> cases q <;> cases r <;> cases s <;> cases u <;> cases w
     all_goals repeat' (first | (intro h;cases h;done) | exact j1 | exact j2 | exact j3 | apply And.intro | intro _)
     all_goals first
      | rfl
      | exact f1 rfl
      | exact f2 rfl rfl
      | (obtain ⟨g',q1,q2,q3,q4,q5⟩:=f3 rfl rfl;exact ⟨g',q1,q2,by rw [q3,q4,q5]⟩)
   · have hg4:g=4:=by have:=of_decide_eq_false hy;omega
     subst hg4
     exact congrArg AV.i hs
 exact c_of Tryd.f74 ({ fzB (mkB spR 74 [] (fun j=>if j.beq 0 then some (la116 a b c d) else none)) with split:=fun j=>if j.beq 5 then 1 else if j.beq 7 then 1 else 0 }) (by kernel_rfl) (by kernel_rfl) (by kernel_rfl) (by kernel_rfl) key (by kernel_rfl)
end Go.Proofs.YtnbhfmaamloodaaDoor
namespace Go.Proofs.YtnbhfmaamloodaaDoor
open Go Go.Av Go.RowKit
end Go.Proofs.YtnbhfmaamloodaaDoor
namespace Go.Proofs.YtnbhfmaamloodaaDoor
open Go Go.Av Go.RowKit
end Go.Proofs.YtnbhfmaamloodaaDoor
namespace Go.Proofs.YtnbhfmaamloodaaDoor
open Go Go.Av Go.RowKit
def hrdV (t:Ty) (a b p u v w:Int):Int:=emi t p (u * u+v * v+w * w) * cI [[AV.i t.d0],[AV.i t.d1],[AV.i t.d2],[AV.i t.d3],[AV.i t.d4],[AV.i t.d5],[AV.i t.d6],[AV.i t.d7]] (sec 4 0 (secX a b u v) (secY a b u v)).toNat
def hrd (t:Ty) (a b p u v w:Int):Int:=if decide (4 * (w * w) < u * u+v * v) then (hrdV t a b p u v w * t.side).tdiv 1000000 else (hrdV t a b p u v w).tdiv 1000
def sp117 (t:Ty):Nat->List AV->Option AV
 | 72,[.agg [.int _ x,.int _ y,.int _ z],.agg [.int _ x2,.int _ y2,.int _ z2]]=>some (.agg [.i (x-x2),.i (y-y2),.i (z-z2)])
 | 73,[.agg [.int _ x,.int _ y,.int _ z]]=>some (.agg [.i (x * x+y * y),.i (z * z)])
 | 74,[.agg [.int _ a,.int _ b],.agg [.int _ c,.int _ d]]=>some (.i (sec 4 0 (secX a b c d) (secY a b c d)))
 | 1050,[.agg [.int _ a,.int _ b],.agg [.int _ c,.int _ d]]=>some (.i (sec 4 0 (secX a b c d) (secY a b c d)))
 | 67,[_,.int _ p,.int _ d]=>some (.i (emi t p d))
 | 1049,[_,.int _ p,.int _ d]=>some (.i (emi t p d))
 | n,x=>spR n x
theorem tdiv_abs {n d B:Int} (_hd:0 < d) (h1 : -B<=n) (h2:n<=B):n.tdiv d<=B ∧ -B<=n.tdiv d:=by
 have h:(n.tdiv d).natAbs=n.natAbs / d.natAbs:=Int.natAbs_tdiv n d
 have h4:n.natAbs / d.natAbs<=n.natAbs:=Nat.div_le_self _ _
 omega
theorem floor_b {n d:Int} (hd:0 < d) (h1 : -10000000000<=n) (h2:n<=10000000000) : -10000000001<=sFloor n d∧sFloor n d<=10000000000:=by
 have h3:n.tdiv d<=10000000000 ∧ -10000000000<=n.tdiv d:=tdiv_abs hd h1 h2
 unfold sFloor
 split <;> omega
theorem sq_nn (u:Int):0<=u * u:=by
 rcases Int.le_total 0 u with h | h
 · exact Int.mul_nonneg h h
 · have:=Int.mul_nonneg (a := -u) (b := -u) (by omega) (by omega)
   rw [Int.neg_mul_neg] at this
   exact this
theorem sq_zero {u v:Int} (h:u * u+v * v=0):u=0:=by
 have h1:0<=u * u:=sq_nn u
 have h2:0<=v * v:=sq_nn v
 have h3:u * u=0:=by omega
 rcases Int.mul_eq_zero.1 h3 with h | h <;> exact h
theorem sec_b:∀ (n:Nat) (i x y:Int),0<=i->0<=sec n i x y∧(sec n i x y < i+2 * n ∨ sec n i x y=0)
 | 0,_,_,_,_=>⟨Int.le_refl _,.inr rfl⟩
 | n+1,i,x,y,h=>by
  simp only [sec]
  split
  · omega
  · split
    · omega
    · have:=sec_b n (i+2) y (-x) (by omega)
      omega
theorem sec_8 (x y:Int):0<=sec 4 0 x y∧sec 4 0 x y < 8:=by
 have:=sec_b 4 0 x y (by omega)
 omega
theorem emi_b {t:Ty} {p d:Int} (h:OKTy t) (hp:1<=p) (hp2:p<=100) : -20000000000<=emi t p d∧emi t p d<=20000000000:=by
 have hK:=bandN_lt (l:=t.sq) (d:=d) h.q1
 have hle:=geN_le (t:=t) (p:=p) t.st.length
 have hn:=h.n1
 unfold emi
 split
 · have:=h.eb (t.st.length-1) _ (by omega) hK
   omega
 · rename_i h1
   split
   · have:=h.eb (geN t p t.st.length) _ (by omega) hK
     omega
   · rename_i h2
     have h0:geN t p t.st.length ≠ 0:=fun e=>h2 (.inl e)
     have hB:=emi_bet h hp hp2 (by omega) h0 hK
     rw [cI_map,cI_map] at hB
     obtain ⟨a1,a2⟩:=h.eb (geN t p t.st.length-1) _ (by omega) hK
     obtain ⟨b1,b2⟩:=h.eb (geN t p t.st.length) _ (by omega) hK
     obtain ⟨c1,c2⟩:=h.pb (geN t p t.st.length-1) (by omega)
     have hm:=mul_bound (x:=eAt (t.sg (geN t p t.st.length)).e (bandN t.sq d t.sq.length)-eAt (t.sg (geN t p t.st.length-1)).e (bandN t.sq d t.sq.length)) (y:=p-(t.sg (geN t p t.st.length-1)).p) (A:=100000000) (B:=100) (by omega) (by omega) (by omega) (by omega)
     have hf:=floor_b (n:=(eAt (t.sg (geN t p t.st.length)).e (bandN t.sq d t.sq.length)-eAt (t.sg (geN t p t.st.length-1)).e (bandN t.sq d t.sq.length)) * (p-(t.sg (geN t p t.st.length-1)).p)) hB.w (by omega) (by omega)
     unfold sBetween
     omega
theorem hrd_in {t:Ty} {a b p u v w:Int} (h:OKTy t) (hp:1<=p∧p<=100) (hD:∀ i,i < 8->0<=t.dir.getD i default∧t.dir.getD i default<=2000) (hs:0<=t.side∧t.side<=1000) :
 In64 (hrdV t a b p u v w)∧In64 (hrdV t a b p u v w * t.side)∧In64 ((hrdV t a b p u v w * t.side).tdiv 1000000)∧In64 ((hrdV t a b p u v w).tdiv 1000):=by
 have h8:=sec_8 (secX a b u v) (secY a b u v)
 have hd:=hD (sec 4 0 (secX a b u v) (secY a b u v)).toNat (by omega)
 rw [<- cI_map] at hd
 have he:=emi_b (d:=u * u+v * v+w * w) h hp.1 hp.2
 have h1:=mul_bound (A:=20000000000) (B:=2000) he.1 he.2 (by omega) hd.2
 have hv : -(20000000000 * 2000)<=hrdV t a b p u v w∧hrdV t a b p u v w<=20000000000 * 2000:=h1
 have h2:=mul_bound (A:=40000000000000) (B:=1000) (x:=hrdV t a b p u v w) (y:=t.side) (by omega) (by omega) (by omega) hs.2
 generalize hrdV t a b p u v w * t.side=m at *
 generalize hrdV t a b p u v w=k at *
 refine ⟨by unfold In64;omega,by unfold In64;omega,?_,?_⟩
 · have:=tdiv_abs (n:=m) (d:=1000000) (B:=40000000000000000) (by omega) (by omega) (by omega)
   unfold In64;omega
 · have:=tdiv_abs (n:=k) (d:=1000) (B:=40000000000000) (by omega) (by omega) (by omega)
   unfold In64;omega
theorem quad_in {u v w:Int} (hu : -200000<=u∧u<=200000) (hv : -200000<=v∧v<=200000) (hw : -20000<=w∧w<=20000) :
 In64 (u * u)∧In64 (v * v)∧In64 (u * u+v * v)∧In64 (w * w)∧In64 (u * u+v * v+w * w)∧In64 (4 * (w * w))∧In64 (4 * w)∧In64 (4 * w * w):=by
 have h1:=mul_bound hu.1 hu.2 hu.1 hu.2
 have h2:=mul_bound hv.1 hv.2 hv.1 hv.2
 have h3:=mul_bound hw.1 hw.2 hw.1 hw.2
 rw [Int.mul_assoc 4 w w]
 generalize u * u=q1 at *
 generalize v * v=q2 at *
 generalize w * w=q3 at *
 unfold In64
 omega
abbrev zc53a (t:Ty):=[[AV.i t.d0],[AV.i t.d1],[AV.i t.d2],[AV.i t.d3],[AV.i t.d4],[AV.i t.d5],[AV.i t.d6],[AV.i t.d7]]
abbrev zc53b (x2:Int) (x:Int) (y2:Int) (y:Int) (z2:Int) (z:Int):=(x2-x) * (x2-x)+(y2-y) * (y2-y)+(z2-z) * (z2-z)
abbrev zc53c (a:Int) (b:Int) (x2:Int) (x:Int) (y2:Int) (y:Int):=sec 4 (0:Int) (secX a b (x2-x) (y2-y)) (secY a b (x2-x) (y2-y))
theorem c53 (t:Ty) (x y z a b p x2 y2 z2:Int) (h:OKTy t) (hx : -100000<=x∧x<=100000) (hy : -100000<=y∧y<=100000) (hz:0<=z∧z<=20000) (ha : -200000<=a∧a<=200000) (hb : -200000<=b∧b<=200000) (hp:1<=p∧p<=100) (hx2 : -100000<=x2∧x2<=100000) (hy2 : -100000<=y2∧y2<=100000) (hz2:0<=z2∧z2<=20000) (hD:∀ i,i < 8->0<=t.dir.getD i default∧t.dir.getD i default<=2000) (hs:0<=t.side∧t.side<=1000):PCall Tryd.prog G0 53 [.agg (encTy t),.agg [.i x,.i y,.i z,.i a,.i b,.i p],.agg [.i x2,.i y2,.i z2]] (.i (hrd t a b p (x2-x) (y2-y) (z2-z))):=by
 have key :
  PCall Tryd.prog G0 72 [AV.agg [AV.i x2,AV.i y2,AV.i z2],AV.agg [AV.i x,AV.i y,AV.i z]] (AV.agg [AV.i (x2-x),AV.i (y2-y),AV.i (z2-z)])∧PCall Tryd.prog G0 73 [AV.agg [AV.i (x2-x),AV.i (y2-y),AV.i (z2-z)]]
  (AV.agg [AV.i ((x2-x) * (x2-x)+(y2-y) * (y2-y)),AV.i ((z2-z) * (z2-z))])∧((!((x2-x) * (x2-x)+(y2-y) * (y2-y) == 0 && true && ((z2-z) * (z2-z) == 0 && true && true)))=true->PCall Tryd.prog G0 74
  [AV.agg [AV.i a,AV.i b],AV.agg [AV.i (x2-x),AV.i (y2-y)]] (AV.i (zc53c a b x2 x y2 y))∧(0:Int)<=0∧(0:Int) < (2:Int)∧(0:Int)<=1∧(1:Int) < (2:Int)∧In64 (zc53b x2 x y2 y z2 z)∧(0:Int)<=sec 4 (0 :
  Int) (secX a b (x2-x) (y2-y)) (secY a b (x2-x) (y2-y))∧sec 4 (0:Int) (secX a b (x2-x) (y2-y)) (secY a b (x2-x) (y2-y)) < (8:Int)∧In64 (emi t p (zc53b x2 x y2 y z2 z) * cI (zc53a t) (zc53c a b x2 x y2
  y).toNat)∧PCall Tryd.prog G0 67 [AV.agg (encTy t),AV.i p,AV.i (zc53b x2 x y2 y z2 z)] (AV.i (emi t p (zc53b x2 x y2 y z2 z)))∧nth (nthR (zc53a t) (zc53c a b x2 x y2 y).toNat) 0=AV.i (cI (zc53a t) (zc53c a b x2 x y2
  y).toNat)∧(0:Int)<=1∧(1:Int) < (2:Int)∧In64 ((4:Int) * ((z2-z) * (z2-z)))∧(0:Int)<=0∧(0:Int) < (2:Int)∧(decide ((4:Int) * ((z2-z) * (z2-z)) < (x2-x) * (x2-x)+(y2-y) * (y2-y))=true
  → In64 (emi t p (zc53b x2 x y2 y z2 z) * cI (zc53a t) (zc53c a b x2 x y2 y).toNat * t.side)∧¬(1000000:Int)=(0:Int)∧In64 ((emi t p (zc53b x2 x y2 y z2 z) * cI (zc53a t) (zc53c a b x2 x y2 y).toNat * t.side).tdiv 1000000) ∧
  AV.i ((emi t p (zc53b x2 x y2 y z2 z) * cI (zc53a t) (zc53c a b x2 x y2 y).toNat * t.side).tdiv 1000000)=AV.i (hrd t a b p (x2-x) (y2-y) (z2-z)))∧(decide ((4:Int) * ((z2-z) * (z2-z)) < (x2-x) * (x2-x)+(y2-y)
  * (y2-y))=false->¬(1000:Int)=(0:Int)∧In64 ((emi t p (zc53b x2 x y2 y z2 z) * cI (zc53a t) (zc53c a b x2 x y2 y).toNat).tdiv 1000)∧AV.i ((emi t p (zc53b x2 x y2 y z2 z) * cI (zc53a t) (zc53c a b x2 x y2 y).toNat).tdiv
  1000)=AV.i (hrd t a b p (x2-x) (y2-y) (z2-z))))∧((!((x2-x) * (x2-x)+(y2-y) * (y2-y) == 0 && true && ((z2-z) * (z2-z) == 0 && true && true)))=false->(0:Int)<=0∧(0:Int) < (2:Int)∧(0:Int)<=1 ∧
  (1:Int) < (2:Int)∧In64 (zc53b x2 x y2 y z2 z)∧(0:Int)<=0∧(0:Int) < (8:Int)∧In64 (emi t p (zc53b x2 x y2 y z2 z) * cI (zc53a t) 0)∧PCall Tryd.prog G0 67 [AV.agg (encTy t),AV.i p,AV.i (zc53b x2 x y2 y z2 z)]
  (AV.i (emi t p (zc53b x2 x y2 y z2 z)))∧AV.i t.d0=AV.i (cI (zc53a t) 0)∧(0:Int)<=1∧(1:Int) < (2:Int)∧In64 ((4:Int) * ((z2-z) * (z2-z)))∧(0:Int)<=0∧(0:Int) < (2:Int)∧(decide ((4:Int) * ((z2 -
  z) * (z2-z)) < (x2-x) * (x2-x)+(y2-y) * (y2-y))=true->In64 (emi t p (zc53b x2 x y2 y z2 z) * cI (zc53a t) 0 * t.side)∧¬(1000000:Int)=(0:Int)∧In64 ((emi t p (zc53b x2 x y2 y z2 z) * cI (zc53a t) 0 *
  t.side).tdiv 1000000)∧AV.i ((emi t p (zc53b x2 x y2 y z2 z) * cI (zc53a t) 0 * t.side).tdiv 1000000)=AV.i (hrd t a b p (x2-x) (y2-y) (z2-z)))∧(decide ((4:Int) * ((z2-z) * (z2-z)) < (x2-x) * (x2-x)+(y2-y) *
  (y2-y))=false->¬(1000:Int)=(0:Int)∧In64 ((emi t p (zc53b x2 x y2 y z2 z) * cI (zc53a t) 0).tdiv 1000)∧AV.i ((emi t p (zc53b x2 x y2 y z2 z) * cI (zc53a t) 0).tdiv 1000)=AV.i (hrd t a b p (x2-x) (y2-y) (z2 -
  z)))):=by
   delta zc53a zc53b zc53c
   obtain ⟨k1,k2,k3,k4,k5,k6,k7,k8⟩:=quad_in (u:=x2-x) (v:=y2-y) (w:=z2-z) (by omega) (by omega) (by omega)
   obtain ⟨m1,m2,m3,m4⟩:=hrd_in (a:=a) (b:=b) (u:=x2-x) (v:=y2-y) (w:=z2-z) h hp hD hs
   have h8:=sec_8 (secX a b (x2-x) (y2-y)) (secY a b (x2-x) (y2-y))
   refine ⟨c72 _ _ _ _ _ _ (by unfold In64;omega) (by unfold In64;omega) (by unfold In64;omega),c73 _ _ _ k1 k2 k3 k4,fun hn=>?_,fun hn=>?_⟩
   · refine ⟨c74 _ _ _ _ ha hb (by omega) (by omega),by omega,by omega,by omega,by omega,k5,h8.1,h8.2,m1,c67 t _ _ h hp.1 hp.2,cI_at (l:=t.dir) (i:=(sec 4 0 (secX a b (x2-x) (y2-y)) (secY a b (x2-x) (y2-y))).toNat) (show _ < (8:Nat) by omega),by omega,by omega,k6,by omega,by omega,fun e=>⟨m2,by omega,m3,?_⟩,fun e=>⟨by omega,m4,?_⟩⟩
     · rw [hrd,if_pos e]
       rfl
     · rw [hrd,if_neg (by rw [e];decide)]
       rfl
   · have hz0:(x2-x) * (x2-x)+(y2-y) * (y2-y)=0:=by
      simp only [Bool.not_eq_false',Bool.and_eq_true,beq_iff_eq] at hn
      exact hn.1.1
     have e1:x2-x=0:=sq_zero hz0
     have e2:y2-y=0:=sq_zero (by rw [Int.add_comm];exact hz0)
     have es:sec 4 0 (secX a b (x2-x) (y2-y)) (secY a b (x2-x) (y2-y))=0:=by
      rw [e1,e2]
      simp only [secX,secY,Int.mul_zero,Int.add_zero,Int.sub_zero]
      rfl
     have ev:hrdV t a b p (x2-x) (y2-y) (z2-z)=emi t p ((x2-x) * (x2-x)+(y2-y) * (y2-y)+(z2-z) * (z2-z)) * cI [[AV.i t.d0],[AV.i t.d1],[AV.i t.d2],[AV.i t.d3],[AV.i t.d4],[AV.i t.d5],[AV.i t.d6],[AV.i t.d7]] 0:=by
      unfold hrdV
      rw [es]
      rfl
     rw [ev] at m1 m2 m3 m4
     refine ⟨by omega,by omega,by omega,by omega,k5,by omega,by omega,m1,c67 t _ _ h hp.1 hp.2,rfl,by omega,by omega,k6,by omega,by omega,fun e=>⟨m2,by omega,m3,?_⟩,fun e=>⟨by omega,m4,?_⟩⟩
     · rw [hrd,if_pos e,ev]
     · rw [hrd,if_neg (by rw [e];decide),ev]
 exact c_of Tryd.f53 (fzB (mkB (sp117 t) 53 [(6,12,rdJ)] noLa)) (by kernel_rfl) (by kernel_rfl) (by kernel_rfl) (by kernel_rfl) key (by kernel_rfl)
end Go.Proofs.YtnbhfmaamloodaaDoor
namespace Go.Proofs.YtnbhfmaamloodaaDoor
open Go Go.Av Go.RowKit
theorem dir_ok {x y:Int} (h:sDir x y=0):(-200000<=x∧x<=200000)∧(-200000<=y∧y<=200000):=by
 unfold sDir at h
 rw [first_zero,first_zero,within_zero,within_zero] at h
 exact ⟨h.1,h.2.1⟩
end Go.Proofs.YtnbhfmaamloodaaDoor
namespace Go.Proofs.YtnbhfmaamloodaaDoor
open Go Go.Av Go.RowKit
theorem scan_zero {f:Nat->Int} {n:Nat} {fin:Int} (h:sScan f n fin=0):(∀ k,k < n->f k=0)∧fin=0:=by
 have h1:∀ l:List Int,sFirst (l++[fin])=0->(∀ x,x ∈ l->x=0)∧fin=0:=by
  intro l
  induction l with
  | nil=>intro h;rw [List.nil_append,first_zero] at h;exact ⟨by simp,h.1⟩
  | cons x l ih =>
   intro h
   rw [List.cons_append,first_zero] at h
   obtain ⟨h2,h3⟩:=h
   have:=ih h3
   exact ⟨fun y hy=>by rcases List.mem_cons.1 hy with e | e;(· rw [e];exact h2);(· exact this.1 y e),this.2⟩
 have:=h1 _ h
 exact ⟨fun k hk=>this.1 _ (List.mem_map.2 ⟨k,List.mem_range.2 hk,rfl⟩),this.2⟩
theorem ls_zero' {c:Int} {f:Nat->Int} {n:Nat} {fin:Int} (h:sLS c f n fin=0):c=0∧(∀ k,k < n->f k=0)∧fin=0:=by
 unfold sLS at h
 split at h
 · rename_i hc;rw [h] at hc;exact absurd hc (by decide)
 · rename_i hc
   exact ⟨by simpa using hc,scan_zero h⟩
theorem when_z {b:Bool} {e:Int} (he:e ≠ 0) (h:sWhen b e=0):b=false:=by
 cases b
 · rfl
 · exact absurd h (by simpa [sWhen] using he)
theorem counted_zero {n m:Int} (h:sCounted n m=0):n ≠ 0∧n<=m:=by
 unfold sCounted at h
 rw [first_zero,first_zero] at h
 have h1:=when_z (by decide) h.1
 have h2:=when_z (by decide) h.2.1
 have:=of_decide_eq_false h2
 exact ⟨ne_of_beq_false h1,by omega⟩
theorem ok_of {t:Ty} (h:sTyS t=0):OKTy t:=by
 unfold sTyS at h
 split at h
 · rename_i h1;rw [h] at h1;exact absurd h1 (by decide)
 · obtain ⟨h2,h3,h4⟩:=ls_zero' h
   unfold cTyS2 at h2
   rw [first_zero,first_zero,first_zero,first_zero] at h2
   obtain ⟨_,_,hq,_⟩:=h2
   have hq:=counted_zero hq
   obtain ⟨hn,hS,_⟩:=ls_zero' h4
   have hn:=counted_zero hn
   have hc:∀ i,i < t.st.length->sFirst [sWithin (t.sg i).p 1 100,sWhen (decide ((t.sg i).p<=lastP t i)) 11,sWhen (((t.sg i).e.length:Int) != (t.sq.length:Int)) 2,sRanged (t.sg i).e 100000000]=0:=fun i hi=>(ls_zero' (hS i hi)).1
   have hel:∀ i,i < t.st.length->(t.sg i).e.length=t.sq.length:=fun i hi=>first4_3 (hc i hi)
   refine ⟨by omega,by omega,by omega,by omega,hel,fun i hi=>?_,fun i hi=>?_,fun i k hi hk=>?_⟩
   · have:=hc i hi
     rw [first_zero,within_zero] at this
     exact this.1
   · have:=hc (i+1) hi
     rw [first_zero,first_zero] at this
     have h5:=of_decide_eq_false (when_z (by decide) this.2.1)
     have e:lastP t (i+1)=(t.sg i).p:=rfl
     rw [e] at h5
     omega
   · have:=hc i hi
     rw [first_zero,first_zero,first_zero,first_zero] at this
     exact ranged_of this.2.2.2.1 k (by rw [hel i hi];exact hk)
end Go.Proofs.YtnbhfmaamloodaaDoor
namespace Go.Proofs.YtnbhfmaamloodaaDoor
open Go Go.Av Go.RowKit
theorem side_of {t:Ty} (h:sTyS t=0):(∀ i,i < 8->0<=t.dir.getD i default∧t.dir.getD i default<=2000)∧0<=t.side∧t.side<=1000:=by
 unfold sTyS at h
 split at h
 · rename_i h1;rw [h] at h1;exact absurd h1 (by decide)
 · obtain ⟨h2,_,_⟩:=ls_zero' h
   unfold cTyS2 at h2
   rw [first_zero,first_zero,within_zero] at h2
   exact ⟨fun i hi=>ranged_of h2.1 i hi,h2.2.1⟩
theorem place_ok {x y z:Int} (h:sPlace x y z=0):(-100000<=x∧x<=100000)∧(-100000<=y∧y<=100000)∧(0<=z∧z<=20000):=by
 unfold sPlace at h
 rw [first_zero,first_zero,first_zero,within_zero,within_zero,within_zero] at h
 exact ⟨h.1,h.2.1,h.2.2.1⟩
def sp40 (t:Ty) (u v w:Int):Nat->List AV->Option AV
 | 36,_=>some (.i (sTyS t))
 | 52,[.int _ p]=>some (.i (sPower p))
 | 38,[.agg [.int _ x,.int _ y,.int _ z]]=>some (.i (sPlace x y z))
 | 53,[_,.agg [_,_,_,.int _ a,.int _ b,.int _ p],_]=>some (.i (hrd t a b p u v w))
 | n,x=>sp117 t n x
def chkHrd (t:Ty) (x y z a b p x2 y2 z2:Int):Int:=sFirst [sTyS t,sPlace x y z,sDir a b,sPower p,sPlace x2 y2 z2]
def srcHrd (t:Ty) (x y z a b p x2 y2 z2:Int):List AV:=if chkHrd t x y z a b p x2 y2 z2 != 0 then [.i 0,.i (chkHrd t x y z a b p x2 y2 z2)] else [.i (hrd t a b p (x2-x) (y2-y) (z2-z)),.i 0]
theorem c20 (t:Ty) (x y z a b p x2 y2 z2:Int) (hn:t.st.length<=1000) (hs:t.sh.length<=1000) (hq:t.sq.length<=1000) (hl:∀ s,s ∈ t.st->s.e.length<=1000) (hN:t.name.length<=1000000):PCall Tryd.prog G0 20 [.agg (encTy t),.agg [.i x,.i y,.i z,.i a,.i b,.i p],.agg [.i x2,.i y2,.i z2]] (.tup (srcHrd t x y z a b p x2 y2 z2)):=by
 have key :
  PCall Tryd.prog G0 36 [AV.agg (encTy t)] (AV.i (sTyS t))∧PCall Tryd.prog G0 38 [AV.agg [AV.i x,AV.i y,AV.i z]] (AV.i (sPlace x y z))∧PCall Tryd.prog G0 51 [AV.agg [AV.i a,AV.i b]] (AV.i (sDir a b))∧PCall Tryd.prog G0 52
  [AV.i p] (AV.i (sPower p))∧PCall Tryd.prog G0 38 [AV.agg [AV.i x2,AV.i y2,AV.i z2]] (AV.i (sPlace x2 y2 z2))∧PCall Tryd.prog G0 35 [AV.sl 1 [[AV.i (sTyS t)],[AV.i (sPlace x y z)],[AV.i (sDir a b)],[AV.i (sPower p)],[AV.i
  (sPlace x2 y2 z2)]]] (AV.i (sFirst [hdI [AV.i (sTyS t)],hdI [AV.i (sPlace x y z)],hdI [AV.i (sDir a b)],hdI [AV.i (sPower p)],hdI [AV.i (sPlace x2 y2 z2)]]))∧((sFirst [hdI [AV.i (sTyS t)],hdI [AV.i (sPlace x y z)],hdI [AV.i
  (sDir a b)],hdI [AV.i (sPower p)],hdI [AV.i (sPlace x2 y2 z2)]] != 0)=true->AV.tup [AV.i 0,AV.i (sFirst [hdI [AV.i (sTyS t)],hdI [AV.i (sPlace x y z)],hdI [AV.i (sDir a b)],hdI [AV.i (sPower p)],hdI [AV.i (sPlace x2 y2
  z2)]])]=AV.tup (srcHrd t x y z a b p x2 y2 z2))∧((sFirst [hdI [AV.i (sTyS t)],hdI [AV.i (sPlace x y z)],hdI [AV.i (sDir a b)],hdI [AV.i (sPower p)],hdI [AV.i (sPlace x2 y2 z2)]] != 0)=false->PCall Tryd.prog G0 53 [AV.agg
  (encTy t),AV.agg [AV.i x,AV.i y,AV.i z,AV.i a,AV.i b,AV.i p],AV.agg [AV.i x2,AV.i y2,AV.i z2]] (AV.i (hrd t a b p (x2-x) (y2-y) (z2-z)))∧AV.tup [AV.i (hrd t a b p (x2-x) (y2-y) (z2-z)),AV.i 0]=AV.tup
  (srcHrd t x y z a b p x2 y2 z2)):=by
   refine ⟨c36 t hn hs hq hl hN,c38 _ _ _,c51 _ _,c52 _,c38 _ _ _,c35 [_,_,_,_,_] (by simp),fun h=>?_,fun h=>?_⟩
   · have h:(chkHrd t x y z a b p x2 y2 z2 != 0)=true:=h
     rw [srcHrd,if_pos h]
     rfl
   · have h:(chkHrd t x y z a b p x2 y2 z2 != 0)=false:=h
     have hz:chkHrd t x y z a b p x2 y2 z2=0:=by simpa using h
     unfold chkHrd at hz
     rw [first_zero,first_zero,first_zero,first_zero,first_zero] at hz
     obtain ⟨h1,h2,h3,h4,h5,_⟩:=hz
     unfold sPower at h4
     rw [within_zero] at h4
     obtain ⟨p1,p2,p3⟩:=place_ok h2
     obtain ⟨p4,p5,p6⟩:=place_ok h5
     obtain ⟨d1,d2⟩:=dir_ok h3
     obtain ⟨s1,s2⟩:=side_of h1
     refine ⟨c53 t x y z a b p x2 y2 z2 (ok_of h1) p1 p2 p3 d1 d2 h4 p4 p5 p6 s1 s2,?_⟩
     rw [srcHrd,if_neg (by rw [h];decide)]
 exact c_of Tryd.f20 (fzB (mkB (sp40 t (x2-x) (y2-y) (z2-z)) 20 [] noLa)) (by kernel_rfl) (by kernel_rfl) (by kernel_rfl) (by kernel_rfl) key (by kernel_rfl)
end Go.Proofs.YtnbhfmaamloodaaDoor
namespace Go.Proofs.YtnbhfmaamloodaaDoor
open Go Go.Av Go.RowKit
end Go.Proofs.YtnbhfmaamloodaaDoor
namespace Go.Proofs.YtnbhfmaamloodaaDoor
open Go Go.Av Go.RowKit
end Go.Proofs.YtnbhfmaamloodaaDoor
namespace Go.Proofs.YtnbhfmaamloodaaDoor
open Go Go.Av Go.RowKit
def orE (a b:Int):Int:=if a ≠ 0 then a else b
theorem first_c (x:Int) (l:List Int):sFirst (x::l)=orE x (sFirst l):=rfl
theorem first_n:sFirst []=0:=rfl
theorem orE_0 (a:Int):orE a 0=a:=by
 unfold orE
 split <;> omega
theorem orE_as (a b c:Int):orE (orE a b) c=orE a (orE b c):=by
 unfold orE
 by_cases h:a=0
 · simp [h]
 · simp [h]
theorem orE_c {a b c:Int} (h:a=0->b=c):orE a b=orE a c:=by
 unfold orE
 by_cases e:a=0
 · rw [h e]
 · rw [if_pos e,if_pos e]
theorem ite_or (c x:Int):(if (c != 0)=true then c else x)=orE c x:=by
 unfold orE
 by_cases h:c=0
 · simp [h]
 · simp [h]
theorem ls_or (c:Int) (f:Nat->Int) (n:Nat) (fin:Int):sLS c f n fin=orE c (sScan f n fin):=ite_or _ _
theorem first_app (m:List Int):∀ l,sFirst (l++m)=orE (sFirst l) (sFirst m)
 | []=>by
  rw [List.nil_append,first_n]
  rfl
 | x::l=>by rw [List.cons_append,first_c,first_c,first_app m l,orE_as]
theorem scan_or (f:Nat->Int) (n:Nat) (fin:Int):sScan f n fin=orE (sScan f n 0) fin:=by
 unfold sScan
 rw [first_app,first_app,first_c,first_n,orE_0,first_c,first_n,orE_0,orE_0]
theorem scan_same {f g:Nat->Int} {n:Nat} {fin:Int} (h:∀ k,k < n->f k=g k):sScan f n fin=sScan g n fin:=by
 unfold sScan
 rw [List.map_congr_left (fun k hk=>h k (List.mem_range.1 hk))]
theorem eAt_rep (n k:Nat):eAt (List.replicate n 0) k=0:=by
 unfold eAt
 rw [List.getD_eq_getElem?_getD,List.getElem?_replicate]
 split <;> rfl
theorem cSet_eq (t:Ty) (i:Nat):cSetS t i=cSetR t i:=by
 unfold cSetS cSetR
 rw [first_c,first_c (sPower _)]
 show orE (sWithin (t.sg i).p 1 100) _=orE (sWithin (t.sg i).p 1 100) _
 refine orE_c fun h=>?_
 have hp:=within_zero.1 h
 have e:decide ((t.sg i).p<=lastP t i)=if i=0 then false else decide ((t.sg i).p<=(t.sg (i-1)).p):=by
  unfold lastP
  by_cases e0:i=0
  · rw [if_pos e0,if_pos e0]
    exact decide_eq_false (by omega)
  · rw [if_neg e0,if_neg e0]
 rw [e]
 rfl
theorem fSet_eq (t:Ty) (i:Nat):fSetS t i=fSetR t i:=by
 unfold fSetS fSetR
 rw [ls_or,ls_or,cSet_eq]
 refine orE_c fun h=>scan_same fun k hk=>?_
 have e:badS t i k=badR t i k:=by
  unfold badS badR
  congr 1
  by_cases e0:i=0
  · rw [if_pos e0,lastE,if_pos e0,eAt_rep]
    unfold cSetR at h
    simp only [first_zero] at h
    have:=ranged_of h.2.2.2.1 k hk
    exact decide_eq_false (by unfold eAt;omega)
  · rw [if_neg e0,lastE,if_neg e0]
 rw [e]
theorem shares_or (l:List Int):sShares l=orE (sCounted l.length 8) (orE (sRanged l 1000) (sWhen (sumI l l.length != 1000) 1)):=by
 unfold sShares sCounted sRanged
 rw [ite_or]
 simp only [first_c,first_n,orE_0,orE_as]
theorem squares_or (l:List Int):sSquares l=orE (sCounted l.length 8) (orE (sRanged l 100000000000) (sScan (fSq l) l.length 0)):=by
 unfold sSquares sCounted sRanged
 rw [ls_or]
 simp only [first_c,first_n,orE_0,orE_as]
theorem sumW_eq {l:List Int} (h:∀ k,k < l.length->0<=l.getD k default∧l.getD k default<=1000) (hl:l.length<=1000):∀ i,i<=l.length->sumW l i=sumI l i
 | 0,_=>rfl
 | i+1,hi=>by
  have h1:=sumI_bound h (i+1) hi
  have h2:=sumW_eq h hl i (by omega)
  show IntKind.i64.wrap (sumW l i+l.getD i default)=sumI l i+l.getD i default
  rw [h2]
  have h3:sumI l (i+1)=sumI l i+l.getD i default:=rfl
  rw [<- h3]
  have:(0:Int)<=1000 * ((i+1:Nat):Int)∧1000 * ((i+1:Nat):Int)<=1000000:=by omega
  exact in64_wrap (by unfold In64;omega)
theorem ty_eq (t:Ty):sTyS t=sTyR t:=by
 have e1:cTyS1 t=orE (sWhen (!sName t.name) 8) (sShares t.sh):=by
  unfold cTyS1
  rw [shares_or,first_c,first_c,first_c,first_c,first_n,orE_0]
  refine congrArg _ (orE_c fun h1=>orE_c fun h2=>?_)
  have h3:t.sh.length<=8:=by
   have:=(counted_zero h1).2
   omega
  rw [sumW_eq (ranged_of h2) (by omega) _ (by omega)]
 have e2:sSets t=orE (sWhen ((t.st.length:Int) == 0) 12) (orE (sWhen (decide ((t.st.length:Int) > 6)) 5) (sScan (fSetR t) t.st.length 0)):=by
  unfold sSets
  rw [ls_or,scan_same fun k _=>fSet_eq t k]
  unfold sCounted
  simp only [first_c,first_n,orE_0,orE_as]
 unfold sTyS sTyR cTyS2 cTyR
 rw [ite_or,ls_or,ls_or,scan_or (fSq t.sq),e1,e2]
 simp only [first_c,first_n,orE_0,orE_as,squares_or]
 rfl
end Go.Proofs.YtnbhfmaamloodaaDoor
