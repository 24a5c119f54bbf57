/-
  Parsing a type, the source's: a contract. What the reference reads of the pieces of a string: definitions and lemmas. Parsing a type, the reference's: a contract. Both ways to parse a type make the same of a string. No condition but the theorems' own.
-/
import Derived.Test.YtjhjmncjidbieaaGreatDoorPF
import Derived.Test.YtjhjmncjidbieaaGreatDoorAvD
import Derived.Test.YtjhjmncjidbieaaGreatDoorPE
import Derived.Test.YtjhjmncjidbieaaGreatDoorPD
namespace Go.Proofs.YtjhjmncjidbieaaGreatDoor
open Go Go.Av Go.RowKit
def oB (t:Ty) (id:Nat):ABlk:=.box [.str t.name,.sl 1 (t.sh.map encI),.i t.d0,.i t.d1,.i t.d2,.i t.d3,.i t.d4,.i t.d5,.i t.d6,.i t.d7,.i t.side,.sl 1 (t.sq.map encI),.own id (t.st.map encSg).length]
def hdS (rows:List (List AV)):List UInt8:=(dS rows).headD []
def tlS (rows:List (List AV)):List (List AV):=(wdR (dS rows)).map encS
def tbS (rows:List (List AV)) (b:Bool):Bool:=wdB (dS rows) b
def lrS (k:Nat) (rows:List (List AV)) (b:Bool):List (List AV):=(lfK k (dS rows) b).1.map encS
def lbS (k:Nat) (rows:List (List AV)) (b:Bool):Bool:=(lfK k (dS rows) b).2
def sdS (rows:List (List AV)) (b:Bool):Int:=nvW (wdR (dS rows)) (wdB (dS rows) b)
def tiS (rows:List (List AV)) (b:Bool):List (List AV):=(tkL (dS rows) b (dS rows).length).map encI
def dkS (i:Nat) (rows:List (List AV)) (b:Bool):Int:=nvW (tkW (dS rows) b i).1 (tkW (dS rows) b i).2
def stS (rows:List (List AV)) (b:Bool):List AV:=encSg (Sg.mk (nvW (dS rows) b) (tkL (wdR (dS rows)) (nbW (dS rows) b) (wdR (dS rows)).length))
def roB (x:List UInt8):List (List AV):=(spl 32 x).map encS
def hs78:Nat->List AV->List ABlk->Option AV
 | 139,_,[.box [.sl _ rows,.bool b]]=>some (.gv true (.tup [.str (hdS rows),.agg [.sl 1 (tlS rows),.bool (tbS rows b)]]))
 | 226,_,[.box [_,sh,d0,d1,d2,d3,d4,d5,d6,d7,_,sq,st],.box [.sl _ rows,.bool b],.buf e k R]=>some (.gv true (.tup [.tup [],.agg [.str (hdS rows),sh,d0,d1,d2,d3,d4,d5,d6,d7,.i (sdS rows b),sq,st],.agg [.sl 1 (lrS 0 rows b),.bool (lbS 0 rows b)],.fresh e k R]))
 | 227,_,[.box [nm,_,d0,d1,d2,d3,d4,d5,d6,d7,sd,sq,st],.box [.sl _ rows,.bool b],.buf e k R]=>some (.gv true (.tup [.tup [],.agg [nm,.sl 1 (tiS rows b),d0,d1,d2,d3,d4,d5,d6,d7,sd,sq,st],.agg [.sl 1 (lrS 1 rows b),.bool (lbS 1 rows b)],.fresh e k R]))
 | 229,_,[.box [nm,sh,_,_,_,_,_,_,_,_,sd,sq,st],.box [.sl _ rows,.bool b],.buf e k R]=>some (.gv true (.tup [.tup [],.agg [nm,sh,.i (dkS 0 rows b),.i (dkS 1 rows b),.i (dkS 2 rows b),.i (dkS 3 rows b),.i (dkS 4 rows b),.i (dkS 5 rows b),.i (dkS 6 rows b),.i (dkS 7 rows b),sd,sq,st],.agg [.sl 1 (lrS 2 rows b),.bool (lbS 2 rows b)],.fresh e k R]))
 | 230,_,[.box [nm,sh,d0,d1,d2,d3,d4,d5,d6,d7,sd,_,st],.box [.sl _ rows,.bool b],.buf e k R]=>some (.gv true (.tup [.tup [],.agg [nm,sh,d0,d1,d2,d3,d4,d5,d6,d7,sd,.sl 1 (tiS rows b),st],.agg [.sl 1 (lrS 3 rows b),.bool (lbS 3 rows b)],.fresh e k R]))
 | 231,_,[.box [nm,sh,d0,d1,d2,d3,d4,d5,d6,d7,sd,sq,_],.box [.sl _ rows,.bool b],.buf e k R]=>some (.gv true (.tup [.tup [],.agg [nm,sh,d0,d1,d2,d3,d4,d5,d6,d7,sd,sq,.own 4 (R++[stS rows b]).length],.agg [.sl 1 (lrS 4 rows b),.bool (lbS 4 rows b)],.any,.fresh e k (R++[stS rows b])]))
 | _,_,_=>none
def sp78 (s:List UInt8):Nat->List AV->Option AV
 | 136,[.str s]=>some (.fbox 164 [.str s])
 | 137,[.str s,_]=>some (.tup [.str (bodyL s),.bool (cutS s [10])])
 | 138,[.str s,_]=>some (.sl 1 (roB s))
 | 53,_=>some (.i (sTyS (tyN (lns s) (lns s).length)))
 | n,x=>spR n x
def zB:ABlk:=.box [.str [],.ex (.slice none 0 0),.i 0,.i 0,.i 0,.i 0,.i 0,.i 0,.i 0,.i 0,.i 0,.ex (.slice none 0 0),.ex (.slice none 0 0)]
def fa78 (s:List UInt8):FA:={
 X:=List UInt8,xs:=lns s,enc:=encS
 post:=[.renc 4 12 6,.keep [] [1,2,3,4,5,6],.bound 9]
 Gh:=Nat
 st:=fun g=>⟨[(2,.ptr 1 0),(3,.ptr 2 0),(4,.ptr 3 0),(5,.ptr 4 0),(6,.ptr 5 0)],[(1,zB),(2,.box [.i 0]),(3,.box [.i 0]),(4,oB (tyN (lns s) g) 6),(5,.box [.i g]),(6,.buf 182 2 ((tyN (lns s) g).st.map encSg))],9⟩
 ok:=fun pre g=>g=pre.length∧∀ j,j < pre.length->bdJ j ((lns s).getD j [])=false }
def kz:List GS:=[.nilb 1 1 1,.nilb 1 11 1,.nilb 1 12 2]
def g78:Nat->List GS:=fun i=>(lk i [(2,kz),(4,[.reno 2 1,.reno 3 2,.reno 4 3,.reno 5 4,.reno 6 5,.nilb 4 1 1,.nilb 4 11 1,.ownb 4 12 182 2,.renc 4 12 6,.keep [0,2,3,4,5,6] [1,2,3,4,5,6],.bound 7]),
 (5,[.keep [2,3,4,5,6,19] [1,2,3,4,5,6,8],.bound 9]),
 (7,[.keep [2,3,4,5,6,8,9] [1,2,3,4,5,6],.bound 7]),(8,[.reno 10 7,.keep [2,3,4,5,6,9,10] [1,2,3,4,5,6,7],.bound 8]),(9,[.keep [2,3,4,5,6,9,10,11] [1,2,3,4,5,6,7],.bound 8]),
 (10,[.keep [2,3,4,5,6,9,10,11,12] [1,2,3,4,5,6,7],.bound 8]),(11,[.renc 4 12 6,.keep [2,3,4,5,6,9,10,11,12] [1,2,3,4,5,6,7],.bound 8]),(12,[.keep [2,3,4,5,6,62] [1,2,3,4,5,6],.bound 8]),(13,kz),(17,kz)]).getD []
def cN (k:Int) (S:AS):Prop:=match lk 5 S.b with
 | some (.box [.int _ n])=>n=k
 | _=>False
def cG (k:Int) (S:AS):Prop:=match lk 5 S.b with
 | some (.box [.int _ n])=>n>=k
 | _=>False
def fK (k:Int):AS->AS:=cutA [2,3,4,5,6,9,10,11] [1,2,3,4,5,6,7] 8 11 fun _=>.i k
def cs78 (i:Nat):Option (List ((AS->Prop) × (AS->AS))):=if i.beq 9 then some [(cN 0,fK 0),(cN 1,fK 1),(cN 2,fK 2),(cN 3,fK 3),(cG 4,fK 4)] else none
theorem hdS_e (ws:List (List UInt8)):hdS (ws.map encS)=ws.headD []:=by rw [hdS,dS_e]
theorem tlS_e (ws:List (List UInt8)):tlS (ws.map encS)=(wdR ws).map encS:=by rw [tlS,dS_e]
theorem tbS_e (ws:List (List UInt8)) (b:Bool):tbS (ws.map encS) b=wdB ws b:=by rw [tbS,dS_e]
theorem lrS_e (k:Nat) (ws:List (List UInt8)) (b:Bool):lrS k (ws.map encS) b=(lfK k ws b).1.map encS:=by rw [lrS,dS_e]
theorem lbS_e (k:Nat) (ws:List (List UInt8)) (b:Bool):lbS k (ws.map encS) b=(lfK k ws b).2:=by rw [lbS,dS_e]
theorem sdS_e (ws:List (List UInt8)) (b:Bool):sdS (ws.map encS) b=nvW (wdR ws) (wdB ws b):=by rw [sdS,dS_e]
theorem tiS_e (ws:List (List UInt8)) (b:Bool):tiS (ws.map encS) b=(tkL ws b ws.length).map encI:=by rw [tiS,dS_e]
theorem dkS_e (i:Nat) (ws:List (List UInt8)) (b:Bool):dkS i (ws.map encS) b=nvW (tkW ws b i).1 (tkW ws b i).2:=by rw [dkS,dS_e]
theorem knd_lt {i k:Nat} (h:(i:Int)=(k:Int)) (hk:k < 4):knd i=k:=by
 have:i=k:=by omega
 rw [this,knd,if_pos hk]
theorem knd_ge {i:Nat} (h:(i:Int)>=4):knd i=4:=by rw [knd,if_neg (by omega)]
theorem ok_next {s x:List UInt8} {pre post:List (List UInt8)} (hL:lns s=pre++x::post) (hb:∀ j,j < pre.length->bdJ j ((lns s).getD j [])=false) (hx:bdJ pre.length x=false):∀ j,j < (pre++[x]).length->bdJ j ((lns s).getD j [])=false:=fun j hj=>by
 by_cases e:j < pre.length
 · exact hb j e
 · rw [List.length_append,List.length_singleton] at hj
   have e2:j=pre.length:=by omega
   rw [e2,at_pre hL]
   exact hx
theorem ty_next {s x:List UInt8} {pre post:List (List UInt8)} (hL:lns s=pre++x::post):tyN (lns s) (pre++[x]).length=upK (knd pre.length) (w0L x) (b0L x) (tyN (lns s) pre.length):=by
 rw [List.length_append,List.length_singleton]
 show upK (knd pre.length) (w0L ((lns s).getD pre.length [])) (b0L ((lns s).getD pre.length [])) _=_
 rw [at_pre hL]
abbrev zc78i:=[(115:UInt8),(113:UInt8),(117:UInt8),(97:UInt8),(114:UInt8),(101:UInt8),(115:UInt8)]
abbrev zc78A (x:List UInt8):=if (!cutS x [(10:UInt8)])=true then true else !hdS (roB (bodyL x)) == zc78i
abbrev zc78g (x:List UInt8):=tbS (roB (bodyL x)) false
abbrev zc78a (x:List UInt8):=!if (zc78A x)=true then true else lbS 3 (tlS (roB (bodyL x))) (zc78g x)
abbrev zc78t (x:List UInt8):=if (!cutS x [(10:UInt8)])=true then true else !hdS (roB (bodyL x)) == [(115:UInt8),(104:UInt8),(97:UInt8),(114:UInt8),(101:UInt8),(115:UInt8)]
abbrev zc78b (x:List UInt8):=!if (zc78t x)=true then true else lbS 1 (tlS (roB (bodyL x))) (zc78g x)
abbrev zc78u (x:List UInt8):=if (!cutS x [(10:UInt8)])=true then true else !hdS (roB (bodyL x)) == [(100:UInt8),(105:UInt8),(114:UInt8),(101:UInt8),(99:UInt8),(116:UInt8)]
abbrev zc78c (x:List UInt8):=!if (zc78u x)=true then true else lbS 2 (tlS (roB (bodyL x))) (zc78g x)
abbrev zc78v (x:List UInt8):=if (!cutS x [(10:UInt8)])=true then true else !hdS (roB (bodyL x)) == [(112:UInt8),(111:UInt8),(119:UInt8),(101:UInt8),(114:UInt8)]
abbrev zc78d (x:List UInt8):=!if (zc78v x)=true then true else lbS 4 (tlS (roB (bodyL x))) (zc78g x)
abbrev zc78w (x:List UInt8):=if (!cutS x [(10:UInt8)])=true then true else !hdS (roB (bodyL x)) == [(116:UInt8),(121:UInt8),(112:UInt8),(101:UInt8)]
abbrev zc78e (x:List UInt8):=!if (zc78w x)=true then true else lbS 0 (tlS (roB (bodyL x))) (zc78g x)
abbrev zc78p (s:List UInt8) (g:Nat):=List.map encSg (tyN (lns s) g).st
abbrev zc78f (s:List UInt8) (g:Nat) (x:List UInt8):=[(1,zB),(2,ABlk.box [AV.i 0]),(3,ABlk.box [AV.i 0]),(4,oB (tyN (lns s) g) 6),(5,ABlk.box [AV.i (g:Int)]),(6,ABlk.buf 182 2 (zc78p s g)),(7,ABlk.box [AV.sl 1 (roB (bodyL x)),AV.bool false])]
abbrev zc78h (x:List UInt8):=(!!cutS x [(10:UInt8)])=true->(!!cutS x [(10:UInt8)])=true
abbrev zc78j (x:List UInt8):=!if (!cutS x [(10:UInt8)])=true then true else !hdS (roB (bodyL x)) == [(115:UInt8),(104:UInt8),(97:UInt8),(114:UInt8),(101:UInt8),(115:UInt8)]
abbrev zc78k (x:List UInt8):=!if (!cutS x [(10:UInt8)])=true then true else !hdS (roB (bodyL x)) == [(100:UInt8),(105:UInt8),(114:UInt8),(101:UInt8),(99:UInt8),(116:UInt8)]
abbrev zc78l:=[(2,AV.ptr 1 0),(3,AV.ptr 2 0),(4,AV.ptr 3 0),(5,AV.ptr 4 0),(6,AV.ptr 5 0)]
abbrev zc78m (x:List UInt8):=!if (!cutS x [(10:UInt8)])=true then true else !hdS (roB (bodyL x)) == [(112:UInt8),(111:UInt8),(119:UInt8),(101:UInt8),(114:UInt8)]
abbrev zc78n (x:List UInt8):=!if (!cutS x [(10:UInt8)])=true then true else !hdS (roB (bodyL x)) == [(116:UInt8),(121:UInt8),(112:UInt8),(101:UInt8)]
abbrev zc78o:=[AV.str [],AV.sl 1 [],AV.i 0,AV.i 0,AV.i 0,AV.i 0,AV.i 0,AV.i 0,AV.i 0,AV.i 0,AV.i 0,AV.sl 1 [],AV.sl 2 []]
abbrev zc78q (x:List UInt8) (g:Nat):=[(2,AV.ptr 1 0),(3,AV.ptr 2 0),(4,AV.ptr 3 0),(5,AV.ptr 4 0),(6,AV.ptr 5 0),(9,AV.bool (cutS x [(10:UInt8)])),(10,AV.ptr 7 0),(11,AV.i (minI (g:Int) (4:Int)))]
abbrev zc78r (s:List UInt8) (g':Nat):=[(1,zB),(2,ABlk.box [AV.i 0]),(3,ABlk.box [AV.i 0]),(4,oB (tyN (lns s) g') 6),(5,ABlk.box [AV.i (↑g':Int)]),(6,ABlk.buf 182 2 (List.map encSg (tyN (lns s) g').st))]
abbrev zc78s (s:List UInt8) (g:Nat) (x:List UInt8):=List.map encSg (tyN (lns s) g).st++[[AV.i (nvW (dS (tlS (roB (bodyL x)))) (zc78g x)),AV.sl 1 (List.map encI (tkL (wdR (dS (tlS (roB (bodyL x))))) (nbW (dS (tlS (roB (bodyL x)))) (zc78g x)) (wdR (dS (tlS (roB (bodyL x))))).length))]]
abbrev zc78x (x:List UInt8):=!if (!cutS x [(10:UInt8)])=true then true else !hdS (roB (bodyL x)) == zc78i
abbrev zc78y (x:List UInt8):=[AV.sl 1 (tlS (roB (bodyL x))),AV.bool (zc78g x)]
abbrev zc78z (g':Nat) (pre:List (List UInt8)) (x:List UInt8) (s:List UInt8):=(g'=(pre++[x]).length∧∀ (j:Nat),j < (pre++[x]).length->bdJ j ((lns s).getD j [])=false)
abbrev zc78E (s:List UInt8):=tyN (lns s) (lns s).length
abbrev zc78B (g:Nat) (s:List UInt8):=[hdI [AV.i (sWhen (decide ((g:Int) < 4)) (25:Int))],hdI [AV.i (sTyS (zc78E s))]]
abbrev zc78C (x:List UInt8):=(!cutS x [(10:UInt8)])=false->(!!cutS x [(10:UInt8)])=true
abbrev zc78D (s:List UInt8) (g:Nat) (x:List UInt8):=[oB (tyN (lns s) g) 3,ABlk.box (zc78y x),ABlk.buf 182 2 (zc78p s g)]
set_option maxHeartbeats 4000000 in
theorem c78 (s:List UInt8) (hl:s.length<=990 ∨ 4096 < s.length) (hs:s.length<=10000):PCall Tryz.prog G0 78 [.str s] (psT s.length (kS s) (lns s).length (tyN (lns s) (lns s).length)):=by
 have key :
  (decide ((↑s.length:Int) > 4096)=true->AV.tup [AV.agg zc78o,AV.i 0,AV.i 26]=psT (↑s.length:Int) (kS s) (lns s).length (zc78E s))∧(decide ((↑s.length:Int) > 4096)=false->PCall Tryz.prog G0 136 [AV.str s] (AV.fbox
  164 [AV.str s])∧PSeqB (bodyE Tryz.prog T0 G0 Tryz.f78.ntmps []).P (bodyE Tryz.prog T0 G0 Tryz.f78.ntmps []).G 164 [AV.str s] (List.map (fa78 s).enc (fa78 s).xs)∧(∀ (x:List UInt8),1=1)∧(∃ (g:Nat),(g=0∧∀ (j:Nat),
  j < 0->bdJ j ((lns s).getD j [])=false)∧AS.mk zc78l [(1,zB),(2,ABlk.box [AV.i 0]),(3,ABlk.box [AV.i 0]),(4,ABlk.box [AV.str [],AV.sl 1 [],AV.i 0,AV.i 0,AV.i 0,AV.i 0,AV.i 0,AV.i 0,AV.i 0,AV.i 0,AV.i 0,AV.sl 1
  [],AV.own 6 0]),(5,ABlk.box [AV.i 0]),(6,ABlk.buf 182 2 [])] 9=AS.mk zc78l [(1,zB),(2,ABlk.box [AV.i 0]),(3,ABlk.box [AV.i 0]),(4,oB (tyN (lns s) g) 6),(5,ABlk.box [AV.i (g:Int)]),(6,ABlk.buf 182 2 (zc78p s
  g))] 9)∧(∀ (pre:List (List UInt8)) (x:List UInt8) (post:List (List UInt8)) (g:Nat),lns s=pre++x::post->(g=pre.length∧∀ (j:Nat),j < pre.length->bdJ j ((lns s).getD j [])=false)->Exit.normal=Exit.normal
  ∧ false=false∧PCall Tryz.prog G0 137 [AV.str x,AV.str [(10:UInt8)]] (AV.tup [AV.str (bodyL x),AV.bool (cutS x [(10:UInt8)])])∧PCall Tryz.prog G0 138 [AV.str (bodyL x),AV.str [(32:UInt8)]] (AV.sl 1 (roB (bodyL x))) ∧
  ((g:Int)=(0:Int)∧AS.mk (zc78q x g) (zc78f s g x) 8=AS.mk [(2,AV.ptr 1 0),(3,AV.ptr 2 0),(4,AV.ptr 3 0),(5,AV.ptr 4 0),(6,AV.ptr 5 0),(9,AV.bool (cutS x [(10:UInt8)])),(10,AV.ptr 7 0),(11,AV.i 0)] (zc78f
  s g x) 8 ∨ (g:Int)=(1:Int)∧AS.mk (zc78q x g) (zc78f s g x) 8=AS.mk [(2,AV.ptr 1 0),(3,AV.ptr 2 0),(4,AV.ptr 3 0),(5,AV.ptr 4 0),(6,AV.ptr 5 0),(9,AV.bool (cutS x [(10:UInt8)])),(10,AV.ptr 7 0),(11,AV.i
  1)] (zc78f s g x) 8 ∨ (g:Int)=(2:Int)∧AS.mk (zc78q x g) (zc78f s g x) 8=AS.mk [(2,AV.ptr 1 0),(3,AV.ptr 2 0),(4,AV.ptr 3 0),(5,AV.ptr 4 0),(6,AV.ptr 5 0),(9,AV.bool (cutS x [(10:UInt8)])),(10,AV.ptr 7 0),
  (11,AV.i 2)] (zc78f s g x) 8 ∨ (g:Int)=(3:Int)∧AS.mk (zc78q x g) (zc78f s g x) 8=AS.mk [(2,AV.ptr 1 0),(3,AV.ptr 2 0),(4,AV.ptr 3 0),(5,AV.ptr 4 0),(6,AV.ptr 5 0),(9,AV.bool (cutS x [(10:UInt8)])),(10,
  AV.ptr 7 0),(11,AV.i 3)] (zc78f s g x) 8 ∨ ((g:Int)-4).NonNeg∧AS.mk (zc78q x g) (zc78f s g x) 8=AS.mk [(2,AV.ptr 1 0),(3,AV.ptr 2 0),(4,AV.ptr 3 0),(5,AV.ptr 4 0),(6,AV.ptr 5 0),(9,AV.bool (cutS x [(10 :
  UInt8)])),(10,AV.ptr 7 0),(11,AV.i 4)] (zc78f s g x) 8 ∨ False)∧((g:Int)=(0:Int)->WCall Tryz.prog G0 139 [AV.ptr 1 0] [ABlk.box [AV.sl 1 (roB (bodyL x)),AV.bool false]] (AV.str (hdS (roB (bodyL x)))) [ABlk.box (zc78y
  x)]∧(0:Int)<=0∧(0:Int) < (5:Int)∧(zc78p s g).length=(zc78p s g).length∧WCall Tryz.prog G0 226 [AV.ptr 1 0,AV.ptr 2 0] (zc78D s g x) (AV.tup []) [ABlk.box [AV.str (hdS (tlS (roB (bodyL x)))),AV.sl 1 (List.map
  encI (tyN (lns s) g).sh),AV.i (tyN (lns s) g).d0,AV.i (tyN (lns s) g).d1,AV.i (tyN (lns s) g).d2,AV.i (tyN (lns s) g).d3,AV.i (tyN (lns s) g).d4,AV.i (tyN (lns s) g).d5,AV.i (tyN (lns s) g).d6,AV.i (tyN (lns s) g).d7,AV.i
  (sdS (tlS (roB (bodyL x))) (zc78g x)),AV.sl 1 (List.map encI (tyN (lns s) g).sq),AV.own 3 (zc78p s g).length],ABlk.box [AV.sl 1 (lrS 0 (tlS (roB (bodyL x))) (zc78g x)),AV.bool (lbS 0 (tlS (roB (bodyL x))) (zc78g x))],ABlk.buf
  182 2 (zc78p s g)]∧(zc78h x)∧((!!cutS x [(10:UInt8)])=true->(0:Int)<=0)∧((!!cutS x [(10:UInt8)])=true->(0:Int) < (5:Int))∧(zc78h x)∧(zc78h x)∧(zc78h x)∧(zc78C x)∧((zc78n x)=true->(zc78n x) =
  true)∧((zc78n x)=true->(zc78n x)=true)∧((zc78n x)=true->(zc78n x)=true)∧((zc78w x)=false->(zc78n x)=true)∧((zc78e x)=true->(zc78e x)=true)∧((zc78e x)=true->(zc78e x)=true)∧((zc78e x)=true →
  (zc78e x)=true)∧((zc78e x)=true->(zc78e x)=true)∧((zc78e x)=true->(zc78e x)=true)∧((if (zc78w x)=true then true else lbS 0 (tlS (roB (bodyL x))) (zc78g x))=false->(zc78e x)=true)∧((if (if (zc78w x)=true
  then true else lbS 0 (tlS (roB (bodyL x))) (zc78g x))=true then true else decide ((↑(lrS 0 (tlS (roB (bodyL x))) (zc78g x)).length:Int) > 0))=true->false=false∧AV.tup [AV.agg zc78o,AV.i (g:Int),AV.i 25]=psT
  (↑s.length:Int) (kS s) (lns s).length (zc78E s))∧((if (if (zc78w x)=true then true else lbS 0 (tlS (roB (bodyL x))) (zc78g x))=true then true else decide ((↑(lrS 0 (tlS (roB (bodyL x))) (zc78g x)).length:Int) > 0)) =
  false->In64 ((g:Int)+1)∧false=false∧∃ (g':Nat),(zc78z g' pre x s)∧AS.mk zc78l [(1,zB),(2,ABlk.box [AV.i 0]),(3,ABlk.box [AV.i 0]),(4,ABlk.box [AV.str (hdS (tlS (roB (bodyL x)))),AV.sl 1 (List.map encI (tyN
  (lns s) g).sh),AV.i (tyN (lns s) g).d0,AV.i (tyN (lns s) g).d1,AV.i (tyN (lns s) g).d2,AV.i (tyN (lns s) g).d3,AV.i (tyN (lns s) g).d4,AV.i (tyN (lns s) g).d5,AV.i (tyN (lns s) g).d6,AV.i (tyN (lns s) g).d7,AV.i (sdS (tlS
  (roB (bodyL x))) (zc78g x)),AV.sl 1 (List.map encI (tyN (lns s) g).sq),AV.own 6 (zc78p s g).length]),(5,ABlk.box [AV.i ((g:Int)+1)]),(6,ABlk.buf 182 2 (zc78p s g))] 9=AS.mk zc78l (zc78r s g') 9))∧((g:Int)=(1 :
  Int)->WCall Tryz.prog G0 139 [AV.ptr 1 0] [ABlk.box [AV.sl 1 (roB (bodyL x)),AV.bool false]] (AV.str (hdS (roB (bodyL x)))) [ABlk.box (zc78y x)]∧(0:Int)<=1∧(1:Int) < (5:Int)∧(zc78p s g).length=(zc78p s g).length ∧
  WCall Tryz.prog G0 227 [AV.ptr 1 0,AV.ptr 2 0] (zc78D s g x) (AV.tup []) [ABlk.box [AV.str (tyN (lns s) g).name,AV.sl 1 (tiS (tlS (roB (bodyL x))) (zc78g x)),AV.i (tyN (lns s) g).d0,AV.i (tyN (lns s) g).d1,AV.i (tyN (lns s)
  g).d2,AV.i (tyN (lns s) g).d3,AV.i (tyN (lns s) g).d4,AV.i (tyN (lns s) g).d5,AV.i (tyN (lns s) g).d6,AV.i (tyN (lns s) g).d7,AV.i (tyN (lns s) g).side,AV.sl 1 (List.map encI (tyN (lns s) g).sq),AV.own 3 (zc78p s
  g).length],ABlk.box [AV.sl 1 (lrS 1 (tlS (roB (bodyL x))) (zc78g x)),AV.bool (lbS 1 (tlS (roB (bodyL x))) (zc78g x))],ABlk.buf 182 2 (zc78p s g)]∧(zc78h x)∧((!!cutS x [(10:UInt8)])=true->(0:Int)<=1)∧((!!cutS x [(10
  : UInt8)])=true->(1:Int) < (5:Int))∧(zc78h x)∧(zc78h x)∧(zc78h x)∧(zc78C x)∧((zc78j x)=true->(zc78j x)=true)∧((zc78j x)=true->(zc78j x)=true)∧((zc78j x)=true->(zc78j x)=true)∧((zc78t x) =
  false->(zc78j x)=true)∧((zc78b x)=true->(zc78b x)=true)∧((zc78b x)=true->(zc78b x)=true)∧((zc78b x)=true->(zc78b x)=true)∧((zc78b x)=true->(zc78b x)=true)∧((zc78b x)=true->(zc78b x)=true) ∧
  ((if (zc78t x)=true then true else lbS 1 (tlS (roB (bodyL x))) (zc78g x))=false->(zc78b x)=true)∧((if (if (zc78t x)=true then true else lbS 1 (tlS (roB (bodyL x))) (zc78g x))=true then true else decide ((↑(lrS 1 (tlS
  (roB (bodyL x))) (zc78g x)).length:Int) > 0))=true->false=false∧AV.tup [AV.agg zc78o,AV.i (g:Int),AV.i 25]=psT (↑s.length:Int) (kS s) (lns s).length (zc78E s))∧((if (if (zc78t x)=true then true else lbS 1 (tlS
  (roB (bodyL x))) (zc78g x))=true then true else decide ((↑(lrS 1 (tlS (roB (bodyL x))) (zc78g x)).length:Int) > 0))=false->In64 ((g:Int)+1)∧false=false∧∃ (g':Nat),(zc78z g' pre x s)∧AS.mk zc78l [(1,zB),(2,
  ABlk.box [AV.i 0]),(3,ABlk.box [AV.i 0]),(4,ABlk.box [AV.str (tyN (lns s) g).name,AV.sl 1 (tiS (tlS (roB (bodyL x))) (zc78g x)),AV.i (tyN (lns s) g).d0,AV.i (tyN (lns s) g).d1,AV.i (tyN (lns s) g).d2,AV.i (tyN (lns s)
  g).d3,AV.i (tyN (lns s) g).d4,AV.i (tyN (lns s) g).d5,AV.i (tyN (lns s) g).d6,AV.i (tyN (lns s) g).d7,AV.i (tyN (lns s) g).side,AV.sl 1 (List.map encI (tyN (lns s) g).sq),AV.own 6 (zc78p s g).length]),(5,ABlk.box [AV.i
  ((g:Int)+1)]),(6,ABlk.buf 182 2 (zc78p s g))] 9=AS.mk zc78l (zc78r s g') 9))∧((g:Int)=(2:Int)->WCall Tryz.prog G0 139 [AV.ptr 1 0] [ABlk.box [AV.sl 1 (roB (bodyL x)),AV.bool false]] (AV.str (hdS (roB (bodyL
  x)))) [ABlk.box (zc78y x)]∧(0:Int)<=2∧(2:Int) < (5:Int)∧(zc78p s g).length=(zc78p s g).length∧WCall Tryz.prog G0 229 [AV.ptr 1 0,AV.ptr 2 0] (zc78D s g x) (AV.tup []) [ABlk.box [AV.str (tyN (lns s) g).name,AV.sl
  1 (List.map encI (tyN (lns s) g).sh),AV.i (dkS 0 (tlS (roB (bodyL x))) (zc78g x)),AV.i (dkS 1 (tlS (roB (bodyL x))) (zc78g x)),AV.i (dkS 2 (tlS (roB (bodyL x))) (zc78g x)),AV.i (dkS 3 (tlS (roB (bodyL x))) (zc78g x)),AV.i (dkS
  4 (tlS (roB (bodyL x))) (zc78g x)),AV.i (dkS 5 (tlS (roB (bodyL x))) (zc78g x)),AV.i (dkS 6 (tlS (roB (bodyL x))) (zc78g x)),AV.i (dkS 7 (tlS (roB (bodyL x))) (zc78g x)),AV.i (tyN (lns s) g).side,AV.sl 1 (List.map encI (tyN
  (lns s) g).sq),AV.own 3 (zc78p s g).length],ABlk.box [AV.sl 1 (lrS 2 (tlS (roB (bodyL x))) (zc78g x)),AV.bool (lbS 2 (tlS (roB (bodyL x))) (zc78g x))],ABlk.buf 182 2 (zc78p s g)]∧(zc78h x)∧((!!cutS x [(10:UInt8)])=true
  → (0:Int)<=2)∧((!!cutS x [(10:UInt8)])=true->(2:Int) < (5:Int))∧(zc78h x)∧(zc78h x)∧(zc78h x)∧(zc78C x)∧((zc78k x)=true->(zc78k x)=true)∧((zc78k x)=true->(zc78k x)=true)∧((zc78k x)=true →
  (zc78k x)=true)∧((zc78u x)=false->(zc78k x)=true)∧((zc78c x)=true->(zc78c x)=true)∧((zc78c x)=true->(zc78c x)=true)∧((zc78c x)=true->(zc78c x)=true)∧((zc78c x)=true->(zc78c x)=true)∧((zc78c x)
  = true->(zc78c x)=true)∧((if (zc78u x)=true then true else lbS 2 (tlS (roB (bodyL x))) (zc78g x))=false->(zc78c x)=true)∧((if (if (zc78u x)=true then true else lbS 2 (tlS (roB (bodyL x))) (zc78g x))=true then true
  else decide ((↑(lrS 2 (tlS (roB (bodyL x))) (zc78g x)).length:Int) > 0))=true->false=false∧AV.tup [AV.agg zc78o,AV.i (g:Int),AV.i 25]=psT (↑s.length:Int) (kS s) (lns s).length (zc78E s))∧((if (if (zc78u x) =
  true then true else lbS 2 (tlS (roB (bodyL x))) (zc78g x))=true then true else decide ((↑(lrS 2 (tlS (roB (bodyL x))) (zc78g x)).length:Int) > 0))=false->In64 ((g:Int)+1)∧false=false∧∃ (g':Nat),(zc78z g' pre x
  s)∧AS.mk zc78l [(1,zB),(2,ABlk.box [AV.i 0]),(3,ABlk.box [AV.i 0]),(4,ABlk.box [AV.str (tyN (lns s) g).name,AV.sl 1 (List.map encI (tyN (lns s) g).sh),AV.i (dkS 0 (tlS (roB (bodyL x))) (zc78g x)),AV.i (dkS 1 (tlS (roB
  (bodyL x))) (zc78g x)),AV.i (dkS 2 (tlS (roB (bodyL x))) (zc78g x)),AV.i (dkS 3 (tlS (roB (bodyL x))) (zc78g x)),AV.i (dkS 4 (tlS (roB (bodyL x))) (zc78g x)),AV.i (dkS 5 (tlS (roB (bodyL x))) (zc78g x)),AV.i (dkS 6 (tlS (roB
  (bodyL x))) (zc78g x)),AV.i (dkS 7 (tlS (roB (bodyL x))) (zc78g x)),AV.i (tyN (lns s) g).side,AV.sl 1 (List.map encI (tyN (lns s) g).sq),AV.own 6 (zc78p s g).length]),(5,ABlk.box [AV.i ((g:Int)+1)]),(6,ABlk.buf 182 2
  (zc78p s g))] 9=AS.mk zc78l (zc78r s g') 9))∧((g:Int)=(3:Int)->WCall Tryz.prog G0 139 [AV.ptr 1 0] [ABlk.box [AV.sl 1 (roB (bodyL x)),AV.bool false]] (AV.str (hdS (roB (bodyL x)))) [ABlk.box (zc78y x)]∧(0:Int)<=3
  ∧ (3:Int) < (5:Int)∧(zc78p s g).length=(zc78p s g).length∧WCall Tryz.prog G0 230 [AV.ptr 1 0,AV.ptr 2 0] (zc78D s g x) (AV.tup []) [ABlk.box [AV.str (tyN (lns s) g).name,AV.sl 1 (List.map encI (tyN (lns s) g).sh),AV.i
  (tyN (lns s) g).d0,AV.i (tyN (lns s) g).d1,AV.i (tyN (lns s) g).d2,AV.i (tyN (lns s) g).d3,AV.i (tyN (lns s) g).d4,AV.i (tyN (lns s) g).d5,AV.i (tyN (lns s) g).d6,AV.i (tyN (lns s) g).d7,AV.i (tyN (lns s) g).side,AV.sl 1
  (tiS (tlS (roB (bodyL x))) (zc78g x)),AV.own 3 (zc78p s g).length],ABlk.box [AV.sl 1 (lrS 3 (tlS (roB (bodyL x))) (zc78g x)),AV.bool (lbS 3 (tlS (roB (bodyL x))) (zc78g x))],ABlk.buf 182 2 (zc78p s g)]∧(zc78h x)∧((!!cutS x
  [(10:UInt8)])=true->(0:Int)<=3)∧((!!cutS x [(10:UInt8)])=true->(3:Int) < (5:Int))∧(zc78h x)∧(zc78h x)∧(zc78h x)∧(zc78C x)∧((zc78x x)=true->(zc78x x)=true)∧((zc78x x)=true->(zc78x x)=true) ∧
  ((zc78x x)=true->(zc78x x)=true)∧((zc78A x)=false->(zc78x x)=true)∧((zc78a x)=true->(zc78a x)=true)∧((zc78a x)=true->(zc78a x)=true)∧((zc78a x)=true->(zc78a x)=true)∧((zc78a x)=true->(zc78a x)
  = true)∧((zc78a x)=true->(zc78a x)=true)∧((if (zc78A x)=true then true else lbS 3 (tlS (roB (bodyL x))) (zc78g x))=false->(zc78a x)=true)∧((if (if (zc78A x)=true then true else lbS 3 (tlS (roB (bodyL x))) (zc78g
  x))=true then true else decide ((↑(lrS 3 (tlS (roB (bodyL x))) (zc78g x)).length:Int) > 0))=true->false=false∧AV.tup [AV.agg zc78o,AV.i (g:Int),AV.i 25]=psT (↑s.length:Int) (kS s) (lns s).length (zc78E s)) ∧
  ((if (if (zc78A x)=true then true else lbS 3 (tlS (roB (bodyL x))) (zc78g x))=true then true else decide ((↑(lrS 3 (tlS (roB (bodyL x))) (zc78g x)).length:Int) > 0))=false->In64 ((g:Int)+1)∧false=false∧∃ (g' :
  Nat),(zc78z g' pre x s)∧AS.mk zc78l [(1,zB),(2,ABlk.box [AV.i 0]),(3,ABlk.box [AV.i 0]),(4,ABlk.box [AV.str (tyN (lns s) g).name,AV.sl 1 (List.map encI (tyN (lns s) g).sh),AV.i (tyN (lns s) g).d0,AV.i (tyN (lns s)
  g).d1,AV.i (tyN (lns s) g).d2,AV.i (tyN (lns s) g).d3,AV.i (tyN (lns s) g).d4,AV.i (tyN (lns s) g).d5,AV.i (tyN (lns s) g).d6,AV.i (tyN (lns s) g).d7,AV.i (tyN (lns s) g).side,AV.sl 1 (tiS (tlS (roB (bodyL x))) (zc78g x)),
  AV.own 6 (zc78p s g).length]),(5,ABlk.box [AV.i ((g:Int)+1)]),(6,ABlk.buf 182 2 (zc78p s g))] 9=AS.mk zc78l (zc78r s g') 9))∧(((g:Int)-4).NonNeg->WCall Tryz.prog G0 139 [AV.ptr 1 0] [ABlk.box [AV.sl 1 (roB (bodyL
  x)),AV.bool false]] (AV.str (hdS (roB (bodyL x)))) [ABlk.box (zc78y x)]∧(0:Int)<=4∧(4:Int) < (5:Int)∧WCall Tryz.prog G0 231 [AV.ptr 1 0,AV.ptr 2 0] (zc78D s g x) (AV.tup []) [ABlk.box [AV.str (tyN (lns s) g).name,
  AV.sl 1 (List.map encI (tyN (lns s) g).sh),AV.i (tyN (lns s) g).d0,AV.i (tyN (lns s) g).d1,AV.i (tyN (lns s) g).d2,AV.i (tyN (lns s) g).d3,AV.i (tyN (lns s) g).d4,AV.i (tyN (lns s) g).d5,AV.i (tyN (lns s) g).d6,AV.i (tyN
  (lns s) g).d7,AV.i (tyN (lns s) g).side,AV.sl 1 (List.map encI (tyN (lns s) g).sq),AV.own 4 (zc78s s g x).length],ABlk.box [AV.sl 1 (lrS 4 (tlS (roB (bodyL x))) (zc78g x)),AV.bool (lbS 4 (tlS (roB (bodyL x))) (zc78g x))],
  ABlk.dead,ABlk.buf 182 2 (zc78s s g x)]∧(zc78h x)∧((!!cutS x [(10:UInt8)])=true->(0:Int)<=4)∧((!!cutS x [(10:UInt8)])=true->(4:Int) < (5:Int))∧(zc78h x)∧(zc78h x)∧(zc78h x)∧(zc78C x)∧((zc78m x) =
  true->(zc78m x)=true)∧((zc78m x)=true->(zc78m x)=true)∧((zc78m x)=true->(zc78m x)=true)∧((zc78v x)=false->(zc78m x)=true)∧((zc78d x)=true->(zc78d x)=true)∧((zc78d x)=true->(zc78d x)=true) ∧
  ((zc78d x)=true->(zc78d x)=true)∧((zc78d x)=true->(zc78d x)=true)∧((zc78d x)=true->(zc78d x)=true)∧((if (zc78v x)=true then true else lbS 4 (tlS (roB (bodyL x))) (zc78g x))=false->(zc78d x)=true)∧((if
  (if (zc78v x)=true then true else lbS 4 (tlS (roB (bodyL x))) (zc78g x))=true then true else decide ((↑(lrS 4 (tlS (roB (bodyL x))) (zc78g x)).length:Int) > 0))=true->false=false∧AV.tup [AV.agg zc78o,AV.i (g:Int),
  AV.i 25]=psT (↑s.length:Int) (kS s) (lns s).length (zc78E s))∧((if (if (zc78v x)=true then true else lbS 4 (tlS (roB (bodyL x))) (zc78g x))=true then true else decide ((↑(lrS 4 (tlS (roB (bodyL x))) (zc78g x)).length :
  Int) > 0))=false->In64 ((g:Int)+1)∧false=false∧∃ (g':Nat),(zc78z g' pre x s)∧AS.mk zc78l [(1,zB),(2,ABlk.box [AV.i 0]),(3,ABlk.box [AV.i 0]),(4,ABlk.box [AV.str (tyN (lns s) g).name,AV.sl 1 (List.map encI
  (tyN (lns s) g).sh),AV.i (tyN (lns s) g).d0,AV.i (tyN (lns s) g).d1,AV.i (tyN (lns s) g).d2,AV.i (tyN (lns s) g).d3,AV.i (tyN (lns s) g).d4,AV.i (tyN (lns s) g).d5,AV.i (tyN (lns s) g).d6,AV.i (tyN (lns s) g).d7,AV.i (tyN
  (lns s) g).side,AV.sl 1 (List.map encI (tyN (lns s) g).sq),AV.own 6 (zc78s s g x).length]),(5,ABlk.box [AV.i ((g:Int)+1)]),(6,ABlk.buf 182 2 (zc78s s g x))] 9=AS.mk zc78l (zc78r s g') 9))∧True)∧∀ (g:Nat),(g =
  (lns s).length∧∀ (j:Nat),j < (lns s).length->bdJ j ((lns s).getD j [])=false)->PCall Tryz.prog G0 92 [AV.bool (decide ((g:Int) < 4)),AV.i 25] (AV.i (sWhen (decide ((g:Int) < 4)) (25:Int)))∧PCall Tryz.prog G0 53
  [AV.agg (encTy (tyN (lns s) g))] (AV.i (sTyS (zc78E s)))∧PCall Tryz.prog G0 87 [AV.sl 1 [[AV.i (sWhen (decide ((g:Int) < 4)) (25:Int))],[AV.i (sTyS (zc78E s))]]] (AV.i (sFirst (zc78B g s)))∧((sFirst (zc78B g s) != 0) =
  true->AV.tup [AV.agg zc78o,AV.i (g:Int),AV.i (sFirst (zc78B g s))]=psT (↑s.length:Int) (kS s) (lns s).length (zc78E s))∧((sFirst (zc78B g s) != 0)=false->AV.tup [AV.agg (encTy (tyN (lns s) g)),AV.i 0,AV.i 0]=psT
  (↑s.length:Int) (kS s) (lns s).length (zc78E s))):=by
   delta zc78a zc78b zc78c zc78d zc78e zc78f zc78g zc78h zc78i zc78j zc78k zc78l zc78m zc78n zc78o zc78p zc78q zc78r zc78s zc78t zc78u zc78v zc78w zc78x zc78y zc78z zc78A zc78B zc78C zc78D zc78E
   have hz:decide ((s.length:Int) > 4096)=false->s.length<=990:=fun h=>by
    have:=of_decide_eq_false h
    omega
   refine ⟨fun h=>by rw [psT,if_pos h];rfl,fun h=>?_⟩
   have hs9:=hz h
   obtain ⟨l1,l2⟩:=ln_len (lns_is s)
   have hps:∀ (k n:Nat) (t:Ty),psT s.length k n t=if k < n then .tup [.agg (encTy zT),.i k,.i 25] else if eT n t != 0 then .tup [.agg (encTy zT),.i n,.i (eT n t)] else .tup [.agg (encTy t),.i 0,.i 0]:=fun k n t=>by
    rw [psT,if_neg (by rw [h];decide)]
   have htb:∀ n,TyB 1000 (tyN (lns s) n):=ty_b fun x hx=>by have:=l2 x hx;omega
   have hts:=ty_st (lns s)
   refine ⟨c136 s,s164 s (by omega),fun _=>rfl,⟨0,⟨rfl,fun j hj=>absurd hj (Nat.not_lt_zero _)⟩,rfl⟩,fun pre x post g hL hgb=>?_,fun g hgb=>?_⟩
   · obtain ⟨rfl,hb⟩:=hgb
     have hxl:=l2 x (by rw [hL];simp)
     have hbl:=body_len x
     obtain ⟨w1,w2⟩:=wds_len x
     have hw0:(w0L x).length<=1000000:=by have:=(w0_len x).1;omega
     have hwl:∀ y,y ∈ w0L x->y.length<=1000000:=fun y hy=>by have:=(w0_len x).2 y hy;omega
     have hgn:pre.length < (lns s).length:=by rw [hL];simp
     have hst:=hts pre.length
     have hstm:(List.map encSg (tyN (lns s) pre.length).st).length=(tyN (lns s) pre.length).st.length:=List.length_map _
     have hty:=ty_next hL
     have hlen:(((pre++[x]).length:Nat):Int)=(pre.length:Int)+1:=by rw [List.length_append,List.length_singleton];rfl
     have h139:=w139 (wdsL x) false (by omega)
     rw [show roB (bodyL x)=(wdsL x).map encS from rfl,hdS_e (wdsL x),tlS_e (wdsL x),tbS_e (wdsL x) false,hdS_e (wdR (wdsL x)),sdS_e (wdR (wdsL x)) (wdB (wdsL x) false),tiS_e (wdR (wdsL x)) (wdB (wdsL x) false),dS_e (wdR (wdsL x)),lrS_e 0 (wdR (wdsL x)) (wdB (wdsL x) false),lrS_e 1 (wdR (wdsL x)) (wdB (wdsL x) false),lrS_e 2 (wdR (wdsL x)) (wdB (wdsL x) false),lrS_e 3 (wdR (wdsL x)) (wdB (wdsL x) false),lrS_e 4 (wdR (wdsL x)) (wdB (wdsL x) false),lbS_e 0 (wdR (wdsL x)) (wdB (wdsL x) false),lbS_e 1 (wdR (wdsL x)) (wdB (wdsL x) false),lbS_e 2 (wdR (wdsL x)) (wdB (wdsL x) false),lbS_e 3 (wdR (wdsL x)) (wdB (wdsL x) false),lbS_e 4 (wdR (wdsL x)) (wdB (wdsL x) false),dkS_e 0 (wdR (wdsL x)) (wdB (wdsL x) false),dkS_e 1 (wdR (wdsL x)) (wdB (wdsL x) false),dkS_e 2 (wdR (wdsL x)) (wdB (wdsL x) false),dkS_e 3 (wdR (wdsL x)) (wdB (wdsL x) false),dkS_e 4 (wdR (wdsL x)) (wdB (wdsL x) false),dkS_e 5 (wdR (wdsL x)) (wdB (wdsL x) false),dkS_e 6 (wdR (wdsL x)) (wdB (wdsL x) false),dkS_e 7 (wdR (wdsL x)) (wdB (wdsL x) false),show (List.map encS (lfK 0 (wdR (wdsL x)) (wdB (wdsL x) false)).1).length=(lfK 0 (wdR (wdsL x)) (wdB (wdsL x) false)).1.length from List.length_map _,show (List.map encS (lfK 1 (wdR (wdsL x)) (wdB (wdsL x) false)).1).length=(lfK 1 (wdR (wdsL x)) (wdB (wdsL x) false)).1.length from List.length_map _,show (List.map encS (lfK 2 (wdR (wdsL x)) (wdB (wdsL x) false)).1).length=(lfK 2 (wdR (wdsL x)) (wdB (wdsL x) false)).1.length from List.length_map _,show (List.map encS (lfK 3 (wdR (wdsL x)) (wdB (wdsL x) false)).1).length=(lfK 3 (wdR (wdsL x)) (wdB (wdsL x) false)).1.length from List.length_map _,show (List.map encS (lfK 4 (wdR (wdsL x)) (wdB (wdsL x) false)).1).length=(lfK 4 (wdR (wdsL x)) (wdB (wdsL x) false)).1.length from List.length_map _]
     refine ⟨rfl,rfl,c137 x [10] (by omega) (by decide),c138 (bodyL x) 32 (by omega),?_,?_,?_,?_,?_,?_,trivial⟩
     · have q:pre.length=0 ∨ pre.length=1 ∨ pre.length=2 ∨ pre.length=3 ∨ 4<=pre.length:=by omega
       have m:minI (pre.length:Int) 4=if pre.length < 4 then (pre.length:Int) else 4:=by
        unfold minI
        split <;> split <;> omega
       rw [m]
       rcases q with q | q | q | q | q
       · rw [if_pos (by omega),q]
         exact .inl ⟨rfl,rfl⟩
       · rw [if_pos (by omega),q]
         exact .inr (.inl ⟨rfl,rfl⟩)
       · rw [if_pos (by omega),q]
         exact .inr (.inr (.inl ⟨rfl,rfl⟩))
       · rw [if_pos (by omega),q]
         exact .inr (.inr (.inr (.inl ⟨rfl,rfl⟩)))
       · rw [if_neg (by omega)]
         exact .inr (.inr (.inr (.inr (.inl ⟨(show (pre.length:Int)>=4 by omega),rfl⟩))))
     · intro hk
       have hkn:=knd_lt (k:=0) hk (by decide)
       have hbj:bdJ pre.length x=bdK 0 x:=by rw [bdJ,hkn]
       rw [hkn] at hty
       have hw:=w226 (tyN (lns s) pre.length) (w0L x) (b0L x) (by omega) hw0 hwl
       refine ⟨h139,by decide,by decide,rfl,hw,?_⟩
       repeat (first
        | refine ⟨fun h=>h,?_⟩
        | refine ⟨fun _=>(by decide),?_⟩
        | refine ⟨fun h=>(by rw [h];rfl),?_⟩)
       refine ⟨fun hbad=>⟨rfl,?_⟩,fun hgood=>⟨by unfold In64;omega,rfl,(pre++[x]).length,⟨rfl,ok_next hL hb (hbj.trans hgood)⟩,?_⟩⟩
       · obtain ⟨hk1,hlt⟩:=ks_e hL hb (hbj.trans hbad)
         rw [hps,hk1,if_pos hlt]
         rfl
       · rw [hlen,hty]
         rfl
     · intro hk
       have hkn:=knd_lt (k:=1) hk (by decide)
       have hbj:bdJ pre.length x=bdK 1 x:=by rw [bdJ,hkn]
       rw [hkn] at hty
       have hw:=w227 (tyN (lns s) pre.length) (w0L x) (b0L x) (by omega) hw0 hwl
       refine ⟨h139,by decide,by decide,rfl,hw,?_⟩
       repeat (first
        | refine ⟨fun h=>h,?_⟩
        | refine ⟨fun _=>(by decide),?_⟩
        | refine ⟨fun h=>(by rw [h];rfl),?_⟩)
       refine ⟨fun hbad=>⟨rfl,?_⟩,fun hgood=>⟨by unfold In64;omega,rfl,(pre++[x]).length,⟨rfl,ok_next hL hb (hbj.trans hgood)⟩,?_⟩⟩
       · obtain ⟨hk1,hlt⟩:=ks_e hL hb (hbj.trans hbad)
         rw [hps,hk1,if_pos hlt]
         rfl
       · rw [hlen,hty]
         rfl
     · intro hk
       have hkn:=knd_lt (k:=2) hk (by decide)
       have hbj:bdJ pre.length x=bdK 2 x:=by rw [bdJ,hkn]
       rw [hkn] at hty
       have hw:=w229 (tyN (lns s) pre.length) (w0L x) (b0L x) (by omega) hw0 hwl
       refine ⟨h139,by decide,by decide,rfl,hw,?_⟩
       repeat (first
        | refine ⟨fun h=>h,?_⟩
        | refine ⟨fun _=>(by decide),?_⟩
        | refine ⟨fun h=>(by rw [h];rfl),?_⟩)
       refine ⟨fun hbad=>⟨rfl,?_⟩,fun hgood=>⟨by unfold In64;omega,rfl,(pre++[x]).length,⟨rfl,ok_next hL hb (hbj.trans hgood)⟩,?_⟩⟩
       · obtain ⟨hk1,hlt⟩:=ks_e hL hb (hbj.trans hbad)
         rw [hps,hk1,if_pos hlt]
         rfl
       · rw [hlen,hty]
         rfl
     · intro hk
       have hkn:=knd_lt (k:=3) hk (by decide)
       have hbj:bdJ pre.length x=bdK 3 x:=by rw [bdJ,hkn]
       rw [hkn] at hty
       have hw:=w230 (tyN (lns s) pre.length) (w0L x) (b0L x) (by omega) hw0 hwl
       refine ⟨h139,by decide,by decide,rfl,hw,?_⟩
       repeat (first
        | refine ⟨fun h=>h,?_⟩
        | refine ⟨fun _=>(by decide),?_⟩
        | refine ⟨fun h=>(by rw [h];rfl),?_⟩)
       refine ⟨fun hbad=>⟨rfl,?_⟩,fun hgood=>⟨by unfold In64;omega,rfl,(pre++[x]).length,⟨rfl,ok_next hL hb (hbj.trans hgood)⟩,?_⟩⟩
       · obtain ⟨hk1,hlt⟩:=ks_e hL hb (hbj.trans hbad)
         rw [hps,hk1,if_pos hlt]
         rfl
       · rw [hlen,hty]
         rfl
     · intro hk
       have hkn:=knd_ge hk
       have hbj:bdJ pre.length x=bdK 4 x:=by rw [bdJ,hkn]
       rw [hkn] at hty
       have hw:=w231 (tyN (lns s) pre.length) (w0L x) (b0L x) (by omega) hw0 hwl
       rw [List.map_append] at hw
       refine ⟨h139,by decide,by decide,hw,?_⟩
       repeat (first
        | refine ⟨fun h=>h,?_⟩
        | refine ⟨fun _=>(by decide),?_⟩
        | refine ⟨fun h=>(by rw [h];rfl),?_⟩)
       refine ⟨fun hbad=>⟨rfl,?_⟩,fun hgood=>⟨by unfold In64;omega,rfl,(pre++[x]).length,⟨rfl,ok_next hL hb (hbj.trans hgood)⟩,?_⟩⟩
       · obtain ⟨hk1,hlt⟩:=ks_e hL hb (hbj.trans hbad)
         rw [hps,hk1,if_pos hlt]
         rfl
       · rw [hlen,hty]
         have e4:List.map encSg (upK 4 (w0L x) (b0L x) (tyN (lns s) pre.length)).st=List.map encSg (tyN (lns s) pre.length).st++[encSg (Sg.mk (nvW (w0L x) (b0L x)) (tkL (wdR (w0L x)) (nbW (w0L x) (b0L x)) (wdR (w0L x)).length))]:=List.map_append ..
         unfold oB
         rw [e4]
         rfl
   · obtain ⟨rfl,hb⟩:=hgb
     have hB:=htb (lns s).length
     have hks:=ks_n hb
     refine ⟨c92 _ _,c53 _ (Nat.le_trans (hts _) (by omega)) hB.sh hB.sq hB.e (Nat.le_trans hB.nm (by decide)),c87 [_,_] (by simp),fun h2=>?_,fun h2=>?_⟩
     · rw [hps,hks,if_neg (Nat.lt_irrefl _)]
       have h3:(eT (lns s).length (tyN (lns s) (lns s).length) != 0)=true:=h2
       rw [if_pos h3]
       rfl
     · rw [hps,hks,if_neg (Nat.lt_irrefl _)]
       have h3:(eT (lns s).length (tyN (lns s) (lns s).length) != 0)=false:=h2
       rw [if_neg (by rw [h3];decide)]
 exact c_of Tryz.f78 (gsB g78 { mkB (sp78 s) 78 [] noLa with hs:=hs78,fa:=some (fa78 s),cs:=cs78,bx:=fun i=>if i.beq 0 then [.frzc 4 12] else [] }) (by kernel_rfl) (by kernel_rfl) (by kernel_rfl) (by kernel_rfl) key (by kernel_rfl)
end Go.Proofs.YtjhjmncjidbieaaGreatDoor
namespace Go.Proofs.YtjhjmncjidbieaaGreatDoor
open Go Go.Av Go.RowKit
def pcR (s:List UInt8) (i:Nat):List UInt8:=(spl 10 s).getD i []
def roN (s:List UInt8):List (List AV):=(spl 10 s).map encS
def rtQ (b:Bool) (rows:List (List AV)) (fr:Nat):Nat->Bool
 | 0=>b
 | n+1=>if rtQ b rows fr n=true then inB ((dS rows).getD (fr+n) []) else false
def lsQ (rows:List (List AV)) (fr:Nat):Nat->List Int
 | 0=>[]
 | n+1=>lsQ rows fr n++[dgV ((dS rows).getD (fr+n) [])]
theorem lsQ_len (rows:List (List AV)) (fr:Nat):∀ n,(lsQ rows fr n).length=n
 | 0=>rfl
 | n+1=>by rw [lsQ,List.length_append,lsQ_len rows fr n];rfl
def frK (k:Nat):Nat:=if k=0 then 2 else 1
def b0K (k:Nat) (rows:List (List AV)):Bool :=
 if k=0 then (if (if ((dS rows).getD 0 [] == wordK 0)=true then ((rows.length:Int) == 3) else false)=true then !((dS rows).getD 1 [] == []) else false)
 else if k=2 then (if ((dS rows).getD 0 [] == wordK 2)=true then ((rows.length:Int) == 9) else false)
 else if k=4 then (if ((dS rows).getD 0 [] == wordK 4)=true then decide ((rows.length:Int) > 1) else false)
 else ((dS rows).getD 0 [] == wordK k)
def okQ (k:Nat) (rows:List (List AV)):Bool:=rtQ (b0K k rows) rows (frK k) (rows.length-frK k)
def lQ (k:Nat) (rows:List (List AV)):List Int:=lsQ rows (frK k) (rows.length-frK k)
def upR (k:Nat) (rows:List (List AV)) (t:Ty):Ty :=
 match k with
 | 0=>⟨(dS rows).getD 1 [],t.sh,t.d0,t.d1,t.d2,t.d3,t.d4,t.d5,t.d6,t.d7,(lQ 0 rows).getD 0 default,t.sq,t.st⟩
 | 1=>⟨t.name,lQ 1 rows,t.d0,t.d1,t.d2,t.d3,t.d4,t.d5,t.d6,t.d7,t.side,t.sq,t.st⟩
 | 2=>⟨t.name,t.sh,(lQ 2 rows).getD 0 default,(lQ 2 rows).getD 1 default,(lQ 2 rows).getD 2 default,(lQ 2 rows).getD 3 default,(lQ 2 rows).getD 4 default,(lQ 2 rows).getD 5 default,(lQ 2 rows).getD 6 default,(lQ 2 rows).getD 7 default,t.side,t.sq,t.st⟩
 | 3=>⟨t.name,t.sh,t.d0,t.d1,t.d2,t.d3,t.d4,t.d5,t.d6,t.d7,t.side,lQ 3 rows,t.st⟩
 | _=>⟨t.name,t.sh,t.d0,t.d1,t.d2,t.d3,t.d4,t.d5,t.d6,t.d7,t.side,t.sq,t.st++[Sg.mk ((lQ 4 rows).getD 0 default) ((lQ 4 rows).drop 1)]⟩
def rT (s:List UInt8):Nat->Ty
 | 0=>zT
 | i+1=>if i+1=(spl 10 s).length then rT s i else upR (knd i) (roB (pcR s i)) (rT s i)
def gdR (s:List UInt8) (j:Nat):Bool:=if j+1=(spl 10 s).length then pcR s j == [] else okQ (knd j) (roB (pcR s j))
def kR (s:List UInt8):Nat:=fiN (fun j=>!gdR s j) (spl 10 s).length
def psR (l:Int) (k n:Nat) (t:Ty):AV:=if decide (l > 4096)=true then .tup [.agg (encTy zT),.i 0,.i 26] else if k < n then .tup [.agg (encTy zT),.i k,.i 25] else if decide ((n:Int)-1 < 4)=true then .tup [.agg (encTy zT),.i ((n:Int)-1),.i 25] else if sTyR t != 0 then .tup [.agg (encTy zT),.i ((n:Int)-1),.i (sTyR t)] else .tup [.agg (encTy t),.i 0,.i 0]
end Go.Proofs.YtjhjmncjidbieaaGreatDoor
namespace Go.Proofs.YtjhjmncjidbieaaGreatDoor
open Go Go.Av Go.RowKit
def HDR:List (List AV):=[[.str [116,121,112,101]],[.str [115,104,97,114,101,115]],[.str [100,105,114,101,99,116]],[.str [115,113,117,97,114,101,115]]]
def sp80 (s:List UInt8):Nat->List AV->Option AV
 | 84,[.str x,.int _ c]=>match c.toNat.beq 10 with
  | true=>some (.sl 1 (roN s))
  | false=>some (.sl 1 (roB x))
 | 141,[.str x]=>some (.tup [.i (dgV x),.bool (inB x)])
 | 32,_=>some (.i (sTyR (rT s (spl 10 s).length)))
 | n,x=>spR n x
def rdPc (s:List UInt8):List AV->Option AV
 | [.elt _ _ i _]=>some (.str (pcR s i))
 | _=>none
def rdWx:List AV->Option AV
 | [.elt _ rows i _]=>some (.str ((dS rows).getD i []))
 | _=>none
def rdDr:List AV->Option AV
 | .sl _ rows::_=>some (.sl 1 (rows.drop 1))
 | _=>none
def rdG3:List AV->Option AV
 | [.int _ n,_]=>match n.toNat with
  | _+4=>some (.bool true)
  | _=>some (.bool false)
 | _=>none
def rdL4:List AV->Option AV
 | [.int _ n,_]=>match n.toNat with
  | _+4=>some (.bool false)
  | _=>some (.bool true)
 | _=>none
def rdEq (k:Nat):List AV->Option AV
 | [.int _ n,_]=>some (.bool (Nat.beq n.toNat k))
 | _=>none
def la80 (s:List UInt8) (b:Nat):Option LA:=if b.beq 0 then some {
 pre:=[.reno 2 1,.reno 5 2,.nilb 2 1 1,.nilb 2 11 1,.ownb 2 12 117 2,.renc 2 12 3,.keep [2,5,6,7,8] [1,2,3],.bound 4],post:=[.renc 2 12 3,.keep [2,5,6,7,8] [1,2,3],.bound 4]
 Gh:=Nat
 st:=fun i=>⟨[(2,.ptr 1 0),(5,.ptr 2 0),(6,.sl 1 (roN s)),(7,.sl 1 HDR),(8,.i i)],[(1,zB),(2,oB (rT s i) 3),(3,.buf 117 2 ((rT s i).st.map encSg))],4⟩
 ok:=fun i=>i<=(spl 10 s).length∧∀ j,j < i->gdR s j=true
 ms:=fun i=>(spl 10 s).length-i }
 else if b.beq 2 then some {
  pre:=[.own 13 3 1,.reno 13 4,.keep [2,5,6,7,8,9,11,12,13,14] [1,2,3,4],.bound 5],post:=[.reno 13 4,.keep [2,5,6,7,8,9,11,12,13,14] [1,2,3,4],.bound 5]
  Gh:=Nat × Nat
  st:=fun _=>⟨[],[],0⟩
  sx:=some fun S0 z=>match lk 12 S0.s,lk 9 S0.s,lk 11 S0.s with
   | some (.bool b),some (.sl _ rows),some (.int _ fr)=>⟨pickL S0.s [2,5,6,7,8,9,11]++[(12,.bool (rtQ b rows fr.toNat z.2)),(13,.own 4 ((lsQ rows fr.toNat z.2).map encI).length),(14,.i (fr+(z.2:Nat)))],pickL S0.b [1,2,3]++[(4,.buf 3 1 ((lsQ rows fr.toNat z.2).map encI))],5⟩
   | _,_,_=>S0
  ok:=fun z=>z.2<=z.1
  rel:=some fun z0 z=>z.1=z0.1
  ms:=fun z=>z.1-z.2 }
 else none
def kz1:List GS:=[.nilb 1 1 1,.nilb 1 11 1,.nilb 1 12 2]
def g80:Nat->List GS:=fun i=>(lk i [(2,kz1),(11,kz1),(32,kz1),(46,kz1),(49,kz1),(12,[.keep [2,5,6,7,8,9] [1,2,3],.bound 4]),(13,[.keep [2,5,6,7,8,9,10,11] [1,2,3],.bound 4]),(31,[.keep [2,5,6,7,8,9,13,116] [1,2,3],.bound 4])]).getD []
def cN80 (k:Int) (S:AS):Prop:=match lk 8 S.s with
 | some (.int _ n)=>n=k
 | _=>False
def cG80 (k:Int) (S:AS):Prop:=match lk 8 S.s with
 | some (.int _ n)=>n>=k
 | _=>False
def fX80 (v:AS->AV):AS->AS:=fun S=>⟨pickL ((8,v S)::(10,.str [112,111,119,101,114])::(11,.i 1)::delL 8 S.s) [2,5,6,7,8,9,10,11],pickL S.b [1,2,3],4⟩
def fK80 (k:Int):AS->AS:=fX80 fun _=>.i k
def fG80:AS->AS:=fX80 fun S=>match lk 8 S.s with
 | some (.int _ n)=>.i ((n.toNat-4+4:Nat):Int)
 | _=>.any
def cs80 (i:Nat):Option (List ((AS->Prop) × (AS->AS))):=if i.beq 13 then some [(cN80 0,fK80 0),(cN80 1,fK80 1),(cN80 2,fK80 2),(cN80 3,fK80 3),(cG80 4,fG80)] else none
theorem ite_1 {p b:Bool} (h:(if p=true then b else false)=true):p=true:=by
 revert h
 cases p <;> cases b <;> decide
theorem ite_2 {p b:Bool} (h:(if p=true then b else false)=true):b=true:=by
 revert h
 cases p <;> cases b <;> decide
theorem rd_wx {x:List UInt8} {i:Nat} (h:i < (roB x).length):nth (nthR (roB x) i) 0=AV.str ((dS (roB x)).getD i []):=by
 unfold roB at *
 rw [List.length_map] at h
 rw [dS_e]
 exact congrArg (fun r=>nth r 0) (row_at encS h)
theorem rtQ_b {b:Bool} {rows:List (List AV)} {fr:Nat}:∀ {n:Nat},rtQ b rows fr n=true->b=true
 | 0,h=>h
 | n+1,h=>by
  rw [rtQ] at h
  exact rtQ_b (n:=n) (ite_1 h)
theorem roB_len (x:List UInt8):(roB x).length=(spl 32 x).length:=List.length_map _
theorem roB_pos (x:List UInt8):1<=(roB x).length:=by
 rw [roB_len]
 exact List.length_pos_iff.2 (spl_ne 32 x)
theorem b0_0 {X:List (List AV)} (h:b0K 0 X=true):X.length=3:=by
 unfold b0K at h
 rw [if_pos rfl] at h
 have h1:=ite_1 h
 have h2:=ite_2 h1
 have:=eq_of_beq h2
 omega
theorem b0_2 {X:List (List AV)} (h:b0K 2 X=true):X.length=9:=by
 unfold b0K at h
 rw [if_neg (by decide),if_pos rfl] at h
 have:=eq_of_beq (ite_2 h)
 omega
theorem b0_4 {X:List (List AV)} (h:b0K 4 X=true):1 < X.length:=by
 unfold b0K at h
 rw [if_neg (by decide),if_neg (by decide),if_pos rfl] at h
 have:=of_decide_eq_true (ite_2 h)
 omega
theorem cI_l (l:List Int) (i:Nat):cI (l.map encI) i=l.getD i default:=cI_map l i
theorem nth_l {l:List Int} {i:Nat} (h:i < l.length):nth (nthR (l.map encI) i) 0=AV.i (cI (l.map encI) i):=by
 rw [cI_l]
 exact congrArg (fun r=>nth r 0) (row_at encI h)
theorem up_rst (k:Nat) (rows:List (List AV)) (t:Ty):(upR k rows t).st.length<=t.st.length+1:=by
 match k with
 | 0=>exact Nat.le_succ _
 | 1=>exact Nat.le_succ _
 | 2=>exact Nat.le_succ _
 | 3=>exact Nat.le_succ _
 | _+4=>show (t.st++[_]).length<=_;rw [List.length_append];exact Nat.le_refl _
theorem rT_st (s:List UInt8):∀ n,(rT s n).st.length<=n
 | 0=>Nat.le_refl _
 | n+1=>by
  have:=rT_st s n
  rw [rT]
  split
  · omega
  · exact Nat.le_trans (up_rst _ _ _) (Nat.succ_le_succ this)
theorem lQ_len (k:Nat) (rows:List (List AV)):(lQ k rows).length<=rows.length:=by
 unfold lQ
 rw [lsQ_len]
 exact Nat.sub_le _ _
theorem dW_len {x:List UInt8} {m:Nat} (h:x.length<=m) (i:Nat):((dS (roB x)).getD i []).length<=m:=by
 unfold roB
 rw [dS_e]
 by_cases q:i < (spl 32 x).length
 · exact Nat.le_trans ((spl_len 32 x).2 _ (getD_mem q)) h
 · rw [List.getD_eq_getElem?_getD,List.getElem?_eq_none (by omega)]
   exact Nat.zero_le _
theorem upr_b {m k:Nat} {x:List UInt8} {t:Ty} (h:TyB m t) (hx:x.length+1<=m):TyB m (upR k (roB x) t):=by
 have h1:(roB x).length<=m:=by
  have:=(spl_len 32 x).1
  rw [roB_len]
  omega
 have hl:∀ k,(lQ k (roB x)).length<=m:=fun k=>Nat.le_trans (lQ_len k _) h1
 match k with
 | 0=>exact ⟨dW_len (by omega) 1,h.sh,h.sq,h.e⟩
 | 1=>exact ⟨h.nm,hl 1,h.sq,h.e⟩
 | 2=>exact ⟨h.nm,h.sh,h.sq,h.e⟩
 | 3=>exact ⟨h.nm,h.sh,hl 3,h.e⟩
 | _+4 =>
  refine ⟨h.nm,h.sh,h.sq,fun y hy=>?_⟩
  rcases List.mem_append.1 hy with hy | hy
  · exact h.e y hy
  · rw [List.mem_singleton.1 hy]
    show ((lQ 4 (roB x)).drop 1).length<=m
    rw [List.length_drop]
    have:=hl 4
    omega
theorem pc_len (s:List UInt8) (i:Nat):(pcR s i).length<=s.length:=by
 unfold pcR
 by_cases q:i < (spl 10 s).length
 · exact (spl_len 10 s).2 _ (getD_mem q)
 · rw [List.getD_eq_getElem?_getD,List.getElem?_eq_none (by omega)]
   exact Nat.zero_le _
theorem rT_b {s:List UInt8} {m:Nat} (hm:s.length+1<=m):∀ n,TyB m (rT s n)
 | 0=>⟨Nat.zero_le _,Nat.zero_le _,Nat.zero_le _,fun x hx=>by cases hx⟩
 | n+1=>by
  have h:=rT_b hm n
  rw [rT]
  split
  · exact h
  · exact upr_b h (by have:=pc_len s n;omega)
theorem ok_nxt {s:List UInt8} {g:Nat} (ha:∀ j,j < g->gdR s j=true) (hg:gdR s g=true):∀ j,j < g+1->gdR s j=true:=fun j hj=>by
 by_cases e:j=g
 · rw [e];exact hg
 · exact ha j (by omega)
theorem kR_e {s:List UInt8} {g:Nat} (hg:g < (spl 10 s).length) (ha:∀ j,j < g->gdR s j=true) (hb:gdR s g=false):kR s=g :=
 fi_some (fun j hj=>by rw [ha j hj];rfl) (by rw [hb];rfl) hg
theorem kR_n {s:List UInt8} (ha:∀ j,j < (spl 10 s).length->gdR s j=true):kR s=(spl 10 s).length :=
 fi_none fun j hj=>by rw [ha j hj];rfl
theorem gd_in {s:List UInt8} {g k:Nat} (h:g+1 ≠ (spl 10 s).length) (hk:knd g=k):gdR s g=okQ k (roB (pcR s g)):=by rw [gdR,if_neg h,hk]
theorem rT_in {s:List UInt8} {g k:Nat} (h:g+1 ≠ (spl 10 s).length) (hk:knd g=k):rT s (g+1)=upR k (roB (pcR s g)) (rT s g):=by rw [rT,if_neg h,hk]
abbrev zc80a (s:List UInt8) (g:Nat) (g_1:Nat × Nat):=List.map encI (lsQ (roB (pcR s g)) 1 g_1.snd)
abbrev zc80i (s:List UInt8) (g:Nat):=(dS (roB (pcR s g))).getD 0 [] == [(116:UInt8),(121:UInt8),(112:UInt8),(101:UInt8)]
abbrev zc80k (s:List UInt8) (g:Nat):=(↑(roB (pcR s g)).length:Int)
abbrev zc80b (s:List UInt8) (g:Nat):=if (zc80i s g)=true then (zc80k s g) == 3 else false
abbrev zc80c (s:List UInt8) (g:Nat) (g_1:Nat × Nat):=(dS (roB (pcR s g))).getD ((1:Int)+(↑g_1.snd:Int)).toNat []
abbrev zc80d:=[(112:UInt8),(111:UInt8),(119:UInt8),(101:UInt8),(114:UInt8)]
abbrev zc80e:=[AV.str [],AV.sl 1 [],AV.i 0,AV.i 0,AV.i 0,AV.i 0,AV.i 0,AV.i 0,AV.i 0,AV.i 0,AV.i 0,AV.sl 1 [],AV.sl 2 []]
abbrev zc80j (s:List UInt8) (g:Nat):=List.map encSg (rT s g).st
abbrev zc80f (s:List UInt8) (g:Nat):=[(1,zB),(2,oB (rT s g) 3),(3,ABlk.buf 117 2 (zc80j s g))]
abbrev zc80g (s:List UInt8) (g:Nat):=[(2,AV.ptr 1 0),(5,AV.ptr 2 0),(6,AV.sl 1 (roN s)),(7,AV.sl 1 HDR),(8,AV.i (g:Int)),(9,AV.sl 1 (roB (pcR s g))),(10,AV.str zc80d),(11,AV.i 1)]
abbrev zc80h (s:List UInt8) (g:Nat):=(dS (roB (pcR s g))).getD 0 [] == [(100:UInt8),(105:UInt8),(114:UInt8),(101:UInt8),(99:UInt8),(116:UInt8)]
abbrev zc80l (s:List UInt8) (g':Nat):=[(2,AV.ptr 1 0),(5,AV.ptr 2 0),(6,AV.sl 1 (roN s)),(7,AV.sl 1 HDR),(8,AV.i (↑g':Int))]
abbrev zc80m (s:List UInt8) (g:Nat) (g_1:Nat × Nat):=[(1,zB),(2,oB (rT s g) 3),(3,ABlk.buf 117 2 (zc80j s g)),(4,ABlk.buf 3 1 (List.map encI (lsQ (roB (pcR s g)) 1 g_1.snd)++[[AV.i (dgV (zc80c s g g_1))]]))]
abbrev zc80n (g':Nat) (s:List UInt8):=(g'<=(spl (10:UInt8) s).length∧∀ (j:Nat),j < g'->gdR s j=true)
abbrev zc80o (s:List UInt8) (g':Nat):=[(1,zB),(2,oB (rT s g') 3),(3,ABlk.buf 117 2 (List.map encSg (rT s g').st))]
abbrev zc80p (s:List UInt8):=rT s (spl (10:UInt8) s).length
abbrev zc80q (s:List UInt8) (g:Nat) (g0:Nat × Nat):=[(1,zB),(2,oB (rT s g) 3),(3,ABlk.buf 117 2 (zc80j s g)),(4,ABlk.buf 3 1 (List.map encI (lsQ (roB (pcR s g)) 1 g0.snd)))]
abbrev zc80r (s:List UInt8) (g:Nat) (g':Nat × Nat):=[(1,zB),(2,oB (rT s g) 3),(3,ABlk.buf 117 2 (zc80j s g)),(4,ABlk.buf 3 1 (List.map encI (lsQ (roB (pcR s g)) 1 g'.snd)))]
abbrev zc80s (s:List UInt8) (g:Nat):=[(1,zB),(2,oB (rT s g) 3),(3,ABlk.buf 117 2 (zc80j s g)),(4,ABlk.buf 3 1 [])]
abbrev zc80t (s:List UInt8) (g:Nat) (g_1:Nat × Nat):=(dS (roB (pcR s g))).getD ((2:Int)+(↑g_1.snd:Int)).toNat []
abbrev zc80u (g_1:Nat × Nat) (s:List UInt8) (g:Nat):=(1:Int)+(↑g_1.snd:Int) < (zc80k s g)
abbrev zc80v (s:List UInt8) (g:Nat) (g_1:Nat × Nat):=(↑(zc80a s g g_1).length:Int)
abbrev zc80w (s:List UInt8) (g:Nat):=((dS (roB (pcR s g))).getD 0 [] == zc80d)=true->((dS (roB (pcR s g))).getD 0 [] == zc80d)=true
set_option maxHeartbeats 4000000 in
theorem c80 (s:List UInt8) (hl:s.length<=990 ∨ 4096 < s.length) (hs:s.length<=10000):PCall Tryz.prog G0 80 [.str s] (psR s.length (kR s) (spl 10 s).length (rT s (spl 10 s).length)):=by
 have key :
  (decide ((↑s.length:Int) > 4096)=true->AV.tup [AV.agg zc80e,AV.i 0,AV.i 26]=psR (↑s.length:Int) (kR s) (spl (10:UInt8) s).length (zc80p s))∧(decide ((↑s.length:Int) > 4096)=false->PCall Tryz.prog G0 84 [AV.str
  s,AV.int IntKind.u8 (10:Int)] (AV.sl 1 (roN s))∧(∃ (g:Nat),(g<=(spl (10:UInt8) s).length∧∀ (j:Nat),j < g->gdR s j=true)∧AS.mk [(2,AV.ptr 1 0),(5,AV.ptr 2 0),(6,AV.sl 1 (roN s)),(7,AV.sl 1 HDR),(8,AV.i
  0)] [(1,zB),(2,ABlk.box [AV.str [],AV.sl 1 [],AV.i 0,AV.i 0,AV.i 0,AV.i 0,AV.i 0,AV.i 0,AV.i 0,AV.i 0,AV.i 0,AV.sl 1 [],AV.own 3 0]),(3,ABlk.buf 117 2 [])] 4=AS.mk [(2,AV.ptr 1 0),(5,AV.ptr 2 0),(6,AV.sl 1
  (roN s)),(7,AV.sl 1 HDR),(8,AV.i (g:Int))] (zc80f s g) 4)∧∀ (g:Nat),(g<=(spl (10:UInt8) s).length∧∀ (j:Nat),j < g->gdR s j=true)->(decide ((g:Int) < (↑(roN s).length:Int))=true->In64 ((↑(roN
  s).length:Int)-1)∧(((g:Int) == (↑(roN s).length:Int)-1)=true->(0:Int)<=(g:Int)∧(g:Int) < (↑(roN s).length:Int)∧nth (nthR (roN s) g) 0=AV.str (pcR s g)∧((!pcR s g == [])=true->AV.tup [AV.agg
  zc80e,AV.i (g:Int),AV.i 25]=psR (↑s.length:Int) (kR s) (spl (10:UInt8) s).length (zc80p s))∧((!pcR s g == [])=false->In64 ((g:Int)+1)∧∃ (g':Nat),(zc80n g' s)∧(spl (10:UInt8) s).length-g' < (spl (10 :
  UInt8) s).length-g∧AS.mk [(2,AV.ptr 1 0),(5,AV.ptr 2 0),(6,AV.sl 1 (roN s)),(7,AV.sl 1 HDR),(8,AV.i ((g:Int)+1))] (zc80f s g) 4=AS.mk (zc80l s g') (zc80o s g') 4))∧(((g:Int) == (↑(roN s).length:Int)-1)
  = false->(0:Int)<=(g:Int)∧(g:Int) < (↑(roN s).length:Int)∧nth (nthR (roN s) g) 0=AV.str (pcR s g)∧PCall Tryz.prog G0 84 [AV.str (pcR s g),AV.int IntKind.u8 (32:Int)] (AV.sl 1 (roB (pcR s g)))∧((g:Int) =
  (0:Int)∧AS.mk (zc80g s g) (zc80f s g) 4=AS.mk [(2,AV.ptr 1 0),(5,AV.ptr 2 0),(6,AV.sl 1 (roN s)),(7,AV.sl 1 HDR),(8,AV.i 0),(9,AV.sl 1 (roB (pcR s g))),(10,AV.str zc80d),(11,AV.i 1)] (zc80f s g) 4 ∨ (g:Int)
  = (1:Int)∧AS.mk (zc80g s g) (zc80f s g) 4=AS.mk [(2,AV.ptr 1 0),(5,AV.ptr 2 0),(6,AV.sl 1 (roN s)),(7,AV.sl 1 HDR),(8,AV.i 1),(9,AV.sl 1 (roB (pcR s g))),(10,AV.str zc80d),(11,AV.i 1)] (zc80f s g) 4 ∨ (↑g :
  Int)=(2:Int)∧AS.mk (zc80g s g) (zc80f s g) 4=AS.mk [(2,AV.ptr 1 0),(5,AV.ptr 2 0),(6,AV.sl 1 (roN s)),(7,AV.sl 1 HDR),(8,AV.i 2),(9,AV.sl 1 (roB (pcR s g))),(10,AV.str zc80d),(11,AV.i 1)] (zc80f s g) 4 ∨ (↑g
  : Int)=(3:Int)∧AS.mk (zc80g s g) (zc80f s g) 4=AS.mk [(2,AV.ptr 1 0),(5,AV.ptr 2 0),(6,AV.sl 1 (roN s)),(7,AV.sl 1 HDR),(8,AV.i 3),(9,AV.sl 1 (roB (pcR s g))),(10,AV.str zc80d),(11,AV.i 1)] (zc80f s g) 4 ∨
  ((g:Int)-4).NonNeg∧AS.mk (zc80g s g) (zc80f s g) 4=AS.mk [(2,AV.ptr 1 0),(5,AV.ptr 2 0),(6,AV.sl 1 (roN s)),(7,AV.sl 1 HDR),(8,AV.i (↑(g-4+4):Int)),(9,AV.sl 1 (roB (pcR s g))),(10,AV.str zc80d),(11,
  AV.i 1)] (zc80f s g) 4 ∨ False)∧((g:Int)=(0:Int)->AV.bool true=AV.bool true∧(0:Int)<=0∧(0:Int) < (4:Int)∧(0:Int)<=0∧(0:Int) < (zc80k s g)∧nth (nthR (roB (pcR s g)) 0) 0=AV.str ((dS (roB (pcR s
  g))).getD 0 [])∧AV.bool true=AV.bool true∧((zc80i s g)=true->(zc80i s g)=true)∧((zc80i s g)=true->(zc80i s g)=true)∧((zc80i s g)=true->(zc80i s g)=true)∧((zc80b s g)=true->(zc80b s g)=true)∧((zc80b
  s g)=true->(0:Int)<=1)∧((zc80b s g)=true->(1:Int) < (zc80k s g))∧((zc80b s g)=true->(zc80b s g)=true)∧((zc80b s g)=true->(zc80b s g)=true)∧((zc80b s g)=true->(zc80b s g)=true)∧impB (zc80b s g)
  (nth (nthR (roB (pcR s g)) 1) 0=AV.str ((dS (roB (pcR s g))).getD 1 []))∧AV.bool false=AV.bool false∧AV.bool false=AV.bool false∧∃ (g0:Nat × Nat),g0.snd<=g0.fst∧g0.fst=g0.fst∧AS.mk [(2,AV.ptr 1 0),(5,AV.ptr
  2 0),(6,AV.sl 1 (roN s)),(7,AV.sl 1 HDR),(8,AV.i 0),(9,AV.sl 1 (roB (pcR s g))),(11,AV.i 2),(12,AV.bool (b0K 0 (roB (pcR s g)))),(13,AV.own 4 0),(14,AV.i 2)] (zc80s s g) 5=AS.mk [(2,AV.ptr 1 0),(5,AV.ptr 2 0),
  (6,AV.sl 1 (roN s)),(7,AV.sl 1 HDR),(8,AV.i 0),(9,AV.sl 1 (roB (pcR s g))),(11,AV.i 2),(12,AV.bool (rtQ (b0K 0 (roB (pcR s g))) (roB (pcR s g)) 2 g0.snd)),(13,AV.own 4 (List.map encI (lsQ (roB (pcR s g)) 2
  g0.snd)).length),(14,AV.i ((2:Int)+(↑g0.snd:Int)))] [(1,zB),(2,oB (rT s g) 3),(3,ABlk.buf 117 2 (zc80j s g)),(4,ABlk.buf 3 1 (List.map encI (lsQ (roB (pcR s g)) 2 g0.snd)))] 5∧∀ (g_1:Nat × Nat),g_1.snd<=g_1.fst
  → g_1.fst=g0.fst->(decide ((2:Int)+(↑g_1.snd:Int) < (zc80k s g))=true->(0:Int)<=2+(↑g_1.snd:Int)∧(2:Int)+(↑g_1.snd:Int) < (zc80k s g)∧nth (nthR (roB (pcR s g)) ((2:Int)+(↑g_1.snd:Int)).toNat) 0 =
  AV.str (zc80t s g g_1)∧PCall Tryz.prog G0 141 [AV.str (zc80t s g g_1)] (AV.tup [AV.i (dgV (zc80t s g g_1)),AV.bool (inB (zc80t s g g_1))])∧(rtQ (b0K 0 (roB (pcR s g))) (roB (pcR s g)) 2 g_1.snd=true->rtQ (b0K 0 (roB (pcR s
  g))) (roB (pcR s g)) 2 g_1.snd=true)∧(List.map encI (lsQ (roB (pcR s g)) 2 g_1.snd)).length+1<=9223372036854775807∧((List.map encI (lsQ (roB (pcR s g)) 2 g_1.snd)).length+1) * 8<=140737488355328∧In64 ((2:Int) +
  (↑g_1.snd:Int)+1)∧∃ (g':Nat × Nat),g'.snd<=g'.fst∧g'.fst=g0.fst∧g'.fst-g'.snd < g_1.fst-g_1.snd∧AS.mk [(2,AV.ptr 1 0),(5,AV.ptr 2 0),(6,AV.sl 1 (roN s)),(7,AV.sl 1 HDR),(8,AV.i 0),(9,AV.sl 1 (roB
  (pcR s g))),(11,AV.i 2),(12,AV.bool (if rtQ (b0K 0 (roB (pcR s g))) (roB (pcR s g)) 2 g_1.snd=true then inB (zc80t s g g_1) else false)),(13,AV.own 4 ((List.map encI (lsQ (roB (pcR s g)) 2 g_1.snd)).length+1)),(14,AV.i
  ((2:Int)+(↑g_1.snd:Int)+1))] [(1,zB),(2,oB (rT s g) 3),(3,ABlk.buf 117 2 (zc80j s g)),(4,ABlk.buf 3 1 (List.map encI (lsQ (roB (pcR s g)) 2 g_1.snd)++[[AV.i (dgV (zc80t s g g_1))]]))] 5=AS.mk [(2,AV.ptr 1 0),
  (5,AV.ptr 2 0),(6,AV.sl 1 (roN s)),(7,AV.sl 1 HDR),(8,AV.i 0),(9,AV.sl 1 (roB (pcR s g))),(11,AV.i 2),(12,AV.bool (rtQ (b0K 0 (roB (pcR s g))) (roB (pcR s g)) 2 g'.snd)),(13,AV.own 4 (List.map encI (lsQ (roB (pcR s
  g)) 2 g'.snd)).length),(14,AV.i ((2:Int)+(↑g'.snd:Int)))] [(1,zB),(2,oB (rT s g) 3),(3,ABlk.buf 117 2 (zc80j s g)),(4,ABlk.buf 3 1 (List.map encI (lsQ (roB (pcR s g)) 2 g'.snd)))] 5)∧(decide ((2:Int)+(↑g_1.snd
  : Int) < (zc80k s g))=false->((!rtQ (b0K 0 (roB (pcR s g))) (roB (pcR s g)) 2 g_1.snd)=true->AV.tup [AV.agg zc80e,AV.i 0,AV.i 25]=psR (↑s.length:Int) (kR s) (spl (10:UInt8) s).length (zc80p s))∧((!rtQ (b0K 0 (roB
  (pcR s g))) (roB (pcR s g)) 2 g_1.snd)=false->AV.bool true=AV.bool true∧(0:Int)<=1∧(1:Int) < (zc80k s g)∧(0:Int)<=0∧(0:Int) < (↑(List.map encI (lsQ (roB (pcR s g)) 2 g_1.snd)).length:Int)∧nth (nthR (roB
  (pcR s g)) 1) 0=AV.str ((dS (roB (pcR s g))).getD 1 [])∧nth (nthR (List.map encI (lsQ (roB (pcR s g)) 2 g_1.snd)) 0) 0=AV.i (cI (List.map encI (lsQ (roB (pcR s g)) 2 g_1.snd)) 0)∧In64 ((0:Int)+1)∧∃ (g':Nat),(zc80n
  g' s)∧(spl (10:UInt8) s).length-g' < (spl (10:UInt8) s).length-g∧AS.mk [(2,AV.ptr 1 0),(5,AV.ptr 2 0),(6,AV.sl 1 (roN s)),(7,AV.sl 1 HDR),(8,AV.i ((0:Int)+1))] [(1,zB),(2,ABlk.box [AV.str ((dS (roB (pcR
  s g))).getD 1 []),AV.sl 1 (List.map encI (rT s g).sh),AV.i (rT s g).d0,AV.i (rT s g).d1,AV.i (rT s g).d2,AV.i (rT s g).d3,AV.i (rT s g).d4,AV.i (rT s g).d5,AV.i (rT s g).d6,AV.i (rT s g).d7,AV.i (cI (List.map encI (lsQ
  (roB (pcR s g)) 2 g_1.snd)) 0),AV.sl 1 (List.map encI (rT s g).sq),AV.own 3 (zc80j s g).length]),(3,ABlk.buf 117 2 (zc80j s g))] 4=AS.mk (zc80l s g') (zc80o s g') 4)))∧((g:Int)=(1:Int)->AV.bool true=AV.bool true ∧
  (0:Int)<=1∧(1:Int) < (4:Int)∧(0:Int)<=0∧(0:Int) < (zc80k s g)∧nth (nthR (roB (pcR s g)) 0) 0=AV.str ((dS (roB (pcR s g))).getD 0 [])∧AV.bool false=AV.bool false∧AV.bool false=AV.bool false∧AV.bool
  false=AV.bool false∧∃ (g0:Nat × Nat),g0.snd<=g0.fst∧g0.fst=g0.fst∧AS.mk [(2,AV.ptr 1 0),(5,AV.ptr 2 0),(6,AV.sl 1 (roN s)),(7,AV.sl 1 HDR),(8,AV.i 1),(9,AV.sl 1 (roB (pcR s g))),(11,AV.i 1),(12,AV.bool
  (b0K 1 (roB (pcR s g)))),(13,AV.own 4 0),(14,AV.i 1)] (zc80s s g) 5=AS.mk [(2,AV.ptr 1 0),(5,AV.ptr 2 0),(6,AV.sl 1 (roN s)),(7,AV.sl 1 HDR),(8,AV.i 1),(9,AV.sl 1 (roB (pcR s g))),(11,AV.i 1),(12,AV.bool (rtQ
  (b0K 1 (roB (pcR s g))) (roB (pcR s g)) 1 g0.snd)),(13,AV.own 4 (List.map encI (lsQ (roB (pcR s g)) 1 g0.snd)).length),(14,AV.i ((1:Int)+(↑g0.snd:Int)))] (zc80q s g g0) 5∧∀ (g_1:Nat × Nat),g_1.snd<=g_1.fst->g_1.fst
  = g0.fst->(decide (zc80u g_1 s g)=true->(0:Int)<=1+(↑g_1.snd:Int)∧(1:Int)+(↑g_1.snd:Int) < (zc80k s g)∧nth (nthR (roB (pcR s g)) ((1:Int)+(↑g_1.snd:Int)).toNat) 0=AV.str (zc80c s g g_1)∧PCall
  Tryz.prog G0 141 [AV.str (zc80c s g g_1)] (AV.tup [AV.i (dgV (zc80c s g g_1)),AV.bool (inB (zc80c s g g_1))])∧(rtQ (b0K 1 (roB (pcR s g))) (roB (pcR s g)) 1 g_1.snd=true->rtQ (b0K 1 (roB (pcR s g))) (roB (pcR s g)) 1 g_1.snd
  = true)∧(zc80a s g g_1).length+1<=9223372036854775807∧((zc80a s g g_1).length+1) * 8<=140737488355328∧In64 ((1:Int)+(↑g_1.snd:Int)+1)∧∃ (g':Nat × Nat),g'.snd<=g'.fst∧g'.fst=g0.fst∧g'.fst-g'.snd <
  g_1.fst-g_1.snd∧AS.mk [(2,AV.ptr 1 0),(5,AV.ptr 2 0),(6,AV.sl 1 (roN s)),(7,AV.sl 1 HDR),(8,AV.i 1),(9,AV.sl 1 (roB (pcR s g))),(11,AV.i 1),(12,AV.bool (if rtQ (b0K 1 (roB (pcR s g))) (roB (pcR s g)) 1 g_1.snd =
  true then inB (zc80c s g g_1) else false)),(13,AV.own 4 ((zc80a s g g_1).length+1)),(14,AV.i ((1:Int)+(↑g_1.snd:Int)+1))] (zc80m s g g_1) 5=AS.mk [(2,AV.ptr 1 0),(5,AV.ptr 2 0),(6,AV.sl 1 (roN s)),(7,AV.sl 1
  HDR),(8,AV.i 1),(9,AV.sl 1 (roB (pcR s g))),(11,AV.i 1),(12,AV.bool (rtQ (b0K 1 (roB (pcR s g))) (roB (pcR s g)) 1 g'.snd)),(13,AV.own 4 (List.map encI (lsQ (roB (pcR s g)) 1 g'.snd)).length),(14,AV.i ((1:Int) +
  (↑g'.snd:Int)))] (zc80r s g g') 5)∧(decide (zc80u g_1 s g)=false->((!rtQ (b0K 1 (roB (pcR s g))) (roB (pcR s g)) 1 g_1.snd)=true->AV.tup [AV.agg zc80e,AV.i 1,AV.i 25]=psR (↑s.length:Int) (kR s) (spl (10:UInt8)
  s).length (zc80p s))∧((!rtQ (b0K 1 (roB (pcR s g))) (roB (pcR s g)) 1 g_1.snd)=false->AV.bool false=AV.bool false∧AV.bool true=AV.bool true∧In64 ((1:Int)+1)∧∃ (g':Nat),(zc80n g' s)∧(spl (10:UInt8)
  s).length-g' < (spl (10:UInt8) s).length-g∧AS.mk [(2,AV.ptr 1 0),(5,AV.ptr 2 0),(6,AV.sl 1 (roN s)),(7,AV.sl 1 HDR),(8,AV.i ((1:Int)+1))] [(1,zB),(2,ABlk.box [AV.str (rT s g).name,AV.sl 1 (zc80a s g g_1),
  AV.i (rT s g).d0,AV.i (rT s g).d1,AV.i (rT s g).d2,AV.i (rT s g).d3,AV.i (rT s g).d4,AV.i (rT s g).d5,AV.i (rT s g).d6,AV.i (rT s g).d7,AV.i (rT s g).side,AV.sl 1 (List.map encI (rT s g).sq),AV.own 3 (zc80j s g).length]),
  (3,ABlk.buf 117 2 (zc80j s g))] 4=AS.mk (zc80l s g') (zc80o s g') 4)))∧((g:Int)=(2:Int)->AV.bool true=AV.bool true∧(0:Int)<=2∧(2:Int) < (4:Int)∧(0:Int)<=0∧(0:Int) < (zc80k s g)∧nth (nthR (roB
  (pcR s g)) 0) 0=AV.str ((dS (roB (pcR s g))).getD 0 [])∧AV.bool false=AV.bool false∧AV.bool true=AV.bool true∧((zc80h s g)=true->(zc80h s g)=true)∧((zc80h s g)=true->(zc80h s g)=true)∧((zc80h s g)=true →
  (zc80h s g)=true)∧AV.bool false=AV.bool false∧∃ (g0:Nat × Nat),g0.snd<=g0.fst∧g0.fst=g0.fst∧AS.mk [(2,AV.ptr 1 0),(5,AV.ptr 2 0),(6,AV.sl 1 (roN s)),(7,AV.sl 1 HDR),(8,AV.i 2),(9,AV.sl 1 (roB (pcR s
  g))),(11,AV.i 1),(12,AV.bool (b0K 2 (roB (pcR s g)))),(13,AV.own 4 0),(14,AV.i 1)] (zc80s s g) 5=AS.mk [(2,AV.ptr 1 0),(5,AV.ptr 2 0),(6,AV.sl 1 (roN s)),(7,AV.sl 1 HDR),(8,AV.i 2),(9,AV.sl 1 (roB (pcR s g))),
  (11,AV.i 1),(12,AV.bool (rtQ (b0K 2 (roB (pcR s g))) (roB (pcR s g)) 1 g0.snd)),(13,AV.own 4 (List.map encI (lsQ (roB (pcR s g)) 1 g0.snd)).length),(14,AV.i ((1:Int)+(↑g0.snd:Int)))] (zc80q s g g0) 5∧∀ (g_1:Nat ×
  Nat),g_1.snd<=g_1.fst->g_1.fst=g0.fst->(decide (zc80u g_1 s g)=true->(0:Int)<=1+(↑g_1.snd:Int)∧(1:Int)+(↑g_1.snd:Int) < (zc80k s g)∧nth (nthR (roB (pcR s g)) ((1:Int)+(↑g_1.snd:Int)).toNat) 0 =
  AV.str (zc80c s g g_1)∧PCall Tryz.prog G0 141 [AV.str (zc80c s g g_1)] (AV.tup [AV.i (dgV (zc80c s g g_1)),AV.bool (inB (zc80c s g g_1))])∧(rtQ (b0K 2 (roB (pcR s g))) (roB (pcR s g)) 1 g_1.snd=true->rtQ (b0K 2 (roB (pcR s
  g))) (roB (pcR s g)) 1 g_1.snd=true)∧(zc80a s g g_1).length+1<=9223372036854775807∧((zc80a s g g_1).length+1) * 8<=140737488355328∧In64 ((1:Int)+(↑g_1.snd:Int)+1)∧∃ (g':Nat × Nat),g'.snd<=g'.fst∧g'.fst
  = g0.fst∧g'.fst-g'.snd < g_1.fst-g_1.snd∧AS.mk [(2,AV.ptr 1 0),(5,AV.ptr 2 0),(6,AV.sl 1 (roN s)),(7,AV.sl 1 HDR),(8,AV.i 2),(9,AV.sl 1 (roB (pcR s g))),(11,AV.i 1),(12,AV.bool (if rtQ (b0K 2 (roB (pcR s g)))
  (roB (pcR s g)) 1 g_1.snd=true then inB (zc80c s g g_1) else false)),(13,AV.own 4 ((zc80a s g g_1).length+1)),(14,AV.i ((1:Int)+(↑g_1.snd:Int)+1))] (zc80m s g g_1) 5=AS.mk [(2,AV.ptr 1 0),(5,AV.ptr 2 0),(6,
  AV.sl 1 (roN s)),(7,AV.sl 1 HDR),(8,AV.i 2),(9,AV.sl 1 (roB (pcR s g))),(11,AV.i 1),(12,AV.bool (rtQ (b0K 2 (roB (pcR s g))) (roB (pcR s g)) 1 g'.snd)),(13,AV.own 4 (List.map encI (lsQ (roB (pcR s g)) 1
  g'.snd)).length),(14,AV.i ((1:Int)+(↑g'.snd:Int)))] (zc80r s g g') 5)∧(decide (zc80u g_1 s g)=false->((!rtQ (b0K 2 (roB (pcR s g))) (roB (pcR s g)) 1 g_1.snd)=true->AV.tup [AV.agg zc80e,AV.i 2,AV.i 25]=psR
  (↑s.length:Int) (kR s) (spl (10:UInt8) s).length (zc80p s))∧((!rtQ (b0K 2 (roB (pcR s g))) (roB (pcR s g)) 1 g_1.snd)=false->AV.bool false=AV.bool false∧AV.bool false=AV.bool false∧AV.bool true=AV.bool true∧(0
  : Int)<=0∧(0:Int) < (zc80v s g g_1)∧(0:Int)<=0∧(0:Int) < (8:Int)∧nth (nthR (zc80a s g g_1) 0) 0=AV.i (cI (zc80a s g g_1) 0)∧In64 ((0:Int)+1)∧AV.i ((0:Int)+1)=AV.i 1∧(0:Int)<=1∧(1:Int) <
  (zc80v s g g_1)∧(0:Int)<=1∧(1:Int) < (8:Int)∧nth (nthR (zc80a s g g_1) 1) 0=AV.i (cI (zc80a s g g_1) 1)∧In64 ((1:Int)+1)∧AV.i ((1:Int)+1)=AV.i 2∧(0:Int)<=2∧(2:Int) < (zc80v s g g_1)∧(0 :
  Int)<=2∧(2:Int) < (8:Int)∧nth (nthR (zc80a s g g_1) 2) 0=AV.i (cI (zc80a s g g_1) 2)∧In64 ((2:Int)+1)∧AV.i ((2:Int)+1)=AV.i 3∧(0:Int)<=3∧(3:Int) < (zc80v s g g_1)∧(0:Int)<=3∧(3:Int) < (↑8
  : Int)∧nth (nthR (zc80a s g g_1) 3) 0=AV.i (cI (zc80a s g g_1) 3)∧In64 ((3:Int)+1)∧AV.i ((3:Int)+1)=AV.i 4∧(0:Int)<=4∧(4:Int) < (zc80v s g g_1)∧(0:Int)<=4∧(4:Int) < (8:Int)∧nth (nthR (zc80a
  s g g_1) 4) 0=AV.i (cI (zc80a s g g_1) 4)∧In64 ((4:Int)+1)∧AV.i ((4:Int)+1)=AV.i 5∧(0:Int)<=5∧(5:Int) < (zc80v s g g_1)∧(0:Int)<=5∧(5:Int) < (8:Int)∧nth (nthR (zc80a s g g_1) 5) 0=AV.i (cI
  (zc80a s g g_1) 5)∧In64 ((5:Int)+1)∧AV.i ((5:Int)+1)=AV.i 6∧(0:Int)<=6∧(6:Int) < (zc80v s g g_1)∧(0:Int)<=6∧(6:Int) < (8:Int)∧nth (nthR (zc80a s g g_1) 6) 0=AV.i (cI (zc80a s g g_1) 6)∧In64
  ((6:Int)+1)∧AV.i ((6:Int)+1)=AV.i 7∧(0:Int)<=7∧(7:Int) < (zc80v s g g_1)∧(0:Int)<=7∧(7:Int) < (8:Int)∧nth (nthR (zc80a s g g_1) 7) 0=AV.i (cI (zc80a s g g_1) 7)∧In64 ((7:Int)+1)∧AV.i ((7
  : Int)+1)=AV.i 8∧In64 ((2:Int)+1)∧∃ (g':Nat),(zc80n g' s)∧(spl (10:UInt8) s).length-g' < (spl (10:UInt8) s).length-g∧AS.mk [(2,AV.ptr 1 0),(5,AV.ptr 2 0),(6,AV.sl 1 (roN s)),(7,AV.sl 1 HDR),(8,
  AV.i ((2:Int)+1))] [(1,zB),(2,ABlk.box [AV.str (rT s g).name,AV.sl 1 (List.map encI (rT s g).sh),AV.i (cI (zc80a s g g_1) 0),AV.i (cI (zc80a s g g_1) 1),AV.i (cI (zc80a s g g_1) 2),AV.i (cI (zc80a s g g_1) 3),AV.i (cI
  (zc80a s g g_1) 4),AV.i (cI (zc80a s g g_1) 5),AV.i (cI (zc80a s g g_1) 6),AV.i (cI (zc80a s g g_1) 7),AV.i (rT s g).side,AV.sl 1 (List.map encI (rT s g).sq),AV.own 3 (zc80j s g).length]),(3,ABlk.buf 117 2 (zc80j s g))] 4 =
  AS.mk (zc80l s g') (zc80o s g') 4)))∧((g:Int)=(3:Int)->AV.bool true=AV.bool true∧(0:Int)<=3∧(3:Int) < (4:Int)∧(0:Int)<=0∧(0:Int) < (zc80k s g)∧nth (nthR (roB (pcR s g)) 0) 0=AV.str ((dS (roB
  (pcR s g))).getD 0 [])∧AV.bool false=AV.bool false∧AV.bool false=AV.bool false∧AV.bool false=AV.bool false∧∃ (g0:Nat × Nat),g0.snd<=g0.fst∧g0.fst=g0.fst∧AS.mk [(2,AV.ptr 1 0),(5,AV.ptr 2 0),(6,AV.sl 1
  (roN s)),(7,AV.sl 1 HDR),(8,AV.i 3),(9,AV.sl 1 (roB (pcR s g))),(11,AV.i 1),(12,AV.bool (b0K 3 (roB (pcR s g)))),(13,AV.own 4 0),(14,AV.i 1)] (zc80s s g) 5=AS.mk [(2,AV.ptr 1 0),(5,AV.ptr 2 0),(6,AV.sl 1 (roN
  s)),(7,AV.sl 1 HDR),(8,AV.i 3),(9,AV.sl 1 (roB (pcR s g))),(11,AV.i 1),(12,AV.bool (rtQ (b0K 3 (roB (pcR s g))) (roB (pcR s g)) 1 g0.snd)),(13,AV.own 4 (List.map encI (lsQ (roB (pcR s g)) 1 g0.snd)).length),(14,AV.i
  ((1:Int)+(↑g0.snd:Int)))] (zc80q s g g0) 5∧∀ (g_1:Nat × Nat),g_1.snd<=g_1.fst->g_1.fst=g0.fst->(decide (zc80u g_1 s g)=true->(0:Int)<=1+(↑g_1.snd:Int)∧(1:Int)+(↑g_1.snd:Int) < (zc80k s g)∧nth
  (nthR (roB (pcR s g)) ((1:Int)+(↑g_1.snd:Int)).toNat) 0=AV.str (zc80c s g g_1)∧PCall Tryz.prog G0 141 [AV.str (zc80c s g g_1)] (AV.tup [AV.i (dgV (zc80c s g g_1)),AV.bool (inB (zc80c s g g_1))])∧(rtQ (b0K 3 (roB (pcR s
  g))) (roB (pcR s g)) 1 g_1.snd=true->rtQ (b0K 3 (roB (pcR s g))) (roB (pcR s g)) 1 g_1.snd=true)∧(zc80a s g g_1).length+1<=9223372036854775807∧((zc80a s g g_1).length+1) * 8<=140737488355328∧In64 ((1:Int) +
  (↑g_1.snd:Int)+1)∧∃ (g':Nat × Nat),g'.snd<=g'.fst∧g'.fst=g0.fst∧g'.fst-g'.snd < g_1.fst-g_1.snd∧AS.mk [(2,AV.ptr 1 0),(5,AV.ptr 2 0),(6,AV.sl 1 (roN s)),(7,AV.sl 1 HDR),(8,AV.i 3),(9,AV.sl 1 (roB
  (pcR s g))),(11,AV.i 1),(12,AV.bool (if rtQ (b0K 3 (roB (pcR s g))) (roB (pcR s g)) 1 g_1.snd=true then inB (zc80c s g g_1) else false)),(13,AV.own 4 ((zc80a s g g_1).length+1)),(14,AV.i ((1:Int)+(↑g_1.snd:Int) +
  1))] (zc80m s g g_1) 5=AS.mk [(2,AV.ptr 1 0),(5,AV.ptr 2 0),(6,AV.sl 1 (roN s)),(7,AV.sl 1 HDR),(8,AV.i 3),(9,AV.sl 1 (roB (pcR s g))),(11,AV.i 1),(12,AV.bool (rtQ (b0K 3 (roB (pcR s g))) (roB (pcR s g)) 1
  g'.snd)),(13,AV.own 4 (List.map encI (lsQ (roB (pcR s g)) 1 g'.snd)).length),(14,AV.i ((1:Int)+(↑g'.snd:Int)))] (zc80r s g g') 5)∧(decide (zc80u g_1 s g)=false->((!rtQ (b0K 3 (roB (pcR s g))) (roB (pcR s g)) 1
  g_1.snd)=true->AV.tup [AV.agg zc80e,AV.i 3,AV.i 25]=psR (↑s.length:Int) (kR s) (spl (10:UInt8) s).length (zc80p s))∧((!rtQ (b0K 3 (roB (pcR s g))) (roB (pcR s g)) 1 g_1.snd)=false->AV.bool false=AV.bool false ∧
  AV.bool false=AV.bool false∧AV.bool false=AV.bool false∧AV.bool true=AV.bool true∧In64 ((3:Int)+1)∧∃ (g':Nat),(zc80n g' s)∧(spl (10:UInt8) s).length-g' < (spl (10:UInt8) s).length-g∧AS.mk [(2,
  AV.ptr 1 0),(5,AV.ptr 2 0),(6,AV.sl 1 (roN s)),(7,AV.sl 1 HDR),(8,AV.i ((3:Int)+1))] [(1,zB),(2,ABlk.box [AV.str (rT s g).name,AV.sl 1 (List.map encI (rT s g).sh),AV.i (rT s g).d0,AV.i (rT s g).d1,AV.i (rT s
  g).d2,AV.i (rT s g).d3,AV.i (rT s g).d4,AV.i (rT s g).d5,AV.i (rT s g).d6,AV.i (rT s g).d7,AV.i (rT s g).side,AV.sl 1 (zc80a s g g_1),AV.own 3 (zc80j s g).length]),(3,ABlk.buf 117 2 (zc80j s g))] 4=AS.mk (zc80l s g')
  (zc80o s g') 4)))∧(((g:Int)-4).NonNeg->AV.bool false=AV.bool false∧(0:Int)<=0∧(0:Int) < (zc80k s g)∧nth (nthR (roB (pcR s g)) 0) 0=AV.str ((dS (roB (pcR s g))).getD 0 [])∧AV.bool false=AV.bool false ∧
  AV.bool false=AV.bool false∧AV.bool (decide ((↑(g-4+4):Int) > 3))=AV.bool true∧(zc80w s g)∧(zc80w s g)∧(zc80w s g)∧∃ (g0:Nat × Nat),g0.snd<=g0.fst∧g0.fst=g0.fst∧AS.mk [(2,AV.ptr 1 0),(5,AV.ptr 2 0),
  (6,AV.sl 1 (roN s)),(7,AV.sl 1 HDR),(8,AV.i (↑(g-4+4):Int)),(9,AV.sl 1 (roB (pcR s g))),(11,AV.i 1),(12,AV.bool (b0K 4 (roB (pcR s g)))),(13,AV.own 4 0),(14,AV.i 1)] (zc80s s g) 5=AS.mk [(2,AV.ptr 1 0),(5,
  AV.ptr 2 0),(6,AV.sl 1 (roN s)),(7,AV.sl 1 HDR),(8,AV.i (↑(g-4+4):Int)),(9,AV.sl 1 (roB (pcR s g))),(11,AV.i 1),(12,AV.bool (rtQ (b0K 4 (roB (pcR s g))) (roB (pcR s g)) 1 g0.snd)),(13,AV.own 4 (List.map encI
  (lsQ (roB (pcR s g)) 1 g0.snd)).length),(14,AV.i ((1:Int)+(↑g0.snd:Int)))] (zc80q s g g0) 5∧∀ (g_1:Nat × Nat),g_1.snd<=g_1.fst->g_1.fst=g0.fst->(decide (zc80u g_1 s g)=true->(0:Int)<=1+(↑g_1.snd:Int) ∧
  (1:Int)+(↑g_1.snd:Int) < (zc80k s g)∧nth (nthR (roB (pcR s g)) ((1:Int)+(↑g_1.snd:Int)).toNat) 0=AV.str (zc80c s g g_1)∧PCall Tryz.prog G0 141 [AV.str (zc80c s g g_1)] (AV.tup [AV.i (dgV (zc80c s g g_1)),AV.bool
  (inB (zc80c s g g_1))])∧(rtQ (b0K 4 (roB (pcR s g))) (roB (pcR s g)) 1 g_1.snd=true->rtQ (b0K 4 (roB (pcR s g))) (roB (pcR s g)) 1 g_1.snd=true)∧(zc80a s g g_1).length+1<=9223372036854775807∧((zc80a s g g_1).length +
  1) * 8<=140737488355328∧In64 ((1:Int)+(↑g_1.snd:Int)+1)∧∃ (g':Nat × Nat),g'.snd<=g'.fst∧g'.fst=g0.fst∧g'.fst-g'.snd < g_1.fst-g_1.snd∧AS.mk [(2,AV.ptr 1 0),(5,AV.ptr 2 0),(6,AV.sl 1 (roN s)),(7,
  AV.sl 1 HDR),(8,AV.i (↑(g-4+4):Int)),(9,AV.sl 1 (roB (pcR s g))),(11,AV.i 1),(12,AV.bool (if rtQ (b0K 4 (roB (pcR s g))) (roB (pcR s g)) 1 g_1.snd=true then inB (zc80c s g g_1) else false)),(13,AV.own 4 ((zc80a s
  g g_1).length+1)),(14,AV.i ((1:Int)+(↑g_1.snd:Int)+1))] (zc80m s g g_1) 5=AS.mk [(2,AV.ptr 1 0),(5,AV.ptr 2 0),(6,AV.sl 1 (roN s)),(7,AV.sl 1 HDR),(8,AV.i (↑(g-4+4):Int)),(9,AV.sl 1 (roB (pcR s g))),
  (11,AV.i 1),(12,AV.bool (rtQ (b0K 4 (roB (pcR s g))) (roB (pcR s g)) 1 g'.snd)),(13,AV.own 4 (List.map encI (lsQ (roB (pcR s g)) 1 g'.snd)).length),(14,AV.i ((1:Int)+(↑g'.snd:Int)))] (zc80r s g g') 5)∧(decide (zc80u
  g_1 s g)=false->((!rtQ (b0K 4 (roB (pcR s g))) (roB (pcR s g)) 1 g_1.snd)=true->AV.tup [AV.agg zc80e,AV.i (↑(g-4+4):Int),AV.i 25]=psR (↑s.length:Int) (kR s) (spl (10:UInt8) s).length (zc80p s))∧((!rtQ (b0K 4
  (roB (pcR s g))) (roB (pcR s g)) 1 g_1.snd)=false->AV.bool false=AV.bool false∧AV.bool false=AV.bool false∧AV.bool false=AV.bool false∧AV.bool false=AV.bool false∧(0:Int)<=0∧(0:Int) < (zc80v s g g_1)∧(0
  : Int)<=1∧(1:Int)<=(zc80v s g g_1)∧(zc80v s g g_1)<=(zc80v s g g_1)∧(zc80j s g).length+1<=9223372036854775807∧((zc80j s g).length+1) * 32<=140737488355328∧nth (nthR (zc80a s g g_1) 0) 0=AV.i (cI (zc80a s g
  g_1) 0)∧AV.sl 1 (List.take ((zc80v s g g_1)-1).toNat (List.drop 1 (zc80a s g g_1)))=AV.sl 1 (List.drop 1 (zc80a s g g_1))∧In64 ((↑(g-4+4):Int)+1)∧∃ (g':Nat),(zc80n g' s)∧(spl (10:UInt8) s).length-g' <
  (spl (10:UInt8) s).length-g∧AS.mk [(2,AV.ptr 1 0),(5,AV.ptr 2 0),(6,AV.sl 1 (roN s)),(7,AV.sl 1 HDR),(8,AV.i ((↑(g-4+4):Int)+1))] [(1,zB),(2,ABlk.box [AV.str (rT s g).name,AV.sl 1 (List.map encI (rT s
  g).sh),AV.i (rT s g).d0,AV.i (rT s g).d1,AV.i (rT s g).d2,AV.i (rT s g).d3,AV.i (rT s g).d4,AV.i (rT s g).d5,AV.i (rT s g).d6,AV.i (rT s g).d7,AV.i (rT s g).side,AV.sl 1 (List.map encI (rT s g).sq),AV.own 3 ((zc80j s
  g).length+1)]),(3,ABlk.buf 117 2 (List.map encSg (rT s g).st++[[AV.i (cI (zc80a s g g_1) 0),AV.sl 1 (List.drop 1 (zc80a s g g_1))]]))] 4=AS.mk (zc80l s g') (zc80o s g') 4)))∧True))∧(decide ((g:Int) < (↑(roN
  s).length:Int))=false->In64 ((↑(roN s).length:Int)-1)∧(decide ((↑(roN s).length:Int)-1 < (↑HDR.length:Int))=true->In64 ((↑(roN s).length:Int)-1)∧AV.tup [AV.agg zc80e,AV.i ((↑(roN s).length:Int)-1),
  AV.i 25]=psR (↑s.length:Int) (kR s) (spl (10:UInt8) s).length (zc80p s))∧(decide ((↑(roN s).length:Int)-1 < (↑HDR.length:Int))=false->PCall Tryz.prog G0 32 [AV.agg (encTy (rT s g))] (AV.i (sTyR (zc80p s)))∧((sTyR
  (zc80p s) != 0)=true->In64 ((↑(roN s).length:Int)-1)∧AV.tup [AV.agg zc80e,AV.i ((↑(roN s).length:Int)-1),AV.i (sTyR (zc80p s))]=psR (↑s.length:Int) (kR s) (spl (10:UInt8) s).length (zc80p s))∧((sTyR (zc80p s)
  != 0)=false->AV.tup [AV.agg (encTy (rT s g)),AV.i 0,AV.i 0]=psR (↑s.length:Int) (kR s) (spl (10:UInt8) s).length (zc80p s))))):=by
   delta zc80a zc80b zc80c zc80d zc80e zc80f zc80g zc80h zc80i zc80j zc80k zc80l zc80m zc80n zc80o zc80p zc80q zc80r zc80s zc80t zc80u zc80v zc80w
   have hz:decide ((s.length:Int) > 4096)=false->s.length<=990:=fun h=>by
    have:=of_decide_eq_false h
    omega
   refine ⟨fun h=>by rw [psR,if_pos h];rfl,fun h=>?_⟩
   have hs9:=hz h
   have hps:∀ (k n:Nat) (t:Ty),psR s.length k n t=if k < n then .tup [.agg (encTy zT),.i k,.i 25] else if decide ((n:Int)-1 < 4)=true then .tup [.agg (encTy zT),.i ((n:Int)-1),.i 25] else if sTyR t != 0 then .tup [.agg (encTy zT),.i ((n:Int)-1),.i (sTyR t)] else .tup [.agg (encTy t),.i 0,.i 0]:=fun k n t=>by
    rw [psR,if_neg (by rw [h];decide)]
   have hn:(roN s).length=(spl 10 s).length:=List.length_map _
   have hnp:1<=(spl 10 s).length:=List.length_pos_iff.2 (spl_ne 10 s)
   have hnl:=(spl_len 10 s).1
   rw [hn]
   refine ⟨c84 s 10 (by omega) (by decide),⟨0,⟨Nat.zero_le _,fun j hj=>absurd hj (Nat.not_lt_zero _)⟩,rfl⟩,fun g hgb=>?_⟩
   obtain ⟨hgn,ha⟩:=hgb
   have hpc:(pcR s g).length<=990:=Nat.le_trans (pc_len s g) hs9
   have hX:=roB_pos (pcR s g)
   have hXl:(roB (pcR s g)).length<=1000:=by
    have:=(spl_len 32 (pcR s g)).1
    rw [roB_len]
    omega
   have hst:=rT_st s g
   have hstm:(List.map encSg (rT s g).st).length=(rT s g).st.length:=List.length_map _
   refine ⟨fun hd=>?_,fun hd=>?_⟩
   · have hlt:g < (spl 10 s).length:=by have:=of_decide_eq_true hd;omega
     have hrow:nth (nthR (roN s) g) 0=AV.str (pcR s g):=congrArg (fun r=>nth r 0) (row_at encS hlt)
     refine ⟨by unfold In64;omega,fun hl=>?_,fun hl=>?_⟩
     · have hl:g+1=(spl 10 s).length:=by have:=eq_of_beq hl;omega
       have hgd:gdR s g=(pcR s g == []):=by rw [gdR,if_pos hl]
       refine ⟨by omega,by omega,hrow,fun hb=>?_,fun hb=>?_⟩
       · rw [hps,kR_e hlt ha (by rw [hgd];simpa using hb),if_pos hlt]
         rfl
       · refine ⟨by unfold In64;omega,g+1,⟨hlt,ok_nxt ha (by rw [hgd];simpa using hb)⟩,by omega,?_⟩
         rw [show rT s (g+1)=rT s g by rw [rT,if_pos hl]]
         rfl
     have hl:g+1 ≠ (spl 10 s).length:=by
      intro q
      rw [<- q] at hl
      have:((g:Int) == ((g+1:Nat):Int)-1)=true:=by
       rw [beq_iff_eq]
       omega
      rw [this] at hl
      cases hl
     refine ⟨by omega,by omega,hrow,c84 _ 32 (by omega) (by decide),?_,?_,?_,?_,?_,?_,trivial⟩
     · have q:g=0 ∨ g=1 ∨ g=2 ∨ g=3 ∨ 4<=g:=by omega
       rcases q with q | q | q | q | q
       · rw [q]
         exact .inl ⟨rfl,rfl⟩
       · rw [q]
         exact .inr (.inl ⟨rfl,rfl⟩)
       · rw [q]
         exact .inr (.inr (.inl ⟨rfl,rfl⟩))
       · rw [q]
         exact .inr (.inr (.inr (.inl ⟨rfl,rfl⟩)))
       · rw [Nat.sub_add_cancel q]
         exact .inr (.inr (.inr (.inr (.inl ⟨(show (4:Int)<=(g:Int) by omega),rfl⟩))))
     · intro hk
       have hkn:=knd_lt (k:=0) hk (by decide)
       have hgd:=gd_in hl hkn
       have hrT:=rT_in hl hkn
       refine ⟨rfl,by decide,by decide,by decide,by omega,rd_wx (by omega),rfl,fun h=>h,fun h=>h,fun h=>h,fun h=>h,fun _=>by decide,fun h=>?_,fun h=>h,fun h=>h,fun h=>h,impB_iff.2 fun h=>rd_wx ?_,rfl,rfl,?_⟩
       · have:=eq_of_beq (ite_2 h)
         omega
       · have:=eq_of_beq (ite_2 h)
         omega
       refine ⟨((roB (pcR s g)).length-2,0),Nat.zero_le _,rfl,rfl,fun z hz hr=>⟨fun hd=>?_,fun hd=>?_⟩⟩
       · obtain ⟨N,m⟩:=z
         dsimp only at hz hr ⊢
         have hd:=of_decide_eq_true hd
         have hln:(List.map encI (lsQ (roB (pcR s g)) 2 m)).length=m:=by rw [List.length_map,lsQ_len]
         rw [show ((2:Int)+(m:Int)).toNat=2+m by omega]
         refine ⟨by omega,by omega,rd_wx (by omega),c141 _ (Nat.le_trans (dW_len hpc _) (by decide)),fun h=>h,by omega,by omega,by unfold In64;omega,(N,m+1),by dsimp only;omega,hr,by dsimp only;omega,?_⟩
         dsimp only
         rw [show (2:Int)+((m+1:Nat):Int)=2+(m:Int)+1 by omega,show List.map encI (lsQ (roB (pcR s g)) 2 (m+1))=List.map encI (lsQ (roB (pcR s g)) 2 m)++[[AV.i (dgV ((dS (roB (pcR s g))).getD (2+m) []))]] by rw [lsQ,List.map_append];rfl,List.length_append]
         rfl
       obtain ⟨N,m⟩:=z
       dsimp only at hz hr hd ⊢
       have hd:=of_decide_eq_false hd
       have hm:m=(roB (pcR s g)).length-2:=by omega
       subst hm
       refine ⟨fun hb=>?_,fun hb=>?_⟩
       · have hgf:gdR s g=false:=by
          rw [hgd]
          exact (by simpa using hb:rtQ (b0K 0 (roB (pcR s g))) (roB (pcR s g)) 2 ((roB (pcR s g)).length-2)=false)
         rw [hps,kR_e hlt ha hgf,if_pos hlt]
         have hg0:(g:Int)=0:=hk
         rw [hg0]
         rfl
       have hb:rtQ (b0K 0 (roB (pcR s g))) (roB (pcR s g)) 2 ((roB (pcR s g)).length-2)=true:=by simpa using hb
       have hgt:gdR s g=true:=by rw [hgd];exact hb
       have hb0:=rtQ_b hb
       have hll:(List.map encI (lsQ (roB (pcR s g)) 2 ((roB (pcR s g)).length-2))).length=(roB (pcR s g)).length-2:=by rw [List.length_map,lsQ_len]
       have hlq:=lsQ_len (roB (pcR s g)) 2 ((roB (pcR s g)).length-2)
       have h3:=b0_0 hb0
       refine ⟨rfl,by decide,by omega,by decide,by omega,rd_wx (by omega),nth_l (by omega),by decide,g+1,⟨hlt,ok_nxt ha hgt⟩,by omega,?_⟩
       rw [cI_l,hrT,show ((g+1:Nat):Int)=(0:Int)+1 by omega]
       rfl
     · intro hk
       have hkn:=knd_lt (k:=1) hk (by decide)
       have hgd:=gd_in hl hkn
       have hrT:=rT_in hl hkn
       refine ⟨rfl,by decide,by decide,by decide,by omega,rd_wx (by omega),rfl,rfl,rfl,?_⟩
       refine ⟨((roB (pcR s g)).length-1,0),Nat.zero_le _,rfl,rfl,fun z hz hr=>⟨fun hd=>?_,fun hd=>?_⟩⟩
       · obtain ⟨N,m⟩:=z
         dsimp only at hz hr ⊢
         have hd:=of_decide_eq_true hd
         have hln:(List.map encI (lsQ (roB (pcR s g)) 1 m)).length=m:=by rw [List.length_map,lsQ_len]
         rw [show ((1:Int)+(m:Int)).toNat=1+m by omega]
         refine ⟨by omega,by omega,rd_wx (by omega),c141 _ (Nat.le_trans (dW_len hpc _) (by decide)),fun h=>h,by omega,by omega,by unfold In64;omega,(N,m+1),by dsimp only;omega,hr,by dsimp only;omega,?_⟩
         dsimp only
         rw [show (1:Int)+((m+1:Nat):Int)=1+(m:Int)+1 by omega,show List.map encI (lsQ (roB (pcR s g)) 1 (m+1))=List.map encI (lsQ (roB (pcR s g)) 1 m)++[[AV.i (dgV ((dS (roB (pcR s g))).getD (1+m) []))]] by rw [lsQ,List.map_append];rfl,List.length_append]
         rfl
       obtain ⟨N,m⟩:=z
       dsimp only at hz hr hd ⊢
       have hd:=of_decide_eq_false hd
       have hm:m=(roB (pcR s g)).length-1:=by omega
       subst hm
       refine ⟨fun hb=>?_,fun hb=>?_⟩
       · have hgf:gdR s g=false:=by
          rw [hgd]
          exact (by simpa using hb:rtQ (b0K 1 (roB (pcR s g))) (roB (pcR s g)) 1 ((roB (pcR s g)).length-1)=false)
         rw [hps,kR_e hlt ha hgf,if_pos hlt]
         have hg0:(g:Int)=1:=hk
         rw [hg0]
         rfl
       have hb:rtQ (b0K 1 (roB (pcR s g))) (roB (pcR s g)) 1 ((roB (pcR s g)).length-1)=true:=by simpa using hb
       have hgt:gdR s g=true:=by rw [hgd];exact hb
       have hb0:=rtQ_b hb
       have hll:(List.map encI (lsQ (roB (pcR s g)) 1 ((roB (pcR s g)).length-1))).length=(roB (pcR s g)).length-1:=by rw [List.length_map,lsQ_len]
       have hlq:=lsQ_len (roB (pcR s g)) 1 ((roB (pcR s g)).length-1)
       refine ⟨rfl,rfl,by decide,g+1,⟨hlt,ok_nxt ha hgt⟩,by omega,?_⟩
       rw [hrT,show ((g+1:Nat):Int)=(1:Int)+1 by omega]
       rfl
     · intro hk
       have hkn:=knd_lt (k:=2) hk (by decide)
       have hgd:=gd_in hl hkn
       have hrT:=rT_in hl hkn
       refine ⟨rfl,by decide,by decide,by decide,by omega,rd_wx (by omega),rfl,rfl,fun h=>h,fun h=>h,fun h=>h,rfl,?_⟩
       refine ⟨((roB (pcR s g)).length-1,0),Nat.zero_le _,rfl,rfl,fun z hz hr=>⟨fun hd=>?_,fun hd=>?_⟩⟩
       · obtain ⟨N,m⟩:=z
         dsimp only at hz hr ⊢
         have hd:=of_decide_eq_true hd
         have hln:(List.map encI (lsQ (roB (pcR s g)) 1 m)).length=m:=by rw [List.length_map,lsQ_len]
         rw [show ((1:Int)+(m:Int)).toNat=1+m by omega]
         refine ⟨by omega,by omega,rd_wx (by omega),c141 _ (Nat.le_trans (dW_len hpc _) (by decide)),fun h=>h,by omega,by omega,by unfold In64;omega,(N,m+1),by dsimp only;omega,hr,by dsimp only;omega,?_⟩
         dsimp only
         rw [show (1:Int)+((m+1:Nat):Int)=1+(m:Int)+1 by omega,show List.map encI (lsQ (roB (pcR s g)) 1 (m+1))=List.map encI (lsQ (roB (pcR s g)) 1 m)++[[AV.i (dgV ((dS (roB (pcR s g))).getD (1+m) []))]] by rw [lsQ,List.map_append];rfl,List.length_append]
         rfl
       obtain ⟨N,m⟩:=z
       dsimp only at hz hr hd ⊢
       have hd:=of_decide_eq_false hd
       have hm:m=(roB (pcR s g)).length-1:=by omega
       subst hm
       refine ⟨fun hb=>?_,fun hb=>?_⟩
       · have hgf:gdR s g=false:=by
          rw [hgd]
          exact (by simpa using hb:rtQ (b0K 2 (roB (pcR s g))) (roB (pcR s g)) 1 ((roB (pcR s g)).length-1)=false)
         rw [hps,kR_e hlt ha hgf,if_pos hlt]
         have hg0:(g:Int)=2:=hk
         rw [hg0]
         rfl
       have hb:rtQ (b0K 2 (roB (pcR s g))) (roB (pcR s g)) 1 ((roB (pcR s g)).length-1)=true:=by simpa using hb
       have hgt:gdR s g=true:=by rw [hgd];exact hb
       have hb0:=rtQ_b hb
       have hll:(List.map encI (lsQ (roB (pcR s g)) 1 ((roB (pcR s g)).length-1))).length=(roB (pcR s g)).length-1:=by rw [List.length_map,lsQ_len]
       have hlq:=lsQ_len (roB (pcR s g)) 1 ((roB (pcR s g)).length-1)
       have h9:=b0_2 hb0
       refine ⟨rfl,rfl,rfl,by decide,by omega,by decide,by decide,nth_l (by omega),by decide,rfl,by decide,by omega,by decide,by decide,nth_l (by omega),by decide,rfl,by decide,by omega,by decide,by decide,nth_l (by omega),by decide,rfl,by decide,by omega,by decide,by decide,nth_l (by omega),by decide,rfl,by decide,by omega,by decide,by decide,nth_l (by omega),by decide,rfl,by decide,by omega,by decide,by decide,nth_l (by omega),by decide,rfl,by decide,by omega,by decide,by decide,nth_l (by omega),by decide,rfl,by decide,by omega,by decide,by decide,nth_l (by omega),by decide,rfl,by decide,g+1,⟨hlt,ok_nxt ha hgt⟩,by omega,?_⟩
       rw [cI_l,cI_l,cI_l,cI_l,cI_l,cI_l,cI_l,cI_l,hrT,show ((g+1:Nat):Int)=(2:Int)+1 by omega]
       rfl
     · intro hk
       have hkn:=knd_lt (k:=3) hk (by decide)
       have hgd:=gd_in hl hkn
       have hrT:=rT_in hl hkn
       refine ⟨rfl,by decide,by decide,by decide,by omega,rd_wx (by omega),rfl,rfl,rfl,?_⟩
       refine ⟨((roB (pcR s g)).length-1,0),Nat.zero_le _,rfl,rfl,fun z hz hr=>⟨fun hd=>?_,fun hd=>?_⟩⟩
       · obtain ⟨N,m⟩:=z
         dsimp only at hz hr ⊢
         have hd:=of_decide_eq_true hd
         have hln:(List.map encI (lsQ (roB (pcR s g)) 1 m)).length=m:=by rw [List.length_map,lsQ_len]
         rw [show ((1:Int)+(m:Int)).toNat=1+m by omega]
         refine ⟨by omega,by omega,rd_wx (by omega),c141 _ (Nat.le_trans (dW_len hpc _) (by decide)),fun h=>h,by omega,by omega,by unfold In64;omega,(N,m+1),by dsimp only;omega,hr,by dsimp only;omega,?_⟩
         dsimp only
         rw [show (1:Int)+((m+1:Nat):Int)=1+(m:Int)+1 by omega,show List.map encI (lsQ (roB (pcR s g)) 1 (m+1))=List.map encI (lsQ (roB (pcR s g)) 1 m)++[[AV.i (dgV ((dS (roB (pcR s g))).getD (1+m) []))]] by rw [lsQ,List.map_append];rfl,List.length_append]
         rfl
       obtain ⟨N,m⟩:=z
       dsimp only at hz hr hd ⊢
       have hd:=of_decide_eq_false hd
       have hm:m=(roB (pcR s g)).length-1:=by omega
       subst hm
       refine ⟨fun hb=>?_,fun hb=>?_⟩
       · have hgf:gdR s g=false:=by
          rw [hgd]
          exact (by simpa using hb:rtQ (b0K 3 (roB (pcR s g))) (roB (pcR s g)) 1 ((roB (pcR s g)).length-1)=false)
         rw [hps,kR_e hlt ha hgf,if_pos hlt]
         have hg0:(g:Int)=3:=hk
         rw [hg0]
         rfl
       have hb:rtQ (b0K 3 (roB (pcR s g))) (roB (pcR s g)) 1 ((roB (pcR s g)).length-1)=true:=by simpa using hb
       have hgt:gdR s g=true:=by rw [hgd];exact hb
       have hb0:=rtQ_b hb
       have hll:(List.map encI (lsQ (roB (pcR s g)) 1 ((roB (pcR s g)).length-1))).length=(roB (pcR s g)).length-1:=by rw [List.length_map,lsQ_len]
       have hlq:=lsQ_len (roB (pcR s g)) 1 ((roB (pcR s g)).length-1)
       refine ⟨rfl,rfl,rfl,rfl,by decide,g+1,⟨hlt,ok_nxt ha hgt⟩,by omega,?_⟩
       rw [hrT,show ((g+1:Nat):Int)=(3:Int)+1 by omega]
       rfl
     · intro hk
       have hk:(g:Int)>=4:=hk
       have hkn:=knd_ge hk
       have hgd:=gd_in hl hkn
       have hrT:=rT_in hl hkn
       refine ⟨rfl,by decide,by omega,rd_wx (by omega),rfl,rfl,congrArg AV.bool (decide_eq_true (by omega)),fun h=>h,fun h=>h,fun h=>h,?_⟩
       refine ⟨((roB (pcR s g)).length-1,0),Nat.zero_le _,rfl,rfl,fun z hz hr=>⟨fun hd=>?_,fun hd=>?_⟩⟩
       · obtain ⟨N,m⟩:=z
         dsimp only at hz hr ⊢
         have hd:=of_decide_eq_true hd
         have hln:(List.map encI (lsQ (roB (pcR s g)) 1 m)).length=m:=by rw [List.length_map,lsQ_len]
         rw [show ((1:Int)+(m:Int)).toNat=1+m by omega]
         refine ⟨by omega,by omega,rd_wx (by omega),c141 _ (Nat.le_trans (dW_len hpc _) (by decide)),fun h=>h,by omega,by omega,by unfold In64;omega,(N,m+1),by dsimp only;omega,hr,by dsimp only;omega,?_⟩
         dsimp only
         rw [show (1:Int)+((m+1:Nat):Int)=1+(m:Int)+1 by omega,show List.map encI (lsQ (roB (pcR s g)) 1 (m+1))=List.map encI (lsQ (roB (pcR s g)) 1 m)++[[AV.i (dgV ((dS (roB (pcR s g))).getD (1+m) []))]] by rw [lsQ,List.map_append];rfl,List.length_append]
         rfl
       obtain ⟨N,m⟩:=z
       dsimp only at hz hr hd ⊢
       have hd:=of_decide_eq_false hd
       have hm:m=(roB (pcR s g)).length-1:=by omega
       subst hm
       refine ⟨fun hb=>?_,fun hb=>?_⟩
       · have hgf:gdR s g=false:=by
          rw [hgd]
          exact (by simpa using hb:rtQ (b0K 4 (roB (pcR s g))) (roB (pcR s g)) 1 ((roB (pcR s g)).length-1)=false)
         rw [hps,kR_e hlt ha hgf,if_pos hlt]
         rw [Nat.sub_add_cancel (show 4<=g by omega)]
         rfl
       have hb:rtQ (b0K 4 (roB (pcR s g))) (roB (pcR s g)) 1 ((roB (pcR s g)).length-1)=true:=by simpa using hb
       have hgt:gdR s g=true:=by rw [hgd];exact hb
       have hb0:=rtQ_b hb
       have hll:(List.map encI (lsQ (roB (pcR s g)) 1 ((roB (pcR s g)).length-1))).length=(roB (pcR s g)).length-1:=by rw [List.length_map,lsQ_len]
       have hlq:=lsQ_len (roB (pcR s g)) 1 ((roB (pcR s g)).length-1)
       have h2:=b0_4 hb0
       refine ⟨rfl,rfl,rfl,rfl,by decide,by omega,by decide,by omega,Int.le_refl _,by omega,by omega,nth_l (by omega),?_,by unfold In64;omega,g+1,⟨hlt,ok_nxt ha hgt⟩,by omega,?_⟩
       · rw [List.take_of_length_le (by rw [List.length_drop];omega)]
       · rw [cI_l,hrT,Nat.sub_add_cancel (show 4<=g by omega),<- List.map_drop]
         have e4:List.map encSg (upR 4 (roB (pcR s g)) (rT s g)).st=List.map encSg (rT s g).st++[[AV.i ((lsQ (roB (pcR s g)) 1 ((roB (pcR s g)).length-1)).getD 0 default),AV.sl 1 (List.map encI ((lsQ (roB (pcR s g)) 1 ((roB (pcR s g)).length-1)).drop 1))]]:=List.map_append ..
         unfold oB
         rw [e4,List.length_append]
         rfl
   · have hge:g=(spl 10 s).length:=by have:=of_decide_eq_false hd;omega
     subst hge
     have hks:=kR_n ha
     have hB:=rT_b (s:=s) (m:=1000) (by omega) (spl 10 s).length
     refine ⟨by unfold In64;omega,fun h4=>⟨by unfold In64;omega,?_⟩,fun h4=>?_⟩
     · have h4:decide (((spl 10 s).length:Int)-1 < 4)=true:=h4
       rw [hps,hks,if_neg (Nat.lt_irrefl _),if_pos h4]
       rfl
     have h4:decide (((spl 10 s).length:Int)-1 < 4)=false:=h4
     refine ⟨c32 _ (Nat.le_trans (rT_st s _) (by omega)) hB.sh hB.sq hB.e (Nat.le_trans hB.nm (by decide)),fun h5=>⟨by unfold In64;omega,?_⟩,fun h5=>?_⟩
     · rw [hps,hks,if_neg (Nat.lt_irrefl _),if_neg (by rw [h4];decide),if_pos h5]
       rfl
     · rw [hps,hks,if_neg (Nat.lt_irrefl _),if_neg (by rw [h4];decide),if_neg (by rw [h5];decide)]
 exact c_of Tryz.f80 ({ gsB g80 (modA 44 9 (fun a=>{ a with fz:=false }) (mkB (sp80 s) 80 [(10,3,rdPc s),(12,3,rdPc s),(14,3,rdL4),(16,2,rdWx),(17,1,rdEq 0),(19,9,rdWx),(20,1,rdEq 2),(22,1,rdG3),(28,3,rdWx),(33,1,rdEq 0),(34,2,rdWx),(34,5,rdJ),(35,1,rdEq 1),(37,1,rdEq 2),(40,1,rdNx),(41,4,rdJ),(42,1,rdEq 3),(44,4,rdJ),(44,6,rdDr)] (la80 s))) with cs:=cs80,cl:=clL [52,63,77,85,120,130,134,136,147],bx:=fun i=>if i.beq 0 then [.frzc 2 12] else if i.beq 2 then [.frzo 13] else [] }) (by kernel_rfl) (by kernel_rfl) (by kernel_rfl) (by kernel_rfl) key (by kernel_rfl)
end Go.Proofs.YtjhjmncjidbieaaGreatDoor
namespace Go.Proofs.YtjhjmncjidbieaaGreatDoor
open Go Go.Av Go.RowKit
def lnP:List (List UInt8)->List (List UInt8)
 | []=>[]
 | [x]=>if x=[] then [] else [x]
 | x::y::t=>(x++[10])::lnP (y::t)
theorem spl_ln:∀ s:List UInt8,(spl 10 s=[s]∧hdL s=s∧tlL s=[]) ∨ ∃ x,hdL s=x++[10]∧spl 10 s=x::spl 10 (tlL s)
 | []=>.inl ⟨rfl,rfl,rfl⟩
 | c::t=>by
  by_cases h:c=10
  · subst h
    exact .inr ⟨[],rfl,rfl⟩
  · have hb:(c == 10)=false:=beq_false_of_ne h
    rcases spl_ln t with ⟨h1,h2,h3⟩ | ⟨x,h1,h2⟩
    · exact .inl ⟨by rw [spl,hb,h1];rfl,by rw [hdL,hb,h2];rfl,by rw [tlL,hb,h3];rfl⟩
    · exact .inr ⟨c::x,by rw [hdL,hb,h1];rfl,by rw [spl,tlL,hb,h2];rfl⟩
theorem isLn_uniq:∀ {A B:List (List UInt8)} {s:List UInt8},isLn A s->isLn B s->A=B
 | [],[],_,_,_=>rfl
 | [],_::_,_,h,g=>absurd h g.1
 | _::_,[],_,h,g=>absurd g h.1
 | x::A,y::B,s,⟨_,h2,h3⟩,⟨_,g2,g3⟩=>by rw [h2,g2,isLn_uniq h3 g3]
theorem lnP_is:∀ (n:Nat) (s:List UInt8),s.length<=n->isLn (lnP (spl 10 s)) s
 | 0,s,h=>by
  cases s with
  | nil=>exact rfl
  | cons _ _=>simp at h
 | n+1,s,h=>by
  by_cases q:s=[]
  · subst q;exact rfl
  · rcases spl_ln s with ⟨h1,h2,h3⟩ | ⟨x,h1,h2⟩
    · rw [h1,lnP,if_neg q]
      exact ⟨q,h2.symm,h3⟩
    · have hlt:=tl_len q
      have ih:=lnP_is n (tlL s) (by omega)
      rw [h2]
      cases hP:spl 10 (tlL s) with
      | nil=>exact absurd hP (spl_ne _ _)
      | cons y t =>
       rw [hP] at ih
       exact ⟨q,h1.symm,ih⟩
theorem lns_eq (s:List UInt8):lns s=lnP (spl 10 s):=isLn_uniq (lns_is s) (lnP_is _ s (Nat.le_refl _))
theorem lnP_len:∀ P:List (List UInt8),P ≠ []->(lnP P).length=(P.length-1)+(if P.getD (P.length-1) []=[] then 0 else 1)
 | [],h=>absurd rfl h
 | [x],_=>by
  rw [lnP]
  by_cases q:x=[]
  · subst q;rfl
  · rw [if_neg q,show [x].getD ([x].length-1) []=x from rfl,if_neg q];rfl
 | x::y::t,_=>by
  have ih:=lnP_len (y::t) (by simp)
  rw [lnP,List.length_cons,ih,show (x::y::t).getD ((x::y::t).length-1) []=(y::t).getD ((y::t).length-1) [] from rfl]
  simp only [List.length_cons]
  omega
theorem lnP_get:∀ (P:List (List UInt8)) (i:Nat),i+1 < P.length->(lnP P).getD i []=P.getD i []++[10]
 | [],i,h=>by simp at h
 | [x],i,h=>by simp at h
 | x::y::t,0,_=>rfl
 | x::y::t,i+1,h=>lnP_get (y::t) i (by simpa using h)
theorem lnP_last:∀ P:List (List UInt8),P ≠ []->P.getD (P.length-1) [] ≠ []->(lnP P).getD (P.length-1) []=P.getD (P.length-1) []
 | [],h,_=>absurd rfl h
 | [x],_,h=>by
  have h:x ≠ []:=h
  rw [lnP,if_neg h]
 | x::y::t,_,h=>lnP_last (y::t) (by simp) h
theorem spl_no (c:UInt8):∀ (s:List UInt8) (x:List UInt8),x ∈ spl c s->c ∉ x
 | [],x,h=>by
  rw [spl,List.mem_singleton] at h
  subst h
  simp
 | a::t,x,h=>by
  rw [spl] at h
  by_cases q:a=c
  · rw [if_pos (by rw [q];exact beq_self_eq_true c)] at h
    rcases List.mem_cons.1 h with rfl | h
    · simp
    · exact spl_no c t x h
  · rw [if_neg (by rw [beq_iff_eq];exact q)] at h
    have e:=spl_cons c t
    rcases List.mem_cons.1 h with rfl | h
    · have:=spl_no c t ((spl c t).headD []) (by rw [<- e];exact List.mem_cons_self ..)
      rw [List.mem_cons]
      exact fun hx=>hx.elim (fun hx=>q hx.symm) this
    · exact spl_no c t x (by rw [<- e];exact List.mem_cons_of_mem _ h)
theorem cut_end (b:List UInt8):cutS (b++[10]) [10]=true∧bodyL (b++[10])=b:=by
 have h:cutS (b++[10]) [10]=true:=by
  unfold cutS
  simp
 refine ⟨h,?_⟩
 unfold bodyL
 rw [h,if_pos rfl]
 simp
theorem cut_no {x:List UInt8} (h:(10:UInt8) ∉ x):cutS x [10]=false:=by
 cases q:cutS x [10] with
 | false=>rfl
 | true =>
  unfold cutS at q
  rw [Bool.and_eq_true,beq_iff_eq] at q
  exact absurd (List.mem_of_mem_drop (by rw [q.2];exact List.mem_singleton.2 rfl)) h
def cntR (s:List UInt8):Nat:=(spl 10 s).length-1
def lstR (s:List UInt8):List UInt8:=(spl 10 s).getD (cntR s) []
theorem cnt_lt (s:List UInt8):cntR s < (spl 10 s).length:=by
 have:=List.length_pos_iff.2 (spl_ne 10 s)
 unfold cntR
 omega
theorem lns_len (s:List UInt8):(lns s).length=cntR s+(if lstR s=[] then 0 else 1):=by rw [lns_eq];exact lnP_len _ (spl_ne 10 s)
theorem lns_get {s:List UInt8} {i:Nat} (h:i < cntR s):(lns s).getD i []=(spl 10 s).getD i []++[10]:=by
 rw [lns_eq]
 exact lnP_get _ _ (by unfold cntR at h;omega)
theorem wd_f {ws:List (List UInt8)}:wdB ws false=(ws.headD [] == []):=by
 unfold wdB
 cases ws.headD [] == [] <;> rfl
theorem wd_t (ws:List (List UInt8)):wdB ws true=true:=by
 unfold wdB
 split <;> rfl
theorem q0_t (s:List UInt8):q0N s true=true:=by
 unfold q0N
 rfl
theorem nb_t (ws:List (List UInt8)):nbW ws true=true:=by
 unfold nbW
 rw [wd_t,q0_t]
 rfl
theorem tk_t (ws:List (List UInt8)):∀ k,(tkW ws true k).2=true
 | 0=>rfl
 | k+1=>by
  show nbW _ _=true
  rw [tk_t ws k,nb_t]
theorem q0_in (u:List UInt8):q0N u (u == [])=inQ u:=rfl
theorem inB_ne {u:List UInt8} (h:inB u=true):u ≠ []:=fun e=>by
 rw [e] at h
 exact absurd h (by decide)
theorem nb_cons (u:List UInt8) (r:List (List UInt8)):nbW (u::r) false=!inB u:=by
 unfold nbW inB
 rw [wd_f,show (u::r).headD []=u from rfl,q0_in]
 cases inQ u <;> rfl
theorem nb_nil:nbW [] false=true:=by
 unfold nbW
 rw [wd_f]
 decide
theorem wd_cons {u:List UInt8} (r:List (List UInt8)) (h:u ≠ []):wdR (u::r)=r:=by
 unfold wdR
 rw [if_neg (by
  show ¬ (u == [])=true
  rw [beq_iff_eq]
  exact h)]
 rfl
theorem nv_cons {u:List UInt8} (r:List (List UInt8)) (h:inB u=true):nvW (u::r) false=dgV u:=by
 have h1:=h
 unfold inB at h1
 have hq:inQ u=false:=by
  cases q:inQ u with
  | false=>rfl
  | true=>rw [q] at h1;cases h1
 rw [hq,if_neg (by decide)] at h1
 unfold nvW
 rw [wd_f,show (u::r).headD []=u from rfl,q0_in,hq,nvS,if_neg (by decide),dp_all h1,dgV,if_pos h]
theorem tk_sh (ws:List (List UInt8)) (b:Bool):∀ k,tkW ws b (k+1)=tkW (wdR ws) (nbW ws b) k
 | 0=>rfl
 | k+1=>by
  have h:=tk_sh ws b k
  show (wdR (tkW ws b (k+1)).1,nbW (tkW ws b (k+1)).1 (tkW ws b (k+1)).2)=_
  rw [h]
  rfl
theorem tl_sh (ws:List (List UInt8)) (b:Bool):∀ k,tkL ws b (k+1)=nvW ws b::tkL (wdR ws) (nbW ws b) k
 | 0=>rfl
 | k+1=>by
  have h:=tl_sh ws b k
  show tkL ws b (k+1)++[nvW (tkW ws b (k+1)).1 (tkW ws b (k+1)).2]=_
  rw [h,tk_sh]
  rfl
theorem tk_good:∀ (k:Nat) (r:List (List UInt8)),k<=r.length->(∀ x,x ∈ r.take k->inB x=true)->tkW r false k=(r.drop k,false)∧tkL r false k=(r.take k).map dgV
 | 0,r,_,_=>⟨rfl,rfl⟩
 | k+1,[],h,_=>by simp at h
 | k+1,u::r,h,ha=>by
  have hu:inB u=true:=ha u (by simp)
  have ih:=tk_good k r (by simpa using h) fun x hx=>ha x (by simp [hx])
  rw [tk_sh,tl_sh,nb_cons,hu,wd_cons r (inB_ne hu),nv_cons r hu]
  exact ⟨ih.1,by rw [show (!true)=false from rfl,ih.2];rfl⟩
theorem tk_f:∀ (k:Nat) (r:List (List UInt8)),(tkW r false k).2=false->k<=r.length∧∀ x,x ∈ r.take k->inB x=true
 | 0,r,_=>⟨Nat.zero_le _,fun x hx=>by simp at hx⟩
 | k+1,[],h=>by
  rw [tk_sh,nb_nil,tk_t] at h
  cases h
 | k+1,u::r,h=>by
  rw [tk_sh,nb_cons] at h
  cases hu:inB u with
  | false=>rw [hu,show (!false)=true from rfl,tk_t] at h;cases h
  | true =>
   rw [hu,wd_cons r (inB_ne hu)] at h
   have ih:=tk_f k r h
   refine ⟨by rw [List.length_cons];omega,fun x hx=>?_⟩
   rw [List.take_succ_cons] at hx
   rcases List.mem_cons.1 hx with rfl | hx
   · exact hu
   · exact ih.2 x hx
theorem rs_iff (r:List (List UInt8)):(tkW r false r.length).2=false ↔ ∀ x,x ∈ r->inB x=true:=by
 constructor
 · intro h x hx
   exact (tk_f r.length r h).2 x (by rw [List.take_length];exact hx)
 · intro h
   rw [(tk_good r.length r (Nat.le_refl _) fun x hx=>h x (by rwa [List.take_length] at hx)).1]
theorem rs_good {r:List (List UInt8)} (h:∀ x,x ∈ r->inB x=true):tkW r false r.length=([],false)∧tkL r false r.length=r.map dgV:=by
 have:=tk_good r.length r (Nat.le_refl _) fun x hx=>h x (by rwa [List.take_length] at hx)
 rwa [List.drop_length,List.take_length] at this
def GdK:Nat->List (List UInt8)->Prop
 | 0,ws=>∃ n u,ws=[wordK 0,n,u]∧n ≠ []∧inB u=true
 | 1,ws=>∃ r,ws=wordK 1::r∧∀ x,x ∈ r->inB x=true
 | 2,ws=>∃ r,ws=wordK 2::r∧r.length=8∧∀ x,x ∈ r->inB x=true
 | 3,ws=>∃ r,ws=wordK 3::r∧∀ x,x ∈ r->inB x=true
 | _,ws=>∃ u r,ws=wordK 4::u::r∧inB u=true∧∀ x,x ∈ r->inB x=true
theorem rt_iff (b:Bool) (rows:List (List AV)) (fr:Nat):∀ n,rtQ b rows fr n=true ↔ b=true∧∀ i,i < n->inB ((dS rows).getD (fr+i) [])=true
 | 0=>⟨fun h=>⟨h,fun i hi=>absurd hi (Nat.not_lt_zero _)⟩,fun h=>h.1⟩
 | n+1=>by
  have ih:=rt_iff b rows fr n
  rw [rtQ]
  constructor
  · intro h
    obtain ⟨h1,h2⟩:=ih.1 (ite_1 h)
    refine ⟨h1,fun i hi=>?_⟩
    by_cases e:i=n
    · rw [e];exact ite_2 h
    · exact h2 i (by omega)
  · intro ⟨h1,h2⟩
    rw [if_pos (ih.2 ⟨h1,fun i hi=>h2 i (by omega)⟩)]
    exact h2 n (by omega)
theorem mem_at {r:List (List UInt8)}:(∀ x,x ∈ r->inB x=true) ↔ ∀ i,i < r.length->inB (r.getD i [])=true:=by
 constructor
 · intro h i hi
   exact h _ (getD_mem hi)
 · intro h x hx
   obtain ⟨i,hi,rfl⟩:=List.getElem_of_mem hx
   have:=h i hi
   rwa [List.getD_eq_getElem?_getD,List.getElem?_eq_getElem hi] at this
theorem ls_map (ws:List (List UInt8)) (fr:Nat):∀ n,fr+n<=ws.length->lsQ (ws.map encS) fr n=((ws.drop fr).take n).map dgV
 | 0,_=>rfl
 | n+1,h=>by
  have hlt:n < (ws.drop fr).length:=by rw [List.length_drop];omega
  rw [lsQ,ls_map ws fr n (by omega),dS_e,List.take_add_one,List.map_append,List.getElem?_eq_getElem hlt]
  congr 1
  rw [List.getElem_drop,List.getD_eq_getElem?_getD,List.getElem?_eq_getElem (by omega)]
  rfl
theorem ok_iff (k:Nat) (ws:List (List UInt8)):okQ k (ws.map encS)=true ↔ b0K k (ws.map encS)=true∧∀ i,i < ws.length-frK k->inB (ws.getD (frK k+i) [])=true:=by
 rw [okQ,rt_iff,dS_e,List.length_map]
theorem one (k:Nat) (hk:k=1 ∨ k=3) (hk2:k ≠ 0) (ws:List (List UInt8)):(b0K k (ws.map encS)=true∧∀ i,i < ws.length-frK k->inB (ws.getD (frK k+i) [])=true) ↔ ∃ r,ws=wordK k::r∧∀ x,x ∈ r->inB x=true:=by
 have h0:wordK k ≠ []:=by rcases hk with rfl | rfl <;> decide
 have e:b0K k (ws.map encS)=(ws.getD 0 [] == wordK k):=by
  unfold b0K
  rw [if_neg hk2,if_neg (by omega),if_neg (by omega),dS_e]
 rw [e,frK,if_neg hk2]
 constructor
 · intro ⟨h1,h2⟩
   have b:=eq_of_beq h1
   cases ws with
   | nil=>exact absurd b.symm h0
   | cons x r =>
    refine ⟨r,by rw [show x=wordK k from b],mem_at.2 fun i hi=>?_⟩
    have:=h2 i (by rw [List.length_cons];omega)
    rwa [Nat.add_comm] at this
 · intro ⟨r,e,hr⟩
   subst e
   refine ⟨beq_self_eq_true _,fun i hi=>?_⟩
   rw [Nat.add_comm]
   exact mem_at.1 hr i (by rw [List.length_cons] at hi;omega)
theorem ok_gd (k:Nat) (hk:k<=4) (ws:List (List UInt8)):okQ k (ws.map encS)=true ↔ GdK k ws:=by
 rw [ok_iff]
 have hl:((ws.map encS).length:Int)=(ws.length:Int):=by rw [List.length_map]
 match k,hk with
 | 0,_ =>
  unfold b0K frK
  rw [if_pos rfl,if_pos rfl,dS_e,hl]
  constructor
  · intro ⟨h1,h2⟩
    have a:=ite_2 h1
    have b:=ite_1 (ite_1 h1)
    have c:=ite_2 (ite_1 h1)
    have c:=eq_of_beq c
    match ws,(show ws.length=3 by omega) with
    | [x,n,u],_ =>
     refine ⟨n,u,?_,?_,h2 0 Nat.zero_lt_one⟩
     · rw [show x=wordK 0 from eq_of_beq b]
     · intro e
       rw [show ([x,n,u]:List (List UInt8)).getD 1 []=n from rfl,e] at a
       exact absurd a (by decide)
  · intro ⟨n,u,e,hn,hu⟩
    subst e
    refine ⟨?_,fun i hi=>?_⟩
    · rw [show ([wordK 0,n,u]:List (List UInt8)).getD 1 []=n from rfl,show ([wordK 0,n,u]:List (List UInt8)).getD 0 []=wordK 0 from rfl,beq_self_eq_true,if_pos rfl,if_pos (show ((([wordK 0,n,u]:List (List UInt8)).length:Int) == 3)=true from rfl)]
      rw [Bool.not_eq_true',beq_eq_false_iff_ne]
      exact hn
    · have:i=0:=by
       have:([wordK 0,n,u]:List (List UInt8)).length=3:=rfl
       omega
      rw [this]
      exact hu
 | 1,_=>exact one 1 (by decide) (by decide) ws
 | 2,_ =>
  have e0:b0K 2 (ws.map encS)=if (ws.getD 0 [] == wordK 2)=true then ((ws.length:Int) == 9) else false:=by
   unfold b0K
   rw [if_neg (show ¬ (2:Nat)=0 by decide),if_pos rfl,dS_e,hl]
  rw [e0,show frK 2=1 from rfl]
  constructor
  · intro ⟨h1,h2⟩
    have b:=eq_of_beq (ite_1 h1)
    have c:=eq_of_beq (ite_2 h1)
    cases ws with
    | nil=>simp at c
    | cons x r =>
     rw [List.length_cons] at c h2
     refine ⟨r,by rw [show x=wordK 2 from b],by omega,mem_at.2 fun i hi=>?_⟩
     have:=h2 i (by omega)
     rwa [Nat.add_comm] at this
  · intro ⟨r,e,h8,hr⟩
    subst e
    refine ⟨?_,fun i hi=>?_⟩
    · rw [show (wordK 2::r).getD 0 []=wordK 2 from rfl,beq_self_eq_true,if_pos rfl,List.length_cons,h8]
      rfl
    · rw [Nat.add_comm]
      exact mem_at.1 hr i (by rw [List.length_cons] at hi;omega)
 | 3,_=>exact one 3 (by decide) (by decide) ws
 | 4,_ =>
  have e0:b0K 4 (ws.map encS)=if (ws.getD 0 [] == wordK 4)=true then decide ((ws.length:Int) > 1) else false:=by
   unfold b0K
   rw [if_neg (show ¬ (4:Nat)=0 by decide),if_neg (show ¬ (4:Nat)=2 by decide),if_pos rfl,dS_e,hl]
  rw [e0,show frK 4=1 from rfl]
  constructor
  · intro ⟨h1,h2⟩
    have b:=eq_of_beq (ite_1 h1)
    have c:=of_decide_eq_true (ite_2 h1)
    match ws,(show 2<=ws.length by omega) with
    | x::u::r,_ =>
     refine ⟨u,r,by rw [show x=wordK 4 from b],h2 0 (by simp),mem_at.2 fun i hi=>?_⟩
     have:=h2 (i+1) (by simp only [List.length_cons];omega)
     rwa [show 1+(i+1)=i+2 by omega] at this
  · intro ⟨u,r,e,hu,hr⟩
    subst e
    refine ⟨?_,fun i hi=>?_⟩
    · rw [show (wordK 4::u::r).getD 0 []=wordK 4 from rfl,beq_self_eq_true,if_pos rfl]
      exact decide_eq_true (by simp only [List.length_cons];omega)
    · match i with
      | 0=>exact hu
      | i+1 =>
       rw [show 1+(i+1)=i+2 by omega]
       exact mem_at.1 hr i (by simp only [List.length_cons] at hi;omega)
theorem fi_cong {p q:Nat->Bool}:∀ {n:Nat},(∀ j,j < n->p j=q j)->fiN p n=fiN q n
 | 0,_=>rfl
 | n+1,h=>by
  rw [fiN,fiN,fi_cong (n:=n) fun j hj=>h j (by omega),h n (by omega)]
theorem fi_al {p:Nat->Bool} {n:Nat} (h:¬ fiN p n < n):∀ j,j < n->p j=false:=by
 induction n with
 | zero=>intro j hj;omega
 | succ n ih =>
  rw [fiN] at h
  split at h
  · omega
  · rename_i h1
    split at h
    · omega
    · rename_i h2
      intro j hj
      by_cases e:j=n
      · rw [e];simpa using h2
      · exact ih h1 j (by omega)
theorem fi_lt {p:Nat->Bool} {n j:Nat} (hj:j < n) (h:p j=true):fiN p n < n:=by
 by_cases q:fiN p n < n
 · exact q
 · rw [fi_al q j hj] at h
   cases h
theorem wordK_ne (k:Nat):wordK k ≠ []:=by
 match k with
 | 0=>decide
 | 1=>decide
 | 2=>decide
 | 3=>decide
 | _+4=>show ([112,111,119,101,114]:List UInt8) ≠ [];decide
theorem nor4 {a b c d:Bool}:(if (if (if (!a)=true then true else !b)=true then true else c)=true then true else d)=false ↔ a=true∧b=true∧c=false∧d=false:=by
 cases a <;> cases b <;> cases c <;> cases d <;> decide
theorem bd_gd (k:Nat) (hk:k<=4) (p:List UInt8):bdK k (p++[10])=false ↔ GdK k (spl 32 p):=by
 obtain ⟨c1,c2⟩:=cut_end p
 have hw:wdsL (p++[10])=spl 32 p:=by rw [wdsL,c2]
 rw [bdK,nor4,c1,hw,w0L,b0L,hw]
 obtain ⟨w,r,hwr⟩:∃ w r,spl 32 p=w::r:=by
  cases h:spl 32 p with
  | nil=>exact absurd h (spl_ne 32 p)
  | cons w r=>exact ⟨w,r,rfl⟩
 rw [hwr,show (w::r).headD []=w from rfl]
 have key:(w == wordK k)=true->wdR (w::r)=r∧wdB (w::r) false=false:=fun h=>by
  have h:=eq_of_beq h
  have hne:w ≠ []:=by rw [h];exact wordK_ne k
  refine ⟨wd_cons r hne,?_⟩
  rw [wd_f,beq_eq_false_iff_ne]
  exact hne
 have dl:∀ l:List (List UInt8),decide ((l.length:Int) > 0)=false ↔ l=[]:=fun l=>by
  rw [decide_eq_false_iff_not]
  constructor
  · intro h
    exact List.length_eq_zero_iff.1 (by omega)
  · intro h
    rw [h]
    decide
 constructor
 · intro ⟨_,h1,h2,h3⟩
   obtain ⟨e1,e2⟩:=key h1
   rw [e1,e2] at h2 h3
   rw [dl] at h3
   have h1:=eq_of_beq h1
   subst h1
   match k,hk with
   | 0,_ =>
    have h2:nbW (wdR r) (wdB r false)=false:=h2
    have h3:wdR (wdR r)=[]:=h3
    cases r with
    | nil=>exact absurd h2 (by decide)
    | cons n r =>
     have hn:n ≠ []:=fun e=>by
      rw [wd_f,e] at h2
      rw [show (([]::r:List (List UInt8)).headD [] == [])=true from rfl,nb_t] at h2
      cases h2
     have hf:wdB (n::r) false=false:=by
      rw [wd_f,beq_eq_false_iff_ne]
      exact hn
     rw [wd_cons r hn,hf] at h2
     rw [wd_cons r hn] at h3
     cases r with
     | nil=>rw [nb_nil] at h2;cases h2
     | cons u r =>
      rw [nb_cons] at h2
      have hu:inB u=true:=by simpa using h2
      rw [wd_cons r (inB_ne hu)] at h3
      subst h3
      exact ⟨n,u,rfl,hn,hu⟩
   | 1,_=>exact ⟨r,rfl,(rs_iff r).1 h2⟩
   | 2,_ =>
    have hf:=tk_f 8 r h2
    have hg:=tk_good 8 r hf.1 hf.2
    have h3:(tkW r false 8).1=[]:=h3
    rw [hg.1] at h3
    have h8:r.length=8:=by
     have:=List.drop_eq_nil_iff.1 h3
     omega
    exact ⟨r,rfl,h8,fun x hx=>hf.2 x (by rw [<- h8,List.take_length];exact hx)⟩
   | 3,_=>exact ⟨r,rfl,(rs_iff r).1 h2⟩
   | 4,_ =>
    have h2:(tkW (wdR r) (nbW r false) (wdR r).length).2=false:=h2
    cases r with
    | nil=>rw [nb_nil,tk_t] at h2;cases h2
    | cons u r =>
     rw [nb_cons] at h2
     cases hu:inB u with
     | false=>rw [hu,show (!false)=true from rfl,tk_t] at h2;cases h2
     | true =>
      rw [hu,wd_cons r (inB_ne hu)] at h2
      exact ⟨u,r,rfl,hu,(rs_iff r).1 h2⟩
 · intro hg
   have hwk:w=wordK k:=by
    match k,hk,hg with
    | 0,_,⟨n,u,e,_⟩=>exact (List.cons.inj e).1
    | 1,_,⟨r,e,_⟩=>exact (List.cons.inj e).1
    | 2,_,⟨r,e,_⟩=>exact (List.cons.inj e).1
    | 3,_,⟨r,e,_⟩=>exact (List.cons.inj e).1
    | 4,_,⟨u,r,e,_⟩=>exact (List.cons.inj e).1
   have h1:(w == wordK k)=true:=by rw [hwk];exact beq_self_eq_true _
   obtain ⟨e1,e2⟩:=key h1
   rw [e1,e2,dl]
   refine ⟨rfl,h1,?_⟩
   match k,hk,hg with
   | 0,_,⟨n,u,e,hn,hu⟩ =>
    obtain ⟨_,rfl⟩:=List.cons.inj e
    show nbW (wdR [n,u]) (wdB [n,u] false)=false∧wdR (wdR [n,u])=[]
    have hf:wdB [n,u] false=false:=by
     rw [wd_f,beq_eq_false_iff_ne]
     exact hn
    rw [wd_cons _ hn,hf,nb_cons,hu,wd_cons _ (inB_ne hu)]
    exact ⟨rfl,rfl⟩
   | 1,_,⟨r',e,hr⟩ =>
    obtain ⟨_,rfl⟩:=List.cons.inj e
    show (tkW r false r.length).2=false∧(tkW r false r.length).1=[]
    rw [(rs_good hr).1]
    exact ⟨rfl,rfl⟩
   | 2,_,⟨r',e,h8,hr⟩ =>
    obtain ⟨_,rfl⟩:=List.cons.inj e
    show (tkW r false 8).2=false∧(tkW r false 8).1=[]
    rw [<- h8,(rs_good hr).1]
    exact ⟨rfl,rfl⟩
   | 3,_,⟨r',e,hr⟩ =>
    obtain ⟨_,rfl⟩:=List.cons.inj e
    show (tkW r false r.length).2=false∧(tkW r false r.length).1=[]
    rw [(rs_good hr).1]
    exact ⟨rfl,rfl⟩
   | 4,_,⟨u,r',e,hu,hr⟩ =>
    obtain ⟨_,rfl⟩:=List.cons.inj e
    show (tkW (wdR (u::r')) (nbW (u::r') false) (wdR (u::r')).length).2=false∧(tkW (wdR (u::r')) (nbW (u::r') false) (wdR (u::r')).length).1=[]
    rw [nb_cons,hu,wd_cons _ (inB_ne hu),show (!true)=false from rfl,(rs_good hr).1]
    exact ⟨rfl,rfl⟩
theorem knd_le (i:Nat):knd i<=4:=by
 unfold knd
 split <;> omega
theorem bd_ok (k:Nat) (hk:k<=4) (p:List UInt8):bdK k (p++[10])=!okQ k (roB p):=by
 have h1:=bd_gd k hk p
 have h2:=ok_gd k hk (spl 32 p)
 have h3:bdK k (p++[10])=false ↔ okQ k (roB p)=true:=h1.trans h2.symm
 cases h4:okQ k (roB p) with
 | true=>rw [h3.2 h4];rfl
 | false =>
  cases h5:bdK k (p++[10]) with
  | true=>rfl
  | false=>rw [h3.1 h5] at h4;cases h4
theorem upK_0 (ws:List (List UInt8)) (b:Bool) (t:Ty):upK 0 ws b t=⟨ws.headD [],t.sh,t.d0,t.d1,t.d2,t.d3,t.d4,t.d5,t.d6,t.d7,nvW (wdR ws) (wdB ws b),t.sq,t.st⟩:=rfl
theorem upK_1 (ws:List (List UInt8)) (b:Bool) (t:Ty):upK 1 ws b t=⟨t.name,tkL ws b ws.length,t.d0,t.d1,t.d2,t.d3,t.d4,t.d5,t.d6,t.d7,t.side,t.sq,t.st⟩:=rfl
theorem upK_2 (ws:List (List UInt8)) (b:Bool) (t:Ty):upK 2 ws b t=⟨t.name,t.sh,nvW (tkW ws b 0).1 (tkW ws b 0).2,nvW (tkW ws b 1).1 (tkW ws b 1).2,nvW (tkW ws b 2).1 (tkW ws b 2).2,nvW (tkW ws b 3).1 (tkW ws b 3).2,nvW (tkW ws b 4).1 (tkW ws b 4).2,nvW (tkW ws b 5).1 (tkW ws b 5).2,nvW (tkW ws b 6).1 (tkW ws b 6).2,nvW (tkW ws b 7).1 (tkW ws b 7).2,t.side,t.sq,t.st⟩:=rfl
theorem upK_3 (ws:List (List UInt8)) (b:Bool) (t:Ty):upK 3 ws b t=⟨t.name,t.sh,t.d0,t.d1,t.d2,t.d3,t.d4,t.d5,t.d6,t.d7,t.side,tkL ws b ws.length,t.st⟩:=rfl
theorem upK_4 (ws:List (List UInt8)) (b:Bool) (t:Ty):upK 4 ws b t=⟨t.name,t.sh,t.d0,t.d1,t.d2,t.d3,t.d4,t.d5,t.d6,t.d7,t.side,t.sq,t.st++[Sg.mk (nvW ws b) (tkL (wdR ws) (nbW ws b) (wdR ws).length)]⟩:=rfl
theorem upR_0 (rows:List (List AV)) (t:Ty):upR 0 rows t=⟨(dS rows).getD 1 [],t.sh,t.d0,t.d1,t.d2,t.d3,t.d4,t.d5,t.d6,t.d7,(lQ 0 rows).getD 0 default,t.sq,t.st⟩:=rfl
theorem upR_1 (rows:List (List AV)) (t:Ty):upR 1 rows t=⟨t.name,lQ 1 rows,t.d0,t.d1,t.d2,t.d3,t.d4,t.d5,t.d6,t.d7,t.side,t.sq,t.st⟩:=rfl
theorem upR_2 (rows:List (List AV)) (t:Ty):upR 2 rows t=⟨t.name,t.sh,(lQ 2 rows).getD 0 default,(lQ 2 rows).getD 1 default,(lQ 2 rows).getD 2 default,(lQ 2 rows).getD 3 default,(lQ 2 rows).getD 4 default,(lQ 2 rows).getD 5 default,(lQ 2 rows).getD 6 default,(lQ 2 rows).getD 7 default,t.side,t.sq,t.st⟩:=rfl
theorem upR_3 (rows:List (List AV)) (t:Ty):upR 3 rows t=⟨t.name,t.sh,t.d0,t.d1,t.d2,t.d3,t.d4,t.d5,t.d6,t.d7,t.side,lQ 3 rows,t.st⟩:=rfl
theorem upR_4 (rows:List (List AV)) (t:Ty):upR 4 rows t=⟨t.name,t.sh,t.d0,t.d1,t.d2,t.d3,t.d4,t.d5,t.d6,t.d7,t.side,t.sq,t.st++[Sg.mk ((lQ 4 rows).getD 0 default) ((lQ 4 rows).drop 1)]⟩:=rfl
theorem up_eq (k:Nat) (hk:k<=4) (p:List UInt8) (t:Ty) (hg:okQ k (roB p)=true):upK k (w0L (p++[10])) (b0L (p++[10])) t=upR k (roB p) t:=by
 obtain ⟨c1,c2⟩:=cut_end p
 have hw:wdsL (p++[10])=spl 32 p:=by rw [wdsL,c2]
 have hg:=(ok_gd k hk (spl 32 p)).1 hg
 unfold roB
 rw [w0L,b0L,hw]
 have hd:∀ (r:List (List UInt8)),wdR (wordK k::r)=r∧wdB (wordK k::r) false=false:=fun r=>by
  refine ⟨wd_cons r (wordK_ne k),?_⟩
  rw [wd_f,beq_eq_false_iff_ne]
  exact wordK_ne k
 have hq:∀ (k:Nat) (ws:List (List UInt8)),frK k<=ws.length->lQ k (ws.map encS)=(ws.drop (frK k)).map dgV:=fun k ws h=>by
  unfold lQ
  rw [List.length_map,ls_map _ _ _ (by omega),List.take_of_length_le (by rw [List.length_drop];exact Nat.le_refl _)]
 match k,hk,hg with
 | 0,_,⟨n,u,e,hn,hu⟩ =>
  rw [e,(hd _).1,(hd _).2]
  have hf:wdB [n,u] false=false:=by
   rw [wd_f,beq_eq_false_iff_ne]
   exact hn
  rw [upK_0,upR_0]
  rw [wd_cons _ hn,hf,nv_cons _ hu,dS_e,hq 0 [wordK 0,n,u] (show 2<=3 by decide)]
  rfl
 | 1,_,⟨r,e,hr⟩ =>
  rw [e,(hd _).1,(hd _).2]
  rw [upK_1,upR_1]
  rw [(rs_good hr).2,hq 1 _ (by simp [frK])]
  rfl
 | 2,_,⟨r,e,h8,hr⟩ =>
  rw [e,(hd _).1,(hd _).2]
  have hx:∀ i,i < 8->nvW (tkW r false i).1 (tkW r false i).2=(r.map dgV).getD i default:=fun i hi=>by
   have h1:=tk_good i r (by omega) fun x hx=>hr x (List.mem_of_mem_take hx)
   rw [h1.1]
   have hlt:i < r.length:=by omega
   rw [List.drop_eq_getElem_cons hlt,nv_cons _ (hr _ (List.getElem_mem hlt)),List.getD_eq_getElem?_getD,List.getElem?_map,List.getElem?_eq_getElem hlt]
   rfl
  rw [upK_2,upR_2]
  rw [hx 0 (by decide),hx 1 (by decide),hx 2 (by decide),hx 3 (by decide),hx 4 (by decide),hx 5 (by decide),hx 6 (by decide),hx 7 (by decide),hq 2 _ (by simp [frK])]
  rfl
 | 3,_,⟨r,e,hr⟩ =>
  rw [e,(hd _).1,(hd _).2]
  rw [upK_3,upR_3]
  rw [(rs_good hr).2,hq 3 _ (by simp [frK])]
  rfl
 | 4,_,⟨u,r,e,hu,hr⟩ =>
  rw [e,(hd _).1,(hd _).2]
  rw [upK_4,upR_4]
  rw [nb_cons,hu,wd_cons _ (inB_ne hu),show (!true)=false from rfl,(rs_good hr).2,nv_cons _ hu,hq 4 _ (by simp [frK])]
  rfl
theorem line_bd {s:List UInt8} {i:Nat} (h:i < cntR s):bdJ i ((lns s).getD i [])=!gdR s i:=by
 have hc:=cnt_lt s
 rw [lns_get h,gdR,if_neg (by unfold cntR at h;omega),bdJ]
 exact bd_ok _ (knd_le i) _
theorem last_bd {s:List UInt8} (h:lstR s ≠ []):bdJ (cntR s) ((lns s).getD (cntR s) [])=!gdR s (cntR s):=by
 have hc:=cnt_lt s
 have e:(lns s).getD (cntR s) []=lstR s:=by
  rw [lns_eq]
  exact lnP_last _ (spl_ne 10 s) h
 have hg:gdR s (cntR s)=false:=by
  rw [gdR,if_pos (by unfold cntR at hc ⊢;omega)]
  exact beq_eq_false_iff_ne.2 h
 rw [e,hg,bdJ,bdK,cut_no (spl_no 10 s _ (by
  unfold lstR
  exact getD_mem hc))]
 rfl
theorem ty_eq2 {s:List UInt8} (hg:∀ j,j < cntR s->gdR s j=true):∀ i,i<=cntR s->tyN (lns s) i=rT s i
 | 0,_=>rfl
 | i+1,hi=>by
  have ih:=ty_eq2 hg i (by omega)
  have hne:i+1 ≠ (spl 10 s).length:=by
   have:=cnt_lt s
   omega
  have h1:=hg i (by omega)
  rw [gdR,if_neg hne] at h1
  rw [tyN,rT,if_neg hne,lns_get (by omega),ih]
  exact up_eq _ (knd_le i) _ _ h1
theorem ps_eq (s:List UInt8):psT s.length (kS s) (lns s).length (tyN (lns s) (lns s).length)=psR s.length (kR s) (spl 10 s).length (rT s (spl 10 s).length):=by
 have hc:=cnt_lt s
 have hcL:cntR s+1=(spl 10 s).length:=by unfold cntR at hc ⊢;omega
 unfold psT psR
 by_cases h0:decide ((s.length:Int) > 4096)=true
 · rw [if_pos h0,if_pos h0]
 · rw [if_neg h0,if_neg h0]
   by_cases h:lstR s=[]
   · have hl:(lns s).length=cntR s:=by rw [lns_len,if_pos h];rfl
     have hk:kS s=fiN (fun j=>!gdR s j) (cntR s):=by
      unfold kS
      rw [hl]
      exact fi_cong fun j hj=>line_bd hj
     have hlast:gdR s (cntR s)=true:=by
      rw [gdR,if_pos hcL]
      exact beq_iff_eq.2 h
     have hG:kR s=if fiN (fun j=>!gdR s j) (cntR s) < cntR s then fiN (fun j=>!gdR s j) (cntR s) else cntR s+1:=by
      unfold kR
      rw [<- hcL,fiN]
      split
      · rfl
      · rw [hlast]
        rfl
     rw [hl,hk,hG]
     by_cases q:fiN (fun j=>!gdR s j) (cntR s) < cntR s
     · rw [if_pos q,if_pos q,if_pos (by omega)]
     · rw [if_neg q,if_neg q,if_neg (show ¬ cntR s+1 < (spl 10 s).length by omega)]
       have hgood:∀ j,j < cntR s->gdR s j=true:=fun j hj=>by simpa using fi_al q j hj
       have e:=ty_eq2 hgood (cntR s) (Nat.le_refl _)
       have e2:rT s (spl 10 s).length=rT s (cntR s):=by rw [<- hcL,rT,if_pos hcL]
       rw [e,e2,show (((spl 10 s).length:Nat):Int)-1=(cntR s:Int) by omega]
       have hE:eT (cntR s) (rT s (cntR s))=if decide ((cntR s:Int) < 4)=true then 25 else sTyR (rT s (cntR s)):=by
        unfold eT
        rw [ty_eq]
        by_cases q2:(cntR s:Int) < 4
        · rw [decide_eq_true q2]
          rfl
        · rw [decide_eq_false q2]
          show sFirst [0,sTyR (rT s (cntR s))]=sTyR (rT s (cntR s))
          by_cases q3:sTyR (rT s (cntR s))=0
          · rw [q3];rfl
          · simp [sFirst,q3]
       rw [hE]
       by_cases q2:decide ((cntR s:Int) < 4)=true
       · rw [if_pos q2,if_pos (by decide),if_pos q2]
       · rw [if_neg q2,if_neg q2]
   · have hl:(lns s).length=(spl 10 s).length:=by rw [lns_len,if_neg h];exact hcL
     have hk:kS s=kR s:=by
      unfold kS kR
      rw [hl]
      refine fi_cong fun j hj=>?_
      by_cases e:j=cntR s
      · rw [e];exact last_bd h
      · exact line_bd (by omega)
     have hlt:kR s < (spl 10 s).length:=by
      unfold kR
      refine fi_lt (j:=cntR s) (by omega) ?_
      rw [<- last_bd h]
      have h9:=last_bd h
      have hg:gdR s (cntR s)=false:=by
       rw [gdR,if_pos hcL]
       exact beq_eq_false_iff_ne.2 h
      rw [h9,hg]
      rfl
     rw [hl,hk,if_pos hlt,if_pos hlt]
end Go.Proofs.YtjhjmncjidbieaaGreatDoor
namespace Go.Proofs.YtjhjmncjidbieaaGreatDoor
open Go Go.Av Go.RowKit
theorem wr_u8 {n:Nat} (h:n < 10):IntKind.u8.wrap (48+(n:Int))=48+(n:Int):=by
 have:n=0 ∨ n=1 ∨ n=2 ∨ n=3 ∨ n=4 ∨ n=5 ∨ n=6 ∨ n=7 ∨ n=8 ∨ n=9:=by omega
 rcases this with rfl | rfl | rfl | rfl | rfl | rfl | rfl | rfl | rfl | rfl <;> decide
theorem ddF_len:∀ (k u:Nat),(ddF k u).length<=k+1
 | 0,_=>Nat.le_refl _
 | k+1,u=>by
  have:=ddF_len k (u / 10)
  rw [ddF]
  split
  · simp
  · rw [List.length_append,List.length_singleton];omega
theorem dd_len {n:Nat} (h:n < 1000000000000):(Lib.decDigits n).length<=13:=by
 rw [<- ddF_eq 12 n (by omega)]
 exact ddF_len 12 n
theorem dd_step {m:Nat} (h:m ≠ 0):Lib.decDigits m=(if m / 10=0 then [] else Lib.decDigits (m / 10))++[UInt8.ofNat (48+m % 10)]:=by
 rw [Lib.decDigits]
 by_cases q:m < 10
 · rw [dif_pos q,if_pos (by omega),Nat.mod_eq_of_lt q]
   rfl
 · rw [dif_neg q,if_neg (by omega)]
def la168 (n:Nat):LA:={
 pre:=[.keep [0,3,4] [],.bound 1],post:=[.keep [0,3,4] [],.bound 1]
 Gh:=Nat × List UInt8
 st:=fun q=>⟨[(0,.i n),(3,.str q.2),(4,.i q.1)],[],1⟩
 ok:=fun q=>q.1<=n∧(if q.1=0 then q.2 else Lib.decDigits q.1++q.2)=Lib.decDigits n
 ms:=fun q=>q.1 }
abbrev zc168a (g:Nat × List UInt8):=(48:Int)+maxI ((↑g.fst:Int).tmod (10:Int)) ((0:Int)-(↑g.fst:Int).tmod (10:Int))
theorem c168 (n:Nat) (hn:n < 1000000000000):PCall Tryz.prog G0 168 [.i n] (.str (Lib.decDigits n)):=by
 have key :
  (((n:Int) == 0)=true->AV.str [(48:UInt8)]=AV.str (Lib.decDigits n))∧(((n:Int) == 0)=false->(∃ (g:Nat × List UInt8),(g.fst<=n∧(if g.fst=0 then g.snd else Lib.decDigits g.fst++g.snd)=Lib.decDigits n) ∧
  AS.mk [(0,AV.i (n:Int)),(3,AV.str []),(4,AV.i (n:Int))] [] 1=AS.mk [(0,AV.i (n:Int)),(3,AV.str g.snd),(4,AV.i (↑g.fst:Int))] [] 1)∧∀ (g:Nat × List UInt8),g.fst<=n∧(if g.fst=0 then g.snd else
  Lib.decDigits g.fst++g.snd)=Lib.decDigits n->(((↑g.fst:Int) != 0)=true->¬(10:Int)=(0:Int)∧¬(10:Int)=(0:Int)∧In64 ((0:Int)-(↑g.fst:Int).tmod (10:Int))∧In64 (zc168a g)∧1+g.snd.length ≤
  9223372036854775807∧¬(10:Int)=(0:Int)∧In64 ((↑g.fst:Int).tdiv 10)∧∃ (g':Nat × List UInt8),(g'.fst<=n∧(if g'.fst=0 then g'.snd else Lib.decDigits g'.fst++g'.snd)=Lib.decDigits n)∧g'.fst < g.fst∧AS.mk
  [(0,AV.i (n:Int)),(3,AV.str (UInt8.ofBitVec (BitVec.ofFin (Fin.mk ((IntKind.u8.wrap (zc168a g)).toNat % 256) (Nat.mod_lt (IntKind.u8.wrap (zc168a g)).toNat (BitVec.ofNat._proof_1 8))))::id g.snd)),(4,AV.i ((↑g.fst :
  Int).tdiv 10))] [] 1=AS.mk [(0,AV.i (n:Int)),(3,AV.str g'.snd),(4,AV.i (↑g'.fst:Int))] [] 1)∧(((↑g.fst:Int) != 0)=false->(false=true->1+g.snd.length<=9223372036854775807∧AV.str ((45:UInt8)::id g.snd)
  = AV.str (Lib.decDigits n))∧(false=false->AV.str g.snd=AV.str (Lib.decDigits n)))):=by
   delta zc168a
   refine ⟨fun h=>?_,fun h=>⟨⟨(n,[]),⟨Nat.le_refl _,?_⟩,rfl⟩,fun q hq=>?_⟩⟩
   · have h0:n=0:=by have:=eq_of_beq h;omega
     rw [h0,Lib.decDigits,dif_pos (by decide)]
     rfl
   · have h0:n ≠ 0:=fun q=>by
      rw [q] at h
      exact absurd h (by decide)
     rw [if_neg h0,List.append_nil]
   · obtain ⟨m,acc⟩:=q
     obtain ⟨h1,h2⟩:=hq
     dsimp only at h1 h2 ⊢
     refine ⟨fun hm=>?_,fun hm=>⟨fun h=>(by cases h),fun _=>?_⟩⟩
     · have hm0:m ≠ 0:=by
        intro q
        rw [q] at hm
        cases hm
       rw [if_neg hm0] at h2
       have hln:=congrArg List.length h2
       rw [List.length_append] at hln
       have hl10:=dd_len hn
       have ht:(m:Int).tmod 10=((m % 10:Nat):Int):=by rw [Int.tmod_eq_emod_of_nonneg (by omega)];norm_cast
       have hd:(m:Int).tdiv 10=((m / 10:Nat):Int):=by rw [Int.tdiv_eq_ediv_of_nonneg (by omega)];norm_cast
       have hmx:maxI ((m % 10:Nat):Int) (0-((m % 10:Nat):Int))=((m % 10:Nat):Int):=by unfold maxI;split <;> omega
       have hlt:m % 10 < 10:=Nat.mod_lt _ (by decide)
       have hw:=wr_u8 hlt
       refine ⟨by decide,by decide,by rw [ht];unfold In64;omega,by rw [ht,hmx];unfold In64;omega,by omega,by decide,by rw [hd];unfold In64;omega,(m / 10,UInt8.ofNat (48+m % 10)::acc),⟨by dsimp only;omega,?_⟩,by dsimp only;omega,?_⟩
       · dsimp only
         rw [<- h2,dd_step hm0]
         by_cases q:m / 10=0
         · rw [if_pos q,if_pos q];rfl
         · rw [if_neg q,if_neg q,List.append_assoc];rfl
       · dsimp only
         rw [hd]
         show AS.mk [(0,AV.i (n:Int)),(3,AV.str (UInt8.ofNat (IntKind.u8.wrap (48+maxI ((m:Int).tmod 10) (0-(m:Int).tmod 10))).toNat::acc)),(4,AV.i ((m / 10:Nat):Int))] [] 1=_
         rw [ht,hmx,hw,show (48+((m % 10:Nat):Int)).toNat=48+m % 10 by omega]
     · have hm0:m=0:=by
        by_cases q:m=0
        · exact q
        · rw [bne,beq_eq_false_iff_ne.2 (show (m:Int) ≠ 0 by omega)] at hm
          cases hm
       rw [if_pos hm0] at h2
       rw [h2]
 exact c_of Tryz.f168 (mkB spR 168 [] (fun i=>if i.beq 0 then some (la168 n) else none)) (by kernel_rfl) (by kernel_rfl) (by kernel_rfl) (by kernel_rfl) key (by kernel_rfl)
theorem itoa_nn {n:Int} (h:0<=n):Lib.itoa n=Lib.decDigits n.toNat:=by
 unfold Lib.itoa
 first
  | rw [if_neg (by omega)]
  | rw [if_pos (by omega)]
 try rfl
 try (congr 1;omega)
def nmT (l:List Int):List UInt8:=l.flatMap fun n=>32::Lib.itoa n
def lnT (w:List UInt8) (l:List Int):List UInt8:=w++nmT l++[10]
theorem nm_app (a b:List Int):nmT (a++b)=nmT a++nmT b:=by
 unfold nmT
 rw [List.flatMap_append]
theorem itoa_len {n:Int} (h:0<=n∧n < 1000000000000):(Lib.itoa n).length<=13:=by
 rw [itoa_nn h.1]
 exact dd_len (by omega)
theorem nm_len:∀ {l:List Int},(∀ n,n ∈ l->0<=n∧n < 1000000000000)->(nmT l).length<=14 * l.length
 | [],_=>Nat.zero_le _
 | x::l,h=>by
  have h1:=nm_len (l:=l) fun n hn=>h n (List.mem_cons_of_mem _ hn)
  have h2:=itoa_len (h x (List.mem_cons_self ..))
  show (32::Lib.itoa x++nmT l).length<=_
  rw [List.length_append,List.length_cons,List.length_cons]
  omega
def la140 (w:List UInt8) (l:List Int):LA:={
 pre:=[.keep [0,1,5] [],.bound 1],post:=[.keep [0,1,5] [],.bound 1]
 Gh:=Nat
 st:=fun i=>⟨[(0,.str (w++nmT (l.take i))),(1,.sl 1 (l.map encI)),(5,.i i)],[],1⟩
 ok:=fun i=>i<=l.length
 ms:=fun i=>l.length-i }
def sp140:Nat->List AV->Option AV
 | 168,[.int _ n]=>some (.str (Lib.itoa n))
 | n,x=>spR n x
theorem c140 (w:List UInt8) (l:List Int) (hw:w.length<=100000) (hl:l.length<=1000) (hb:∀ n,n ∈ l->0<=n∧n < 1000000000000):PCall Tryz.prog G0 140 [.str w,.sl 1 (l.map encI)] (.str (lnT w l)):=by
 have key :
  (∃ (g:Nat),g<=l.length∧AS.mk [(0,AV.str w),(1,AV.sl 1 (List.map encI l)),(5,AV.i 0)] [] 1=AS.mk [(0,AV.str (w++nmT (List.take g l))),(1,AV.sl 1 (List.map encI l)),(5,AV.i (g:Int))] [] 1)∧∀ (g:Nat),g ≤
  l.length->(decide ((g:Int) < (↑(List.map encI l).length:Int))=true->(w++nmT (List.take g l)).length+1<=9223372036854775807∧(0:Int)<=(g:Int)∧(g:Int) < (↑(List.map encI l).length:Int)∧(w++nmT
  (List.take g l)++[(32:UInt8)]).length+(Lib.itoa (l.getD (g:Int).toNat default)).length<=9223372036854775807∧nth (nthR (List.map encI l) (g:Int).toNat) 0=AV.i (l.getD (g:Int).toNat default)∧PCall Tryz.prog G0
  168 [AV.i (l.getD (g:Int).toNat default)] (AV.str (Lib.itoa (l.getD (g:Int).toNat default)))∧In64 ((g:Int)+1)∧∃ (g':Nat),g'<=l.length∧l.length-g' < l.length-g∧AS.mk [(0,AV.str (w++nmT (List.take g l)
  ++ [(32:UInt8)]++Lib.itoa (l.getD (g:Int).toNat default))),(1,AV.sl 1 (List.map encI l)),(5,AV.i ((g:Int)+1))] [] 1=AS.mk [(0,AV.str (w++nmT (List.take g' l))),(1,AV.sl 1 (List.map encI l)),(5,AV.i (↑g' :
  Int))] [] 1)∧(decide ((g:Int) < (↑(List.map encI l).length:Int))=false->(w++nmT (List.take g l)).length+1<=9223372036854775807∧AV.str (w++nmT (List.take g l)++[(10:UInt8)])=AV.str (lnT w l)):=by
   have hlm:(List.map encI l).length=l.length:=List.length_map _
   refine ⟨⟨0,Nat.zero_le _,by rw [show nmT (List.take 0 l)=[] from rfl,List.append_nil];rfl⟩,fun g hg=>?_⟩
   have hb2:(nmT (List.take g l)).length<=14 * g:=Nat.le_trans (nm_len fun n hn=>hb n (List.mem_of_mem_take hn)) (by rw [List.length_take];omega)
   refine ⟨fun hd=>?_,fun hd=>?_⟩
   · have hlt:=lt_of_dec hd
     rw [hlm] at hlt
     have hq:=hb _ (getD_mem hlt)
     have hi:=itoa_len hq
     rw [Int.toNat_natCast]
     refine ⟨by rw [List.length_append];omega,by omega,by omega,by rw [List.length_append,List.length_append,List.length_singleton];omega,congrArg (fun r=>nth r 0) (row_at encI hlt),?_,by unfold In64;omega,g+1,hlt,by omega,?_⟩
     · rw [itoa_nn hq.1]
       have:=c168 (l.getD g default).toNat (by omega)
       rwa [show (((l.getD g default).toNat:Nat):Int)=l.getD g default by omega] at this
     · have e:nmT (List.take (g+1) l)=nmT (List.take g l)++(32::Lib.itoa (l.getD g default)):=by
        rw [List.take_add_one,nm_app,List.getD_eq_getElem?_getD,List.getElem?_eq_getElem hlt]
        simp [nmT]
       rw [e,show w++(nmT (List.take g l)++32::Lib.itoa (l.getD g default))=w++nmT (List.take g l)++[32]++Lib.itoa (l.getD g default) by simp]
       rfl
   · have hge:=ge_of_dec hd (by rw [hlm];exact hg)
     rw [hlm] at hge
     subst hge
     rw [List.take_length] at hb2 ⊢
     exact ⟨by rw [List.length_append];omega,rfl⟩
 exact c_of Tryz.f140 (mkB sp140 140 [(4,5,rdL 1 encI l 1 false)] (fun i=>if i.beq 0 then some (la140 w l) else none)) (by kernel_rfl) (by kernel_rfl) (by kernel_rfl) (by kernel_rfl) key (by kernel_rfl)
def sp162 (io:Int->List UInt8):Nat->List AV->Option AV
 | 163,[.int _ n]=>some (.str (io n))
 | n,x=>spR n x
def la162 (io:Int->List UInt8) (l:List Int):LA:={
 pre:=[.own 5 9 1,.reno 5 1,.keep [1,5,8,9,10] [1],.bound 2],post:=[.reno 5 1,.keep [1,5,8,9,10] [1],.bound 2]
 Gh:=Nat
 st:=fun i=>⟨[(1,.fn (.func 163) [] []),(5,.own 1 (((l.take i).map io).map encS).length),(8,.sl 1 (l.map encI)),(9,.i (l.map encI).length),(10,.i i)],[(1,.buf 9 1 (((l.take i).map io).map encS))],2⟩
 ok:=fun i=>i<=l.length
 ms:=fun i=>l.length-i }
theorem c162 (l:List Int) (io:Int->List UInt8) (hl:l.length<=1000) (hio:∀ n,n ∈ l->PCall Tryz.prog G0 163 [.i n] (.str (io n))):PCall Tryz.prog G0 162 [.sl 1 (l.map encI),.fn (.func 163) [] []] (.fresh 9 1 ((l.map io).map encS)):=by
 have key :
  (∃ (g:Nat),g<=l.length∧AS.mk [(1,AV.fn (Fn.func 163) [] []),(5,AV.own 1 0),(8,AV.sl 1 (List.map encI l)),(9,AV.i (↑(List.map encI l).length:Int)),(10,AV.i 0)] [(1,ABlk.buf 9 1 [])] 2=AS.mk [(1,AV.fn (Fn.func
  163) [] []),(5,AV.own 1 (List.map encS (List.map io (List.take g l))).length),(8,AV.sl 1 (List.map encI l)),(9,AV.i (↑(List.map encI l).length:Int)),(10,AV.i (g:Int))] [(1,ABlk.buf 9 1 (List.map encS (List.map io
  (List.take g l))))] 2)∧∀ (g:Nat),g<=l.length->(decide ((g:Int) < (↑(List.map encI l).length:Int))=true->(0:Int)<=(g:Int)∧(g:Int) < (↑(List.map encI l).length:Int)∧nth (nthR (List.map encI l) (↑g :
  Int).toNat) 0=AV.i (l.getD (g:Int).toNat default)∧(List.map encS (List.map io (List.take g l))).length+1<=9223372036854775807∧((List.map encS (List.map io (List.take g l))).length+1) * 16<=140737488355328∧PCall
  Tryz.prog G0 163 [AV.i (l.getD (g:Int).toNat default)] (AV.str (io (l.getD (g:Int).toNat default)))∧In64 ((g:Int)+1)∧∃ (g':Nat),g'<=l.length∧l.length-g' < l.length-g∧AS.mk [(1,AV.fn (Fn.func 163) [] []),
  (5,AV.own 1 ((List.map encS (List.map io (List.take g l))).length+1)),(8,AV.sl 1 (List.map encI l)),(9,AV.i (↑(List.map encI l).length:Int)),(10,AV.i ((g:Int)+1))] [(1,ABlk.buf 9 1 (List.map encS (List.map io
  (List.take g l))++[[AV.str (io (l.getD (g:Int).toNat default))]]))] 2=AS.mk [(1,AV.fn (Fn.func 163) [] []),(5,AV.own 1 (List.map encS (List.map io (List.take g' l))).length),(8,AV.sl 1 (List.map encI l)),(9,AV.i
  (↑(List.map encI l).length:Int)),(10,AV.i (↑g':Int))] [(1,ABlk.buf 9 1 (List.map encS (List.map io (List.take g' l))))] 2)∧(decide ((g:Int) < (↑(List.map encI l).length:Int))=false->AV.fresh 9 1 (List.map encS
  (List.map io (List.take g l)))=AV.fresh 9 1 (List.map encS (List.map io l))):=by
   have hlm:(List.map encI l).length=l.length:=List.length_map _
   refine ⟨⟨0,Nat.zero_le _,rfl⟩,fun g hg=>⟨fun hd=>?_,fun hd=>?_⟩⟩
   · have hlt:=lt_of_dec hd
     rw [hlm] at hlt
     have hln:(List.map encS (List.map io (List.take g l))).length=g:=by rw [List.length_map,List.length_map,List.length_take];omega
     rw [Int.toNat_natCast]
     refine ⟨by omega,by omega,congrArg (fun r=>nth r 0) (row_at encI hlt),by omega,by omega,hio _ (getD_mem hlt),by unfold In64;omega,g+1,hlt,by omega,?_⟩
     have h2:List.map encS (List.map io (List.take (g+1) l))=List.map encS (List.map io (List.take g l))++[[AV.str (io (l.getD g default))]]:=by
      rw [List.take_add_one,List.map_append,List.map_append,List.getD_eq_getElem?_getD,List.getElem?_eq_getElem hlt]
      rfl
     rw [h2,List.length_append]
     rfl
   · have hge:=ge_of_dec hd (by rw [hlm];exact hg)
     rw [hlm] at hge
     subst hge
     rw [List.take_length]
 exact c_of Tryz.f162 (fzB (mkB (sp162 io) 162 [(4,1,rdL 1 encI l 1 false)] (fun i=>if i.beq 0 then some (la162 io l) else none))) (by kernel_rfl) (by kernel_rfl) (by kernel_rfl) (by kernel_rfl) key (by kernel_rfl)
def rdJb (jn:List (List AV)->List (List AV)->List (List AV)):BL->List AV->Option AV:=fun bs ins=>match ins with
 | [.own id _,.sl _ b]=>match blkOf bs id with
  | .buf _ _ rows=>some (.sl 1 (jn rows b))
  | _=>none
 | _=>none
def jnA (r k:Nat) (jn:List (List AV)->List (List AV)->List (List AV)) (B:BA):BA:=modA r k (fun a=>{ a with rdb:=rdJb jn }) B
def sp135 (w:List UInt8) (l:List Int) (io:Int->List UInt8) (jo:List UInt8->List Int->List UInt8):Nat->List AV->Option AV
 | 162,_=>some (.sl 1 ((l.map io).map encS))
 | 161,_=>some (.str (jo w l))
 | n,x=>spR n x
theorem c135 (w:List UInt8) (l:List Int) (io:Int->List UInt8) (jo:List UInt8->List Int->List UInt8) (jn:List (List AV)->List (List AV)->List (List AV)) (hjn:∀ a b,jn a b=a++b) (hl:l.length<=1000) (hio:∀ n,n ∈ l->PCall Tryz.prog G0 163 [.i n] (.str (io n))) (hj:jo w l=Lib.join (w::l.map io) [32]) (hjl:(jo w l).length<=1000000):PCall Tryz.prog G0 135 [.str w,.sl 1 (l.map encI)] (.str (jo w l++[10])):=by
 have key :
  1+(List.map encS (List.map io l)).length<=9223372036854775807∧(1+(List.map encS (List.map io l)).length) * 16<=140737488355328∧(jo w l).length+1<=9223372036854775807∧PCall Tryz.prog G0 162 [AV.sl 1 (List.map encI l),
  AV.fn (Fn.func 163) [] []] (AV.sl 1 (List.map encS (List.map io l)))∧AV.sl 1 ([AV.str w]::id (List.map encS (List.map io l)))=AV.sl 1 (jn [[AV.str w]] (List.map encS (List.map io l)))∧PCall Tryz.prog G0 161 [AV.sl 1 (jn
  [[AV.str w]] (List.map encS (List.map io l))),AV.str [(32:UInt8)]] (AV.str (jo w l))∧AV.str (jo w l++[(10:UInt8)])=AV.str (jo w l++[(10:UInt8)]):=by
   have hln:(List.map encS (List.map io l)).length=l.length:=by rw [List.length_map,List.length_map]
   refine ⟨by omega,by omega,by omega,(c162 l io hl hio).un,by rw [hjn];rfl,?_,rfl⟩
   rw [hjn,hj]
   exact c161 (w::l.map io) [32] (by rw [List.length_cons,List.length_map];omega) (by rw [<- hj];omega)
 exact c_of Tryz.f135 (jnA 1 4 jn (mkB (sp135 w l io jo) 135 [] noLa)) (by kernel_rfl) (by kernel_rfl) (by kernel_rfl) (by kernel_rfl) key (by kernel_rfl)
theorem jn_2 (x y:List UInt8) (t:List (List UInt8)):Lib.join (x::y::t) [32]=x++([32]++Lib.join (y::t) [32]):=by
 simp [Lib.join,List.intercalate,List.intersperse]
theorem jn_1 (x:List UInt8):Lib.join [x] [32]=x:=by
 simp [Lib.join,List.intercalate,List.intersperse]
theorem join_nm:∀ (l:List Int) (w:List UInt8),Lib.join (w::l.map Lib.itoa) [32]=w++nmT l
 | [],w=>by rw [List.map_nil,jn_1];exact (List.append_nil w).symm
 | x::l,w=>by
  rw [List.map_cons,jn_2,join_nm l (Lib.itoa x)]
  show w++([32]++(Lib.itoa x++nmT l))=w++(32::Lib.itoa x++nmT l)
  simp
theorem lnT_len {w:List UInt8} {l:List Int} (h:∀ n,n ∈ l->0<=n∧n < 1000000000000):(lnT w l).length<=w.length+14 * l.length+1:=by
 have:=nm_len h
 unfold lnT
 rw [List.length_append,List.length_append,List.length_singleton]
 omega
theorem c135' (w:List UInt8) (l:List Int) (hw:w.length<=100000) (hl:l.length<=1000) (hb:∀ n,n ∈ l->0<=n∧n < 1000000000000):PCall Tryz.prog G0 135 [.str w,.sl 1 (l.map encI)] (.str (lnT w l)):=by
 have h1:=nm_len hb
 exact c135 w l Lib.itoa (fun w l=>w++nmT l) (fun a b=>a++b) (fun _ _=>rfl) hl (fun n hn=>c163 n (by have:=hb n hn;unfold In64;omega)) (join_nm l w).symm (by rw [List.length_append];omega)
theorem hd_enc:∀ l:List Int,(l.map encI).map hdI=l
 | []=>rfl
 | x::l=>by rw [List.map_cons,List.map_cons,hd_enc l];rfl
def drT (t:Ty):List Int:=[t.d0,t.d1,t.d2,t.d3,t.d4,t.d5,t.d6,t.d7]
def TYPE_:List UInt8:=[116,121,112,101,32]
def prT (t:Ty):Nat->List UInt8
 | 0=>lnT (TYPE_++t.name) [t.side]++lnT (wordK 1) t.sh++lnT (wordK 2) (drT t)++lnT (wordK 3) t.sq
 | k+1=>prT t k++lnT (wordK 4) ((t.st.getD k default).p::(t.st.getD k default).e)
def sp77 (t:Ty) (ln:List UInt8->List Int->List UInt8):Nat->List AV->Option AV
 | 53,_=>some (.i (sTyS t))
 | 135,[.str w,.sl _ rows]=>some (.str (ln w (rows.map hdI)))
 | 140,[.str w,.sl _ rows]=>some (.str (ln w (rows.map hdI)))
 | n,x=>spR n x
def la77 (t:Ty) (pr:Nat->List UInt8):LA:={
 pre:=[.keep [5,42,43,44] [],.bound 1],post:=[.keep [5,42,43,44] [],.bound 1]
 Gh:=Nat
 st:=fun i=>⟨[(5,.str (pr i)),(42,.sl 2 (t.st.map encSg)),(43,.i (t.st.map encSg).length),(44,.i i)],[],1⟩
 ok:=fun i=>i<=t.st.length
 ms:=fun i=>t.st.length-i }
structure PrB (t:Ty):Prop where
 nm:t.name.length<=1000
 sh:t.sh.length<=100
 sq:t.sq.length<=100
 st:t.st.length<=100
 e:∀ x,x ∈ t.st->x.e.length<=100
 bsh:∀ n,n ∈ t.sh->0<=n∧n < 1000000000000
 bsq:∀ n,n ∈ t.sq->0<=n∧n < 1000000000000
 bdr:∀ n,n ∈ drT t->0<=n∧n < 1000000000000
 bsd:0<=t.side∧t.side < 1000000000000
 bst:∀ x,x ∈ t.st->(0<=x.p∧x.p < 1000000000000)∧∀ n,n ∈ x.e->0<=n∧n < 1000000000000
theorem st_at {t:Ty} (B:PrB t) {g:Nat} (h:g < t.st.length):((t.st.getD g default).p::(t.st.getD g default).e).length<=101∧∀ n,n ∈ (t.st.getD g default).p::(t.st.getD g default).e->0<=n∧n < 1000000000000:=by
 have hm:=getD_mem (l:=t.st) h
 have h1:=B.e _ hm
 have h2:=B.bst _ hm
 refine ⟨by rw [List.length_cons];omega,fun n hn=>?_⟩
 rcases List.mem_cons.1 hn with rfl | hn
 · exact h2.1
 · exact h2.2 n hn
theorem pr_len {t:Ty} (B:PrB t):∀ k,k<=t.st.length->(prT t k).length<=20000+2000 * k
 | 0,_=>by
  have h0:=lnT_len (w:=TYPE_++t.name) (l:=[t.side]) fun n hn=>by rw [List.mem_singleton.1 hn];exact B.bsd
  have h1:=lnT_len (w:=wordK 1) B.bsh
  have h2:=lnT_len (w:=wordK 2) B.bdr
  have h3:=lnT_len (w:=wordK 3) B.bsq
  have a1:=B.nm
  have a2:=B.sh
  have a3:=B.sq
  have l1:(wordK 1).length=6:=rfl
  have l2:(wordK 2).length=6:=rfl
  have l3:(wordK 3).length=7:=rfl
  have l4:(drT t).length=8:=rfl
  rw [List.length_append,show TYPE_.length=5 from rfl,List.length_singleton] at h0
  rw [prT,List.length_append,List.length_append,List.length_append]
  omega
 | k+1,hk=>by
  have ih:=pr_len B k (by omega)
  have s:=st_at B (g:=k) (by omega)
  have h4:=lnT_len (w:=wordK 4) s.2
  have l4:(wordK 4).length=5:=rfl
  rw [prT,List.length_append]
  omega
abbrev zc77a:=[(115:UInt8),(104:UInt8),(97:UInt8),(114:UInt8),(101:UInt8),(115:UInt8)]
abbrev zc77b (t:Ty) (g:Nat):=t.st.getD (g:Int).toNat default
abbrev zc77c (t:Ty):=[hdI [AV.i t.d0],hdI [AV.i t.d1],hdI [AV.i t.d2],hdI [AV.i t.d3],hdI [AV.i t.d4],hdI [AV.i t.d5],hdI [AV.i t.d6],hdI [AV.i t.d7]]
abbrev zc77d:=[(100:UInt8),(105:UInt8),(114:UInt8),(101:UInt8),(99:UInt8),(116:UInt8)]
abbrev zc77e:=[(115:UInt8),(113:UInt8),(117:UInt8),(97:UInt8),(114:UInt8),(101:UInt8),(115:UInt8)]
abbrev zc77f:=[(112:UInt8),(111:UInt8),(119:UInt8),(101:UInt8),(114:UInt8)]
abbrev zc77g (t:Ty):=(↑(List.map encSg t.st).length:Int)
theorem c77 (t:Ty) (hp:List UInt8) (pr:Nat->List UInt8) (ln:List UInt8->List Int->List UInt8) (jn:List (List AV)->List (List AV)->List (List AV)) (hhp:hp=TYPE_++t.name) (hjn:∀ a b,jn a b=a++b) (hc:PCall Tryz.prog G0 53 [.agg (encTy t)] (.i (sTyS t))) (hB:sTyS t=0->PrB t) (hln:∀ w l,ln w l=lnT w l) (hpr:∀ k,pr k=prT t k) (hl:∀ w l,w.length<=2000->l.length<=101->(∀ n,n ∈ l->0<=n∧n < 1000000000000)->PCall Tryz.prog G0 135 [.str w,.sl 1 (l.map encI)] (.str (ln w l))):PCall Tryz.prog G0 77 [.agg (encTy t)] (.tup [.str (if sTyS t != 0 then [] else pr t.st.length),.i (sTyS t)]):=by
 have key :
  PCall Tryz.prog G0 53 [AV.agg (encTy t)] (AV.i (sTyS t))∧((sTyS t != 0)=true->AV.tup [AV.str [],AV.i (sTyS t)]=AV.tup [AV.str (if (sTyS t != 0)=true then [] else pr t.st.length),AV.i (sTyS t)])∧((sTyS t != 0)=false →
  (0:Int)<=0∧(0:Int) < (5:Int)∧5<=9223372036854775807∧5+t.name.length<=9223372036854775807∧(0:Int)<=1∧(1:Int) < (5:Int)∧(ln hp [hdI [AV.i t.side]]).length+(ln zc77a (List.map hdI (List.map encI
  t.sh))).length<=9223372036854775807∧(0:Int)<=2∧(2:Int) < (5:Int)∧(ln hp [hdI [AV.i t.side]]++ln zc77a (List.map hdI (List.map encI t.sh))).length+(ln zc77d (zc77c t)).length<=9223372036854775807∧(0:Int)<=3
  ∧ (3:Int) < (5:Int)∧(ln hp [hdI [AV.i t.side]]++ln zc77a (List.map hdI (List.map encI t.sh))++ln zc77d (zc77c t)).length+(ln zc77e (List.map hdI (List.map encI t.sq))).length<=9223372036854775807∧AV.str ((116 :
  UInt8)::(121:UInt8)::(112:UInt8)::(101:UInt8)::(32:UInt8)::id t.name)=AV.str hp∧PCall Tryz.prog G0 135 [AV.str hp,AV.sl 1 [[AV.i t.side]]] (AV.str (ln hp [hdI [AV.i t.side]]))∧PCall Tryz.prog G0 135 [AV.str
  zc77a,AV.sl 1 (List.map encI t.sh)] (AV.str (ln zc77a (List.map hdI (List.map encI t.sh))))∧PCall Tryz.prog G0 135 [AV.str zc77d,AV.sl 1 [[AV.i t.d0],[AV.i t.d1],[AV.i t.d2],[AV.i t.d3],[AV.i t.d4],[AV.i t.d5],[AV.i
  t.d6],[AV.i t.d7]]] (AV.str (ln zc77d (zc77c t)))∧PCall Tryz.prog G0 135 [AV.str zc77e,AV.sl 1 (List.map encI t.sq)] (AV.str (ln zc77e (List.map hdI (List.map encI t.sq))))∧(∃ (g:Nat),g<=t.st.length∧AS.mk [(5,AV.str
  (ln hp [hdI [AV.i t.side]]++ln zc77a (List.map hdI (List.map encI t.sh))++ln zc77d (zc77c t)++ln zc77e (List.map hdI (List.map encI t.sq)))),(42,AV.sl 2 (List.map encSg t.st)),(43,AV.i (zc77g t)),(44,AV.i 0)] [] 1 =
  AS.mk [(5,AV.str (pr g)),(42,AV.sl 2 (List.map encSg t.st)),(43,AV.i (zc77g t)),(44,AV.i (g:Int))] [] 1)∧∀ (g:Nat),g<=t.st.length->(decide ((g:Int) < (zc77g t))=true->(0:Int)<=(g:Int)∧(g:Int) <
  (zc77g t)∧AV.agg (nthR (List.map encSg t.st) (g:Int).toNat)=AV.agg [AV.i (zc77b t g).p,AV.sl 1 (List.map encI (zc77b t g).e)]∧(0:Int)<=4∧(4:Int) < (5:Int)∧1+(List.map encI (zc77b t g).e).length ≤
  9223372036854775807∧(1+(List.map encI (zc77b t g).e).length) * 8<=140737488355328∧(pr g).length+(ln zc77f (List.map hdI (jn [[AV.i (zc77b t g).p]] (List.map encI (zc77b t g).e)))).length<=9223372036854775807∧AV.sl 1
  ([AV.i (zc77b t g).p]::id (List.map encI (zc77b t g).e))=AV.sl 1 (jn [[AV.i (zc77b t g).p]] (List.map encI (zc77b t g).e))∧PCall Tryz.prog G0 135 [AV.str zc77f,AV.sl 1 (jn [[AV.i (zc77b t g).p]] (List.map encI (zc77b t
  g).e))] (AV.str (ln zc77f (List.map hdI (jn [[AV.i (zc77b t g).p]] (List.map encI (zc77b t g).e)))))∧In64 ((g:Int)+1)∧∃ (g':Nat),g'<=t.st.length∧t.st.length-g' < t.st.length-g∧AS.mk [(5,AV.str (pr g++ln
  zc77f (List.map hdI (jn [[AV.i (zc77b t g).p]] (List.map encI (zc77b t g).e))))),(42,AV.sl 2 (List.map encSg t.st)),(43,AV.i (zc77g t)),(44,AV.i ((g:Int)+1))] [] 1=AS.mk [(5,AV.str (pr g')),(42,AV.sl 2 (List.map
  encSg t.st)),(43,AV.i (zc77g t)),(44,AV.i (↑g':Int))] [] 1)∧(decide ((g:Int) < (zc77g t))=false->AV.tup [AV.str (pr g),AV.i 0]=AV.tup [AV.str (if (sTyS t != 0)=true then [] else pr t.st.length),AV.i (sTyS t)])):=by
   delta zc77a zc77b zc77c zc77d zc77e zc77f zc77g
   obtain rfl:ln=lnT:=funext fun w=>funext fun l=>hln w l
   obtain rfl:pr=prT t:=funext hpr
   obtain rfl:jn=fun a b=>a++b:=funext fun a=>funext fun b=>hjn a b
   subst hhp
   refine ⟨hc,fun h=>by rw [if_pos h],fun h=>?_⟩
   have hz:=bne_f h
   have B:=hB hz
   have a1:=B.nm
   have a2:=B.sh
   have a3:=B.sq
   have a4:=B.st
   have b0:∀ n,n ∈ [t.side]->0<=n∧n < 1000000000000:=fun n hn=>by rw [List.mem_singleton.1 hn];exact B.bsd
   have n0:=lnT_len (w:=TYPE_++t.name) b0
   have n1:=lnT_len (w:=wordK 1) B.bsh
   have n2:=lnT_len (w:=wordK 2) B.bdr
   have n3:=lnT_len (w:=wordK 3) B.bsq
   have lt:(TYPE_++t.name).length=5+t.name.length:=by rw [List.length_append];rfl
   have l1:(wordK 1).length=6:=rfl
   have l2:(wordK 2).length=6:=rfl
   have l3:(wordK 3).length=7:=rfl
   have l4:(drT t).length=8:=rfl
   have hstm:(List.map encSg t.st).length=t.st.length:=List.length_map _
   rw [List.length_singleton] at n0
   rw [hd_enc,hd_enc]
   refine ⟨by decide,by decide,by decide,by omega,by decide,by decide,?_,by decide,by decide,?_,by decide,by decide,?_,rfl,hl _ [t.side] (by omega) (Nat.le_of_ble_eq_true rfl) b0,hl (wordK 1) t.sh (by decide) (by omega) B.bsh,hl (wordK 2) (drT t) (by decide) (Nat.le_of_ble_eq_true rfl) B.bdr,hl (wordK 3) t.sq (by decide) (by omega) B.bsq,⟨0,Nat.zero_le _,rfl⟩,fun g hg=>⟨fun hd=>?_,fun hd=>?_⟩⟩
   · show (lnT (TYPE_++t.name) [t.side]).length+(lnT (wordK 1) t.sh).length<=_
     omega
   · show (lnT (TYPE_++t.name) [t.side]++lnT (wordK 1) t.sh).length+(lnT (wordK 2) (drT t)).length<=_
     rw [List.length_append]
     omega
   · show (lnT (TYPE_++t.name) [t.side]++lnT (wordK 1) t.sh++lnT (wordK 2) (drT t)).length+(lnT (wordK 3) t.sq).length<=_
     rw [List.length_append,List.length_append]
     omega
   · have hlt:=lt_of_dec hd
     rw [hstm] at hlt
     have s:=st_at B hlt
     have hp:=pr_len B g hg
     have n4:=lnT_len (w:=wordK 4) s.2
     have l5:(wordK 4).length=5:=rfl
     have he:(List.map encI (t.st.getD g default).e).length=(t.st.getD g default).e.length:=List.length_map _
     have hc1:((t.st.getD g default).p::(t.st.getD g default).e).length=(t.st.getD g default).e.length+1:=List.length_cons
     have ee:List.map hdI ([[AV.i (t.st.getD g default).p]]++List.map encI (t.st.getD g default).e)=(t.st.getD g default).p::(t.st.getD g default).e:=by
      rw [List.map_append,hd_enc]
      rfl
     rw [Int.toNat_natCast]
     dsimp only
     rw [ee]
     refine ⟨by omega,by omega,congrArg AV.agg (row_at encSg hlt),by decide,by decide,by omega,by omega,?_,rfl,hl (wordK 4) _ (by decide) s.1 s.2,by unfold In64;omega,g+1,by omega,by omega,rfl⟩
     show (prT t g).length+(lnT (wordK 4) ((t.st.getD g default).p::(t.st.getD g default).e)).length<=_
     omega
   · have hge:=ge_of_dec hd (by rw [hstm];exact hg)
     rw [hstm] at hge
     subst hge
     rw [if_neg (by rw [h];decide),hz]
 exact c_of Tryz.f77 (jnA 8 8 jn (fzB (mkB (sp77 t ln) 77 [(4,5,fun _=>some (.str hp)),(7,1,rdL 2 encSg t.st 2 true)] (fun i=>if i.beq 0 then some (la77 t pr) else none)))) (by kernel_rfl) (by kernel_rfl) (by kernel_rfl) (by kernel_rfl) key (by kernel_rfl)
def la79 (t:Ty) (pr:Nat->List UInt8) (b:Nat):Option LA:=if b.beq 0 then some {
 pre:=[.reno 3 1,.keep [1,3,4] [1],.bound 2],post:=[.reno 3 1,.keep [1,3,4] [1],.bound 2]
 Gh:=Nat
 st:=fun i=>⟨[(1,.elt 13 [encTy t] 0 0),(3,.own 1 (((drT t).take i).map encI).length),(4,.i i)],[(1,.buf 3 1 (((drT t).take i).map encI))],2⟩
 ok:=fun i=>i<=8
 ms:=fun i=>8-i }
 else if b.beq 2 then some {
 pre:=[.keep [1,5,6] [],.bound 1],post:=[.keep [1,5,6] [],.bound 1]
 Gh:=Nat
 st:=fun i=>⟨[(1,.elt 13 [encTy t] 0 0),(5,.str (pr i)),(6,.i i)],[],1⟩
 ok:=fun i=>i<=t.st.length
 ms:=fun i=>t.st.length-i }
 else none
def rdD (t:Ty):List AV->Option AV
 | [.elt _ _ i _]=>some (.i ((drT t).getD i default))
 | _=>none
def rdE1 (t:Ty):List AV->Option AV
 | [.elt _ _ i _]=>some (.sl 1 ((t.st.getD i default).e.map encI))
 | _=>none
def rdP1 (t:Ty):List AV->Option AV
 | [.elt _ _ i _]=>some (.i (t.st.getD i default).p)
 | _=>none
abbrev zc79g (t:Ty):=[t.d0,t.d1,t.d2,t.d3,t.d4,t.d5,t.d6,t.d7]
abbrev zc79a (g:Nat) (t:Ty):=List.map encI (List.take g (zc79g t))
abbrev zc79b:=[(115:UInt8),(104:UInt8),(97:UInt8),(114:UInt8),(101:UInt8),(115:UInt8)]
abbrev zc79c (t:Ty) (g:Nat):=t.st.getD (g:Int).toNat default
abbrev zc79d:=[(100:UInt8),(105:UInt8),(114:UInt8),(101:UInt8),(99:UInt8),(116:UInt8)]
abbrev zc79e:=[(115:UInt8),(113:UInt8),(117:UInt8),(97:UInt8),(114:UInt8),(101:UInt8),(115:UInt8)]
abbrev zc79f:=[(112:UInt8),(111:UInt8),(119:UInt8),(101:UInt8),(114:UInt8)]
theorem c79 (t:Ty) (hp:List UInt8) (pr:Nat->List UInt8) (ln:List UInt8->List Int->List UInt8) (jn:List (List AV)->List (List AV)->List (List AV)) (hhp:hp=TYPE_++t.name) (hjn:∀ a b,jn a b=a++b) (hB:PrB t) (hln:∀ w l,ln w l=lnT w l) (hpr:∀ k,pr k=prT t k) (hl:∀ w l,w.length<=2000->l.length<=101->(∀ n,n ∈ l->0<=n∧n < 1000000000000)->PCall Tryz.prog G0 140 [.str w,.sl 1 (l.map encI)] (.str (ln w l))):PCall Tryz.prog G0 79 [.agg (encTy t)] (.str (pr t.st.length)):=by
 have key :
  (∃ (g:Nat),g<=8∧AS.mk [(1,AV.elt 13 [(encTy t)] 0 0),(3,AV.own 1 0),(4,AV.i 0)] [(1,ABlk.buf 3 1 [])] 2=AS.mk [(1,AV.elt 13 [(encTy t)] 0 0),(3,AV.own 1 (zc79a g t).length),(4,AV.i (g:Int))] [(1,ABlk.buf 3 1
  (zc79a g t))] 2)∧∀ (g:Nat),g<=8->(decide ((g:Int) < 8)=true->(0:Int)<=(g:Int)∧(g:Int) < (8:Int)∧(zc79a g t).length+1<=9223372036854775807∧((zc79a g t).length+1) * 8<=140737488355328∧nth (nthR
  [[AV.i t.d0],[AV.i t.d1],[AV.i t.d2],[AV.i t.d3],[AV.i t.d4],[AV.i t.d5],[AV.i t.d6],[AV.i t.d7]] (g:Int).toNat) 0=AV.i ((zc79g t).getD (g:Int).toNat default)∧In64 ((g:Int)+1)∧∃ (g':Nat),g'<=8∧8-g' <
  8-g∧AS.mk [(1,AV.elt 13 [(encTy t)] 0 0),(3,AV.own 1 ((zc79a g t).length+1)),(4,AV.i ((g:Int)+1))] [(1,ABlk.buf 3 1 (List.map encI (List.take g (zc79g t))++[[AV.i ((zc79g t).getD (g:Int).toNat default)]]))] 2
  = AS.mk [(1,AV.elt 13 [(encTy t)] 0 0),(3,AV.own 1 (List.map encI (List.take g' (zc79g t))).length),(4,AV.i (↑g':Int))] [(1,ABlk.buf 3 1 (List.map encI (List.take g' (zc79g t))))] 2)∧(decide ((g:Int) < 8)=false->5 +
  t.name.length<=9223372036854775807∧(ln hp [hdI [AV.i t.side]]).length+(ln zc79b (List.map hdI (List.map encI t.sh))).length<=9223372036854775807∧(ln hp [hdI [AV.i t.side]]++ln zc79b (List.map hdI (List.map encI
  t.sh))).length+(ln zc79d (List.map hdI (zc79a g t))).length<=9223372036854775807∧(ln hp [hdI [AV.i t.side]]++ln zc79b (List.map hdI (List.map encI t.sh))++ln zc79d (List.map hdI (zc79a g t))).length+(ln zc79e (List.map
  hdI (List.map encI t.sq))).length<=9223372036854775807∧AV.str ((116:UInt8)::(121:UInt8)::(112:UInt8)::(101:UInt8)::(32:UInt8)::id t.name)=AV.str hp∧PCall Tryz.prog G0 140 [AV.str hp,AV.sl 1 [[AV.i
  t.side]]] (AV.str (ln hp [hdI [AV.i t.side]]))∧PCall Tryz.prog G0 140 [AV.str zc79b,AV.sl 1 (List.map encI t.sh)] (AV.str (ln zc79b (List.map hdI (List.map encI t.sh))))∧PCall Tryz.prog G0 140 [AV.str zc79d,AV.sl 1 (zc79a g
  t)] (AV.str (ln zc79d (List.map hdI (zc79a g t))))∧PCall Tryz.prog G0 140 [AV.str zc79e,AV.sl 1 (List.map encI t.sq)] (AV.str (ln zc79e (List.map hdI (List.map encI t.sq))))∧(∃ (g_1:Nat),g_1<=t.st.length∧AS.mk [(1,
  AV.elt 13 [(encTy t)] 0 0),(5,AV.str (ln hp [hdI [AV.i t.side]]++ln zc79b (List.map hdI (List.map encI t.sh))++ln zc79d (List.map hdI (zc79a g t))++ln zc79e (List.map hdI (List.map encI t.sq)))),(6,AV.i 0)] [] 1=AS.mk
  [(1,AV.elt 13 [(encTy t)] 0 0),(5,AV.str (pr g_1)),(6,AV.i (g_1:Int))] [] 1)∧∀ (g:Nat),g<=t.st.length->(decide ((g:Int) < (↑(List.map encSg t.st).length:Int))=true->(0:Int)<=(g:Int)∧(g:Int) <
  (↑(List.map encSg t.st).length:Int)∧(0:Int)<=(g:Int)∧(g:Int) < (↑(List.map encSg t.st).length:Int)∧1+(List.map encI (zc79c t g).e).length<=9223372036854775807∧(1+(List.map encI (zc79c t g).e).length) * 8 ≤
  140737488355328∧(pr g).length+(ln zc79f (List.map hdI (jn [[AV.i (zc79c t g).p]] (List.map encI (zc79c t g).e)))).length<=9223372036854775807∧nth (nthR (List.map encSg t.st) (g:Int).toNat) 0=AV.i (zc79c t g).p∧nth
  (nthR (List.map encSg t.st) (g:Int).toNat) 1=AV.sl 1 (List.map encI (zc79c t g).e)∧AV.sl 1 ([AV.i (zc79c t g).p]::id (List.map encI (zc79c t g).e))=AV.sl 1 (jn [[AV.i (zc79c t g).p]] (List.map encI (zc79c t g).e)) ∧
  PCall Tryz.prog G0 140 [AV.str zc79f,AV.sl 1 (jn [[AV.i (zc79c t g).p]] (List.map encI (zc79c t g).e))] (AV.str (ln zc79f (List.map hdI (jn [[AV.i (zc79c t g).p]] (List.map encI (zc79c t g).e)))))∧In64 ((g:Int)+1)∧∃ (g' :
  Nat),g'<=t.st.length∧t.st.length-g' < t.st.length-g∧AS.mk [(1,AV.elt 13 [(encTy t)] 0 0),(5,AV.str (pr g++ln zc79f (List.map hdI (jn [[AV.i (zc79c t g).p]] (List.map encI (zc79c t g).e))))),(6,AV.i ((g:Int) +
  1))] [] 1=AS.mk [(1,AV.elt 13 [(encTy t)] 0 0),(5,AV.str (pr g')),(6,AV.i (↑g':Int))] [] 1)∧(decide ((g:Int) < (↑(List.map encSg t.st).length:Int))=false->AV.str (pr g)=AV.str (pr t.st.length))):=by
   delta zc79a zc79b zc79c zc79d zc79e zc79f zc79g
   obtain rfl:ln=lnT:=funext fun w=>funext fun l=>hln w l
   obtain rfl:pr=prT t:=funext hpr
   obtain rfl:jn=fun a b=>a++b:=funext fun a=>funext fun b=>hjn a b
   subst hhp
   have B:=hB
   have a1:=B.nm
   have a2:=B.sh
   have a3:=B.sq
   have a4:=B.st
   have b0:∀ n,n ∈ [t.side]->0<=n∧n < 1000000000000:=fun n hn=>by rw [List.mem_singleton.1 hn];exact B.bsd
   have n0:=lnT_len (w:=TYPE_++t.name) b0
   have n1:=lnT_len (w:=wordK 1) B.bsh
   have n2:=lnT_len (w:=wordK 2) B.bdr
   have n3:=lnT_len (w:=wordK 3) B.bsq
   have lt:(TYPE_++t.name).length=5+t.name.length:=by rw [List.length_append];rfl
   have l1:(wordK 1).length=6:=rfl
   have l2:(wordK 2).length=6:=rfl
   have l3:(wordK 3).length=7:=rfl
   have l4:(drT t).length=8:=rfl
   have hstm:(List.map encSg t.st).length=t.st.length:=List.length_map _
   rw [List.length_singleton] at n0
   rw [hd_enc,hd_enc]
   refine ⟨⟨0,Nat.zero_le _,rfl⟩,fun g hg=>⟨fun hd=>?_,fun hd=>?_⟩⟩
   · have hlt:g < (drT t).length:=by have:=of_decide_eq_true hd;omega
     have hln:(List.map encI (List.take g (drT t))).length=g:=by rw [List.length_map,List.length_take];omega
     have e:List.map encI (List.take (g+1) (drT t))=List.map encI (List.take g (drT t))++[[AV.i ((drT t).getD g default)]]:=(take_succ encI hlt).symm
     rw [Int.toNat_natCast]
     refine ⟨by omega,by omega,(by show (List.map encI (List.take g (drT t))).length+1<=_;omega),(by show ((List.map encI (List.take g (drT t))).length+1) * 8<=_;omega),congrArg (fun r=>nth r 0) (row_at encI hlt),by unfold In64;omega,g+1,by omega,by omega,?_⟩
     show AS.mk [_,(3,AV.own 1 ((List.map encI (List.take g (drT t))).length+1)),_] [(1,ABlk.buf 3 1 (List.map encI (List.take g (drT t))++[[AV.i ((drT t).getD g default)]]))] 2=AS.mk [_,(3,AV.own 1 (List.map encI (List.take (g+1) (drT t))).length),_] [(1,ABlk.buf 3 1 (List.map encI (List.take (g+1) (drT t))))] 2
     rw [e,List.length_append]
     rfl
   · have hge:g=8:=by have:=of_decide_eq_false hd;omega
     subst hge
     rw [hd_enc]
     refine ⟨by omega,?_,?_,?_,rfl,hl _ [t.side] (by omega) (Nat.le_of_ble_eq_true rfl) b0,hl (wordK 1) t.sh (by decide) (by omega) B.bsh,hl (wordK 2) (drT t) (by decide) (Nat.le_of_ble_eq_true rfl) B.bdr,hl (wordK 3) t.sq (by decide) (by omega) B.bsq,⟨0,Nat.zero_le _,rfl⟩,fun g hg=>⟨fun hd=>?_,fun hd=>?_⟩⟩
     · show (lnT (TYPE_++t.name) [t.side]).length+(lnT (wordK 1) t.sh).length<=_
       omega
     · show (lnT (TYPE_++t.name) [t.side]++lnT (wordK 1) t.sh).length+(lnT (wordK 2) (drT t)).length<=_
       rw [List.length_append]
       omega
     · show (lnT (TYPE_++t.name) [t.side]++lnT (wordK 1) t.sh++lnT (wordK 2) (drT t)).length+(lnT (wordK 3) t.sq).length<=_
       rw [List.length_append,List.length_append]
       omega
     · have hlt:=lt_of_dec hd
       rw [hstm] at hlt
       have s:=st_at B hlt
       have hp:=pr_len B g hg
       have n4:=lnT_len (w:=wordK 4) s.2
       have l5:(wordK 4).length=5:=rfl
       have he:(List.map encI (t.st.getD g default).e).length=(t.st.getD g default).e.length:=List.length_map _
       have hc1:((t.st.getD g default).p::(t.st.getD g default).e).length=(t.st.getD g default).e.length+1:=List.length_cons
       have ee:List.map hdI ([[AV.i (t.st.getD g default).p]]++List.map encI (t.st.getD g default).e)=(t.st.getD g default).p::(t.st.getD g default).e:=by
        rw [List.map_append,hd_enc]
        rfl
       rw [Int.toNat_natCast]
       dsimp only
       rw [ee]
       refine ⟨by omega,by omega,by omega,by omega,by omega,by omega,?_,congrArg (fun r=>nth r 0) (row_at encSg hlt),congrArg (fun r=>nth r 1) (row_at encSg hlt),rfl,hl (wordK 4) _ (by decide) s.1 s.2,by unfold In64;omega,g+1,by omega,by omega,rfl⟩
       show (prT t g).length+(lnT (wordK 4) ((t.st.getD g default).p::(t.st.getD g default).e)).length<=_
       omega
     · have hge:=ge_of_dec hd (by rw [hstm];exact hg)
       rw [hstm] at hge
       rw [hge]
 exact c_of Tryz.f79 ({ jnA 10 14 jn (fzB (mkB (sp77 t ln) 79 [(5,4,rdD t),(6,2,fun _=>some (.str hp)),(10,6,rdP1 t),(10,13,rdE1 t)] (la79 t pr))) with bx:=fun i=>if i.beq 0 then [.frzo 3] else [] }) (by kernel_rfl) (by kernel_rfl) (by kernel_rfl) (by kernel_rfl) key (by kernel_rfl)
end Go.Proofs.YtjhjmncjidbieaaGreatDoor
