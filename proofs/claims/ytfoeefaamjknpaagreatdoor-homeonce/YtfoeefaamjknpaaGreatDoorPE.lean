/-
  The cheapest set and the bound of the sum: the source's, the reference's bound. The cheapest set: the reference's. Complaints, the reference's: those that are counted, tied and due. No condition but the theorems' own.
-/
import Derived.Test.YtfoeefaamjknpaaGreatDoorPD
import Derived.Test.YtfoeefaamjknpaaGreatDoorAvD
namespace Go.Proofs.YtfoeefaamjknpaaGreatDoor
open Go Go.Av Go.RowKit
def chE (h:Hm) (l:List Ms) (t:Int):Int:=sFirst [fMs h l,fEn t]
def cW (h:Hm) (l:List Ms) (o:Option Nat):AV:=.tup [.sl 1 ((chO h l o).s.map encI),.i (chO h l o).c,.i (if o.isSome=true then 0 else 18)]
def c42V (h:Hm) (l:List Ms) (t:Int):AV:=if (chE h l t != 0)=true then .tup [.sl 1 [],.i 0,.i (chE h l t)] else cW h l (bst h l t)
def sp42 (h:Hm) (l:List Ms) (t:Int):Nat->List AV->Option AV
 | 39,_=>some (.i (fMs h l))
 | 122,_=>some (.tup [.agg (encCh (chO h l (bst h l t))),.bool (bst h l t).isSome])
 | n,z=>spW n z
theorem none_of {α:Type} {o:Option α} (h:(!o.isSome)=true):o=none:=by cases o <;> simp_all
theorem c42 (h:Hm) (l:List Ms) (t:Int) (hm:h.nm.length<=1000000) (hw:h.ws.length<=1000) (hl:l.length<=1000) (hn:∀ x,x ∈ l->x.nm.length<=1000):PCall Tryz.prog G0 42 [.agg (encHm h),.sl 19 (l.map encMs),.i t] (c42V h l t):=by
 have key :
  PCall Tryz.prog G0 39 [AV.agg (encHm h),AV.sl 19 (List.map encMs l)] (AV.i (fMs h l))∧PCall Tryz.prog G0 105 [AV.i t] (AV.i (sWithin t (0:Int) (10000000000000:Int)))∧PCall Tryz.prog G0 104 [AV.sl 1 [[AV.i (fMs h l)],[AV.i
  (sWithin t (0:Int) (10000000000000:Int))]]] (AV.i (sFirst [hdI [AV.i (fMs h l)],hdI [AV.i (sWithin t (0:Int) (10000000000000:Int))]]))∧((sFirst [hdI [AV.i (fMs h l)],hdI [AV.i (sWithin t (0:Int) (10000000000000 :
  Int))]] != 0)=true->AV.tup [AV.sl 1 [],AV.i 0,AV.i (sFirst [hdI [AV.i (fMs h l)],hdI [AV.i (sWithin t (0:Int) (10000000000000:Int))]])]=c42V h l t)∧((sFirst [hdI [AV.i (fMs h l)],hdI [AV.i (sWithin t (0:Int)
  (10000000000000:Int))]] != 0)=false->PCall Tryz.prog G0 122 [AV.agg (encHm h),AV.sl 19 (List.map encMs l),AV.i t] (AV.tup [AV.agg (encCh (chO h l (bst h l t))),AV.bool (bst h l t).isSome])∧((!(bst h l t).isSome)=true →
  AV.tup [AV.sl 1 [],AV.i 0,AV.i 18]=c42V h l t)∧((!(bst h l t).isSome)=false->AV.tup [AV.sl 1 (List.map encI (chO h l (bst h l t)).s),AV.i (chO h l (bst h l t)).c,AV.i 0]=c42V h l t)):=by
   refine ⟨(c39 h l hm hw hl hn),(c105 _),(c104 [_,_] (by simp)),fun h1=>?_,fun h1=>?_⟩
   · exact (if_pos h1).symm
   · have hz:chE h l t=0:=bne_f h1
     have hz2:=hz
     unfold chE at hz2
     rw [first_zero] at hz2
     refine ⟨(c122 h l t hz2.1),fun h2=>?_,fun h2=>?_⟩
     · have e:c42V h l t=cW h l (bst h l t):=if_neg (by rw [hz];decide)
       rw [e,none_of h2]
       rfl
     · have e:c42V h l t=cW h l (bst h l t):=if_neg (by rw [hz];decide)
       rw [e]
       unfold cW
       rw [show (bst h l t).isSome=true by simpa using h2]
       rfl
 exact c_of Tryz.f42 (gsB (fun i=>if i.beq 3 then [.nil 6 1] else if i.beq 6 then [.nil 6 1] else []) (fzB (mkB (sp42 h l t) 42 [] noLa))) (by kernel_rfl) (by kernel_rfl) (by kernel_rfl) (by kernel_rfl) key (by kernel_rfl)
def bdN (p:Int) (w:Wn) (l:List Ms) (i:Int):Nat->Int
 | 0=>p * inHw w
 | k+1=>if ((l.getD k default).w == i)=true then minI (bdN p w l i k) ((l.getD k default).c+p * inHw (wiM w (l.getD k default))) else bdN p w l i k
def bdS (h:Hm) (l:List Ms) (t p:Int):Nat->Int
 | 0=>(0-p) * t
 | i+1=>bdS h l t p i+bdN p (h.ws.getD i default) l i l.length
def bdE (h:Hm) (l:List Ms) (t p:Int):Int:=sFirst [fMs h l,fEn t,sWithin p 0 100000]
def bdV (h:Hm) (l:List Ms) (t p:Int):Int:=if (bdE h l t p != 0)=true then 0 else bdS h l t p h.ws.length
end Go.Proofs.YtfoeefaamjknpaaGreatDoor
namespace Go.Proofs.YtfoeefaamjknpaaGreatDoor
open Go Go.Av Go.RowKit
def rcB (x y:Ch):Bool:=if decide (x.c < y.c)=true then true else if (x.c == y.c)=true then if decide (x.u < y.u)=true then true else if (x.u == y.u)=true then lx x.s y.s else false else false
theorem cmI_c (x y:Int):(x < y∧cmI x y = -1) ∨ (x=y∧cmI x y=0) ∨ (y < x∧cmI x y=1):=by
 unfold cmI
 by_cases h:x < y
 · exact .inl ⟨h,if_pos (decide_eq_true h)⟩
 · by_cases h2:y < x
   · exact .inr (.inr ⟨h2,by rw [if_neg (by simpa using h),if_pos (decide_eq_true h2)]⟩)
   · exact .inr (.inl ⟨by omega,by rw [if_neg (by simpa using h),if_neg (by simpa using h2)]⟩)
theorem cmC_r (x y:Ch):decide (cmC x y < 0)=rcB x y:=by
 unfold cmC rcB
 rcases cmI_c x.c y.c with ⟨h,e⟩ | ⟨h,e⟩ | ⟨h,e⟩
 · rw [e,if_pos (decide_eq_true h)]
   rfl
 · rw [e,if_neg (by simp [h]),if_pos (by simp [h])]
   rcases cmI_c x.u y.u with ⟨h2,e2⟩ | ⟨h2,e2⟩ | ⟨h2,e2⟩
   · rw [e2,if_pos (decide_eq_true h2)]
     rfl
   · rw [e2,if_neg (by simp [h2]),if_pos (by simp [h2])]
     have hl:=(cmL_lx x.s y.s).1
     have e3:sFirst [0,0,cmL x.s y.s]=cmL x.s y.s:=by simp [sFirst];exact fun h=>h.symm
     rw [e3]
     cases q:lx x.s y.s with
     | true=>exact decide_eq_true (hl.2 q)
     | false=>exact decide_eq_false (fun hh=>by rw [hl.1 hh] at q;cases q)
   · rw [e2,if_neg (by simp;omega),if_neg (by simp;omega)]
     rfl
 · rw [e,if_neg (by simp;omega),if_neg (by simp;omega)]
   rfl
end Go.Proofs.YtfoeefaamjknpaaGreatDoor
namespace Go.Proofs.YtfoeefaamjknpaaGreatDoor
open Go Go.Av Go.RowKit
def la47 (l m:List Int):LA:={
 pre:=[.keep [0,1,5] [],.bound 1],post:=[.keep [0,1,5] [],.bound 1]
 Gh:=Nat
 st:=fun i=>⟨[(0,.sl 1 (l.map encI)),(1,.sl 1 (m.map encI)),(5,.i i)],[],1⟩
 ok:=fun i=>i<=l.length∧∀ j,j < i->l.getD j default=m.getD j default
 ms:=fun i=>l.length-i }
theorem c47 (l m:List Int) (hl:l.length<=1000):PCall Tryz.prog G0 47 [.sl 1 (l.map encI),.sl 1 (m.map encI)] (.bool (l == m)):=by
 have key :
  (((↑(List.map encI l).length:Int) != (↑(List.map encI m).length:Int))=true->AV.bool false=AV.bool (l == m))∧(((↑(List.map encI l).length:Int) != (↑(List.map encI m).length:Int))=false->(∃ (g:Nat),(g<=l.length
  ∧ ∀ (j:Nat),j < g->l.getD j default=m.getD j default)∧AS.mk [(0,AV.sl 1 (List.map encI l)),(1,AV.sl 1 (List.map encI m)),(5,AV.i 0)] [] 1=AS.mk [(0,AV.sl 1 (List.map encI l)),(1,AV.sl 1 (List.map encI m)),(5,
  AV.i (g:Int))] [] 1)∧∀ (g:Nat),(g<=l.length∧∀ (j:Nat),j < g->l.getD j default=m.getD j default)->(decide ((g:Int) < (↑(List.map encI l).length:Int))=true->(0:Int)<=(g:Int)∧(g:Int) < (↑(List.map
  encI l).length:Int)∧(0:Int)<=(g:Int)∧(g:Int) < (↑(List.map encI m).length:Int)∧nth (nthR (List.map encI l) (g:Int).toNat) 0=AV.i (cI (List.map encI l) (g:Int).toNat)∧nth (nthR (List.map encI m) (↑g :
  Int).toNat) 0=AV.i (cI (List.map encI m) (g:Int).toNat)∧((cI (List.map encI l) (g:Int).toNat != cI (List.map encI m) (g:Int).toNat)=true->AV.bool false=AV.bool (l == m))∧((cI (List.map encI l) (g:Int).toNat
  != cI (List.map encI m) (g:Int).toNat)=false->In64 ((g:Int)+1)∧∃ (g':Nat),(g'<=l.length∧∀ (j:Nat),j < g'->l.getD j default=m.getD j default)∧l.length-g' < l.length-g∧AS.mk [(0,AV.sl 1 (List.map
  encI l)),(1,AV.sl 1 (List.map encI m)),(5,AV.i ((g:Int)+1))] [] 1=AS.mk [(0,AV.sl 1 (List.map encI l)),(1,AV.sl 1 (List.map encI m)),(5,AV.i (↑g':Int))] [] 1))∧(decide ((g:Int) < (↑(List.map encI l).length :
  Int))=false->AV.bool true=AV.bool (l == m))):=by
   have hle:(List.map encI l).length=l.length:=List.length_map _
   have hme:(List.map encI m).length=m.length:=List.length_map _
   rw [hle,hme]
   refine ⟨fun h=>?_,fun h=>⟨⟨0,⟨by omega,by intros;omega⟩,rfl⟩,fun g ⟨hg,ha⟩=>⟨fun hd=>?_,fun hd=>?_⟩⟩⟩
   · have h1:l ≠ m:=fun e=>by rw [e] at h;exact absurd h (by simp)
     rw [beq_false_of_ne h1]
   · have h1:l.length=m.length:=by have h2:(l.length:Int)=(m.length:Int):=(by simpa using h);omega
     have hlt:=lt_of_dec hd
     have c1:=cI_map l g
     have c2:=cI_map m g
     refine ⟨by omega,by omega,by omega,by omega,cI_at hlt,cI_at (by omega),fun e=>?_,fun e=>⟨by unfold In64;omega,g+1,⟨hlt,fun j hj=>?_⟩,by omega,rfl⟩⟩
     · have e:(cI (List.map encI l) g != cI (List.map encI m) g)=true:=e
       rw [c1,c2] at e
       have h2:l ≠ m:=fun q=>by rw [q] at e;exact absurd e (by simp)
       rw [beq_false_of_ne h2]
     · have e:(cI (List.map encI l) g != cI (List.map encI m) g)=false:=e
       rw [c1,c2] at e
       by_cases q:j=g
       · rw [q];simpa using e
       · exact ha j (by omega)
   · have h1:l.length=m.length:=by have h2:(l.length:Int)=(m.length:Int):=(by simpa using h);omega
     have e:=ge_of_dec hd hg
     subst e
     have:l=m:=List.ext_getElem h1 fun i h2 h3=>by
      have:=ha i h2
      rw [List.getD_eq_getElem?_getD,List.getD_eq_getElem?_getD,List.getElem?_eq_getElem h2,List.getElem?_eq_getElem h3] at this
      exact this
     rw [this,beq_self_eq_true]
 exact c_of Tryz.f47 (mkB spC 47 [(6,3,rdJ),(6,7,rdJ)] (fun j=>if j.beq 0 then some (la47 l m) else none)) (by kernel_rfl) (by kernel_rfl) (by kernel_rfl) (by kernel_rfl) key (by kernel_rfl)
end Go.Proofs.YtfoeefaamjknpaaGreatDoor
namespace Go.Proofs.YtfoeefaamjknpaaGreatDoor
open Go Go.Av Go.RowKit
structure Of where
 hm:List UInt8
 zn:List UInt8
 g:List Int
 a:Int
 deriving Inhabited
def encOf (x:Of):List AV:=[.str x.hm,.str x.zn,.sl 1 (x.g.map encI),.i x.a]
def encLs (l:List Ms):List AV:=[.sl 19 (l.map encMs)]
def snA:List AV->List UInt8
 | .str s::_=>s
 | _=>[]
def decMs (l:List AV):Ms:=⟨snA l,ivA l 1,ivA l 2,ivA l 3,ivA l 4,ivA l 5,ivA l 6,ivA l 7,ivA l 8,ivA l 9,ivA l 10,ivA l 11,ivA l 12,ivA l 13,ivA l 14,ivA l 15,ivA l 16,ivA l 17,ivA l 18⟩
theorem decMs_e (x:Ms):decMs (encMs x)=x:=rfl
def bdH (hs:List Hm) (j:Nat):Bool:=!shH (hs.getD j default)
def bdM (ms:List (List Ms)) (j:Nat):Bool:=!shM (ms.getD j [])
def shHs (hs:List Hm) (ms:List (List Ms)):Bool:=if decide (fiN (bdH hs) hs.length < hs.length)=true then false else if decide (fiN (bdM ms) ms.length < ms.length)=true then false else if (if decide ((hs.length:Int)<=4)=true then true else (hs.length:Int) == 17)=true then decide ((ms.length:Int)<=5) else false
def sp56:Nat->List AV->Option AV
 | 14,[.agg [.str s,.int _ _,.sl _ rows]]=>some (.bool (if decide ((s.length:Int)<=40)=true then decide ((rows.length:Int)<=9) else false))
 | 15,[.sl _ rows]=>some (.bool (shM (rows.map decMs)))
 | n,x=>spW n x
def la56 (hs:List Hm) (ms:List (List Ms)) (b:Nat):Option LA:=if b.beq 0 then some {
 pre:=[.keep [0,1,5] [],.bound 1],post:=[.keep [0,1,5] [],.bound 1]
 Gh:=Nat
 st:=fun i=>⟨[(0,.sl 3 (hs.map encHm)),(1,.sl 1 (ms.map encLs)),(5,.i i)],[],1⟩
 ok:=fun i=>i<=hs.length∧∀ j,j < i->bdH hs j=false
 ms:=fun i=>hs.length-i }
 else if b.beq 2 then some {
  pre:=[.keep [0,1,6] [],.bound 1],post:=[.keep [0,1,6] [],.bound 1]
  Gh:=Nat
  st:=fun i=>⟨[(0,.sl 3 (hs.map encHm)),(1,.sl 1 (ms.map encLs)),(6,.i i)],[],1⟩
  ok:=fun i=>i<=ms.length∧∀ j,j < i->bdM ms j=false
  ms:=fun i=>ms.length-i }
 else none
abbrev zc56b (hs:List Hm):=(↑(List.map encHm hs).length:Int)
abbrev zc56a (hs:List Hm):=if decide ((zc56b hs)<=4)=true then true else (zc56b hs) == 17
abbrev zc56c (hs:List Hm) (g:Nat):=!if decide ((↑(hs.getD (g:Int).toNat default).nm.length:Int)<=40)=true then decide ((↑(List.map encWn (hs.getD (g:Int).toNat default).ws).length:Int)<=9) else false
theorem c56 (hs:List Hm) (ms:List (List Ms)) (hh:hs.length<=maxLen) (hm:ms.length<=maxLen) (hml:∀ x,x ∈ ms->x.length<=maxLen):PCall Tryz.prog G0 56 [.sl 3 (hs.map encHm),.sl 1 (ms.map encLs)] (.bool (shHs hs ms)):=by
 have key :
  (∃ (g:Nat),(g<=hs.length∧∀ (j:Nat),j < g->bdH hs j=false)∧AS.mk [(0,AV.sl 3 (List.map encHm hs)),(1,AV.sl 1 (List.map encLs ms)),(5,AV.i 0)] [] 1=AS.mk [(0,AV.sl 3 (List.map encHm hs)),(1,AV.sl 1 (List.map
  encLs ms)),(5,AV.i (g:Int))] [] 1)∧∀ (g:Nat),(g<=hs.length∧∀ (j:Nat),j < g->bdH hs j=false)->(decide ((g:Int) < (zc56b hs))=true->(0:Int)<=(g:Int)∧(g:Int) < (zc56b hs)∧AV.agg (nthR (List.map
  encHm hs) (g:Int).toNat)=AV.agg (encHm (hs.getD (g:Int).toNat default))∧PCall Tryz.prog G0 14 [AV.agg (encHm (hs.getD (g:Int).toNat default))] (AV.bool (if decide ((↑(hs.getD (g:Int).toNat default).nm.length:Int)
  ≤ 40)=true then decide ((↑(List.map encWn (hs.getD (g:Int).toNat default).ws).length:Int)<=9) else false))∧((zc56c hs g)=true->AV.bool false=AV.bool (shHs hs ms))∧((zc56c hs g)=false->In64 ((g:Int)+1)∧∃
  (g':Nat),(g'<=hs.length∧∀ (j:Nat),j < g'->bdH hs j=false)∧hs.length-g' < hs.length-g∧AS.mk [(0,AV.sl 3 (List.map encHm hs)),(1,AV.sl 1 (List.map encLs ms)),(5,AV.i ((g:Int)+1))] [] 1=AS.mk [(0,AV.sl
  3 (List.map encHm hs)),(1,AV.sl 1 (List.map encLs ms)),(5,AV.i (↑g':Int))] [] 1))∧(decide ((g:Int) < (zc56b hs))=false->(∃ (g:Nat),(g<=ms.length∧∀ (j:Nat),j < g->bdM ms j=false)∧AS.mk [(0,AV.sl 3
  (List.map encHm hs)),(1,AV.sl 1 (List.map encLs ms)),(6,AV.i 0)] [] 1=AS.mk [(0,AV.sl 3 (List.map encHm hs)),(1,AV.sl 1 (List.map encLs ms)),(6,AV.i (g:Int))] [] 1)∧∀ (g:Nat),(g<=ms.length∧∀ (j:Nat),j < g →
  bdM ms j=false)->(decide ((g:Int) < (↑(List.map encLs ms).length:Int))=true->(0:Int)<=(g:Int)∧(g:Int) < (↑(List.map encLs ms).length:Int)∧nth (nthR (List.map encLs ms) (g:Int).toNat) 0=AV.sl 19
  (List.map encMs (ms.getD (g:Int).toNat []))∧PCall Tryz.prog G0 15 [AV.sl 19 (List.map encMs (ms.getD (g:Int).toNat []))] (AV.bool (shM (List.map decMs (List.map encMs (ms.getD (g:Int).toNat [])))))∧((!shM (List.map
  decMs (List.map encMs (ms.getD (g:Int).toNat []))))=true->AV.bool false=AV.bool (shHs hs ms))∧((!shM (List.map decMs (List.map encMs (ms.getD (g:Int).toNat []))))=false->In64 ((g:Int)+1)∧∃ (g':Nat),(g' ≤
  ms.length∧∀ (j:Nat),j < g'->bdM ms j=false)∧ms.length-g' < ms.length-g∧AS.mk [(0,AV.sl 3 (List.map encHm hs)),(1,AV.sl 1 (List.map encLs ms)),(6,AV.i ((g:Int)+1))] [] 1=AS.mk [(0,AV.sl 3 (List.map encHm
  hs)),(1,AV.sl 1 (List.map encLs ms)),(6,AV.i (↑g':Int))] [] 1))∧(decide ((g:Int) < (↑(List.map encLs ms).length:Int))=false->((!decide ((zc56b hs)<=4))=true->(!decide ((zc56b hs)<=4))=true)∧((!decide
  ((zc56b hs)<=4))=true->(!decide ((zc56b hs)<=4))=true)∧(decide ((zc56b hs)<=4)=false->(!decide ((zc56b hs)<=4))=true)∧((zc56a hs)=true->(zc56a hs)=true)∧((zc56a hs)=true->(zc56a hs)=true)∧((zc56a hs)
  = true->(zc56a hs)=true)∧AV.bool (if (zc56a hs)=true then decide ((↑(List.map encLs ms).length:Int)<=5) else false)=AV.bool (shHs hs ms))):=by
   delta zc56a zc56b zc56c
   have hmx:maxLen=9223372036854775807:=rfl
   have:(List.map encHm hs).length=hs.length:=by simp only [List.length_map]
   have:(List.map encLs ms).length=ms.length:=by simp only [List.length_map]
   refine ⟨⟨0,⟨by omega,by intros;omega⟩,rfl⟩,fun g ⟨hg,ha⟩=>⟨fun hd=>?_,fun hd=>?_⟩⟩
   · have hlt:g < hs.length:=by have h9:=of_decide_eq_true hd;have h8:=hg;(try simp only [List.length_map] at h8);(try simp only [List.length_map] at h9);omega
     try rw [show (g:Int).toNat=g from Int.toNat_natCast g]
     refine ⟨(by omega),(by omega),congrArg AV.agg (row_at encHm hlt),((by rw [List.length_map];exact c14 _)),fun h1=>?_,fun h1=>⟨(by unfold In64;omega),⟨g+1,⟨by omega,all_ext ha (by rw [List.length_map] at h1;exact h1)⟩,by omega,rfl⟩⟩⟩
     · first
        | rw [shHs,if_pos (decide_eq_true (fi_ex (p:=bdH hs) hlt (by rw [List.length_map] at h1;exact h1)))]
        | rw [shHs,if_neg (by rw [fi_none ha];simp),if_pos (decide_eq_true (fi_ex (p:=bdM ms) hlt2 (by rw [map_dec decMs_e] at h1;exact h1)))]
   · have hge:g=hs.length:=by have h9:=of_decide_eq_false hd;have h8:=hg;(try simp only [List.length_map] at h8);(try simp only [List.length_map] at h9);omega
     subst hge
     refine ⟨⟨0,⟨by omega,by intros;omega⟩,rfl⟩,fun g ⟨hg2,ha2⟩=>⟨fun hd2=>?_,fun hd2=>?_⟩⟩
     · have hlt2:g < ms.length:=by have h9:=of_decide_eq_true hd2;have h8:=hg2;(try simp only [List.length_map] at h8);(try simp only [List.length_map] at h9);omega
       try rw [show (g:Int).toNat=g from Int.toNat_natCast g]
       refine ⟨(by omega),(by omega),congrArg (fun r=>nth r 0) (row_at encLs hlt2),((by rw [map_dec decMs_e];exact c15 _ (hml _ (getD_mem hlt2)))),fun h1=>?_,fun h1=>⟨(by unfold In64;omega),⟨g+1,⟨by omega,all_ext ha2 (by rw [map_dec decMs_e] at h1;exact h1)⟩,by omega,rfl⟩⟩⟩
       · first
          | rw [shHs,if_pos (decide_eq_true (fi_ex (p:=bdH hs) hlt (by rw [List.length_map] at h1;exact h1)))]
          | rw [shHs,if_neg (by rw [fi_none ha];simp),if_pos (decide_eq_true (fi_ex (p:=bdM ms) hlt2 (by rw [map_dec decMs_e] at h1;exact h1)))]
     · have hge2:g=ms.length:=by have h9:=of_decide_eq_false hd2;have h8:=hg2;(try simp only [List.length_map] at h8);(try simp only [List.length_map] at h9);omega
       subst hge2
       refine ⟨fun h=>h,fun h=>h,fun h=>by first | exact h | (rw [h];rfl) | simp_all,fun h=>h,fun h=>h,fun h=>h,?_⟩
       · have e:shHs hs ms=(if (if decide ((hs.length:Int)<=4)=true then true else (hs.length:Int) == 17)=true then decide ((ms.length:Int)<=5) else false):=by rw [shHs,if_neg (by rw [fi_none ha];simp),if_neg (by rw [fi_none ha2];simp)]
         rw [List.length_map,List.length_map,e]
 exact c_of Tryz.f56 (fzB (mkB sp56 56 [(4,3,rdL 3 encHm hs 3 true),(9,3,rdL 1 encLs ms 1 false)] (la56 hs ms))) (by kernel_rfl) (by kernel_rfl) (by kernel_rfl) (by kernel_rfl) key (by kernel_rfl)
def la59 (hs:List Hm):LA:={
 pre:=[.own 3 39 3,.reno 3 1,.keep [3,6,7,8] [1],.bound 2],post:=[.reno 3 1,.keep [3,6,7,8] [1],.bound 2]
 Gh:=Nat
 st:=fun i=>⟨[(3,.own 1 ((hs.take i).map encHm).length),(6,.sl 3 (hs.map encHm)),(7,.i (hs.map encHm).length),(8,.i i)],[(1,.buf 39 3 ((hs.take i).map encHm))],2⟩
 ok:=fun i=>i<=hs.length
 ms:=fun i=>hs.length-i }
def sp59:Nat->List AV->Option AV
 | 18,[.agg c]=>some (.agg c)
 | 140,[.agg c]=>some (.agg c)
 | 22,[.sl _ rows]=>some (.sl 19 rows)
 | n,x=>spW n x
theorem c59 (hs:List Hm) (hh:hs.length<=1000) (hw:∀ h,h ∈ hs->h.ws.length<=1000):PCall Tryz.prog G0 59 [.sl 3 (hs.map encHm)] (.fresh 39 3 (hs.map encHm)):=by
 have key :
  (∃ (g:Nat),g<=hs.length∧AS.mk [(3,AV.own 1 0),(6,AV.sl 3 (List.map encHm hs)),(7,AV.i (↑(List.map encHm hs).length:Int)),(8,AV.i 0)] [(1,ABlk.buf 39 3 [])] 2=AS.mk [(3,AV.own 1 (List.map encHm (List.take g
  hs)).length),(6,AV.sl 3 (List.map encHm hs)),(7,AV.i (↑(List.map encHm hs).length:Int)),(8,AV.i (g:Int))] [(1,ABlk.buf 39 3 (List.map encHm (List.take g hs)))] 2)∧∀ (g:Nat),g<=hs.length->(decide ((g:Int) <
  (↑(List.map encHm hs).length:Int))=true->(0:Int)<=(g:Int)∧(g:Int) < (↑(List.map encHm hs).length:Int)∧AV.agg (nthR (List.map encHm hs) (g:Int).toNat)=AV.agg (encHm (hs.getD (g:Int).toNat default)) ∧
  (List.map encHm (List.take g hs)).length+1<=9223372036854775807∧((List.map encHm (List.take g hs)).length+1) * 48<=140737488355328∧PCall Tryz.prog G0 18 [AV.agg (encHm (hs.getD (g:Int).toNat default))] (AV.agg (encHm
  (hs.getD (g:Int).toNat default)))∧In64 ((g:Int)+1)∧∃ (g':Nat),g'<=hs.length∧hs.length-g' < hs.length-g∧AS.mk [(3,AV.own 1 ((List.map encHm (List.take g hs)).length+1)),(6,AV.sl 3 (List.map encHm hs)),
  (7,AV.i (↑(List.map encHm hs).length:Int)),(8,AV.i ((g:Int)+1))] [(1,ABlk.buf 39 3 (List.map encHm (List.take g hs)++[(encHm (hs.getD (g:Int).toNat default))]))] 2=AS.mk [(3,AV.own 1 (List.map encHm (List.take g'
  hs)).length),(6,AV.sl 3 (List.map encHm hs)),(7,AV.i (↑(List.map encHm hs).length:Int)),(8,AV.i (↑g':Int))] [(1,ABlk.buf 39 3 (List.map encHm (List.take g' hs)))] 2)∧(decide ((g:Int) < (↑(List.map encHm hs).length :
  Int))=false->AV.fresh 39 3 (List.map encHm (List.take g hs))=AV.fresh 39 3 (List.map encHm hs)):=by
   have:(List.map encHm hs).length=hs.length:=by simp only [List.length_map]
   refine ⟨⟨0,by omega,rfl⟩,fun g hg=>⟨fun hd=>?_,fun hd=>?_⟩⟩
   · have hlt:g < hs.length:=by have h9:=of_decide_eq_true hd;have h8:=hg;(try simp only [List.length_map] at h8);(try simp only [List.length_map] at h9);omega
     have:(List.map encHm (List.take g hs)).length=g:=by simp only [List.length_map,List.length_take];omega
     try rw [show (g:Int).toNat=g from Int.toNat_natCast g]
     refine ⟨(by omega),(by omega),congrArg AV.agg (row_at encHm hlt),(by omega),(by omega),(c18 _ (hw _ (getD_mem hlt))),(by unfold In64;omega),⟨g+1,by omega,by omega,?_⟩⟩
     · first | (rw [<- take_succ_map _ _ hlt,List.length_append];rfl) | (rw [<- take_succ _ hlt,List.length_append];rfl)
   · have hge:g=hs.length:=by have h9:=of_decide_eq_false hd;have h8:=hg;(try simp only [List.length_map] at h8);(try simp only [List.length_map] at h9);omega
     subst hge
     exact (by rw [List.take_length])
 exact c_of Tryz.f59 (fzB (mkB sp59 59 [(4,1,rdL 3 encHm hs 3 true)] (la0 (la59 hs)))) (by kernel_rfl) (by kernel_rfl) (by kernel_rfl) (by kernel_rfl) key (by kernel_rfl)
def la60 (ms:List (List Ms)):LA:={
 pre:=[.own 3 48 1,.reno 3 1,.keep [3,6,7,8] [1],.bound 2],post:=[.reno 3 1,.keep [3,6,7,8] [1],.bound 2]
 Gh:=Nat
 st:=fun i=>⟨[(3,.own 1 ((ms.take i).map encLs).length),(6,.sl 1 (ms.map encLs)),(7,.i (ms.map encLs).length),(8,.i i)],[(1,.buf 48 1 ((ms.take i).map encLs))],2⟩
 ok:=fun i=>i<=ms.length
 ms:=fun i=>ms.length-i }
theorem c60 (ms:List (List Ms)) (hh:ms.length<=1000) (hw:∀ x,x ∈ ms->x.length<=1000):PCall Tryz.prog G0 60 [.sl 1 (ms.map encLs)] (.fresh 48 1 (ms.map encLs)):=by
 have key :
  (∃ (g:Nat),g<=ms.length∧AS.mk [(3,AV.own 1 0),(6,AV.sl 1 (List.map encLs ms)),(7,AV.i (↑(List.map encLs ms).length:Int)),(8,AV.i 0)] [(1,ABlk.buf 48 1 [])] 2=AS.mk [(3,AV.own 1 (List.map encLs (List.take g
  ms)).length),(6,AV.sl 1 (List.map encLs ms)),(7,AV.i (↑(List.map encLs ms).length:Int)),(8,AV.i (g:Int))] [(1,ABlk.buf 48 1 (List.map encLs (List.take g ms)))] 2)∧∀ (g:Nat),g<=ms.length->(decide ((g:Int) <
  (↑(List.map encLs ms).length:Int))=true->(0:Int)<=(g:Int)∧(g:Int) < (↑(List.map encLs ms).length:Int)∧nth (nthR (List.map encLs ms) (g:Int).toNat) 0=AV.sl 19 (List.map encMs (ms.getD (g:Int).toNat [])) ∧
  (List.map encLs (List.take g ms)).length+1<=9223372036854775807∧((List.map encLs (List.take g ms)).length+1) * 24<=140737488355328∧PCall Tryz.prog G0 22 [AV.sl 19 (List.map encMs (ms.getD (g:Int).toNat []))] (AV.sl 19
  (List.map encMs (ms.getD (g:Int).toNat [])))∧In64 ((g:Int)+1)∧∃ (g':Nat),g'<=ms.length∧ms.length-g' < ms.length-g∧AS.mk [(3,AV.own 1 ((List.map encLs (List.take g ms)).length+1)),(6,AV.sl 1 (List.map
  encLs ms)),(7,AV.i (↑(List.map encLs ms).length:Int)),(8,AV.i ((g:Int)+1))] [(1,ABlk.buf 48 1 (List.map encLs (List.take g ms)++[[AV.sl 19 (List.map encMs (ms.getD (g:Int).toNat []))]]))] 2=AS.mk [(3,AV.own 1
  (List.map encLs (List.take g' ms)).length),(6,AV.sl 1 (List.map encLs ms)),(7,AV.i (↑(List.map encLs ms).length:Int)),(8,AV.i (↑g':Int))] [(1,ABlk.buf 48 1 (List.map encLs (List.take g' ms)))] 2)∧(decide ((g:Int) <
  (↑(List.map encLs ms).length:Int))=false->AV.fresh 48 1 (List.map encLs (List.take g ms))=AV.fresh 48 1 (List.map encLs ms)):=by
   have:(List.map encLs ms).length=ms.length:=by simp only [List.length_map]
   refine ⟨⟨0,by omega,rfl⟩,fun g hg=>⟨fun hd=>?_,fun hd=>?_⟩⟩
   · have hlt:g < ms.length:=by have h9:=of_decide_eq_true hd;have h8:=hg;(try simp only [List.length_map] at h8);(try simp only [List.length_map] at h9);omega
     have:(List.map encLs (List.take g ms)).length=g:=by simp only [List.length_map,List.length_take];omega
     try rw [show (g:Int).toNat=g from Int.toNat_natCast g]
     refine ⟨(by omega),(by omega),congrArg (fun r=>nth r 0) (row_at encLs hlt),(by omega),(by omega),((c22 _ (hw _ (getD_mem hlt))).un),(by unfold In64;omega),⟨g+1,by omega,by omega,?_⟩⟩
     · first | (rw [<- take_succ_map _ _ hlt,List.length_append];rfl) | (rw [<- take_succ _ hlt,List.length_append];rfl)
   · have hge:g=ms.length:=by have h9:=of_decide_eq_false hd;have h8:=hg;(try simp only [List.length_map] at h8);(try simp only [List.length_map] at h9);omega
     subst hge
     exact (by rw [List.take_length])
 exact c_of Tryz.f60 (fzB (mkB sp59 60 [(4,1,rdL 1 encLs ms 1 false)] (la0 (la60 ms)))) (by kernel_rfl) (by kernel_rfl) (by kernel_rfl) (by kernel_rfl) key (by kernel_rfl)
theorem c140 (x:Of) (hg0:x.g.length<=1000):PCall Tryz.prog G0 140 [.agg (encOf x)] (.agg (encOf x)):=by
 have key :
  0+(List.map encI x.g).length<=9223372036854775807∧(0+(List.map encI x.g).length) * 8<=140737488355328∧AV.agg [AV.str x.hm,AV.str x.zn,AV.sl 1 ([]++List.map encI x.g),AV.i x.a]=AV.agg (encOf x):=by
   have:(List.map encI x.g).length=x.g.length:=by simp only [List.length_map]
   refine ⟨(by omega),(by omega),?_⟩
   · rfl
 exact c_of Tryz.f140 (fzB (mkB spW 140 [] noLa)) (by kernel_rfl) (by kernel_rfl) (by kernel_rfl) (by kernel_rfl) key (by kernel_rfl)
def la62 (l:List Of):LA:={
 pre:=[.own 3 160 4,.reno 3 1,.keep [3,6,7,8] [1],.bound 2],post:=[.reno 3 1,.keep [3,6,7,8] [1],.bound 2]
 Gh:=Nat
 st:=fun i=>⟨[(3,.own 1 ((l.take i).map encOf).length),(6,.sl 4 (l.map encOf)),(7,.i (l.map encOf).length),(8,.i i)],[(1,.buf 160 4 ((l.take i).map encOf))],2⟩
 ok:=fun i=>i<=l.length
 ms:=fun i=>l.length-i }
theorem c62 (l:List Of) (hl:l.length<=1000) (hgl:∀ x,x ∈ l->x.g.length<=1000):PCall Tryz.prog G0 62 [.sl 4 (l.map encOf)] (.fresh 160 4 (l.map encOf)):=by
 have key :
  (∃ (g:Nat),g<=l.length∧AS.mk [(3,AV.own 1 0),(6,AV.sl 4 (List.map encOf l)),(7,AV.i (↑(List.map encOf l).length:Int)),(8,AV.i 0)] [(1,ABlk.buf 160 4 [])] 2=AS.mk [(3,AV.own 1 (List.map encOf (List.take g
  l)).length),(6,AV.sl 4 (List.map encOf l)),(7,AV.i (↑(List.map encOf l).length:Int)),(8,AV.i (g:Int))] [(1,ABlk.buf 160 4 (List.map encOf (List.take g l)))] 2)∧∀ (g:Nat),g<=l.length->(decide ((g:Int) <
  (↑(List.map encOf l).length:Int))=true->(0:Int)<=(g:Int)∧(g:Int) < (↑(List.map encOf l).length:Int)∧AV.agg (nthR (List.map encOf l) (g:Int).toNat)=AV.agg (encOf (l.getD (g:Int).toNat default)) ∧
  (List.map encOf (List.take g l)).length+1<=9223372036854775807∧((List.map encOf (List.take g l)).length+1) * 64<=140737488355328∧PCall Tryz.prog G0 140 [AV.agg (encOf (l.getD (g:Int).toNat default))] (AV.agg (encOf
  (l.getD (g:Int).toNat default)))∧In64 ((g:Int)+1)∧∃ (g':Nat),g'<=l.length∧l.length-g' < l.length-g∧AS.mk [(3,AV.own 1 ((List.map encOf (List.take g l)).length+1)),(6,AV.sl 4 (List.map encOf l)),(7,
  AV.i (↑(List.map encOf l).length:Int)),(8,AV.i ((g:Int)+1))] [(1,ABlk.buf 160 4 (List.map encOf (List.take g l)++[(encOf (l.getD (g:Int).toNat default))]))] 2=AS.mk [(3,AV.own 1 (List.map encOf (List.take g'
  l)).length),(6,AV.sl 4 (List.map encOf l)),(7,AV.i (↑(List.map encOf l).length:Int)),(8,AV.i (↑g':Int))] [(1,ABlk.buf 160 4 (List.map encOf (List.take g' l)))] 2)∧(decide ((g:Int) < (↑(List.map encOf l).length :
  Int))=false->AV.fresh 160 4 (List.map encOf (List.take g l))=AV.fresh 160 4 (List.map encOf l)):=by
   have:(List.map encOf l).length=l.length:=by simp only [List.length_map]
   refine ⟨⟨0,by omega,rfl⟩,fun g hg=>⟨fun hd=>?_,fun hd=>?_⟩⟩
   · have hlt:g < l.length:=by have h9:=of_decide_eq_true hd;have h8:=hg;(try simp only [List.length_map] at h8);(try simp only [List.length_map] at h9);omega
     have:(List.map encOf (List.take g l)).length=g:=by simp only [List.length_map,List.length_take];omega
     try rw [show (g:Int).toNat=g from Int.toNat_natCast g]
     refine ⟨(by omega),(by omega),congrArg AV.agg (row_at encOf hlt),(by omega),(by omega),(c140 _ (hgl _ (getD_mem hlt))),(by unfold In64;omega),⟨g+1,by omega,by omega,?_⟩⟩
     · first | (rw [<- take_succ_map _ _ hlt,List.length_append];rfl) | (rw [<- take_succ _ hlt,List.length_append];rfl)
   · have hge:g=l.length:=by have h9:=of_decide_eq_false hd;have h8:=hg;(try simp only [List.length_map] at h8);(try simp only [List.length_map] at h9);omega
     subst hge
     exact (by rw [List.take_length])
 exact c_of Tryz.f62 (fzB (mkB sp59 62 [(4,1,rdL 4 encOf l 4 true)] (la0 (la62 l)))) (by kernel_rfl) (by kernel_rfl) (by kernel_rfl) (by kernel_rfl) key (by kernel_rfl)
def la67 (l:List Of):LA:={
 pre:=[.own 3 164 4,.reno 3 1,.keep [3,6,7,8] [1],.bound 2],post:=[.reno 3 1,.keep [3,6,7,8] [1],.bound 2]
 Gh:=Nat
 st:=fun i=>⟨[(3,.own 1 ((l.take i).map encOf).length),(6,.sl 4 (l.map encOf)),(7,.i (l.map encOf).length),(8,.i i)],[(1,.buf 164 4 ((l.take i).map encOf))],2⟩
 ok:=fun i=>i<=l.length
 ms:=fun i=>l.length-i }
theorem c67 (l:List Of) (hl:l.length<=1000):PCall Tryz.prog G0 67 [.sl 4 (l.map encOf)] (.fresh 164 4 (l.map encOf)):=by
 have key :
  (∃ (g:Nat),g<=l.length∧AS.mk [(3,AV.own 1 0),(6,AV.sl 4 (List.map encOf l)),(7,AV.i (↑(List.map encOf l).length:Int)),(8,AV.i 0)] [(1,ABlk.buf 164 4 [])] 2=AS.mk [(3,AV.own 1 (List.map encOf (List.take g
  l)).length),(6,AV.sl 4 (List.map encOf l)),(7,AV.i (↑(List.map encOf l).length:Int)),(8,AV.i (g:Int))] [(1,ABlk.buf 164 4 (List.map encOf (List.take g l)))] 2)∧∀ (g:Nat),g<=l.length->(decide ((g:Int) <
  (↑(List.map encOf l).length:Int))=true->(0:Int)<=(g:Int)∧(g:Int) < (↑(List.map encOf l).length:Int)∧AV.agg (nthR (List.map encOf l) (g:Int).toNat)=AV.agg (encOf (l.getD (g:Int).toNat default)) ∧
  (List.map encOf (List.take g l)).length+1<=9223372036854775807∧((List.map encOf (List.take g l)).length+1) * 64<=140737488355328∧In64 ((g:Int)+1)∧∃ (g':Nat),g'<=l.length∧l.length-g' < l.length-g∧AS.mk
  [(3,AV.own 1 ((List.map encOf (List.take g l)).length+1)),(6,AV.sl 4 (List.map encOf l)),(7,AV.i (↑(List.map encOf l).length:Int)),(8,AV.i ((g:Int)+1))] [(1,ABlk.buf 164 4 (List.map encOf (List.take g l)++[(encOf
  (l.getD (g:Int).toNat default))]))] 2=AS.mk [(3,AV.own 1 (List.map encOf (List.take g' l)).length),(6,AV.sl 4 (List.map encOf l)),(7,AV.i (↑(List.map encOf l).length:Int)),(8,AV.i (↑g':Int))] [(1,ABlk.buf 164 4
  (List.map encOf (List.take g' l)))] 2)∧(decide ((g:Int) < (↑(List.map encOf l).length:Int))=false->AV.fresh 164 4 (List.map encOf (List.take g l))=AV.fresh 164 4 (List.map encOf l)):=by
   have:(List.map encOf l).length=l.length:=by simp only [List.length_map]
   refine ⟨⟨0,by omega,rfl⟩,fun g hg=>⟨fun hd=>?_,fun hd=>?_⟩⟩
   · have hlt:g < l.length:=by have h9:=of_decide_eq_true hd;have h8:=hg;(try simp only [List.length_map] at h8);(try simp only [List.length_map] at h9);omega
     have:(List.map encOf (List.take g l)).length=g:=by simp only [List.length_map,List.length_take];omega
     try rw [show (g:Int).toNat=g from Int.toNat_natCast g]
     refine ⟨(by omega),(by omega),congrArg AV.agg (row_at encOf hlt),(by omega),(by omega),(by unfold In64;omega),⟨g+1,by omega,by omega,?_⟩⟩
     · first | (rw [<- take_succ_map _ _ hlt,List.length_append];rfl) | (rw [<- take_succ _ hlt,List.length_append];rfl)
   · have hge:g=l.length:=by have h9:=of_decide_eq_false hd;have h8:=hg;(try simp only [List.length_map] at h8);(try simp only [List.length_map] at h9);omega
     subst hge
     exact (by rw [List.take_length])
 exact c_of Tryz.f67 (fzB (mkB spW 67 [(4,1,rdL 4 encOf l 4 true)] (la0 (la67 l)))) (by kernel_rfl) (by kernel_rfl) (by kernel_rfl) (by kernel_rfl) key (by kernel_rfl)
def pFH (hs:List Hm) (s:List UInt8) (j:Nat):Bool:=(hs.getD j default).nm == s
def la141 (hs:List Hm) (s:List UInt8):LA:={
 pre:=[.keep [0,1,5] [],.bound 1],post:=[.keep [0,1,5] [],.bound 1]
 Gh:=Nat
 st:=fun i=>⟨[(0,.sl 3 (hs.map encHm)),(1,.str s),(5,.i i)],[],1⟩
 ok:=fun i=>i<=hs.length∧∀ j,j < i->pFH hs s j=false
 ms:=fun i=>hs.length-i }
theorem c141 (hs:List Hm) (s:List UInt8) (hh:hs.length<=1000):PCall Tryz.prog G0 141 [.sl 3 (hs.map encHm),.str s] (.i (fiI (pFH hs s) hs.length)):=by
 have key :
  (∃ (g:Nat),(g<=hs.length∧∀ (j:Nat),j < g->pFH hs s j=false)∧AS.mk [(0,AV.sl 3 (List.map encHm hs)),(1,AV.str s),(5,AV.i 0)] [] 1=AS.mk [(0,AV.sl 3 (List.map encHm hs)),(1,AV.str s),(5,AV.i (g:Int))] []
  1)∧∀ (g:Nat),(g<=hs.length∧∀ (j:Nat),j < g->pFH hs s j=false)->(decide ((g:Int) < (↑(List.map encHm hs).length:Int))=true->(0:Int)<=(g:Int)∧(g:Int) < (↑(List.map encHm hs).length:Int)∧nth (nthR
  (List.map encHm hs) (g:Int).toNat) 0=AV.str (hs.getD (g:Int).toNat default).nm∧(((hs.getD (g:Int).toNat default).nm == s)=true->AV.i (g:Int)=AV.i (fiI (pFH hs s) hs.length))∧(((hs.getD (g:Int).toNat
  default).nm == s)=false->In64 ((g:Int)+1)∧∃ (g':Nat),(g'<=hs.length∧∀ (j:Nat),j < g'->pFH hs s j=false)∧hs.length-g' < hs.length-g∧AS.mk [(0,AV.sl 3 (List.map encHm hs)),(1,AV.str s),(5,AV.i ((↑g
  : Int)+1))] [] 1=AS.mk [(0,AV.sl 3 (List.map encHm hs)),(1,AV.str s),(5,AV.i (↑g':Int))] [] 1))∧(decide ((g:Int) < (↑(List.map encHm hs).length:Int))=false->AV.i (-1)=AV.i (fiI (pFH hs s) hs.length)):=by
   have:(List.map encHm hs).length=hs.length:=by simp only [List.length_map]
   refine ⟨⟨0,⟨by omega,by intros;omega⟩,rfl⟩,fun g ⟨hg,ha⟩=>⟨fun hd=>?_,fun hd=>?_⟩⟩
   · have hlt:g < hs.length:=by have h9:=of_decide_eq_true hd;have h8:=hg;(try simp only [List.length_map] at h8);(try simp only [List.length_map] at h9);omega
     try rw [show (g:Int).toNat=g from Int.toNat_natCast g]
     refine ⟨(by omega),(by omega),congrArg (fun r=>nth r 0) (row_at encHm hlt),fun h1=>?_,fun h1=>⟨(by unfold In64;omega),⟨g+1,⟨by omega,all_ext ha h1⟩,by omega,rfl⟩⟩⟩
     · rw [fiI,fi_some ha h1 hlt,if_neg (by omega)]
   · have hge:g=hs.length:=by have h9:=of_decide_eq_false hd;have h8:=hg;(try simp only [List.length_map] at h8);(try simp only [List.length_map] at h9);omega
     subst hge
     rw [fiI,fi_none ha,if_pos rfl]
 exact c_of Tryz.f141 (fzB (mkB spW 141 [(4,4,rdL 3 encHm hs 1 false)] (la0 (la141 hs s)))) (by kernel_rfl) (by kernel_rfl) (by kernel_rfl) (by kernel_rfl) key (by kernel_rfl)
def sameO (x y:Of):Bool:=if (if (if (x.hm == y.hm)=true then x.zn == y.zn else false)=true then x.a == y.a else false)=true then x.g == y.g else false
def sp89:Nat->List AV->Option AV
 | 47,[.sl _ a,.sl _ b]=>some (.bool (a.map hdI == b.map hdI))
 | n,x=>spW n x
abbrev zc89a (x:Of) (y:Of):=if (x.hm == y.hm)=true then x.zn == y.zn else false
abbrev zc89b (x:Of) (y:Of):=(if (zc89a x y)=true then x.a == y.a else false)=true->(if (zc89a x y)=true then x.a == y.a else false)=true
theorem c89 (x y:Of) (hg0:x.g.length<=1000):PCall Tryz.prog G0 89 [.agg (encOf x),.agg (encOf y)] (.bool (sameO x y)):=by
 have key :
  ((x.hm == y.hm)=true->(x.hm == y.hm)=true)∧((x.hm == y.hm)=true->(x.hm == y.hm)=true)∧((x.hm == y.hm)=true->(x.hm == y.hm)=true)∧((x.hm == y.hm)=true->(x.hm == y.hm)=true)∧((x.hm == y.hm)=true->(x.hm
  == y.hm)=true)∧((zc89a x y)=true->(zc89a x y)=true)∧((zc89a x y)=true->(zc89a x y)=true)∧((zc89a x y)=true->(zc89a x y)=true)∧((zc89a x y)=true->(zc89a x y)=true)∧((zc89a x y)=true->(zc89a x y) =
  true)∧(zc89b x y)∧(zc89b x y)∧(zc89b x y)∧(zc89b x y)∧(zc89b x y)∧impB (if (zc89a x y)=true then x.a == y.a else false) (PCall Tryz.prog G0 47 [AV.sl 1 (List.map encI x.g),AV.sl 1 (List.map encI y.g)] (AV.bool
  (List.map hdI (List.map encI x.g) == List.map hdI (List.map encI y.g))))∧AV.bool (if (if (zc89a x y)=true then x.a == y.a else false)=true then List.map hdI (List.map encI x.g) == List.map hdI (List.map encI y.g) else false)
  = AV.bool (sameO x y):=by
   delta zc89a zc89b
   refine ⟨fun h=>h,fun h=>h,fun h=>h,fun h=>h,fun h=>h,fun h=>h,fun h=>h,fun h=>h,fun h=>h,fun h=>h,fun h=>h,fun h=>h,fun h=>h,fun h=>h,fun h=>h,impB_iff.2 fun hb=>((by rw [hd_encI,hd_encI];exact c47 _ _ hg0)),?_⟩
   · rw [hd_encI,hd_encI]
     rfl
 exact c_of Tryz.f89 (fzB (mkB sp89 89 [] noLa)) (by kernel_rfl) (by kernel_rfl) (by kernel_rfl) (by kernel_rfl) key (by kernel_rfl)
def decOf:List AV->Of
 | [.str a,.str b,.sl _ g,.int _ n]=>⟨a,b,g.map hdI,n⟩
 | _=>default
theorem decOf_e (x:Of):decOf (encOf x)=x:=by
 show Of.mk x.hm x.zn ((x.g.map encI).map hdI) x.a=x
 rw [hd_encI]
end Go.Proofs.YtfoeefaamjknpaaGreatDoor
namespace Go.Proofs.YtfoeefaamjknpaaGreatDoor
open Go Go.Av Go.RowKit Go.ChangeShapes Go.WideShapes
theorem hm_row {r:List AV} (h:ASh T0 6 24 r):∃ x:Hm,r=encHm x∧True:=by
 have:=ash_shape 6 24 r (by kernel_rfl) h
 rw [show shapeT T0 6 24=[.str,.int .i64,.sl 4 177 25] by kernel_rfl] at this
 obtain ⟨_,_,rfl,⟨s,rfl,_⟩,_,_,rfl,⟨p,rfl,_⟩,_,_,rfl,⟨rw,rfl,hl,hr⟩,rfl⟩:=this
 obtain ⟨ws,rfl,_⟩:=rows_enc (enc:=encWn) (Q:=fun _=>True) (fun r hm=>wn_of (by kernel_rfl) (by kernel_rfl) (hr r hm))
 exact ⟨⟨s,p,ws⟩,rfl,trivial⟩
theorem ls_row {r:List AV} (h:ASh T0 6 25 r):∃ x:List Ms,r=encLs x∧x.length<=maxLen:=by
 have:=ash_shape 6 25 r (by kernel_rfl) h
 rw [show shapeT T0 6 25=[.sl 5 155 19] by kernel_rfl] at this
 obtain ⟨_,_,rfl,⟨rw,rfl,hl,hr⟩,rfl⟩:=this
 obtain ⟨l,rfl,_⟩:=rows_enc (enc:=encMs) (Q:=fun _=>True) (fun r hm=>ms_of (by kernel_rfl) (by kernel_rfl) (hr r hm))
 exact ⟨l,rfl,by simpa using hl⟩
theorem strt_arg {a:AV} (h:ASh1 T0 8 94 a):∃ (hs:List Hm) (ms:List (List Ms)),a=.agg [.sl 3 (hs.map encHm),.sl 1 (ms.map encLs)]∧hs.length<=maxLen∧ms.length<=maxLen∧∀ x,x ∈ ms->x.length<=maxLen:=by
 obtain ⟨l,rfl,h2⟩:=ash1_agg (cs:=[.sl 6 24 3,.sl 6 25 1])
  (ti:=⟨(.struct [(0,91,1),(1,92,1)]),2,48,true,[.ex (.slice none 0 0),.ex (.slice none 0 0)],true⟩)
  (by kernel_rfl) rfl (by kernel_rfl) (by kernel_rfl) h
 obtain ⟨_,_,rfl,⟨ra,rfl,hla,hra⟩,_,_,rfl,⟨rb,rfl,hlb,hrb⟩,rfl⟩:=h2
 obtain ⟨hs,rfl,_⟩:=rows_enc (enc:=encHm) (Q:=fun _=>True) (fun r hm=>hm_row (hra r hm))
 obtain ⟨ms,rfl,hq⟩:=rows_enc (enc:=encLs) (Q:=fun x=>x.length<=maxLen) (fun r hm=>ls_row (hrb r hm))
 exact ⟨hs,ms,rfl,by simpa using hla,by simpa using hlb,hq⟩
end Go.Proofs.YtfoeefaamjknpaaGreatDoor
namespace Go.Proofs.YtfoeefaamjknpaaGreatDoor
open Go Go.Av Go.RowKit Go.ChangeShapes Go.WideShapes
theorem wf8 {x:Int} (h:(Lit.int .u8 x).wf=true):0<=x∧x<=255:=by
 simp only [Lit.wf,Bool.and_eq_true,decide_eq_true_eq] at h
 exact h
theorem u82_arg {a:AV} (h:ASh1 T0 8 158 a):∃ x y:Int,a=.agg [.int .u8 x,.int .u8 y]∧(0<=x∧x<=255)∧(0<=y∧y<=255):=by
 obtain ⟨l,rfl,h2⟩:=ash1_agg (cs:=[.int .u8,.int .u8]) (ti:=⟨(.arr 2 5 1),2,2,true,[.int .u8 0,.int .u8 0],true⟩) (by kernel_rfl) rfl (by kernel_rfl) (by kernel_rfl) h
 obtain ⟨_,_,rfl,⟨x,rfl,hx⟩,_,_,rfl,⟨y,rfl,hy⟩,rfl⟩:=h2
 exact ⟨x,y,rfl,wf8 hx,wf8 hy⟩
end Go.Proofs.YtfoeefaamjknpaaGreatDoor
namespace Go.Proofs.YtfoeefaamjknpaaGreatDoor
open Go Go.Av Go.RowKit
def le2 (x y:Ch):Prop:=x.c < y.c ∨ (x.c=y.c∧x.u<=y.u)
theorem rc_t {x y:Ch} (h:rcB x y=true):le2 x y:=by
 unfold rcB at h
 unfold le2
 split at h
 · rename_i h1
   exact .inl (of_decide_eq_true h1)
 · split at h
   · rename_i h2
     have h2:=eq_of_beq h2
     split at h
     · rename_i h3
       have:=of_decide_eq_true h3
       exact .inr ⟨h2,by omega⟩
     · split at h
       · rename_i h4
         exact .inr ⟨h2,Int.le_of_eq (eq_of_beq h4)⟩
       · cases h
   · cases h
theorem tb_t {h:Hm} {l:List Ms} {t:Int} {o:Option Nat} {b:Nat} (e:taB h l t o b=true):afU h l (bsM l b)<=t∧∀ a,o=some a->le2 (chM h l (bsM l b)) (chM h l (bsM l a)):=by
 unfold taB at e
 split at e
 · rename_i h1
   refine ⟨of_decide_eq_true h1,fun a ha=>?_⟩
   subst ha
   rw [if_neg (show ¬ (!(some a).isSome)=true from Bool.false_ne_true),cmC_r] at e
   exact rc_t e
 · cases e
theorem fold_u {h:Hm} {l:List Ms} {t:Int}:∀ (xs:List Nat) (o:Option Nat),(∀ a,o=some a->afU h l (bsM l a)<=t)->∀ a,xs.foldl (stB h l t) o=some a->afU h l (bsM l a)<=t
 | [],_,ho,a,e=>ho a e
 | x::xs,o,ho,a,e=>by
  refine fold_u xs (stB h l t o x) (fun b hb=>?_) a e
  unfold stB at hb
  split at hb
  · rename_i h1
    injection hb with hb
    rw [<- hb]
    exact (tb_t h1).1
  · exact ho b hb
theorem fold_mem {h:Hm} {l:List Ms} {t:Int}:∀ (xs:List Nat) (o:Option Nat) (a:Nat),xs.foldl (stB h l t) o=some a->a ∈ xs ∨ o=some a
 | [],_,_,e=>.inr e
 | x::xs,o,a,e=>by
  rcases fold_mem xs (stB h l t o x) a e with h1 | h1
  · exact .inl (List.mem_cons_of_mem _ h1)
  · unfold stB at h1
    split at h1
    · injection h1 with h1
      exact .inl (by rw [h1];exact List.mem_cons_self ..)
    · exact .inr h1
theorem bst_some {h:Hm} {l:List Ms} {t:Int} {a:Nat} (e:bst h l t=some a):a ∈ msk l∧fSet l (bsM l a)=0∧afU h l (bsM l a)<=t:=by
 have h1:a ∈ msk l:=by
  rcases fold_mem (msk l) none a e with h1 | h1
  · exact h1
  · cases h1
 exact ⟨h1,msk_z h1,fold_u (msk l) none (fun _ h=>by cases h) a e⟩
end Go.Proofs.YtfoeefaamjknpaaGreatDoor
