/-
  What chapter 2's lists of types and of flights return: copies, searches, sizes. What chapter 2's checks of flights return. What chapter 2's exposures of flights return: parts, total, loudest. SourceFlights returns true. No condition but the theorems' own.
-/
import Derived.Test.YtjhjmncjidbieaaGreatDoorPE
import Derived.Test.YtjhjmncjidbieaaGreatDoorAvD
import Derived.Test.YtjhjmncjidbieaaGreatDoorPD
import Derived.Shelf.Strings.Builder1
import Derived.Shelf.Strings.Builder2
import Derived.Shelf.Strings.OnBuilder
import Derived.Shelf.Small.Strs
import Derived.Shelf.Strconv.Itoa0
import Derived.Shelf.Strconv.Itoa1
import Derived.Shelf.LaysM
import Derived.Shelf.Strconv.Itoa2
import Derived.Shelf.Strconv.Itoa3
import Derived.Shelf.Strings.Search1
import Derived.Shelf.Strings.Search2
import Derived.Shelf.Strings.Search3
import Derived.Shelf.Strings.Count
import Derived.Shelf.Strings.Shaped
import Derived.Shelf.Strings.Split
import Derived.Shelf.Unicode.DecodeSlow
import Derived.Test.YtjhjmncjidbieaaGreatDoorProg
import Derived.Test.YtjhjmncjidbieaaGreatDoorPB
import Derived.Test.YtjhjmncjidbieaaGreatDoorPC
namespace Go.Proofs.YtjhjmncjidbieaaGreatDoor
open Go Go.Av Go.RowKit
structure Fl where
 n:List UInt8
 y:List UInt8
 tr:List Fx
 deriving Inhabited
def Jr(f:Fl):List AV:=[.str f.n,.str f.y,.sl 5 (f.tr.map Ja)]
theorem JG{α:Type}[Inhabited α]{l:List α}{i:Nat}(h:i < l.length):l.getD i default ∈ l:=by
 rw[Ka,Kj h]
 exact List.getElem_mem h
def fiN(p:Nat->Bool):Nat->Nat
 | 0=>0
 | n+1=>if fiN p n < n then fiN p n else if p n then n else n+1
theorem VG{p:Nat->Bool}:∀ {i:Nat},(∀ j,j < i->p j=false)->fiN p i=i
 | 0,_=>rfl
 | i+1,h=>by
  have h1:fiN p i=i:=VG fun j hj=>h j (by omega)
  simp only[fiN]
  rw[h1,if_neg (by omega),if_neg (by rw[h i (by omega)];exact Bool.false_ne_true)]
theorem VF{p:Nat->Bool}{i:Nat}(h:∀ j,j < i->p j=false)(hp:p i=true):∀ {m:Nat},i < m->fiN p m=i
 | 0,h0=>absurd h0 (by omega)
 | m+1,h0=>by
  simp only[fiN]
  by_cases e:i=m
  . subst e
    rw[VG h,if_neg (by omega),if_pos hp]
  rw[VF h hp (m:=m) (by omega),if_pos (by omega)]
def fiI(p:Nat->Bool)(n:Nat):Int:=if fiN p n=n then -1 else fiN p n
theorem JgT{p q:Nat->Bool}:∀ {n:Nat},(∀ j,j < n->p j=q j)->fiN p n=fiN q n
 | 0,_=>rfl
 | n+1,h=>by
  simp only[fiN]
  rw[JgT (n:=n) (fun j hj=>h j (by omega)),h n (by omega)]
theorem VH{p q:Nat->Bool}{n:Nat}(h:∀ j,j < n->p j=q j):fiI p n=fiI q n:=by
 unfold fiI
 rw[JgT h]
theorem fi_le{p:Nat->Bool}:∀ n,fiN p n<=n
 | 0=>Kr _
 | n+1=>by
  have:=fi_le (p:=p) n
  simp only[fiN]
  split
  . omega
  split <;> omega
theorem Jpr{p:Nat->Bool}:∀ {n:Nat},fiN p n < n->p (fiN p n)=true
 | n+1,h=>by
  simp only[fiN]at h ⊢
  split
  . rename_i h1
    exact Jpr h1
  rename_i h1
  rw[if_neg h1]at h
  split
  . assumption
  rename_i h2
  rw[if_neg h2]at h
  omega
theorem Jps{p:Nat->Bool}:∀ {n:Nat},¬ fiN p n < n->∀ j,j < n->p j=false
 | n+1,h,j,hj=>by
  simp only[fiN]at h
  split at h
  . omega
  rename_i h1
  split at h
  . omega
  rename_i h2
  by_cases e:j=n
  . rw[e];simpa using h2
  exact Jps h1 j (by omega)
theorem fi_ex{p:Nat->Bool}{n j:Nat}(hj:j < n)(hp:p j=true):fiN p n < n:=by
 refine Classical.byContradiction fun h=>?_
 rw[Jps h j hj]at hp
 cases hp
theorem Jfl{p:Nat->Bool}{n:Nat}:decide (fiI p n>=0)=decide (fiN p n < n):=by
 have:=fi_le (p:=p) n
 unfold fiI
 refine decide_eq_decide.2 ?_
 split <;> omega
theorem Jc0{α:Type}[Inhabited α]{l:List α}{q:α->Bool}{i:Nat}(hi:i<=l.length):(l.take i).any q=decide (fiN (fun j=>q (l.getD j default)) i < i):=by
 rw[Bool.eq_iff_iff,Ko]
 constructor
 . intro h
   obtain⟨x,hx,hq⟩:=List.any_eq_true.1 h
   obtain⟨j,hj,rfl⟩:=List.mem_iff_getElem.1 hx
   rw[Kg]at hj
   refine fi_ex (j:=j) (by omega) ?_
   rw[List.getElem_take]at hq
   rw[Ka,Kj (by omega)]
   exact hq
 intro h
 have hq:=Jpr h
 refine List.any_eq_true.2 ⟨_,?_,hq⟩
 generalize fiN (fun j=>q (l.getD j default)) i=j at h
 rw[Ka,Kj (show j < l.length by omega)]
 refine List.mem_iff_getElem.2 ⟨j,by rw[Kg];omega,by rw[List.getElem_take];rfl⟩
def pR(rows:List (List AV))(s:List UInt8)(i:Nat):Bool:=match nth (Jn rows i) 0 with
 | .str x=>x == s
 | _=>false
def pT(ts:List Ty)(s:List UInt8)(i:Nat):Bool:=(ts.getD i default).name == s
def pF(fs:List Fl)(s:List UInt8)(i:Nat):Bool:=(fs.getD i default).n == s
theorem pR_ty{ts:List Ty}{s:List UInt8}{i:Nat}(h:i < ts.length):pR (ts.map Jf) s i=pT ts s i:=by
 unfold pR
 rw[Jq Jf h]
 rfl
theorem pR_fl{fs:List Fl}{s:List UInt8}{i:Nat}(h:i < fs.length):pR (fs.map Jr) s i=pF fs s i:=by
 unfold pR
 rw[Jq Jr h]
 rfl
def rdN(f:Nat->List UInt8):List AV->Option AV
 | [.elt _ _ i _]=>some (.str (f i))
 | _=>none
def la131(ts:List Ty)(s:List UInt8):LA:={
 pre:=[.keep [0,1,5] [],.bound 1],post:=[.keep [0,1,5] [],.bound 1]
 Gh:=Nat
 st:=fun i=>⟨[(0,.sl 13 (ts.map Jf)),(1,.str s),(5,.i i)],[],1⟩
 ok:=fun i=>i<=ts.length/\∀ j,j < i->pT ts s j=false
 ms:=fun i=>ts.length-i }
theorem c131(ts:List Ty)(s:List UInt8)(hl:ts.length<=1000):P0 131 [.sl 13 (ts.map Jf),.str s] (.i (fiI (pT ts s) ts.length)):=by
 have key :
  (∃ (g:Nat),(g<=ts.length/\∀ (j:Nat),j < g->pT ts s j=false)/\AS.mk [(0,AV.sl 13 (List.map Jf ts)),(1,AV.str s),(5,AV.i 0)] [] 1=AS.mk [(0,AV.sl 13 (List.map Jf ts)),(1,AV.str s),(5,AV.i (g:Int))] []
  1)/\∀ (g:Nat),(g<=ts.length/\∀ (j:Nat),j < g->pT ts s j=false)->(decide ((g:Int) < ((List.map Jf ts).length:Int))=true->(0:Int)<=(g:Int)/\(g:Int) < ((List.map Jf ts).length:Int)/\nth (Jn
  (List.map Jf ts) (g:Int).toNat) 0=AV.str (ts.getD (g:Int).toNat default).name/\(((ts.getD (g:Int).toNat default).name == s)=true->AV.i (g:Int)=AV.i (fiI (pT ts s) ts.length))/\(((ts.getD (g:Int).toNat
  default).name == s)=false->Jg ((g:Int)+1)/\∃ (g':Nat),(g'<=ts.length/\∀ (j:Nat),j < g'->pT ts s j=false)/\ts.length-g' < ts.length-g/\AS.mk [(0,AV.sl 13 (List.map Jf ts)),(1,AV.str s),(5,AV.i
  ((g:Int)+1))] [] 1=AS.mk [(0,AV.sl 13 (List.map Jf ts)),(1,AV.str s),(5,AV.i (g':Int))] [] 1))/\(decide ((g:Int) < ((List.map Jf ts).length:Int))=false->AV.i (-1)=AV.i (fiI (pT ts s) ts.length)) :=
  by
   have hlm:(List.map Jf ts).length=ts.length:=Kb _
   refine⟨⟨0,⟨by omega,by intros;omega⟩,rfl⟩,fun g ⟨hg,ha⟩=>⟨fun hd=>?_,fun hd=>?_⟩⟩
   . rw[hlm]at hd
     have hlt:=Js hd
     refine⟨by omega,by omega,by rw[show Jn (List.map Jf ts) ((g:Int)).toNat=Jf (ts.getD g default)from Jq Jf hlt];rfl,fun hx=>?_,fun hx=>⟨by unfold Jg;omega,g+1,⟨hlt,fun j hj=>?_⟩,by omega,rfl⟩⟩
     . rw[fiI,VF ha (show pT ts s g=true from hx) hlt,if_neg (by omega)]
     by_cases e:j=g
     . rw[e];exact hx
     exact ha j (by omega)
   rw[hlm]at hd
   have e:=Jz hd hg
   subst e
   rw[fiI,VG ha,if_pos rfl]
 exact JU Tryz.f131 (mkB spR 131 [(4,4,rdN fun i=>(ts.getD i default).name)] (fun j=>if j.beq 0 then some (la131 ts s)else none)) key (by kernel_rfl)
def la83(fs:List Fl)(s:List UInt8):LA:={
 pre:=[.keep [0,1,5] [],.bound 1],post:=[.keep [0,1,5] [],.bound 1]
 Gh:=Nat
 st:=fun i=>⟨[(0,.sl 3 (fs.map Jr)),(1,.str s),(5,.i i)],[],1⟩
 ok:=fun i=>i<=fs.length/\∀ j,j < i->pF fs s j=false
 ms:=fun i=>fs.length-i }
abbrev Jox(fs:List Fl):=List.map Jr fs
theorem c83(fs:List Fl)(s:List UInt8)(hl:fs.length<=1000):P0 83 [.sl 3 (fs.map Jr),.str s] (.i (fiI (pF fs s) fs.length)):=by
 have key :
  (∃ (g:Nat),(g<=fs.length/\∀ (j:Nat),j < g->pF fs s j=false)/\AS.mk [(0,AV.sl 3 (Jox fs)),(1,AV.str s),(5,AV.i 0)] [] 1=AS.mk [(0,AV.sl 3 (Jox fs)),(1,AV.str s),(5,AV.i (g:Int))] [] 1)/\∀ (g:Nat),(g
  ≤ fs.length/\∀ (j:Nat),j < g->pF fs s j=false)->(decide ((g:Int) < ((Jox fs).length:Int))=true->(0:Int)<=(g:Int)/\(g:Int) < ((Jox fs).length:Int)/\nth (Jn (Jox fs) (g:Int).toNat) 0=AV.str
  (fs.getD (g:Int).toNat default).n/\(((fs.getD (g:Int).toNat default).n == s)=true->AV.i (g:Int)=AV.i (fiI (pF fs s) fs.length))/\(((fs.getD (g:Int).toNat default).n == s)=false->Jg ((g:Int)+1)/\∃ (g' :
  Nat),(g'<=fs.length/\∀ (j:Nat),j < g'->pF fs s j=false)/\fs.length-g' < fs.length-g/\AS.mk [(0,AV.sl 3 (Jox fs)),(1,AV.str s),(5,AV.i ((g:Int)+1))] [] 1=AS.mk [(0,AV.sl 3 (Jox fs)),(1,AV.str s),(5,
  AV.i (g':Int))] [] 1))/\(decide ((g:Int) < ((Jox fs).length:Int))=false->AV.i (-1)=AV.i (fiI (pF fs s) fs.length)):=by
   delta Jox
   have hlm:(List.map Jr fs).length=fs.length:=Kb _
   refine⟨⟨0,⟨by omega,by intros;omega⟩,rfl⟩,fun g ⟨hg,ha⟩=>⟨fun hd=>?_,fun hd=>?_⟩⟩
   . rw[hlm]at hd
     have hlt:=Js hd
     refine⟨by omega,by omega,by rw[show Jn (List.map Jr fs) ((g:Int)).toNat=Jr (fs.getD g default)from Jq Jr hlt];rfl,fun hx=>?_,fun hx=>⟨by unfold Jg;omega,g+1,⟨hlt,fun j hj=>?_⟩,by omega,rfl⟩⟩
     . rw[fiI,VF ha (show pF fs s g=true from hx) hlt,if_neg (by omega)]
     by_cases e:j=g
     . rw[e];exact hx
     exact ha j (by omega)
   rw[hlm]at hd
   have e:=Jz hd hg
   subst e
   rw[fiI,VG ha,if_pos rfl]
 exact JU Tryz.f83 (mkB spR 83 [(4,4,rdN fun i=>(fs.getD i default).n)] (fun j=>if j.beq 0 then some (la83 fs s)else none)) key (by kernel_rfl)
theorem c171(t:Ty)(s:List UInt8) :P0 171 [.agg (Jf t),.elt 1 [[.str s]] 0 0] (.bool (t.name == s)):=by
 have key :
  AV.bool (t.name == s)=AV.bool (t.name == s):=by
   rfl
 exact JU Tryz.f171 (mkB spR 171 [] QJ) key (by kernel_rfl)
def sp170:Nat->List AV->Option AV
 | 171,[.agg (.str n::_),.elt _ [[.str s]] _ _]=>some (.bool (n == s))
 | n,x=>spR n x
def la170(ts:List Ty)(s:List UInt8):LA:={
 pre:=[.keep [0,1,7,8] [],.bound 1],post:=[.keep [0,1,7,8] [],.bound 1]
 Gh:=Nat
 st:=fun i=>⟨[(0,.sl 13 (ts.map Jf)),(1,.fn (.func 171) [] [.elt 1 [[.str s]] 0 0]),(7,.i ts.length),(8,.i i)],[],1⟩
 ok:=fun i=>i<=ts.length/\∀ j,j < i->pT ts s j=false
 ms:=fun i=>ts.length-i }
abbrev Jep(ts:List Ty)(g:Nat):=ts.getD (g:Int).toNat default
abbrev Z32b(ts:List Ty)(g:Nat):=[AV.str (Jep ts g).name,AV.sl 1 (List.map Jh (Jep ts g).sh),AV.i (Jep ts g).d0,AV.i (Jep ts g).d1,AV.i (Jep ts g).d2,AV.i (Jep ts g).d3,AV.i (Jep ts g).d4,AV.i (Jep ts g).d5,AV.i (Jep ts g).d6,AV.i (Jep ts g).d7,AV.i (Jep ts g).side,AV.sl 1 (List.map Jh (Jep ts g).sq),AV.sl 2 (List.map Ji (Jep ts g).st)]
abbrev Jqr(ts:List Ty):=List.map Jf ts
abbrev Z32d(s:List UInt8):=[AV.elt 1 [[AV.str s]] 0 0]
theorem c170(ts:List Ty)(s:List UInt8)(hl:ts.length<=1000):P0 170 [.sl 13 (ts.map Jf),.fn (.func 171) [] [.elt 1 [[.str s]] 0 0]] (.i (fiI (pT ts s) ts.length)):=by
 have key :
  (∃ (g:Nat),(g<=ts.length/\∀ (j:Nat),j < g->pT ts s j=false)/\AS.mk [(0,AV.sl 13 (Jqr ts)),(1,AV.fn (Fn.func 171) [] (Z32d s)),(7,AV.i ((Jqr ts).length:Int)),(8,AV.i 0)] [] 1=AS.mk [(0,AV.sl 13 (Jqr ts)),
  (1,AV.fn (Fn.func 171) [] (Z32d s)),(7,AV.i (ts.length:Int)),(8,AV.i (g:Int))] [] 1)/\∀ (g:Nat),(g<=ts.length/\∀ (j:Nat),j < g->pT ts s j=false)->(decide ((g:Int) < (ts.length:Int))=true->(0:Int)
  ≤ (g:Int)/\(g:Int) < ((Jqr ts).length:Int)/\AV.agg (Jn (Jqr ts) (g:Int).toNat)=AV.agg (Z32b ts g)/\P0 171 [AV.agg (Z32b ts g),AV.elt 1 [[AV.str s]] 0 0] (AV.bool ((Jep ts g).name == s))/\(((Jep ts g).name
  == s)=true->AV.i (g:Int)=AV.i (fiI (pT ts s) ts.length))/\(((Jep ts g).name == s)=false->Jg ((g:Int)+1)/\∃ (g':Nat),(g'<=ts.length/\∀ (j:Nat),j < g'->pT ts s j=false)/\ts.length-g' < ts.length-g
  /\ AS.mk [(0,AV.sl 13 (Jqr ts)),(1,AV.fn (Fn.func 171) [] (Z32d s)),(7,AV.i (ts.length:Int)),(8,AV.i ((g:Int)+1))] [] 1=AS.mk [(0,AV.sl 13 (Jqr ts)),(1,AV.fn (Fn.func 171) [] (Z32d s)),(7,AV.i (↑ts.length :
  Int)),(8,AV.i (g':Int))] [] 1))/\(decide ((g:Int) < (ts.length:Int))=false->AV.i (-1)=AV.i (fiI (pT ts s) ts.length)):=by
   delta Jep Z32b Jqr Z32d
   have hlm:(List.map Jf ts).length=ts.length:=Kb _
   refine⟨⟨0,⟨by omega,by intros;omega⟩,by rw[hlm];rfl⟩,fun g ⟨hg,ha⟩=>⟨fun hd=>?_,fun hd=>?_⟩⟩
   . have hlt:=Js hd
     refine⟨by omega,by omega,congrArg AV.agg (Jq Jf hlt),c171 (ts.getD g default) s,fun hx=>?_,fun hx=>⟨by unfold Jg;omega,g+1,⟨hlt,fun j hj=>?_⟩,by omega,rfl⟩⟩
     . rw[fiI,VF ha (show pT ts s g=true from hx) hlt,if_neg (by omega)]
     by_cases e:j=g
     . rw[e];exact hx
     exact ha j (by omega)
   have e:=Jz hd hg
   subst e
   rw[fiI,VG ha,if_pos rfl]
 exact JU Tryz.f170 (mkB sp170 170 [(4,4,rdL 13 Jf ts 13 true)] (fun j=>if j.beq 0 then some (la170 ts s)else none)) key (by kernel_rfl)
def sp156(ts:List Ty):Nat->List AV->Option AV
 | 170,[_,.fn _ _ [.elt _ [[.str s]] _ _]]=>some (.i (fiI (pT ts s) ts.length))
 | n,x=>spR n x
theorem c156(ts:List Ty)(s:List UInt8)(hl:ts.length<=1000):P0 156 [.sl 13 (ts.map Jf),.str s] (.i (fiI (pT ts s) ts.length)):=by
 have key :
  P0 170 [AV.sl 13 (List.map Jf ts),AV.fn (Fn.func 171) [] [AV.elt 1 [[AV.str s]] 0 0]] (AV.i (fiI (pT ts s) ts.length))/\AV.i (fiI (pT ts s) ts.length)=AV.i (fiI (pT ts s) ts.length):=by
   exact⟨c170 ts s hl,rfl⟩
 exact JU Tryz.f156 (mkB (sp156 ts) 156 [] QJ) key (by kernel_rfl)
def sp62:Nat->List AV->Option AV
 | 28,[.agg c]=>some (.agg c)
 | 29,[.sl _ rows]=>some (.sl 5 rows)
 | n,x=>spR n x
def la62(ts:List Ty):LA:={
 pre:=[.own 3 60 13,.reno 3 1,.keep [3,6,7,8] [1],.bound 2],post:=[.reno 3 1,.keep [3,6,7,8] [1],.bound 2]
 Gh:=Nat
 st:=fun i=>⟨[(3,.own 1 ((ts.take i).map Jf).length),(6,.sl 13 (ts.map Jf)),(7,.i (ts.map Jf).length),(8,.i i)],[(1,.buf 60 13 ((ts.take i).map Jf))],2⟩
 ok:=fun i=>i<=(ts.map Jf).length
 ms:=fun i=>(ts.map Jf).length-i }
abbrev Jhn(ts:List Ty)(g:Nat):=ts.getD (g:Int).toNat default
abbrev Z33a(ts:List Ty)(g:Nat):=[AV.str (Jhn ts g).name,AV.sl 1 (List.map Jh (Jhn ts g).sh),AV.i (Jhn ts g).d0,AV.i (Jhn ts g).d1,AV.i (Jhn ts g).d2,AV.i (Jhn ts g).d3,AV.i (Jhn ts g).d4,AV.i (Jhn ts g).d5,AV.i (Jhn ts g).d6,AV.i (Jhn ts g).d7,AV.i (Jhn ts g).side,AV.sl 1 (List.map Jh (Jhn ts g).sq),AV.sl 2 (List.map Ji (Jhn ts g).st)]
abbrev Jiz(ts:List Ty):=List.map Jf ts
abbrev Jqq(ts:List Ty):=((Jiz ts).length:Int)
abbrev Js1(g:Nat)(ts:List Ty):=List.map Jf (List.take g ts)
theorem c62(ts:List Ty)(hl:ts.length<=1000)(hS:∀ t,t ∈ ts->ShortTy t):P0 62 [.sl 13 (ts.map Jf)] (.fresh 60 13 (ts.map Jf)):=by
 have key :
  (∃ (g:Nat),g<=(Jiz ts).length/\AS.mk [(3,AV.own 1 0),(6,AV.sl 13 (Jiz ts)),(7,AV.i (Jqq ts)),(8,AV.i 0)] [(1,ABlk.buf 60 13 [])] 2=AS.mk [(3,AV.own 1 (Js1 g ts).length),(6,AV.sl 13 (Jiz ts)),(7,AV.i (Jqq
  ts)),(8,AV.i (g:Int))] [(1,ABlk.buf 60 13 (Js1 g ts))] 2)/\∀ (g:Nat),g<=(Jiz ts).length->(decide ((g:Int) < (Jqq ts))=true->(0:Int)<=(g:Int)/\(g:Int) < (Jqq ts)/\AV.agg (Jn (Jiz ts) (↑g :
  Int).toNat)=AV.agg (Z33a ts g)/\(Js1 g ts).length+1<=9223372036854775807/\((Js1 g ts).length+1) * 160<=140737488355328/\P0 28 [AV.agg (Z33a ts g)] (AV.agg (Z33a ts g))/\Jg ((g:Int)+1)/\∃ (g':Nat),g'<=(Jiz
  ts).length/\(Jiz ts).length-g' < (Jiz ts).length-g/\AS.mk [(3,AV.own 1 ((Js1 g ts).length+1)),(6,AV.sl 13 (Jiz ts)),(7,AV.i (Jqq ts)),(8,AV.i ((g:Int)+1))] [(1,ABlk.buf 60 13 (List.map Jf (List.take g
  ts)++[(Z33a ts g)]))] 2=AS.mk [(3,AV.own 1 (List.map Jf (List.take g' ts)).length),(6,AV.sl 13 (Jiz ts)),(7,AV.i (Jqq ts)),(8,AV.i (g':Int))] [(1,ABlk.buf 60 13 (List.map Jf (List.take g' ts)))] 2)/\(decide
  ((g:Int) < (Jqq ts))=false->AV.fresh 60 13 (Js1 g ts)=AV.fresh 60 13 (Jiz ts)):=by
   delta Z33a Jhn Jqq Jiz Js1
   have hlm:(List.map Jf ts).length=ts.length:=Kb _
   refine⟨⟨0,by omega,rfl⟩,fun g hg=>⟨fun hd=>?_,fun hd=>?_⟩⟩
   . rw[hlm]at hd
     have hlt:=Js hd
     have hmem:=JG hlt
     have h2:=Xd Jf hlt
     have h7:(List.map Jf (List.take g ts)).length=g:=by rw[Kb,Kg];omega
     have h8:(List.map Jf (List.take (g+1) ts)).length=g+1:=by rw[Kb,Kg];omega
     refine⟨by omega,by omega,congrArg AV.agg (Jq Jf hlt),by omega,by omega,by
      have h:=hS _ hmem
      exact c28 (ts.getD g default) (by have:=h.st;omega) (by have:=h.s;omega) (by have:=h.q;omega) (fun x hx=>by have:=h.e x hx;omega),by unfold Jg;omega,g+1,by omega,by omega,?_⟩
     rw[h8,<- h2,h7]
     rfl
   rw[Jz hd hg,hlm,Ky]
 exact JU Tryz.f62 (fzB (mkB sp62 62 [(4,1,rdL 13 Jf ts 13 true)] (fun i=>if i.beq 0 then some (la62 ts)else none))) key (by kernel_rfl)
def la63(fs:List Fl):LA:={
 pre:=[.own 3 168 3,.reno 3 1,.keep [3,6,7,8] [1],.bound 2],post:=[.reno 3 1,.keep [3,6,7,8] [1],.bound 2]
 Gh:=Nat
 st:=fun i=>⟨[(3,.own 1 ((fs.take i).map Jr).length),(6,.sl 3 (fs.map Jr)),(7,.i (fs.map Jr).length),(8,.i i)],[(1,.buf 168 3 ((fs.take i).map Jr))],2⟩
 ok:=fun i=>i<=(fs.map Jr).length
 ms:=fun i=>(fs.map Jr).length-i }
abbrev Jiy(fs:List Fl):=List.map Jr fs
abbrev Jqp(fs:List Fl):=((Jiy fs).length:Int)
abbrev Juf(fs:List Fl)(g:Nat):=fs.getD (g:Int).toNat default
abbrev Js0(g:Nat)(fs:List Fl):=List.map Jr (List.take g fs)
abbrev Z34e(fs:List Fl)(g:Nat):=[AV.str (Juf fs g).n,AV.str (Juf fs g).y,AV.sl 5 (List.map Ja (Juf fs g).tr)]
theorem c63(fs:List Fl)(hl:fs.length<=1000)(hS:∀ f,f ∈ fs->f.tr.length<=1000):P0 63 [.sl 3 (fs.map Jr)] (.fresh 168 3 (fs.map Jr)):=by
 have key :
  (∃ (g:Nat),g<=(Jiy fs).length/\AS.mk [(3,AV.own 1 0),(6,AV.sl 3 (Jiy fs)),(7,AV.i (Jqp fs)),(8,AV.i 0)] [(1,ABlk.buf 168 3 [])] 2=AS.mk [(3,AV.own 1 (Js0 g fs).length),(6,AV.sl 3 (Jiy fs)),(7,AV.i (Jqp
  fs)),(8,AV.i (g:Int))] [(1,ABlk.buf 168 3 (Js0 g fs))] 2)/\∀ (g:Nat),g<=(Jiy fs).length->(decide ((g:Int) < (Jqp fs))=true->(0:Int)<=(g:Int)/\(g:Int) < (Jqp fs)/\AV.agg (Jn (Jiy fs) (↑g :
  Int).toNat)=AV.agg (Z34e fs g)/\(Js0 g fs).length+1<=9223372036854775807/\((Js0 g fs).length+1) * 56<=140737488355328/\P0 29 [AV.sl 5 (List.map Ja (Juf fs g).tr)] (AV.sl 5 (List.map Ja (Juf fs g).tr))/\Jg
  ((g:Int)+1)/\∃ (g':Nat),g'<=(Jiy fs).length/\(Jiy fs).length-g' < (Jiy fs).length-g/\AS.mk [(3,AV.own 1 ((Js0 g fs).length+1)),(6,AV.sl 3 (Jiy fs)),(7,AV.i (Jqp fs)),(8,AV.i ((g:Int)+1))] [(1,
  ABlk.buf 168 3 (List.map Jr (List.take g fs)++[(Z34e fs g)]))] 2=AS.mk [(3,AV.own 1 (List.map Jr (List.take g' fs)).length),(6,AV.sl 3 (Jiy fs)),(7,AV.i (Jqp fs)),(8,AV.i (g':Int))] [(1,ABlk.buf 168 3
  (List.map Jr (List.take g' fs)))] 2)/\(decide ((g:Int) < (Jqp fs))=false->AV.fresh 168 3 (Js0 g fs)=AV.fresh 168 3 (Jiy fs)):=by
   delta Jqp Juf Jiy Js0 Z34e
   have hlm:(List.map Jr fs).length=fs.length:=Kb _
   refine⟨⟨0,by omega,rfl⟩,fun g hg=>⟨fun hd=>?_,fun hd=>?_⟩⟩
   . rw[hlm]at hd
     have hlt:=Js hd
     have hmem:=JG hlt
     have h2:=Xd Jr hlt
     have h7:(List.map Jr (List.take g fs)).length=g:=by rw[Kb,Kg];omega
     have h8:(List.map Jr (List.take (g+1) fs)).length=g+1:=by rw[Kb,Kg];omega
     refine⟨by omega,by omega,congrArg AV.agg (Jq Jr hlt),by omega,by omega,(c29 _ (hS _ hmem)).un,by unfold Jg;omega,g+1,by omega,by omega,?_⟩
     rw[h8,<- h2,h7]
     rfl
   rw[Jz hd hg,hlm,Ky]
 exact JU Tryz.f63 (fzB (mkB sp62 63 [(4,1,rdL 3 Jr fs 3 true)] (fun i=>if i.beq 0 then some (la63 fs)else none))) key (by kernel_rfl)
def Jjt(f:Fl):Bool:=!(if(if !decide (f.tr.length<=17)then true else decide ((f.n.length:Int) > 40))then true else decide ((f.y.length:Int) > 40))
def szOK(n m:Int):Bool:=if(if decide (n<=4)then true else n == 9)then(if decide (m<=4)then true else m == 17)else false
def sSF(ts:List Ty)(fs:List Fl):Bool:=(List.range ts.length).all (fun i=>Qg (ts.getD i default)) && ((List.range fs.length).all (fun i=>Jjt (fs.getD i default)) && szOK ts.length fs.length)
def Jl8(r:List AV):Int:=cI [r] 0
def JrZ:List AV->Sg
 | [.int _ p,.sl _ rows]=>⟨p,rows.map Jl8⟩
 | _=>default
def Uk:List AV->Ty
 | [.str n,.sl _ sh,.int _ a,.int _ b,.int _ c,.int _ d,.int _ e,.int _ f,.int _ g,.int _ h,.int _ s,.sl _ sq,.sl _ st]=>⟨n,sh.map Jl8,a,b,c,d,e,f,g,h,s,sq.map Jl8,st.map JrZ⟩
 | _=>default
theorem XB{α:Type}{enc:α->List AV}{dec:List AV->α}(h:∀ x,dec (enc x)=x)(l:List α):(l.map enc).map dec=l:=by
 rw[Dc]
 conv=>rhs;rw[<- List.map_id l]
 exact List.map_congr_left fun x _=>h x
theorem WS(x:Int):Jl8 (Jh x)=x:=rfl
theorem Jlb(s:Sg):JrZ (Ji s)=s:=by
 show Sg.mk s.p ((s.e.map Jh).map Jl8)=s
 rw[XB WS]
theorem XQ(t:Ty):Uk (Jf t)=t:=by
 show Ty.mk t.name ((t.sh.map Jh).map Jl8) t.d0 t.d1 t.d2 t.d3 t.d4 t.d5 t.d6 t.d7 t.side ((t.sq.map Jh).map Jl8) ((t.st.map Ji).map JrZ)=t
 rw[XB WS,XB WS,XB Jlb]
def decFx(r:List AV):Fx:=⟨cJ [r] 0 0,cJ [r] 0 1,cJ [r] 0 2,cJ [r] 0 3,cJ [r] 0 4⟩
theorem Jlc(x:Fx):decFx (Ja x)=x:=rfl
def J7(rows:List (List AV)):List Fx:=rows.map decFx
theorem JI(l:List Fx):J7 (l.map Ja)=l:=XB Jlc l
def spF:Nat->List AV->Option AV
 | 25,[.agg c]=>some (.bool (Qg (Uk c)))
 | 26,[.sl _ rows]=>some (.bool (decide (rows.length<=17)))
 | 53,[.agg c]=>some (.i (Qs (Uk c)))
 | 32,[.agg c]=>some (.i (JbG (Uk c)))
 | 76,[.sl _ rows]=>some (.i (Jp (J7 rows)))
 | 33,[.sl _ rows]=>some (.i (QR (J7 rows)))
 | 131,[.sl _ rows,.str s]=>some (.i (fiI (pR rows s) rows.length))
 | 83,[.sl _ rows,.str s]=>some (.i (fiI (pR rows s) rows.length))
 | n,x=>spR n x
def la60(ts:List Ty)(fs:List Fl)(b:Nat):Option LA :=
 if b.beq 0 then some {
  pre:=[.keep [0,1,5] [],.bound 1],post:=[.keep [0,1,5] [],.bound 1]
  Gh:=Nat
  st:=fun i=>⟨[(0,.sl 13 (ts.map Jf)),(1,.sl 3 (fs.map Jr)),(5,.i i)],[],1⟩
  ok:=fun i=>i<=ts.length/\∀ j,j < i->Qg (ts.getD j default)=true
  ms:=fun i=>ts.length-i }
 else some {
  pre:=[.keep [0,1,6] [],.bound 1],post:=[.keep [0,1,6] [],.bound 1]
  Gh:=Nat
  st:=fun i=>⟨[(0,.sl 13 (ts.map Jf)),(1,.sl 3 (fs.map Jr)),(6,.i i)],[],1⟩
  ok:=fun i=>i<=fs.length/\∀ j,j < i->Jjt (fs.getD j default)=true
  ms:=fun i=>fs.length-i }
abbrev Jow(fs:List Fl)(g:Nat):=fs.getD (g:Int).toNat default
abbrev Jmj(fs:List Fl)(g:Nat):=List.map Ja (Jow fs g).tr
abbrev Jf1(ts:List Ty)(g:Nat):=ts.getD (g:Int).toNat default
abbrev Jiw(fs:List Fl):=List.map Jr fs
abbrev Jbv(fs:List Fl):=((Jiw fs).length:Int)
abbrev JsY(g:Nat):=(g:Int)+1
abbrev Z35s(g':Nat)(fs:List Fl):=(g'<=fs.length/\∀ (j:Nat),j < g'->Jjt (fs.getD j default)=true)
abbrev Jix(ts:List Ty):=List.map Jf ts
abbrev Z35d(fs:List Fl)(g:Nat)(ts:List Ty):=(decide ((↑(Jow fs g).y.length:Int) > 40)=false->Jg (JsY g)/\∃ (g':Nat),(Z35s g' fs)/\fs.length-g' < fs.length-g/\AS.mk [(0,AV.sl 13 (Jix ts)),(1,AV.sl 3 (Jiw fs)),(6,AV.i (JsY g))] [] 1=AS.mk [(0,AV.sl 13 (Jix ts)),(1,AV.sl 3 (Jiw fs)),(6,AV.i (g':Int))] [] 1)
abbrev JiT(ts:List Ty):=((Jix ts).length:Int)
abbrev Z35f(g:Nat)(fs:List Fl)(ts:List Ty):=(true=false->Jg (JsY g)/\∃ (g':Nat),(Z35s g' fs)/\fs.length-g' < fs.length-g/\AS.mk [(0,AV.sl 13 (Jix ts)),(1,AV.sl 3 (Jiw fs)),(6,AV.i (JsY g))] [] 1=AS.mk [(0,AV.sl 13 (Jix ts)),(1,AV.sl 3 (Jiw fs)),(6,AV.i (g':Int))] [] 1)
abbrev Z35g(ts:List Ty)(g:Nat):=[AV.str (Jf1 ts g).name,AV.sl 1 (List.map Jh (Jf1 ts g).sh),AV.i (Jf1 ts g).d0,AV.i (Jf1 ts g).d1,AV.i (Jf1 ts g).d2,AV.i (Jf1 ts g).d3,AV.i (Jf1 ts g).d4,AV.i (Jf1 ts g).d5,AV.i (Jf1 ts g).d6,AV.i (Jf1 ts g).d7,AV.i (Jf1 ts g).side,AV.sl 1 (List.map Jh (Jf1 ts g).sq),AV.sl 2 (List.map Ji (Jf1 ts g).st)]
abbrev Jov(fs:List Fl)(g:Nat):=Jn (Jiw fs) (g:Int).toNat
abbrev Jmi:=true=false->false=true
abbrev JlT(fs:List Fl)(g:Nat):=(Jmj fs g).length<=17
abbrev JsZ(ts:List Ty):=decide ((JiT ts)<=4)
abbrev Z35o(ts:List Ty)(g:Nat):=Uk (List.take 13 (List.drop 0 (Jf (Jf1 ts g))))
abbrev Z35p(fs:List Fl)(g:Nat):=(↑(Jow fs g).n.length:Int) > 40
abbrev Z35q(g:Nat)(ts:List Ty):=(g<=ts.length/\∀ (j:Nat),j < g->Qg (ts.getD j default)=true)
abbrev Z35r(g:Nat)(fs:List Fl):=(g<=fs.length/\∀ (j:Nat),j < g->Jjt (fs.getD j default)=true)
abbrev Z35u(fs:List Fl)(g:Nat)(ts:List Ty):=decide ((↑(Jow fs g).y.length:Int) > 40)=true->AV.bool false=AV.bool (sSF ts fs)
theorem c60(ts:List Ty)(fs:List Fl)(hl:ts.length<=maxLen)(hm:fs.length<=maxLen)(hst:∀ t,t ∈ ts->t.st.length<=maxLen):P0 60 [.sl 13 (ts.map Jf),.sl 3 (fs.map Jr)] (.bool (sSF ts fs)):=by
 have key :
  (∃ (g:Nat),(Z35q g ts)/\AS.mk [(0,AV.sl 13 (Jix ts)),(1,AV.sl 3 (Jiw fs)),(5,AV.i 0)] [] 1=AS.mk [(0,AV.sl 13 (Jix ts)),(1,AV.sl 3 (Jiw fs)),(5,AV.i (g:Int))] [] 1)/\∀ (g:Nat),(Z35q g ts)->(decide ((↑g :
  Int) < (JiT ts))=true->(0:Int)<=(g:Int)/\(g:Int) < (JiT ts)/\AV.agg (Jn (Jix ts) (g:Int).toNat)=AV.agg (Z35g ts g)/\P0 25 [AV.agg (Z35g ts g)] (AV.bool (Qg (Z35o ts g)))/\((!Qg (Z35o ts g))=true
  → AV.bool false=AV.bool (sSF ts fs))/\((!Qg (Z35o ts g))=false->Jg (JsY g)/\∃ (g':Nat),(g'<=ts.length/\∀ (j:Nat),j < g'->Qg (ts.getD j default)=true)/\ts.length-g' < ts.length-g/\AS.mk [(0,AV.sl
  13 (Jix ts)),(1,AV.sl 3 (Jiw fs)),(5,AV.i (JsY g))] [] 1=AS.mk [(0,AV.sl 13 (Jix ts)),(1,AV.sl 3 (Jiw fs)),(5,AV.i (g':Int))] [] 1))/\(decide ((g:Int) < (JiT ts))=false->(∃ (g:Nat),(Z35r g fs)/\AS.mk
  [(0,AV.sl 13 (Jix ts)),(1,AV.sl 3 (Jiw fs)),(6,AV.i 0)] [] 1=AS.mk [(0,AV.sl 13 (Jix ts)),(1,AV.sl 3 (Jiw fs)),(6,AV.i (g:Int))] [] 1)/\∀ (g:Nat),(Z35r g fs)->(decide ((g:Int) < (Jbv fs))=true →
  ((!decide (JlT fs g))=true->(true=true->(0:Int)<=(g:Int)/\(g:Int) < (Jbv fs)/\Jmi/\Jmi/\nth (Jov fs g) 2=AV.sl 5 (Jmj fs g)/\P0 26 [AV.sl 5 (Jmj fs g)] (AV.bool (decide (JlT fs g)))/\(AV.bool !decide
  (JlT fs g))=AV.bool true/\AV.bool true=AV.bool true/\(true=true->AV.bool false=AV.bool (sSF ts fs))/\(Z35f g fs ts))/\(true=false->(0:Int)<=(g:Int)/\(g:Int) < (Jbv fs)/\Jmi/\(0:Int)<=(g:Int) /\
  (g:Int) < (Jbv fs)/\nth (Jov fs g) 2=AV.sl 5 (Jmj fs g)/\P0 26 [AV.sl 5 (Jmj fs g)] (AV.bool (decide (JlT fs g)))/\(AV.bool !decide (JlT fs g))=AV.bool true/\AV.bool true=AV.bool false/\nth (Jov fs g) 1 =
  AV.str (Jow fs g).y/\(Z35u fs g ts)/\(Z35d fs g ts)))/\((!decide (JlT fs g))=false->(decide (Z35p fs g)=true->(0:Int)<=(g:Int)/\(g:Int) < (Jbv fs)/\(0:Int)<=(g:Int)/\(g:Int) < (Jbv fs)/\Jmi/\nth
  (Jov fs g) 2=AV.sl 5 (Jmj fs g)/\P0 26 [AV.sl 5 (Jmj fs g)] (AV.bool (decide (JlT fs g)))/\(AV.bool !decide (JlT fs g))=AV.bool false/\nth (Jov fs g) 0=AV.str (Jow fs g).n/\AV.bool (decide (Z35p fs g))=AV.bool
  true/\(true=true->AV.bool false=AV.bool (sSF ts fs))/\(Z35f g fs ts))/\(decide (Z35p fs g)=false->(0:Int)<=(g:Int)/\(g:Int) < (Jbv fs)/\(0:Int)<=(g:Int)/\(g:Int) < (Jbv fs)/\(0:Int)<=(g:Int)
  /\ (g:Int) < (Jbv fs)/\nth (Jov fs g) 2=AV.sl 5 (Jmj fs g)/\P0 26 [AV.sl 5 (Jmj fs g)] (AV.bool (decide (JlT fs g)))/\(AV.bool !decide (JlT fs g))=AV.bool false/\nth (Jov fs g) 0=AV.str (Jow fs g).n/\AV.bool
  (decide (Z35p fs g))=AV.bool false/\nth (Jov fs g) 1=AV.str (Jow fs g).y/\(Z35u fs g ts)/\(Z35d fs g ts))))/\(decide ((g:Int) < (Jbv fs))=false->(decide ((JiT ts)<=4)=true->(true=true->(decide ((Jbv fs) ≤
  4)=true->Jmi/\Jmi/\AV.bool (JsZ ts)=AV.bool true/\AV.bool true=AV.bool true/\AV.bool (decide ((Jbv fs)<=4))=AV.bool true/\AV.bool true=AV.bool (sSF ts fs))/\(decide ((Jbv fs)<=4)=false->Jmi/\AV.bool
  (JsZ ts)=AV.bool true/\AV.bool true=AV.bool true/\AV.bool (decide ((Jbv fs)<=4))=AV.bool false/\AV.bool ((Jbv fs) == 17)=AV.bool (sSF ts fs)))/\(true=false->Jmi/\(false=true->false=true)/\AV.bool (JsZ
  ts)=AV.bool true/\AV.bool true=AV.bool false/\AV.bool false=AV.bool (sSF ts fs)))/\(decide ((JiT ts)<=4)=false->(((JiT ts) == 9)=true->(decide ((Jbv fs)<=4)=true->Jmi/\AV.bool (JsZ ts)=AV.bool false /\
  AV.bool ((JiT ts) == 9)=AV.bool true/\AV.bool (decide ((Jbv fs)<=4))=AV.bool true/\AV.bool true=AV.bool (sSF ts fs))/\(decide ((Jbv fs)<=4)=false->AV.bool (JsZ ts)=AV.bool false/\AV.bool ((JiT ts) == 9) =
  AV.bool true/\AV.bool (decide ((Jbv fs)<=4))=AV.bool false/\AV.bool ((Jbv fs) == 17)=AV.bool (sSF ts fs)))/\(((JiT ts) == 9)=false->(false=true->false=true)/\AV.bool (JsZ ts)=AV.bool false/\AV.bool ((JiT
  ts) == 9)=AV.bool false/\AV.bool false=AV.bool (sSF ts fs))))):=by
   delta Jmj Jf1 Jbv Z35d JiT Z35f Z35g Jow Jov Jmi JlT Jix Jiw JsZ Z35o Z35p Z35q Z35r Z35s JsY Z35u
   have hlm:(List.map Jf ts).length=ts.length:=Kb _
   have hfm:(List.map Jr fs).length=fs.length:=Kb _
   have hM:maxLen<=9223372036854775807:=by unfold maxLen;omega
   refine⟨⟨0,⟨by omega,by intros;omega⟩,rfl⟩,fun g ⟨hg,ha⟩=>⟨fun hd=>?_,fun hd=>?_⟩⟩
   . rw[hlm]at hd
     have hlt:=Js hd
     have e1:Uk (List.take 13 (List.drop 0 (Jf (ts.getD ((g:Int)).toNat default))))=ts.getD g default:=XQ _
     rw[e1]
     refine⟨by omega,by omega,congrArg AV.agg (Jq Jf hlt),c25 (ts.getD g default) (by have:=hst _ (JG hlt);omega),fun hx=>?_,fun hx=>⟨by unfold Jg;omega,g+1,⟨hlt,fun j hj=>?_⟩,by omega,rfl⟩⟩
     . unfold sSF
       rw[List.all_eq_false.2 ⟨g,List.mem_range.2 hlt,by simpa using hx⟩]
       rfl
     by_cases e:j=g
     . rw[e];simpa using hx
     exact ha j (by omega)
   rw[hlm]at hd
   have e:=Jz hd hg
   subst e
   have hA:(List.range ts.length).all (fun i=>Qg (ts.getD i default))=true:=List.all_eq_true.2 fun i hi=>ha i (List.mem_range.1 hi)
   refine⟨⟨0,⟨by omega,by intros;omega⟩,rfl⟩,fun g ⟨hg,ha⟩=>⟨fun hd=>?_,fun hd=>?_⟩⟩
   . rw[hfm]at hd
     have hlt:=Js hd
     have hrow:Jn (List.map Jr fs) ((g:Int)).toNat=Jr (fs.getD g default):=Jq Jr hlt
     have hbad:Jjt (fs.getD g default)=false->AV.bool false=AV.bool (sSF ts fs):=fun h=>by
      unfold sSF
      rw[hA,List.all_eq_false.2 ⟨g,List.mem_range.2 hlt,by rw[h];exact Bool.false_ne_true⟩]
      rfl
     have hgood:Jjt (fs.getD g default)=true->∃ g',(g'<=fs.length/\∀ j,j < g'->Jjt (fs.getD j default)=true)/\fs.length-g' < fs.length-g/\AS.mk [(0,AV.sl 13 (List.map Jf ts)),(1,AV.sl 3 (List.map Jr fs)),(6,AV.i ((g:Int)+1))] [] 1=AS.mk [(0,AV.sl 13 (List.map Jf ts)),(1,AV.sl 3 (List.map Jr fs)),(6,AV.i (g':Int))] [] 1:=fun h=>⟨g+1,⟨hlt,fun j hj=>by
      by_cases e:j=g
      . rw[e];exact h
      . exact ha j (by omega)⟩,by omega,rfl⟩
     have k26:=c26 (fs.getD g default).tr
     rw[hrow,hfm]
     have e3:Jjt (fs.getD g default)=!(if(if !decide ((fs.getD g default).tr.length<=17)then true else decide (((fs.getD g default).n.length:Int) > 40))then true else decide (((fs.getD g default).y.length:Int) > 40)):=rfl
     have k0:(0:Int)<=g:=by omega
     have k1:(g:Int) < (fs.length:Int):=by omega
     simp only[Kb,Km]
     generalize decide ((fs.getD g default).tr.length<=17)=a at *
     generalize decide (((fs.getD g default).n.length:Int) > 40)=b at *
     generalize decide (((fs.getD g default).y.length:Int) > 40)=c at *
     have kI:Jg ((g:Int)+1):=by unfold Jg;omega
     cases a <;> cases b <;> cases c <;> simp only[Bool.not_true,Bool.not_false,Bool.false_eq_true,if_true,if_false,true_implies,false_implies,and_true,true_and,reduceCtorEq]at e3 ⊢
     all_goals (repeat' (first | exact kI | apply And.intro | intro _))
     all_goals first
      | exact k0
      | exact k1
      | exact k26
      | rfl
      | exact hbad e3
      | exact hgood e3
   rw[hfm]at hd
   have e:=Jz hd hg
   subst e
   have hB:(List.range fs.length).all (fun i=>Jjt (fs.getD i default))=true:=List.all_eq_true.2 fun i hi=>ha i (List.mem_range.1 hi)
   have e3:sSF ts fs=szOK ts.length fs.length:=by
    unfold sSF
    rw[hA,hB]
    rfl
   rw[hlm,hfm,e3]
   unfold szOK
   generalize decide ((ts.length:Int)<=4)=a
   generalize ((ts.length:Int) == 9)=b
   generalize decide ((fs.length:Int)<=4)=c
   generalize ((fs.length:Int) == 17)=d
   cases a <;> cases b <;> cases c <;> cases d <;> simp
 exact JU Tryz.f60 ({ mkB spF 60 [(4,3,rdL 13 Jf ts 13 true),(9,4,rdL 3 Jr fs 1 false),(9,12,rdL 3 Jr fs 1 false),(9,21,rdL 3 Jr fs 1 false)] (la60 ts fs)with split:=fun i=>if i.beq 9 then 1 else if i.beq 11 then 1 else 0 }) key (by kernel_rfl)
def JdS(es:List (AV × AV)):AV->Bool
 | .str s=>es.any fun p=>match p.1 with
  | .str x=>x == s
  | _=>false
 | _=>false
def rdK:BL->List AV->Option AV:=fun bs ins=>match ins with
 | [.ref id,k]=>match Jw bs id with
  | .map es=>some (.bool (JdS es k))
  | _=>none
 | _=>none
theorem Jee(a b:List UInt8):(a == b)=(b == a):=by
 rw[Bool.eq_iff_iff,beq_iff_eq,beq_iff_eq]
 exact eq_comm
def JhU(s:List UInt8):AV × AV:=(.str s,.bool true)
def knT(ts:List Ty):List (AV × AV):=ts.map fun t=>JhU t.name
def knF(fs:List Fl):List (AV × AV):=fs.map fun f=>JhU f.n
theorem Wb{α:Type}(f:α->List UInt8)(s:List UInt8)(l:List α):JdS (l.map fun a=>JhU (f a)) (.str s)=l.any fun a=>f a == s:=by
 show((l.map fun a=>JhU (f a)).any fun p=>match p.1 with
  | .str x=>x == s
  | _=>false)=_
 rw[List.any_map]
 rfl
theorem Jcu{α:Type}(f:α->List UInt8)(s:List UInt8):∀ l:List α,Vv (.str s) (l.map fun a=>JhU (f a))=some (if(l.any fun a=>f a == s)=true then some (.bool true)else none)
 | []=>rfl
 | a::l=>by
  have ih:=Jcu f s l
  simp only[List.map_cons,JhU,Vv,Xu,List.any_cons]at ih ⊢
  rw[Jee s (f a)]
  by_cases h:(f a == s)=true
  . simp only[h,Bool.true_or,if_true]
  have h:=Bool.eq_false_iff.2 h
  simp only[h,Bool.false_or]
  exact ih
theorem JeW{α:Type}(f:α->List UInt8)(s:List UInt8):∀ l:List α,(l.any fun a=>f a == s)=false->Jbi (.str s) (.bool true) (l.map fun a=>JhU (f a))=some ((l.map fun a=>JhU (f a))++[JhU s])
 | [],_=>rfl
 | a::l,h=>by
  rw[List.any_cons,Bool.or_eq_false_iff]at h
  have ih:=JeW f s l h.2
  simp only[List.map_cons,JhU,Jbi,Xu]at ih ⊢
  rw[Jee s (f a),h.1]
  simp only[ih,List.cons_append]
theorem Jcv{α:Type}(f:α->List UInt8)(s:List UInt8)(l:List α):JhT false (.bool false) (Vv (.str s) (l.map fun a=>JhU (f a)))=.bool (JdS (l.map fun a=>JhU (f a)) (.str s)):=by
 rw[Jcu,Wb]
 cases l.any fun a=>f a == s <;> rfl
theorem JaD{α:Type}(f:α->List UInt8)(s:List UInt8)(l:List α):(Vv (.str s) (l.map fun a=>JhU (f a))).isSome=true:=by
 rw[Jcu]
 rfl
theorem JkM{ts:List Ty}{s:List UInt8}{i:Nat}(hi:i<=ts.length):JdS (knT (ts.take i)) (.str s)=decide (fiI (pT ts s) i>=0):=by
 unfold knT
 rw[Wb,Jc0 hi,Jfl]
 rfl
theorem has_fl{fs:List Fl}{s:List UInt8}{i:Nat}(hi:i<=fs.length):JdS (knF (fs.take i)) (.str s)=decide (fiI (pF fs s) i>=0):=by
 unfold knF
 rw[Wb,Jc0 hi,Jfl]
 rfl
theorem put_ty{ts:List Ty}{g:Nat}(hg:g < ts.length)(h:JdS (knT (ts.take g)) (.str (ts.getD g default).name)=false):Jbi (.str (ts.getD g default).name) (.bool true) (knT (ts.take g))=some (knT (ts.take (g+1))):=by
 unfold knT at h ⊢
 rw[Wb]at h
 rw[JeW _ _ _ h,List.take_add_one,Db]
 simp[List.getD_eq_getElem?_getD,hg]
theorem put_fl{fs:List Fl}{g:Nat}(hg:g < fs.length)(h:JdS (knF (fs.take g)) (.str (fs.getD g default).n)=false):Jbi (.str (fs.getD g default).n) (.bool true) (knF (fs.take g))=some (knF (fs.take (g+1))):=by
 unfold knF at h ⊢
 rw[Wb]at h
 rw[JeW _ _ _ h,List.take_add_one,Db]
 simp[List.getD_eq_getElem?_getD,hg]
def fTy(ts:List Ty)(i:Nat):Int:=Jb [Qs (ts.getD i default),Jk (JdS (knT (ts.take i)) (.str (ts.getD i default).name)) 9]
def fFl(ts:List Ty)(fs:List Fl)(i:Nat):Int:=Jb [Jk (!JH (fs.getD i default).n) 8,Jk (JdS (knF (fs.take i)) (.str (fs.getD i default).n)) 9,Jk (!JdS (knT ts) (.str (fs.getD i default).y)) 10,Jp (fs.getD i default).tr]
def V6(ts:List Ty)(fs:List Fl):Int:=if decide ((ts.length:Int) > 8)then 5 else QI (fTy ts) ts.length (if decide ((fs.length:Int) > 16)then 5 else QI (fFl ts fs) fs.length 0)
def la70(ts:List Ty)(fs:List Fl)(b:Nat):Option LA :=
 if b.beq 0 then some {
  pre:=[.keep [1,5,6,18,19,20] [5,6],.bound 7],post:=[.keep [1,5,6,18,19,20] [5,6],.bound 7]
  Gh:=Nat
  st:=fun i=>⟨[(1,.sl 3 (fs.map Jr)),(5,.ref 5),(6,.ref 6),(18,.sl 13 (ts.map Jf)),(19,.i ts.length),(20,.i i)],[(5,.map (knT (ts.take i))),(6,.map [])],7⟩
  ok:=fun i=>i<=ts.length/\∀ j,j < i->fTy ts j=0
  ms:=fun i=>ts.length-i }
 else some {
  pre:=[.keep [5,6,43,44,45] [5,6],.bound 7],post:=[.keep [5,6,43,44,45] [5,6],.bound 7]
  Gh:=Nat
  st:=fun i=>⟨[(5,.ref 5),(6,.ref 6),(43,.sl 3 (fs.map Jr)),(44,.i fs.length),(45,.i i)],[(5,.map (knT ts)),(6,.map (knF (fs.take i)))],7⟩
  ok:=fun i=>i<=fs.length/\∀ j,j < i->fFl ts fs j=0
  ms:=fun i=>fs.length-i }
def atK(B:BA):BA:=Jkc 7 5 (fun a=>{ a with rdb:=rdK }) (Jkc 17 8 (fun a=>{ a with rdb:=rdK }) (Jkc 17 13 (fun a=>{ a with rdb:=rdK }) B))
abbrev Jb0(fs:List Fl)(g:Nat):=fs.getD (g:Int).toNat default
abbrev Jud(g:Nat)(fs:List Fl):=JdS (knF (List.take g fs)) (AV.str (Jb0 fs g).n)
abbrev Z36j(ts:List Ty)(fs:List Fl)(g:Nat):=Jk (!JdS (knT ts) (AV.str (Jb0 fs g).y)) (10:Int)
abbrev Juc(fs:List Fl)(g:Nat):=List.map Ja (Jb0 fs g).tr
abbrev Z36a(fs:List Fl)(g:Nat)(ts:List Ty):=[hdI [AV.i (Jk (!JH (Jb0 fs g).n) (8:Int))],hdI [AV.i (Jk (Jud g fs) (9:Int))],hdI [AV.i (Z36j ts fs g)],hdI [AV.i (Jp (J7 (Juc fs g)))]]
abbrev JlS(ts:List Ty)(g:Nat):=ts.getD (g:Int).toNat default
abbrev Jue(g:Nat)(ts:List Ty):=JdS (knT (List.take g ts)) (AV.str (JlS ts g).name)
abbrev Z36c(ts:List Ty)(g:Nat):=[hdI [AV.i (Qs (Uk (Jf (JlS ts g))))],hdI [AV.i (Jk (Jue g ts) (9:Int))]]
abbrev JlR(fs:List Fl):=List.map Jr fs
abbrev Z36h(ts:List Ty):=((List.map Jf ts).length:Int)
abbrev Z36k(fs:List Fl):=((JlR fs).length:Int)
theorem c70(ts:List Ty)(fs:List Fl)(hl:ts.length<=1000)(hm:fs.length<=1000)(hS:∀ t,t ∈ ts->ShortTy t)(hF:∀ f,f ∈ fs->f.n.length<=1000/\f.y.length<=1000/\f.tr.length<=1000):P0 70 [.sl 13 (ts.map Jf),.sl 3 (fs.map Jr)] (.i (V6 ts fs)):=by
 have key :
  (decide ((Z36h ts) > 8)=true->AV.i 5=AV.i (V6 ts fs))/\(decide ((Z36h ts) > 8)=false->(∃ (g:Nat),(g<=ts.length/\∀ (j:Nat),j < g->fTy ts j=(0:Int))/\AS.mk [(1,AV.sl 3 (JlR fs)),(5,AV.ref 5),(6,AV.ref
  6),(18,AV.sl 13 (List.map Jf ts)),(19,AV.i (Z36h ts)),(20,AV.i 0)] [(5,ABlk.map []),(6,ABlk.map [])] 7=AS.mk [(1,AV.sl 3 (JlR fs)),(5,AV.ref 5),(6,AV.ref 6),(18,AV.sl 13 (List.map Jf ts)),(19,AV.i
  (ts.length:Int)),(20,AV.i (g:Int))] [(5,ABlk.map (knT (List.take g ts))),(6,ABlk.map [])] 7)/\∀ (g:Nat),(g<=ts.length/\∀ (j:Nat),j < g->fTy ts j=(0:Int))->(decide ((g:Int) < (ts.length:Int))=true →
  (0:Int)<=(g:Int)/\(g:Int) < (Z36h ts)/\AV.agg (Jn (List.map Jf ts) (g:Int).toNat)=AV.agg (Jf (JlS ts g))/\(Vv (AV.str (JlS ts g).name) (knT (List.take g ts))).isSome=true/\P0 53 [AV.agg (Jf (JlS
  ts g))] (AV.i (Qs (Uk (Jf (JlS ts g)))))/\JhT false (AV.bool false) (Vv (AV.str (JlS ts g).name) (knT (List.take g ts)))=AV.bool (Jue g ts)/\P0 92 [AV.bool (Jue g ts),AV.i 9] (AV.i (Jk (Jue g ts) (9 :
  Int)))/\P0 87 [AV.sl 1 [[AV.i (Qs (Uk (Jf (JlS ts g))))],[AV.i (Jk (Jue g ts) (9:Int))]]] (AV.i (Jb (Z36c ts g)))/\((Jb (Z36c ts g) != 0)=true->AV.i (Jb (Z36c ts g))=AV.i (V6 ts fs))/\((Jb
  (Z36c ts g) != 0)=false->(Jbi (AV.str (JlS ts g).name) (AV.bool true) (knT (List.take g ts))).isSome=true/\Jg ((g:Int)+1)/\∃ (g':Nat),(g'<=ts.length/\∀ (j:Nat),j < g'->fTy ts j=(0:Int))/\ts.length-g'
  < ts.length-g/\AS.mk [(1,AV.sl 3 (JlR fs)),(5,AV.ref 5),(6,AV.ref 6),(18,AV.sl 13 (List.map Jf ts)),(19,AV.i (ts.length:Int)),(20,AV.i ((g:Int)+1))] [(5,ABlk.map ((Jbi (AV.str (JlS ts g).name) (AV.bool
  true) (knT (List.take g ts))).getD [])),(6,ABlk.map [])] 7=AS.mk [(1,AV.sl 3 (JlR fs)),(5,AV.ref 5),(6,AV.ref 6),(18,AV.sl 13 (List.map Jf ts)),(19,AV.i (ts.length:Int)),(20,AV.i (g':Int))] [(5,ABlk.map
  (knT (List.take g' ts))),(6,ABlk.map [])] 7))/\(decide ((g:Int) < (ts.length:Int))=false->(decide ((Z36k fs) > 16)=true->AV.i 5=AV.i (V6 ts fs))/\(decide ((Z36k fs) > 16)=false->(∃ (g_1:Nat),(g_1 ≤
  fs.length/\∀ (j:Nat),j < g_1->fFl ts fs j=(0:Int))/\AS.mk [(5,AV.ref 5),(6,AV.ref 6),(43,AV.sl 3 (JlR fs)),(44,AV.i (Z36k fs)),(45,AV.i 0)] [(5,ABlk.map (knT (List.take g ts))),(6,ABlk.map [])] 7=AS.mk [(5,
  AV.ref 5),(6,AV.ref 6),(43,AV.sl 3 (JlR fs)),(44,AV.i (fs.length:Int)),(45,AV.i (g_1:Int))] [(5,ABlk.map (knT ts)),(6,ABlk.map (knF (List.take g_1 fs)))] 7)/\∀ (g:Nat),(g<=fs.length/\∀ (j:Nat),j < g->fFl
  ts fs j=(0:Int))->(decide ((g:Int) < (fs.length:Int))=true->(0:Int)<=(g:Int)/\(g:Int) < (Z36k fs)/\AV.agg (Jn (JlR fs) (g:Int).toNat)=AV.agg [AV.str (Jb0 fs g).n,AV.str (Jb0 fs g).y,AV.sl 5
  (Juc fs g)]/\(Vv (AV.str (Jb0 fs g).n) (knF (List.take g fs))).isSome=true/\(Vv (AV.str (Jb0 fs g).y) (knT ts)).isSome=true/\P0 122 [AV.str (Jb0 fs g).n] (AV.bool (JH (Jb0 fs g).n))/\P0 92 [AV.bool !JH
  (Jb0 fs g).n,AV.i 8] (AV.i (Jk (!JH (Jb0 fs g).n) (8:Int)))/\JhT false (AV.bool false) (Vv (AV.str (Jb0 fs g).n) (knF (List.take g fs)))=AV.bool (Jud g fs)/\P0 92 [AV.bool (Jud g fs),AV.i 9] (AV.i (Jk
  (Jud g fs) (9:Int)))/\JhT false (AV.bool false) (Vv (AV.str (Jb0 fs g).y) (knT ts))=AV.bool (JdS (knT ts) (AV.str (Jb0 fs g).y))/\P0 92 [AV.bool !JdS (knT ts) (AV.str (Jb0 fs g).y),AV.i 10] (AV.i (Z36j ts fs g)) /\
  P0 76 [AV.sl 5 (Juc fs g)] (AV.i (Jp (J7 (Juc fs g))))/\P0 87 [AV.sl 1 [[AV.i (Jk (!JH (Jb0 fs g).n) (8:Int))],[AV.i (Jk (Jud g fs) (9:Int))],[AV.i (Z36j ts fs g)],[AV.i (Jp (J7 (Juc fs g)))]]]
  (AV.i (Jb (Z36a fs g ts)))/\((Jb (Z36a fs g ts) != 0)=true->AV.i (Jb (Z36a fs g ts))=AV.i (V6 ts fs))/\((Jb (Z36a fs g ts) != 0)=false->(Jbi (AV.str (Jb0 fs g).n) (AV.bool true) (knF (List.take g
  fs))).isSome=true/\Jg ((g:Int)+1)/\∃ (g':Nat),(g'<=fs.length/\∀ (j:Nat),j < g'->fFl ts fs j=(0:Int))/\fs.length-g' < fs.length-g/\AS.mk [(5,AV.ref 5),(6,AV.ref 6),(43,AV.sl 3 (JlR fs)),(44,AV.i
  (fs.length:Int)),(45,AV.i ((g:Int)+1))] [(5,ABlk.map (knT ts)),(6,ABlk.map ((Jbi (AV.str (Jb0 fs g).n) (AV.bool true) (knF (List.take g fs))).getD []))] 7=AS.mk [(5,AV.ref 5),(6,AV.ref 6),(43,AV.sl 3 (JlR
  fs)),(44,AV.i (fs.length:Int)),(45,AV.i (g':Int))] [(5,ABlk.map (knT ts)),(6,ABlk.map (knF (List.take g' fs)))] 7))/\(decide ((g:Int) < (fs.length:Int))=false->AV.i 0=AV.i (V6 ts fs))))):=by
   delta Z36a Jb0 Z36c JlS Jue Jud JlR Z36h Juc Z36j Z36k
   have hlm:(List.map Jf ts).length=ts.length:=Kb _
   have hfm:(List.map Jr fs).length=fs.length:=Kb _
   rw[hlm,hfm]
   simp only[XQ,JI]
   refine⟨fun h=>?_,fun h=>⟨⟨0,⟨by omega,by intros;omega⟩,rfl⟩,fun g ⟨hg,ha⟩=>⟨fun hd=>?_,fun hd=>?_⟩⟩⟩
   . unfold V6
     rw[if_pos h]
   . have hlt:=Js hd
     have hs:=hS _ (JG hlt)
     have h8:¬ decide ((ts.length:Int) > 8)=true:=by rw[h];exact Bool.false_ne_true
     have hput:fTy ts g=0->Jbi (.str (ts.getD g default).name) (.bool true) (knT (ts.take g))=some (knT (ts.take (g+1))):=fun hz=>by
      unfold fTy at hz
      rw[Jd,Jd]at hz
      exact put_ty hlt (V4 (by decide) hz.2.1)
     refine⟨by omega,by omega,congrArg AV.agg (Jq Jf hlt),JaD Ty.name _ _,c53 (ts.getD g default) (by have:=hs.st;omega) (by have:=hs.s;omega) (by have:=hs.q;omega) (fun x hx=>by have:=hs.e x hx;omega) (by have:=hs.n;omega),Jcv Ty.name _ _,c92 _ _,c87 [_,_] (by simp),fun hx=>?_,fun hx=>?_⟩
     . have hne:fTy ts g ≠ 0:=Jid hx
       refine V7 ?_
       unfold V6
       rw[if_neg h8,X5 hlt ha hne]
       rfl
     have hz:fTy ts g=0:=UU hx
     have hp:=hput hz
     refine⟨by rw[show Jbi (AV.str (ts.getD ((g:Int)).toNat default).name) (AV.bool true) (knT (List.take g ts))=_ from hp];rfl,by unfold Jg;omega,g+1,⟨hlt,fun j hj=>?_⟩,by omega,?_⟩
     . by_cases e:j=g
       . rw[e];exact hz
       exact ha j (by omega)
     rw[show Jbi (AV.str (ts.getD ((g:Int)).toNat default).name) (AV.bool true) (knT (List.take g ts))=_ from hp]
     rfl
   have e:=Jz hd hg
   subst e
   have h8:¬ decide ((ts.length:Int) > 8)=true:=by rw[h];exact Bool.false_ne_true
   have hc:V6 ts fs=if decide ((fs.length:Int) > 16)then 5 else QI (fFl ts fs) fs.length 0:=by
    unfold V6
    rw[if_neg h8,Xn ha]
   refine⟨fun h=>?_,fun h=>⟨⟨0,⟨by omega,by intros;omega⟩,by rw[Ky];rfl⟩,fun g ⟨hg,ha⟩=>⟨fun hd=>?_,fun hd=>?_⟩⟩⟩
   . rw[hc,if_pos h]
   . have hlt:=Js hd
     have hs:=hF _ (JG hlt)
     have h8:¬ decide ((fs.length:Int) > 16)=true:=by rw[h];exact Bool.false_ne_true
     have hput:fFl ts fs g=0->Jbi (.str (fs.getD g default).n) (.bool true) (knF (fs.take g))=some (knF (fs.take (g+1))):=fun hz=>by
      unfold fFl at hz
      rw[Jd,Jd]at hz
      exact put_fl hlt (V4 (by decide) hz.2.1)
     refine⟨by omega,by omega,congrArg AV.agg (Jq Jr hlt),JaD Fl.n _ _,JaD Ty.name _ _,c122 (fs.getD g default).n (by omega),c92 _ _,Jcv Fl.n _ _,c92 _ _,Jcv Ty.name _ _,c92 _ _,?_,c87 [_,_,_,_] (by simp),fun hx=>?_,fun hx=>?_⟩
     . exact c76 (fs.getD g default).tr (by rw[Kb];omega)
     . have hne:fFl ts fs g ≠ 0:=Jid hx
       refine V7 ?_
       rw[hc,if_neg h8,X5 hlt ha hne]
       rfl
     have hz:fFl ts fs g=0:=UU hx
     have hp:=hput hz
     refine⟨by rw[show Jbi (AV.str (fs.getD ((g:Int)).toNat default).n) (AV.bool true) (knF (List.take g fs))=_ from hp];rfl,by unfold Jg;omega,g+1,⟨hlt,fun j hj=>?_⟩,by omega,?_⟩
     . by_cases e:j=g
       . rw[e];exact hz
       exact ha j (by omega)
     rw[show Jbi (AV.str (fs.getD ((g:Int)).toNat default).n) (AV.bool true) (knF (List.take g fs))=_ from hp]
     rfl
   have e:=Jz hd hg
   subst e
   have h8:¬ decide ((fs.length:Int) > 16)=true:=by rw[h];exact Bool.false_ne_true
   rw[hc,if_neg h8,Xn ha]
 exact JU Tryz.f70 (atK (fzB (mkB spF 70 [(6,1,rdL 13 Jf ts 13 true),(16,1,rdL 3 Jr fs 3 true)] (la70 ts fs)))) key (by kernel_rfl)
def gTy(ts:List Ty)(i:Nat):Int:=Jb [JbG (ts.getD i default),Jk (decide (fiI (pT ts (ts.getD i default).name) i>=0)) 9]
def gFl(ts:List Ty)(fs:List Fl)(i:Nat):Int:=Jb [Jk (!JH (fs.getD i default).n) 8,Jk (decide (fiI (pF fs (fs.getD i default).n) i>=0)) 9,Jk (decide (fiI (pT ts (fs.getD i default).y) ts.length < 0)) 10,QR (fs.getD i default).tr]
def Jd4(ts:List Ty)(fs:List Fl):Int:=if decide ((ts.length:Int) > 8)then 5 else QI (gTy ts) ts.length (if decide ((fs.length:Int) > 16)then 5 else QI (gFl ts fs) fs.length 0)
theorem JjW{ts:List Ty}{s:List UInt8}{g j:Nat}(hj:j < g):pT (ts.take g) s j=pT ts s j:=by
 unfold pT
 rw[Ka,Ka,List.getElem?_take,if_pos hj]
theorem JjX{fs:List Fl}{s:List UInt8}{g j:Nat}(hj:j < g):pF (fs.take g) s j=pF fs s j:=by
 unfold pF
 rw[Ka,Ka,List.getElem?_take,if_pos hj]
theorem fiT{ts:List Ty}{s:List UInt8}{g:Nat}(hg:g<=ts.length):fiI (pR ((ts.take g).map Jf) s) ((ts.take g).map Jf).length=fiI (pT ts s) g:=by
 have e:((ts.take g).map Jf).length=g:=by rw[Kb,Kg];omega
 rw[e]
 exact VH fun j hj=>(pR_ty (by rw[Kg];omega)).trans (JjW hj)
theorem fiF{fs:List Fl}{s:List UInt8}{g:Nat}(hg:g<=fs.length):fiI (pR ((fs.take g).map Jr) s) ((fs.take g).map Jr).length=fiI (pF fs s) g:=by
 have e:((fs.take g).map Jr).length=g:=by rw[Kb,Kg];omega
 rw[e]
 exact VH fun j hj=>(pR_fl (by rw[Kg];omega)).trans (JjX hj)
theorem c131t{ts:List Ty}{g:Nat}(s:List UInt8)(hl:ts.length<=1000)(hg:g<=ts.length):P0 131 [.sl 13 ((ts.take g).map Jf),.str s] (.i (fiI (pT ts s) g)):=by
 have h:=c131 (ts.take g) s (by rw[Kg];omega)
 rw[show(ts.take g).length=g by rw[Kg];omega,VH (fun j hj=>JjW hj)]at h
 exact h
theorem c83t{fs:List Fl}{g:Nat}(s:List UInt8)(hl:fs.length<=1000)(hg:g<=fs.length):P0 83 [.sl 3 ((fs.take g).map Jr),.str s] (.i (fiI (pF fs s) g)):=by
 have h:=c83 (fs.take g) s (by rw[Kg];omega)
 rw[show(fs.take g).length=g by rw[Kg];omega,VH (fun j hj=>JjX hj)]at h
 exact h
def la66(ts:List Ty)(fs:List Fl)(b:Nat):Option LA :=
 if b.beq 0 then some {
  pre:=[.keep [0,1,5] [],.bound 1],post:=[.keep [0,1,5] [],.bound 1]
  Gh:=Nat
  st:=fun i=>⟨[(0,.sl 13 (ts.map Jf)),(1,.sl 3 (fs.map Jr)),(5,.i i)],[],1⟩
  ok:=fun i=>i<=ts.length/\∀ j,j < i->gTy ts j=0
  ms:=fun i=>ts.length-i }
 else some {
  pre:=[.keep [0,1,7] [],.bound 1],post:=[.keep [0,1,7] [],.bound 1]
  Gh:=Nat
  st:=fun i=>⟨[(0,.sl 13 (ts.map Jf)),(1,.sl 3 (fs.map Jr)),(7,.i i)],[],1⟩
  ok:=fun i=>i<=fs.length/\∀ j,j < i->gFl ts fs j=0
  ms:=fun i=>fs.length-i }
abbrev Jf0(fs:List Fl)(g:Nat):=fs.getD (g:Int).toNat default
abbrev JsX(g:Nat):=(g:Int)-0
abbrev Jhm(fs:List Fl):=List.map Jr fs
abbrev Z37k(g:Nat)(fs:List Fl):=List.take (JsX g).toNat (List.drop (Int.toNat (0:Int)) (Jhm fs))
abbrev Z37c(g:Nat)(fs:List Fl):=decide (fiI (pR (Z37k g fs) (Jf0 fs g).n) (Z37k g fs).length>=0)
abbrev JbZ(ts:List Ty):=List.map Jf ts
abbrev Z37l(ts:List Ty)(fs:List Fl)(g:Nat):=decide (fiI (pR (JbZ ts) (Jf0 fs g).y) (JbZ ts).length < 0)
abbrev Jub(fs:List Fl)(g:Nat):=List.map Ja (Jf0 fs g).tr
abbrev Z37a(fs:List Fl)(g:Nat)(ts:List Ty):=[hdI [AV.i (Jk (!JH (Jf0 fs g).n) (8:Int))],hdI [AV.i (Jk (Z37c g fs) (9:Int))],hdI [AV.i (Jk (Z37l ts fs g) (10:Int))],hdI [AV.i (QR (J7 (Jub fs g)))]]
abbrev Z37j(g:Nat)(ts:List Ty):=List.take (JsX g).toNat (List.drop (Int.toNat (0:Int)) (JbZ ts))
abbrev Jmh(ts:List Ty)(g:Nat):=ts.getD (g:Int).toNat default
abbrev Z37b(g:Nat)(ts:List Ty):=decide (fiI (pR (Z37j g ts) (Jmh ts g).name) (Z37j g ts).length>=0)
abbrev Z37e(ts:List Ty)(g:Nat):=[hdI [AV.i (JbG (Uk (Jf (Jmh ts g))))],hdI [AV.i (Jk (Z37b g ts) (9:Int))]]
abbrev Jmg(fs:List Fl):=((Jhm fs).length:Int)
abbrev Jqo(ts:List Ty):=((JbZ ts).length:Int)
abbrev Z37o(fs:List Fl)(g:Nat):=Jn (Jhm fs) (g:Int).toNat
theorem c66(ts:List Ty)(fs:List Fl)(hl:ts.length<=1000)(hm:fs.length<=1000)(hS:∀ t,t ∈ ts->ShortTy t)(hF:∀ f,f ∈ fs->f.n.length<=1000/\f.y.length<=1000/\f.tr.length<=1000):P0 66 [.sl 13 (ts.map Jf),.sl 3 (fs.map Jr)] (.i (Jd4 ts fs)):=by
 have key :
  (decide ((Jqo ts) > 8)=true->AV.i 5=AV.i (Jd4 ts fs))/\(decide ((Jqo ts) > 8)=false->(∃ (g:Nat),(g<=ts.length/\∀ (j:Nat),j < g->gTy ts j=(0:Int))/\AS.mk [(0,AV.sl 13 (JbZ ts)),(1,AV.sl 3 (Jhm fs)),
  (5,AV.i 0)] [] 1=AS.mk [(0,AV.sl 13 (JbZ ts)),(1,AV.sl 3 (Jhm fs)),(5,AV.i (g:Int))] [] 1)/\∀ (g:Nat),(g<=ts.length/\∀ (j:Nat),j < g->gTy ts j=(0:Int))->(decide ((g:Int) < (Jqo ts))=true->(0 :
  Int)<=(g:Int)/\(g:Int) < (Jqo ts)/\(0:Int)<=0/\(0:Int)<=(g:Int)/\(g:Int)<=(Jqo ts)/\(0:Int)<=(g:Int)/\(g:Int) < (Jqo ts)/\AV.agg (Jn (JbZ ts) (g:Int).toNat)=AV.agg (Jf (Jmh ts g))
  /\ P0 32 [AV.agg (Jf (Jmh ts g))] (AV.i (JbG (Uk (Jf (Jmh ts g)))))/\nth (Jn (JbZ ts) (g:Int).toNat) 0=AV.str (Jmh ts g).name/\P0 131 [AV.sl 13 (List.take (JsX g).toNat (List.drop 0 (JbZ ts))),AV.str (Jmh
  ts g).name] (AV.i (fiI (pR (Z37j g ts) (Jmh ts g).name) (List.take (JsX g).toNat (List.drop 0 (JbZ ts))).length))/\P0 94 [AV.bool (Z37b g ts),AV.i 9] (AV.i (Jk (Z37b g ts) (9:Int)))/\P0 93 [AV.sl 1 [[AV.i (JbG (Uk
  (Jf (Jmh ts g))))],[AV.i (Jk (Z37b g ts) (9:Int))]]] (AV.i (Jb (Z37e ts g)))/\((Jb (Z37e ts g) != 0)=true->AV.i (Jb (Z37e ts g))=AV.i (Jd4 ts fs))/\((Jb (Z37e ts g) != 0)=false->Jg ((g:Int)
  + 1)/\∃ (g':Nat),(g'<=ts.length/\∀ (j:Nat),j < g'->gTy ts j=(0:Int))/\ts.length-g' < ts.length-g/\AS.mk [(0,AV.sl 13 (JbZ ts)),(1,AV.sl 3 (Jhm fs)),(5,AV.i ((g:Int)+1))] [] 1=AS.mk [(0,AV.sl 13
  (JbZ ts)),(1,AV.sl 3 (Jhm fs)),(5,AV.i (g':Int))] [] 1))/\(decide ((g:Int) < (Jqo ts))=false->(decide ((Jmg fs) > 16)=true->AV.i 5=AV.i (Jd4 ts fs))/\(decide ((Jmg fs) > 16)=false->(∃ (g:Nat),(g ≤
  fs.length/\∀ (j:Nat),j < g->gFl ts fs j=(0:Int))/\AS.mk [(0,AV.sl 13 (JbZ ts)),(1,AV.sl 3 (Jhm fs)),(7,AV.i 0)] [] 1=AS.mk [(0,AV.sl 13 (JbZ ts)),(1,AV.sl 3 (Jhm fs)),(7,AV.i (g:Int))] [] 1)/\∀ (g :
  Nat),(g<=fs.length/\∀ (j:Nat),j < g->gFl ts fs j=(0:Int))->(decide ((g:Int) < (Jmg fs))=true->(0:Int)<=(g:Int)/\(g:Int) < (Jmg fs)/\(0:Int)<=0/\(0:Int)<=(g:Int)/\(g:Int)<=(Jmg fs)/\(0
  : Int)<=(g:Int)/\(g:Int) < (Jmg fs)/\(0:Int)<=(g:Int)/\(g:Int) < (Jmg fs)/\(0:Int)<=(g:Int)/\(g:Int) < (Jmg fs)/\nth (Z37o fs g) 0=AV.str (Jf0 fs g).n/\P0 106 [AV.str (Jf0 fs g).n] (AV.i
  (Jk (!JH (Jf0 fs g).n) (8:Int)))/\nth (Z37o fs g) 0=AV.str (Jf0 fs g).n/\P0 83 [AV.sl 3 (List.take (JsX g).toNat (List.drop 0 (Jhm fs))),AV.str (Jf0 fs g).n] (AV.i (fiI (pR (Z37k g fs) (Jf0 fs g).n) (List.take
  (JsX g).toNat (List.drop 0 (Jhm fs))).length))/\P0 94 [AV.bool (Z37c g fs),AV.i 9] (AV.i (Jk (Z37c g fs) (9:Int)))/\nth (Z37o fs g) 1=AV.str (Jf0 fs g).y/\P0 131 [AV.sl 13 (JbZ ts),AV.str (Jf0 fs g).y] (AV.i (fiI
  (pR (JbZ ts) (Jf0 fs g).y) (JbZ ts).length))/\P0 94 [AV.bool (Z37l ts fs g),AV.i 10] (AV.i (Jk (Z37l ts fs g) (10:Int)))/\nth (Z37o fs g) 2=AV.sl 5 (Jub fs g)/\P0 33 [AV.sl 5 (Jub fs g)] (AV.i (QR (J7 (Jub
  fs g))))/\P0 93 [AV.sl 1 [[AV.i (Jk (!JH (Jf0 fs g).n) (8:Int))],[AV.i (Jk (Z37c g fs) (9:Int))],[AV.i (Jk (Z37l ts fs g) (10:Int))],[AV.i (QR (J7 (Jub fs g)))]]] (AV.i (Jb (Z37a fs g ts))) /\
  ((Jb (Z37a fs g ts) != 0)=true->AV.i (Jb (Z37a fs g ts))=AV.i (Jd4 ts fs))/\((Jb (Z37a fs g ts) != 0)=false->Jg ((g:Int)+1)/\∃ (g':Nat),(g'<=fs.length/\∀ (j:Nat),j < g'->gFl ts fs j=(0 :
  Int))/\fs.length-g' < fs.length-g/\AS.mk [(0,AV.sl 13 (JbZ ts)),(1,AV.sl 3 (Jhm fs)),(7,AV.i ((g:Int)+1))] [] 1=AS.mk [(0,AV.sl 13 (JbZ ts)),(1,AV.sl 3 (Jhm fs)),(7,AV.i (g':Int))] [] 1))/\(decide
  ((g:Int) < (Jmg fs))=false->AV.i 0=AV.i (Jd4 ts fs))))):=by
   delta Z37a Z37b Z37c Jf0 Z37e JbZ Jhm Jmh Jmg Z37j Z37k Z37l Jqo Jub Z37o JsX
   have hlm:(List.map Jf ts).length=ts.length:=Kb _
   have hfm:(List.map Jr fs).length=fs.length:=Kb _
   simp only[XQ,JI,Int.sub_zero,Km,Int.toNat_zero,List.drop_zero,<- List.map_take]
   have hfi:∀ s,fiI (pR (List.map Jf ts) s) (List.map Jf ts).length=fiI (pT ts s) ts.length:=fun s=>by
    rw[hlm]
    exact VH fun j hj=>pR_ty hj
   simp only[hfi]
   rw[hlm,hfm]
   refine⟨fun h=>?_,fun h=>⟨⟨0,⟨by omega,by intros;omega⟩,rfl⟩,fun g ⟨hg,ha⟩=>⟨fun hd=>?_,fun hd=>?_⟩⟩⟩
   . unfold Jd4
     rw[if_pos h]
   . have hlt:=Js hd
     have hs:=hS _ (JG hlt)
     have h8:¬ decide ((ts.length:Int) > 8)=true:=by rw[h];exact Bool.false_ne_true
     rw[fiT (Da hlt)]
     have hrow:Jn (List.map Jf ts) g=Jf (ts.getD g default):=Jq Jf hlt
     rw[hrow]
     refine⟨by omega,by omega,by omega,by omega,by omega,by omega,by omega,rfl,c32t hs,rfl,c131t _ hl (Da hlt),c94 _ _,c93 [_,_] (by simp),fun hx=>?_,fun hx=>?_⟩
     . have hne:gTy ts g ≠ 0:=Jid hx
       refine V7 ?_
       unfold Jd4
       rw[if_neg h8,X5 hlt ha hne]
       rfl
     have hz:gTy ts g=0:=UU hx
     refine⟨by unfold Jg;omega,g+1,⟨hlt,fun j hj=>?_⟩,by omega,rfl⟩
     by_cases e:j=g
     . rw[e];exact hz
     exact ha j (by omega)
   have e:=Jz hd hg
   subst e
   have h8:¬ decide ((ts.length:Int) > 8)=true:=by rw[h];exact Bool.false_ne_true
   have hc:Jd4 ts fs=if decide ((fs.length:Int) > 16)then 5 else QI (gFl ts fs) fs.length 0:=by
    unfold Jd4
    rw[if_neg h8,Xn ha]
   refine⟨fun h=>?_,fun h=>⟨⟨0,⟨by omega,by intros;omega⟩,rfl⟩,fun g ⟨hg,ha⟩=>⟨fun hd=>?_,fun hd=>?_⟩⟩⟩
   . rw[hc,if_pos h]
   . have hlt:=Js hd
     have hs:=hF _ (JG hlt)
     have h8:¬ decide ((fs.length:Int) > 16)=true:=by rw[h];exact Bool.false_ne_true
     rw[fiF (Da hlt)]
     have hrow:Jn (List.map Jr fs) g=Jr (fs.getD g default):=Jq Jr hlt
     rw[hrow]
     refine⟨by omega,by omega,by omega,by omega,by omega,by omega,by omega,by omega,by omega,by omega,by omega,rfl,c106 (fs.getD g default).n (by omega),rfl,c83t _ hm (Da hlt),c94 _ _,rfl,c131 _ _ hl,c94 _ _,rfl,?_,c93 [_,_,_,_] (by simp),fun hx=>?_,fun hx=>?_⟩
     . exact c33 (fs.getD g default).tr (by rw[Kb];omega)
     . have hne:gFl ts fs g ≠ 0:=Jid hx
       refine V7 ?_
       rw[hc,if_neg h8,X5 hlt ha hne]
       rfl
     have hz:gFl ts fs g=0:=UU hx
     refine⟨by unfold Jg;omega,g+1,⟨hlt,fun j hj=>?_⟩,by omega,rfl⟩
     by_cases e:j=g
     . rw[e];exact hz
     exact ha j (by omega)
   have e:=Jz hd hg
   subst e
   have h8:¬ decide ((fs.length:Int) > 16)=true:=by rw[h];exact Bool.false_ne_true
   rw[hc,if_neg h8,Xn ha]
 exact JU Tryz.f66 (fzB (mkB spF 66 [(6,3,rdL 13 Jf ts 13 true),(6,12,rdL 13 Jf ts 1 false),(14,4,rdL 3 Jr fs 1 false),(14,13,rdL 3 Jr fs 1 false),(14,22,rdL 3 Jr fs 1 false),(14,30,rdL 3 Jr fs 1 false)] (la66 ts fs))) key (by kernel_rfl)
theorem not_ge(a:Int):(!decide (a>=0))=decide (a < 0):=by
 by_cases h:a>=0
 . rw[decide_eq_true h,decide_eq_false (by omega)];rfl
 rw[decide_eq_false h,decide_eq_true (by omega)];rfl
theorem Jr3(ts:List Ty)(fs:List Fl):V6 ts fs=Jd4 ts fs:=by
 unfold V6 Jd4
 split
 . rfl
 have e1:QI (fFl ts fs) fs.length 0=QI (gFl ts fs) fs.length 0:=Uu fun k hk=>by
  unfold fFl gFl
  have h1:=JkM (ts:=ts) (s:=(fs.getD k default).y) (Kr _)
  rw[Ky]at h1
  rw[has_fl (Da hk),h1,not_ge,XZ]
 rw[e1]
 exact Uu fun k hk=>by
  unfold fTy gTy
  rw[JkM (Da hk),JqL]
theorem Jli{ts:List Ty}{fs:List Fl}(h:V6 ts fs=0):ts.length<=8/\fs.length<=16/\(∀ i,i < ts.length->Qs (ts.getD i default)=0)/\∀ i,i < fs.length->fiN (pT ts (fs.getD i default).y) ts.length < ts.length/\Jp (fs.getD i default).tr=0:=by
 unfold V6 at h
 split at h
 . cases h
 rename_i h1
 obtain⟨h2,h3⟩:=XH h
 split at h3
 . cases h3
 rename_i h4
 obtain⟨h5,_⟩:=XH h3
 simp only[Ko]at h1 h4
 refine⟨by omega,by omega,fun i hi=>?_,fun i hi=>?_⟩
 . have:=h2 i hi
   unfold fTy at this
   rw[Jd]at this
   exact this.1
 have:=h5 i hi
 unfold fFl at this
 rw[Jd,Jd,Jd,Jd]at this
 have h6:=V4 (by decide) this.2.2.1
 have h7:=JkM (ts:=ts) (s:=(fs.getD i default).y) (Kr _)
 rw[Ky]at h7
 rw[h7,Jfl]at h6
 exact⟨by simpa using h6,this.2.2.2.1⟩
def JtE(t:Ty)(l:List Fx)(x y z:Int):Int:=JeD (JdR t l x y z) (Jm l) (JB l-Jm l).toNat
def tyF(ts:List Ty)(f:Fl):Ty:=ts.getD (fiN (pT ts f.y) ts.length) default
def XT(ts:List Ty)(x y z:Int)(f:Fl):Int:=JtE (tyF ts f) f.tr x y z
structure Ex where
 f:Fl
 e:Int
 deriving Inhabited
def JC(x:Ex):List AV:=[.str x.f.n,.str x.f.y,.sl 5 (x.f.tr.map Ja),.i x.e]
def Vo(ts:List Ty)(x y z:Int)(f:Fl):Ex:=⟨f,XT ts x y z f⟩
structure FlOK(ts:List Ty)(f:Fl):Prop where
 i:fiN (pT ts f.y) ts.length < ts.length
 t:Qs (tyF ts f)=0
 o:TrackOK f.tr
 s:JB f.tr-Jm f.tr<=1000
def Jbm:List AV->Fl
 | .str n::.str y::.sl _ rows::_=>⟨n,y,J7 rows⟩
 | _=>default
theorem VI(f:Fl):Jbm (Jr f)=f:=by
 show Fl.mk f.n f.y (J7 (f.tr.map Ja))=f
 rw[JI]
theorem c100x{t:Ty}{l:List Fx}{x y z:Int}(hT:Qs t=0)(hO:TrackOK l)(hsp:JB l-Jm l<=1000)(hx : -100000<=x/\x<=100000)(hy : -100000<=y/\y<=100000)(hz:0<=z/\z<=20000):P0 100 [.agg (Jf t),.sl 5 (l.map Ja),.agg [.i (Jm l),.i (JB l)],.agg [.i x,.i y,.i z]] (.i (JtE t l x y z)):=by
 have n1:=hO.n1
 have h:=c100 t l (Jm l) (JB l) x y z hT hO hsp (hO.b 0 (by omega)).1 (hO.b (l.length-1) (by omega)).1 hx hy hz
 rw[show Qe l (Jm l)=Jm l from if_neg (by omega),show toB l (JB l)=JB l from if_neg (by omega)]at h
 exact h
def sp155(ts:List Ty)(x y z:Int):Nat->List AV->Option AV
 | 156,[_,.str s]=>some (.i (fiI (pT ts s) ts.length))
 | 102,[.sl _ rows]=>some (.agg [.i (Jm (J7 rows)),.i (JB (J7 rows))])
 | 100,[.agg c,.sl _ rows,_,_]=>some (.i (JtE (Uk c) (J7 rows) x y z))
 | n,w=>spF n w
abbrev JsW(f:Fl):=J7 (List.map Ja f.tr)
theorem c155(ts:List Ty)(f:Fl)(x y z:Int)(hl:ts.length<=1000)(hF:FlOK ts f)(hx : -100000<=x/\x<=100000)(hy : -100000<=y/\y<=100000)(hz:0<=z/\z<=20000):P0 155 [.agg (Jr f),.elt 1 [[.sl 13 (ts.map Jf)]] 0 0,.elt 3 [[.i x,.i y,.i z]] 0 0] (.agg (JC (Vo ts x y z f))):=by
 have key :
  (0:Int)<=fiI (pT ts f.y) ts.length/\fiI (pT ts f.y) ts.length < ((List.map Jf ts).length:Int)/\P0 156 [AV.sl 13 (List.map Jf ts),AV.str f.y] (AV.i (fiI (pT ts f.y) ts.length))/\AV.agg (Jn (List.map Jf ts) (fiI
  (pT ts f.y) ts.length).toNat)=AV.agg (Jf (tyF ts f))/\P0 102 [AV.sl 5 (List.map Ja f.tr)] (AV.agg [AV.i (Jm (JsW f)),AV.i (JB (JsW f))])/\P0 100 [AV.agg (Jf (tyF ts f)),AV.sl 5 (List.map Ja f.tr),AV.agg
  [AV.i (Jm (JsW f)),AV.i (JB (JsW f))],AV.agg [AV.i x,AV.i y,AV.i z]] (AV.i (JtE (Uk (Jf (tyF ts f))) (JsW f) x y z))/\AV.agg [AV.str f.n,AV.str f.y,AV.sl 5 (List.map Ja f.tr),AV.i (JtE (Uk (Jf
  (tyF ts f))) (JsW f) x y z)]=AV.agg [AV.str (Vo ts x y z f).f.n,AV.str (Vo ts x y z f).f.y,AV.sl 5 (List.map Ja (Vo ts x y z f).f.tr),AV.i (XT ts x y z f)]:=by
   delta JsW
   simp only[XQ,JI]
   have hI:fiI (pT ts f.y) ts.length=(fiN (pT ts f.y) ts.length:Nat):=if_neg (by have:=hF.i;omega)
   have h156:=c156 ts f.y hl
   rw[hI]at h156 ⊢
   have h1:=hF.i
   have n1:=hF.o.n1
   have n2:=hF.o.n2
   exact⟨by omega,by rw[Kb];omega,h156,congrArg AV.agg (Jq Jf hF.i),Jr6 f.tr (by omega) (by omega),c100x hF.t hF.o hF.s hx hy hz,rfl⟩
 exact JU Tryz.f155 (fzB (mkB (sp155 ts x y z) 155 [(1,7,fun _=>some (.agg (Jf (tyF ts f))))] QJ)) key (by kernel_rfl)
def sp154(ts:List Ty)(x y z:Int):Nat->List AV->Option AV
 | 155,[.agg c,_,_]=>some (.agg (JC (Vo ts x y z (Jbm c))))
 | n,w=>spF n w
def fn155(ts:List Ty)(x y z:Int):AV:=.fn (.func 155) [] [.elt 1 [[.sl 13 (ts.map Jf)]] 0 0,.elt 3 [[.i x,.i y,.i z]] 0 0]
def la154(ts:List Ty)(fs:List Fl)(x y z:Int):LA:={
 pre:=[.own 5 210 4,.reno 5 1,.keep [1,5,8,9,10] [1],.bound 2],post:=[.reno 5 1,.keep [1,5,8,9,10] [1],.bound 2]
 Gh:=Nat
 st:=fun i=>⟨[(1,fn155 ts x y z),(5,.own 1 (((fs.take i).map (Vo ts x y z)).map JC).length),(8,.sl 3 (fs.map Jr)),(9,.i (fs.map Jr).length),(10,.i i)],[(1,.buf 210 4 (((fs.take i).map (Vo ts x y z)).map JC))],2⟩
 ok:=fun i=>i<=(fs.map Jr).length
 ms:=fun i=>(fs.map Jr).length-i }
abbrev JsV(fs:List Fl)(g:Nat):=fs.getD (g:Int).toNat default
abbrev Z39b(ts:List Ty)(x:Int)(y:Int)(z:Int):=[AV.elt 1 [[AV.sl 13 (List.map Jf ts)]] 0 0,AV.elt 3 [[AV.i x,AV.i y,AV.i z]] 0 0]
abbrev JiS(fs:List Fl):=List.map Jr fs
abbrev Jqn(fs:List Fl):=((JiS fs).length:Int)
abbrev JsU(ts:List Ty)(x:Int)(y:Int)(z:Int)(g:Nat)(fs:List Fl):=List.map JC (List.map (Vo ts x y z) (List.take g fs))
abbrev Z39f(fs:List Fl)(g:Nat)(ts:List Ty)(x:Int)(y:Int)(z:Int):=[AV.str (JsV fs g).n,AV.str (JsV fs g).y,AV.sl 5 (List.map Ja (J7 (List.map Ja (JsV fs g).tr))),AV.i (XT ts x y z (Jbm (Jr (JsV fs g))))]
theorem c154(ts:List Ty)(fs:List Fl)(x y z:Int)(hl:ts.length<=1000)(hm:fs.length<=1000)(hF:∀ f,f ∈ fs->FlOK ts f)(hx : -100000<=x/\x<=100000)(hy : -100000<=y/\y<=100000)(hz:0<=z/\z<=20000):P0 154 [.sl 3 (fs.map Jr),fn155 ts x y z] (.fresh 210 4 ((fs.map (Vo ts x y z)).map JC)):=by
 have key :
  (∃ (g:Nat),g<=(JiS fs).length/\AS.mk [(1,AV.fn (Fn.func 155) [] (Z39b ts x y z)),(5,AV.own 1 0),(8,AV.sl 3 (JiS fs)),(9,AV.i (Jqn fs)),(10,AV.i 0)] [(1,ABlk.buf 210 4 [])] 2=AS.mk [(1,AV.fn (Fn.func 155) []
  (Z39b ts x y z)),(5,AV.own 1 (JsU ts x y z g fs).length),(8,AV.sl 3 (JiS fs)),(9,AV.i (Jqn fs)),(10,AV.i (g:Int))] [(1,ABlk.buf 210 4 (JsU ts x y z g fs))] 2)/\∀ (g:Nat),g<=(JiS fs).length->(decide ((↑g :
  Int) < (Jqn fs))=true->(0:Int)<=(g:Int)/\(g:Int) < (Jqn fs)/\AV.agg (Jn (JiS fs) (g:Int).toNat)=AV.agg (Jr (JsV fs g))/\(JsU ts x y z g fs).length+1<=9223372036854775807/\((JsU ts x y z g
  fs).length+1) * 64<=140737488355328/\P0 155 [AV.agg (Jr (JsV fs g)),AV.elt 1 [[AV.sl 13 (List.map Jf ts)]] 0 0,AV.elt 3 [[AV.i x,AV.i y,AV.i z]] 0 0] (AV.agg (Z39f fs g ts x y z))/\Jg ((g:Int)+1)/\∃ (g' :
  Nat),g'<=(JiS fs).length/\(JiS fs).length-g' < (JiS fs).length-g/\AS.mk [(1,AV.fn (Fn.func 155) [] (Z39b ts x y z)),(5,AV.own 1 ((JsU ts x y z g fs).length+1)),(8,AV.sl 3 (JiS fs)),(9,AV.i (Jqn fs)),(10,
  AV.i ((g:Int)+1))] [(1,ABlk.buf 210 4 (List.map JC (List.map (Vo ts x y z) (List.take g fs))++[(Z39f fs g ts x y z)]))] 2=AS.mk [(1,AV.fn (Fn.func 155) [] (Z39b ts x y z)),(5,AV.own 1 (List.map JC (List.map
  (Vo ts x y z) (List.take g' fs))).length),(8,AV.sl 3 (JiS fs)),(9,AV.i (Jqn fs)),(10,AV.i (g':Int))] [(1,ABlk.buf 210 4 (List.map JC (List.map (Vo ts x y z) (List.take g' fs))))] 2)/\(decide ((g:Int) < (Jqn
  fs))=false->AV.fresh 210 4 (JsU ts x y z g fs)=AV.fresh 210 4 (List.map JC (List.map (Vo ts x y z) fs))):=by
   delta JsV Z39b Jqn JsU JiS Z39f
   simp only[JI,VI]
   have hlm:(List.map Jr fs).length=fs.length:=Kb _
   refine⟨⟨0,by omega,rfl⟩,fun g hg=>⟨fun hd=>?_,fun hd=>?_⟩⟩
   . rw[hlm]at hd
     have hlt:=Js hd
     have hmem:=JG hlt
     have h2:=X3 JC (Vo ts x y z) hlt
     have h7:(List.map JC (List.map (Vo ts x y z) (List.take g fs))).length=g:=by rw[Kb,Kb,Kg];omega
     have h8:(List.map JC (List.map (Vo ts x y z) (List.take (g+1) fs))).length=g+1:=by rw[Kb,Kb,Kg];omega
     refine⟨by omega,by omega,congrArg AV.agg (Jq Jr hlt),by omega,by omega,c155 ts (fs.getD g default) x y z hl (hF _ hmem) hx hy hz,by unfold Jg;omega,g+1,by omega,by omega,?_⟩
     rw[h8,<- h2,h7]
     rfl
   rw[Jz hd hg,hlm,Ky]
 exact JU Tryz.f154 (fzB (mkB (sp154 ts x y z) 154 [(4,1,rdL 3 Jr fs 3 true)] (fun i=>if i.beq 0 then some (la154 ts fs x y z)else none))) key (by kernel_rfl)
theorem c158(a:Ex) :P0 158 [.agg (JC a)] (.i a.e):=by
 have key :
  AV.i a.e=AV.i a.e:=by
   rfl
 exact JU Tryz.f158 (mkB spF 158 [] QJ) key (by kernel_rfl)
def sp157:Nat->List AV->Option AV
 | 158,[.agg c]=>some (.i (cJ [c] 0 3))
 | n,w=>spF n w
def la157(l:List Ex):LA:={
 pre:=[.own 5 3 1,.reno 5 1,.keep [1,5,8,9,10] [1],.bound 2],post:=[.reno 5 1,.keep [1,5,8,9,10] [1],.bound 2]
 Gh:=Nat
 st:=fun i=>⟨[(1,.fn (.func 158) [] []),(5,.own 1 (((l.take i).map Ex.e).map Jh).length),(8,.sl 4 (l.map JC)),(9,.i (l.map JC).length),(10,.i i)],[(1,.buf 3 1 (((l.take i).map Ex.e).map Jh))],2⟩
 ok:=fun i=>i<=(l.map JC).length
 ms:=fun i=>(l.map JC).length-i }
abbrev JsT(g:Nat)(l:List Ex):=List.map Jh (List.map Ex.e (List.take g l))
abbrev JiR(l:List Ex):=List.map JC l
abbrev Jqm(l:List Ex):=((JiR l).length:Int)
abbrev Z40d(l:List Ex)(g:Nat):=JC (l.getD (g:Int).toNat default)
theorem c157(l:List Ex)(hl:l.length<=1000):P0 157 [.sl 4 (l.map JC),.fn (.func 158) [] []] (.fresh 3 1 ((l.map Ex.e).map Jh)):=by
 have key :
  (∃ (g:Nat),g<=(JiR l).length/\AS.mk [(1,AV.fn (Fn.func 158) [] []),(5,AV.own 1 0),(8,AV.sl 4 (JiR l)),(9,AV.i (Jqm l)),(10,AV.i 0)] [(1,ABlk.buf 3 1 [])] 2=AS.mk [(1,AV.fn (Fn.func 158) [] []),(5,AV.own 1
  (JsT g l).length),(8,AV.sl 4 (JiR l)),(9,AV.i (Jqm l)),(10,AV.i (g:Int))] [(1,ABlk.buf 3 1 (JsT g l))] 2)/\∀ (g:Nat),g<=(JiR l).length->(decide ((g:Int) < (Jqm l))=true->(0:Int)<=(g:Int)/\(↑g :
  Int) < (Jqm l)/\AV.agg (Jn (JiR l) (g:Int).toNat)=AV.agg (Z40d l g)/\(JsT g l).length+1<=9223372036854775807/\((JsT g l).length+1) * 8<=140737488355328/\P0 158 [AV.agg (Z40d l g)] (AV.i (cJ [(Z40d l g)] 0 3)) /\
  Jg ((g:Int)+1)/\∃ (g':Nat),g'<=(JiR l).length/\(JiR l).length-g' < (JiR l).length-g/\AS.mk [(1,AV.fn (Fn.func 158) [] []),(5,AV.own 1 ((JsT g l).length+1)),(8,AV.sl 4 (JiR l)),(9,AV.i (Jqm l)),(10,
  AV.i ((g:Int)+1))] [(1,ABlk.buf 3 1 (List.map Jh (List.map Ex.e (List.take g l))++[[AV.i (cJ [(Z40d l g)] 0 3)]]))] 2=AS.mk [(1,AV.fn (Fn.func 158) [] []),(5,AV.own 1 (List.map Jh (List.map Ex.e (List.take g'
  l))).length),(8,AV.sl 4 (JiR l)),(9,AV.i (Jqm l)),(10,AV.i (g':Int))] [(1,ABlk.buf 3 1 (List.map Jh (List.map Ex.e (List.take g' l))))] 2)/\(decide ((g:Int) < (Jqm l))=false->AV.fresh 3 1 (JsT g l)=AV.fresh
  3 1 (List.map Jh (List.map Ex.e l))):=by
   delta JsT Jqm JiR Z40d
   have hlm:(List.map JC l).length=l.length:=Kb _
   refine⟨⟨0,by omega,rfl⟩,fun g hg=>⟨fun hd=>?_,fun hd=>?_⟩⟩
   . rw[hlm]at hd
     have hlt:=Js hd
     have h2:=X3 Jh Ex.e hlt
     have h7:(List.map Jh (List.map Ex.e (List.take g l))).length=g:=by rw[Kb,Kb,Kg];omega
     have h8:(List.map Jh (List.map Ex.e (List.take (g+1) l))).length=g+1:=by rw[Kb,Kb,Kg];omega
     refine⟨by omega,by omega,congrArg AV.agg (Jq JC hlt),by omega,by omega,c158 (l.getD g default),by unfold Jg;omega,g+1,by omega,by omega,?_⟩
     rw[h8,<- h2,h7]
     rfl
   rw[Jz hd hg,hlm,Ky]
 exact JU Tryz.f157 (fzB (mkB sp157 157 [(4,1,rdL 4 JC l 4 true)] (fun i=>if i.beq 0 then some (la157 l)else none))) key (by kernel_rfl)
def Jes(r:List AV):Int:=cJ [r] 0 3
theorem mapE(l:List Ex):(l.map JC).map Jes=l.map Ex.e:=by
 rw[Dc]
 exact List.map_congr_left fun _ _=>rfl
theorem JmX(ts:List Ty)(x y z:Int)(fs:List Fl):(fs.map (Vo ts x y z)).map Ex.e=fs.map (XT ts x y z):=by
 rw[Dc]
 exact List.map_congr_left fun _ _=>rfl
def sp128:Nat->List AV->Option AV
 | 157,[.sl _ rows,_]=>some (.fresh 3 1 ((rows.map Jes).map Jh))
 | n,w=>spF n w
theorem c128(l:List Ex)(hl:l.length<=1000):P0 128 [.sl 4 (l.map JC)] (.fresh 3 1 (((l.map JC).map Jes).map Jh)):=by
 have key :
  P0 157 [AV.sl 4 (List.map JC l),AV.fn (Fn.func 158) [] []] (AV.fresh 3 1 (List.map Jh (List.map Jes (List.map JC l))))/\AV.fresh 3 1 (List.map Jh (List.map Jes (List.map JC l)))=AV.fresh 3 1
  (List.map Jh (List.map Jes (List.map JC l))):=by
   rw[mapE]
   exact⟨c157 l hl,rfl⟩
 exact JU Tryz.f128 (mkB sp128 128 [] QJ) key (by kernel_rfl)
def Q9(ts:List Ty)(fs:List Fl)(x y z:Int):Int:=Jb [V6 ts fs,JT x y z]
def rP(ts:List Ty)(fs:List Fl)(x y z:Int):List Ex:=if Q9 ts fs x y z != 0 then[]else fs.map (Vo ts x y z)
theorem JkX{ts:List Ty}{fs:List Fl}(h:V6 ts fs=0):∀ f,f ∈ fs->FlOK ts f:=fun f hf=>by
 obtain⟨_,_,h3,h4⟩:=Jli h
 obtain⟨i,hi,e⟩:=List.mem_iff_getElem.1 hf
 have e2:fs.getD i default=f:=by rw[Ka,Kj hi,e];rfl
 obtain⟨h5,h6⟩:=h4 i hi
 rw[e2]at h5 h6
 rw[XZ]at h6
 obtain⟨h7,h8⟩:=VN h6
 exact⟨h5,h3 _ h5,h7,h8⟩
def sp127(ts:List Ty)(fs:List Fl)(x y z:Int):Nat->List AV->Option AV
 | 70,_=>some (.i (V6 ts fs))
 | 154,_=>some (.sl 4 ((fs.map (Vo ts x y z)).map JC))
 | n,w=>spF n w
theorem c127(ts:List Ty)(fs:List Fl)(x y z:Int)(hl:ts.length<=1000)(hm:fs.length<=1000)(hS:∀ t,t ∈ ts->ShortTy t)(hF:∀ f,f ∈ fs->f.n.length<=1000/\f.y.length<=1000/\f.tr.length<=1000):P0 127 [.sl 13 (ts.map Jf),.sl 3 (fs.map Jr),.agg [.i x,.i y,.i z]] (.tup [.sl 4 ((rP ts fs x y z).map JC),.i (Q9 ts fs x y z)]):=by
 have key :
  P0 70 [AV.sl 13 (List.map Jf ts),AV.sl 3 (List.map Jr fs)] (AV.i (V6 ts fs))/\P0 104 [AV.agg [AV.i x,AV.i y,AV.i z]] (AV.i (JT x y z))/\P0 87 [AV.sl 1 [[AV.i (V6 ts
  fs)],[AV.i (JT x y z)]]] (AV.i (Jb [hdI [AV.i (V6 ts fs)],hdI [AV.i (JT x y z)]]))/\((Jb [hdI [AV.i (V6 ts fs)],hdI [AV.i (JT x y z)]] != 0)=true->AV.tup [AV.sl 4 [],AV.i (Jb [hdI [AV.i (V6 ts
  fs)],hdI [AV.i (JT x y z)]])]=AV.tup [AV.sl 4 (List.map JC (rP ts fs x y z)),AV.i (Q9 ts fs x y z)])/\((Jb [hdI [AV.i (V6 ts fs)],hdI [AV.i (JT x y z)]] != 0)=false->P0 154 [AV.sl 3
  (List.map Jr fs),AV.fn (Fn.func 155) [] [AV.elt 1 [[AV.sl 13 (List.map Jf ts)]] 0 0,AV.elt 3 [[AV.i x,AV.i y,AV.i z]] 0 0]] (AV.sl 4 (List.map JC (List.map (Vo ts x y z) fs)))/\AV.tup [AV.sl 4 (List.map JC
  (List.map (Vo ts x y z) fs)),AV.i 0]=AV.tup [AV.sl 4 (List.map JC (rP ts fs x y z)),AV.i (Q9 ts fs x y z)]):=by
   refine⟨c70 ts fs hl hm hS hF,c104 x y z,c87 [_,_] (by simp),fun h=>?_,fun h=>?_⟩
   . have h:(Q9 ts fs x y z != 0)=true:=h
     show AV.tup [AV.sl 4 [],AV.i (Q9 ts fs x y z)]=_
     rw[rP,if_pos h]
     rfl
   have h:(Q9 ts fs x y z != 0)=false:=h
   have hz:=UU h
   have hz':=hz
   unfold Q9 at hz'
   rw[Jd,Jd]at hz'
   obtain⟨a,b,_⟩:=hz'
   have p:=Jgw b
   refine⟨(c154 ts fs x y z hl hm (JkX a) p.1 p.2.1 p.2.2).un,?_⟩
   rw[rP,if_neg (by rw[h];decide),hz]
 exact JU Tryz.f127 (gsB (fun i=>if i.beq 3 then[.nil 6 4]else[]) (fzB (mkB (sp127 ts fs x y z) 127 [] QJ))) key (by kernel_rfl)
def sp61(ts:List Ty)(fs:List Fl)(x y z:Int):Nat->List AV->Option AV
 | 127,_=>some (.tup [.sl 4 ((rP ts fs x y z).map JC),.i (Q9 ts fs x y z)])
 | 128,[.sl _ rows]=>some (.sl 1 ((rows.map Jes).map Jh))
 | 121,[.sl _ rows]=>some (.i (Jo2 (rows.map Jl8)))
 | 129,[.sl _ rows,_]=>some (.agg (Jn rows (rows.length-1)))
 | n,w=>spF n w
def JV(ts:List Ty)(fs:List Fl)(x y z:Int):Int:=if Q9 ts fs x y z != 0 then 0 else Jo2 (fs.map (XT ts x y z))
def Jl5(ts:List Ty)(fs:List Fl)(x y z:Int):List Int:=if Q9 ts fs x y z != 0 then[]else fs.map (XT ts x y z)
abbrev Z42a(ts:List Ty)(fs:List Fl)(x:Int)(y:Int)(z:Int):=List.map Jh (List.map Jes (List.map JC (rP ts fs x y z)))
theorem c61(ts:List Ty)(fs:List Fl)(x y z:Int)(hl:ts.length<=1000)(hm:fs.length<=1000)(hS:∀ t,t ∈ ts->ShortTy t)(hF:∀ f,f ∈ fs->f.n.length<=1000/\f.y.length<=1000/\f.tr.length<=1000):P0 61 [.sl 13 (ts.map Jf),.sl 3 (fs.map Jr),.agg [.i x,.i y,.i z]] (.tup [.i (JV ts fs x y z),.i (Q9 ts fs x y z)]):=by
 have key :
  P0 127 [AV.sl 13 (List.map Jf ts),AV.sl 3 (List.map Jr fs),AV.agg [AV.i x,AV.i y,AV.i z]] (AV.tup [AV.sl 4 (List.map JC (rP ts fs x y z)),AV.i (Q9 ts fs x y z)])/\((Q9 ts fs x y z != 0)=true->AV.tup [AV.i 0,
  AV.i (Q9 ts fs x y z)]=AV.tup [AV.i (JV ts fs x y z),AV.i (Q9 ts fs x y z)])/\((Q9 ts fs x y z != 0)=false->P0 128 [AV.sl 4 (List.map JC (rP ts fs x y z))] (AV.sl 1 (Z42a ts fs x y z))/\P0 121 [AV.sl 1 (Z42a ts
  fs x y z)] (AV.i (Jo2 (List.map Jl8 (Z42a ts fs x y z))))/\AV.tup [AV.i (Jo2 (List.map Jl8 (Z42a ts fs x y z))),AV.i 0]=AV.tup [AV.i (JV ts fs x y z),AV.i (Q9 ts fs x y z)]):=by
   delta Z42a
   refine⟨c127 ts fs x y z hl hm hS hF,fun h=>?_,fun h=>?_⟩
   . rw[JV,if_pos h]
   have hz:=UU h
   have eP:rP ts fs x y z=fs.map (Vo ts x y z):=if_neg (by rw[h];decide)
   rw[eP,mapE,XB WS,JmX]
   have k:=(c128 (fs.map (Vo ts x y z)) (by rw[Kb];omega)).un
   rw[mapE,JmX]at k
   refine⟨k,c121 _ (by rw[Kb];omega),?_⟩
   rw[JV,if_neg (by rw[h];decide),hz]
 exact JU Tryz.f61 (fzB (mkB (sp61 ts fs x y z) 61 [] QJ)) key (by kernel_rfl)
theorem c64(ts:List Ty)(fs:List Fl)(x y z:Int)(hl:ts.length<=1000)(hm:fs.length<=1000)(hS:∀ t,t ∈ ts->ShortTy t)(hF:∀ f,f ∈ fs->f.n.length<=1000/\f.y.length<=1000/\f.tr.length<=1000):P0 64 [.sl 13 (ts.map Jf),.sl 3 (fs.map Jr),.agg [.i x,.i y,.i z]] (.tup [.sl 1 ((Jl5 ts fs x y z).map Jh),.i (Q9 ts fs x y z)]):=by
 have key :
  P0 127 [AV.sl 13 (List.map Jf ts),AV.sl 3 (List.map Jr fs),AV.agg [AV.i x,AV.i y,AV.i z]] (AV.tup [AV.sl 4 (List.map JC (rP ts fs x y z)),AV.i (Q9 ts fs x y z)])/\((Q9 ts fs x y z != 0)=true →
  AV.tup [AV.sl 1 [],AV.i (Q9 ts fs x y z)]=AV.tup [AV.sl 1 (List.map Jh (Jl5 ts fs x y z)),AV.i (Q9 ts fs x y z)])/\((Q9 ts fs x y z != 0)=false->P0 128 [AV.sl 4 (List.map JC (rP ts fs x y z))]
  (AV.sl 1 (List.map Jh (List.map Jes (List.map JC (rP ts fs x y z)))))/\AV.tup [AV.sl 1 (List.map Jh (List.map Jes (List.map JC (rP ts fs x y z)))),AV.i 0]=AV.tup [AV.sl 1 (List.map Jh (Jl5 ts fs x y z)),AV.i
  (Q9 ts fs x y z)]):=by
   refine⟨c127 ts fs x y z hl hm hS hF,fun h=>?_,fun h=>?_⟩
   . rw[Jl5,if_pos h]
     rfl
   have hz:=UU h
   have eP:rP ts fs x y z=fs.map (Vo ts x y z):=if_neg (by rw[h];decide)
   rw[eP,mapE,JmX]
   have k:=(c128 (fs.map (Vo ts x y z)) (by rw[Kb];omega)).un
   rw[mapE,JmX]at k
   refine⟨k,?_⟩
   rw[Jl5,if_neg (by rw[h];decide),hz]
 exact JU Tryz.f64 (gsB (fun i=>if i.beq 3 then[.nil 6 1]else[]) (fzB (mkB (sp61 ts fs x y z) 64 [] QJ))) key (by kernel_rfl)
def Jcg(a b:Int):Int:=if decide (a < b)then -1 else if decide (a > b)then 1 else 0
def JqU:Nat->List AV->Option AV
 | 172,[.int _ _]=>some (.bool false)
 | 159,[.int _ a,.int _ b]=>some (.i (Jcg a b))
 | 130,[.agg a,.agg b]=>some (.i (Jcg (Jes a) (Jes b)))
 | n,w=>spF n w
theorem c172(a:Int) :P0 172 [.i a] (.bool false):=by
 have key :
  AV.bool (a != a)=AV.bool false/\AV.bool false=AV.bool false:=by
   rw[bne_self_eq_false]
   exact⟨rfl,rfl⟩
 exact JU Tryz.f172 (mkB spF 172 [(1,2,rdF)] QJ) key (by kernel_rfl)
def cl159:Operand->Bool
 | .tmp t=>t.beq 11 || t.beq 13
 | _=>false
theorem c159(a b:Int) :P0 159 [.i a,.i b] (.i (Jcg a b)):=by
 have key :
  P0 172 [AV.i a] (AV.bool false)/\P0 172 [AV.i b] (AV.bool false)/\(decide (a < b)=true->AV.i (-1)=AV.i (Jcg a b))/\(decide (a < b)=false->(decide (a > b)=true->AV.i 1=AV.i (Jcg a
  b))/\(decide (a > b)=false->AV.i 0=AV.i (Jcg a b))):=by
   refine⟨c172 a,c172 b,fun h=>?_,fun h=>⟨fun h2=>?_,fun h2=>?_⟩⟩
   . rw[Jcg,if_pos h]
   . rw[Jcg,if_neg (by rw[h];decide),if_pos h2]
   rw[Jcg,if_neg (by rw[h];decide),if_neg (by rw[h2];decide)]
 exact JU Tryz.f159 ({ mkB JqU 159 [] QJ with cl:=cl159 }) key (by kernel_rfl)
theorem c130(a b:Ex) :P0 130 [.agg (JC a),.agg (JC b)] (.i (Jcg a.e b.e)):=by
 have key :
  P0 159 [AV.i a.e,AV.i b.e] (AV.i (Jcg a.e b.e))/\AV.i (Jcg a.e b.e)=AV.i (Jcg a.e b.e):=by
   exact⟨c159 _ _,rfl⟩
 exact JU Tryz.f130 (fzB (mkB JqU 130 [] QJ)) key (by kernel_rfl)
def bsI(e:Nat->Int):Nat->Nat
 | 0=>0
 | i+1=>if decide (e (i+1) > e (bsI e i))then i+1 else bsI e i
theorem Jea(e:Nat->Int):∀ i,bsI e i<=i
 | 0=>Kr _
 | i+1=>by
  have:=Jea e i
  simp only[bsI]
  split <;> omega
theorem Jeb{e f:Nat->Int}:∀ {i:Nat},(∀ k,k<=i->e k=f k)->bsI e i=bsI f i
 | 0,_=>rfl
 | i+1,h=>by
  simp only[bsI]
  rw[Jeb (i:=i) (fun k hk=>h k (by omega)),h _ (Kr _),h (bsI f i) (by have:=Jea f i;omega)]
theorem Jlh(a b:Int):decide (Jcg a b > 0)=decide (a > b):=by
 unfold Jcg
 by_cases h:a < b
 . rw[if_pos (decide_eq_true h),decide_eq_false (show ¬ a > b by omega)]
   rfl
 rw[if_neg (by rw[decide_eq_false h];decide)]
 by_cases h2:a > b
 . rw[if_pos (decide_eq_true h2),decide_eq_true h2]
   rfl
 rw[if_neg (by rw[decide_eq_false h2];decide),decide_eq_false h2]
 rfl
def la129(l:List Ex):LA:={
 pre:=[.reno 4 2,.reno 5 1,.keep [0,1,4,5,6] [1,2],.bound 3],post:=[.keep [0,1,4,5,6] [1,2],.bound 3]
 Gh:=Nat
 st:=fun i=>⟨[(0,.sl 4 (l.map JC)),(1,.fn (.func 130) [] []),(4,.ptr 2 0),(5,.ptr 1 0),(6,.i ((i:Int)+1))],[(1,.box (JC (l.getD (bsI (fun k=>(l.getD k default).e) i) default))),(2,.box [.str [],.str [],.ex (.slice none 0 0),.i 0])],3⟩
 ok:=fun i=>i+1<=l.length
 ms:=fun i=>l.length-i }
abbrev JsS:=[AV.str [],AV.str [],AV.ex (Value.slice none 0 0),AV.i 0]
abbrev JsR(l:List Ex)(g:Nat):=JC (l.getD (bsI (fun(k:Nat)=>(l.getD k default).e) g) default)
abbrev JsQ(l:List Ex)(g:Nat):=JC (l.getD ((g:Int)+1).toNat default)
abbrev Jou(l:List Ex):=List.map JC l
abbrev JsP(l:List Ex):=((Jou l).length:Int)
abbrev Z43e(l:List Ex)(g:Nat):=Jcg (Jes (JsQ l g)) (Jes (List.take (TI.mk (TK.struct [(0,168,3),(3,3,1)]) 4 64 true JsS true).size (List.drop 0 (JsR l g)))) > 0
abbrev Z43f(l:List Ex)(g:Nat):=[(0,AV.sl 4 (Jou l)),(1,AV.fn (Fn.func 130) [] []),(4,AV.ptr 2 0),(5,AV.ptr 1 0),(6,AV.i ((g:Int)+1+1))]
abbrev Z43g(l:List Ex)(g':Nat):=[(0,AV.sl 4 (Jou l)),(1,AV.fn (Fn.func 130) [] []),(4,AV.ptr 2 0),(5,AV.ptr 1 0),(6,AV.i ((g':Int)+1))]
abbrev Z43h(l:List Ex)(g':Nat):=[(1,ABlk.box (JC (l.getD (bsI (fun(k:Nat)=>(l.getD k default).e) g') default))),(2,ABlk.box JsS)]
theorem c129(l:List Ex)(h1:1<=l.length)(hl:l.length<=1000):P0 129 [.sl 4 (l.map JC),.fn (.func 130) [] []] (.agg (JC (l.getD (bsI (fun k=>(l.getD k default).e) (l.length-1)) default))):=by
 have key :
  AV.bool (decide ((JsP l) < 1))=AV.bool false/\(false=true->False)/\(false=false->(0:Int)<=0/\(0:Int) < (JsP l)/\AV.agg (Jn (Jou l) 0)=AV.agg (JC (l.getD (Int.toNat (0:Int)) default))/\(∃ (g:Nat),g +
  1<=l.length/\AS.mk [(0,AV.sl 4 (Jou l)),(1,AV.fn (Fn.func 130) [] []),(4,AV.ptr 2 0),(5,AV.ptr 1 0),(6,AV.i 1)] [(1,ABlk.box (JC (l.getD (Int.toNat (0:Int)) default))),(2,ABlk.box JsS)] 3=AS.mk [(0,AV.sl 4
  (Jou l)),(1,AV.fn (Fn.func 130) [] []),(4,AV.ptr 2 0),(5,AV.ptr 1 0),(6,AV.i ((g:Int)+1))] [(1,ABlk.box (JsR l g)),(2,ABlk.box JsS)] 3)/\∀ (g:Nat),g+1<=l.length->(decide ((g:Int)+1 < (JsP l))=true
  → (0:Int)<=(g:Int)+1/\(g:Int)+1 < (JsP l)/\AV.agg (Jn (Jou l) ((g:Int)+1).toNat)=AV.agg (JsQ l g)/\P0 130 [AV.agg (JsQ l g),AV.agg (JsR l g)] (AV.i (Jcg (Jes (JsQ l g)) (Jes (JsR l g)))) /\
  (decide (Z43e l g)=true->(0:Int)<=(g:Int)+1/\(g:Int)+1 < (JsP l)/\AV.agg (Jn (Jou l) ((g:Int)+1).toNat)=AV.agg (JsQ l g)/\Jg ((g:Int)+1+1)/\∃ (g':Nat),g'+1<=l.length/\l.length-g' <
  l.length-g/\AS.mk (Z43f l g) [(1,ABlk.box (JsQ l g)),(2,ABlk.box JsS)] 3=AS.mk (Z43g l g') (Z43h l g') 3)/\(decide (Z43e l g)=false->Jg ((g:Int)+1+1)/\∃ (g':Nat),g'+1<=l.length/\l.length-g' <
  l.length-g/\AS.mk (Z43f l g) [(1,ABlk.box (JsR l g)),(2,ABlk.box JsS)] 3=AS.mk (Z43g l g') (Z43h l g') 3))/\(decide ((g:Int)+1 < (JsP l))=false->AV.agg (JsR l g)=AV.agg (JC (l.getD (bsI (fun(k:Nat) =>
  (l.getD k default).e) (l.length-1)) default)))):=by
   delta JsS JsR JsQ JsP Z43e Z43f Z43g Z43h Jou
   have hlm:(List.map JC l).length=l.length:=Kb _
   refine⟨by rw[decide_eq_false (by omega)],fun h=>Bool.noConfusion h,fun _=>⟨by omega,by omega,congrArg AV.agg (Jq JC (by omega)),⟨0,by omega,rfl⟩,fun g hg=>⟨fun hd=>?_,fun hd=>?_⟩⟩⟩
   . have hlt:g+1 < l.length:=by have:=K0 hd;omega
     have eg:((g:Int)+1).toNat=g+1:=by omega
     rw[eg]
     have hrow:Jn (List.map JC l) (g+1)=JC (l.getD (g+1) default):=Jq JC hlt
     refine⟨by omega,by omega,congrArg AV.agg hrow,c130 _ _,fun h=>?_,fun h=>?_⟩
     . have h:decide (Jcg (l.getD (g+1) default).e (l.getD (bsI (fun k=>(l.getD k default).e) g) default).e > 0)=true:=h
       rw[Jlh]at h
       refine⟨by omega,by omega,congrArg AV.agg hrow,by unfold Jg;omega,g+1,by omega,by omega,?_⟩
       rw[show bsI (fun k=>(l.getD k default).e) (g+1)=g+1 from if_pos h]
       rfl
     have h:decide (Jcg (l.getD (g+1) default).e (l.getD (bsI (fun k=>(l.getD k default).e) g) default).e > 0)=false:=h
     rw[Jlh]at h
     refine⟨by unfold Jg;omega,g+1,by omega,by omega,?_⟩
     rw[show bsI (fun k=>(l.getD k default).e) (g+1)=bsI (fun k=>(l.getD k default).e) g from if_neg (by rw[h];decide)]
     rfl
   have:=K1 hd
   rw[show g=l.length-1 by omega]
 exact JU Tryz.f129 (fzB (mkB JqU 129 [(1,2,rdF),(3,2,rdL 4 JC l 4 true),(7,4,rdL 4 JC l 4 true),(8,3,rdL 4 JC l 4 true)] (fun i=>if i.beq 0 then some (la129 l)else none))) key (by kernel_rfl)
def Jg3(ts:List Ty)(fs:List Fl)(x y z:Int):Int:=Jb [Q9 ts fs x y z,Jk (if Q9 ts fs x y z == 0 then((rP ts fs x y z).length:Int) == 0 else false) 12]
def louN(ts:List Ty)(fs:List Fl)(x y z:Int):List UInt8:=(fs.getD (bsI (fun k=>XT ts x y z (fs.getD k default)) (fs.length-1)) default).n
def Jbh(ts:List Ty)(fs:List Fl)(x y z:Int):List UInt8:=if Jg3 ts fs x y z != 0 then[]else louN ts fs x y z
def sp65(ts:List Ty)(fs:List Fl)(x y z:Int):Nat->List AV->Option AV
 | 129,[.sl _ rows,_]=>some (.agg (JC (Vo ts x y z (fs.getD (bsI (fun k=>XT ts x y z (fs.getD k default)) (fs.length-1)) default))))
 | n,w=>sp61 ts fs x y z n w
abbrev Z44a(ts:List Ty)(fs:List Fl)(x:Int)(y:Int)(z:Int):=Jk (if(Q9 ts fs x y z == 0)=true then(↑(List.map JC (rP ts fs x y z)).length:Int) == 0 else false) (12:Int)
abbrev Jua(fs:List Fl)(ts:List Ty)(x:Int)(y:Int)(z:Int):=fs.getD (bsI (fun(k:Nat)=>XT ts x y z (fs.getD k default)) (fs.length-1)) default
abbrev Z44c(ts:List Ty)(fs:List Fl)(x:Int)(y:Int)(z:Int):=[hdI [AV.i (Q9 ts fs x y z)],hdI [AV.i (Z44a ts fs x y z)]]
theorem c65(ts:List Ty)(fs:List Fl)(x y z:Int)(hl:ts.length<=1000)(hm:fs.length<=1000)(hS:∀ t,t ∈ ts->ShortTy t)(hF:∀ f,f ∈ fs->f.n.length<=1000/\f.y.length<=1000/\f.tr.length<=1000):P0 65 [.sl 13 (ts.map Jf),.sl 3 (fs.map Jr),.agg [.i x,.i y,.i z]] (.tup [.str (Jbh ts fs x y z),.i (Jg3 ts fs x y z)]):=by
 have key :
  P0 127 [AV.sl 13 (List.map Jf ts),AV.sl 3 (List.map Jr fs),AV.agg [AV.i x,AV.i y,AV.i z]] (AV.tup [AV.sl 4 (List.map JC (rP ts fs x y z)),AV.i (Q9 ts fs x y z)])/\((Q9 ts fs x y z == 0)=true->(Q9 ts fs x y z
  == 0)=true)/\((Q9 ts fs x y z == 0)=true->(Q9 ts fs x y z == 0)=true)/\((Q9 ts fs x y z == 0)=true->(Q9 ts fs x y z == 0)=true)/\P0 92 [AV.bool (if(Q9 ts fs x y z == 0)=true then(↑(List.map JC (rP ts
  fs x y z)).length:Int) == 0 else false),AV.i 12] (AV.i (Z44a ts fs x y z))/\P0 87 [AV.sl 1 [[AV.i (Q9 ts fs x y z)],[AV.i (Z44a ts fs x y z)]]] (AV.i (Jb (Z44c ts fs x y z)))/\((Jb (Z44c ts fs x y z) != 0)=true →
  AV.tup [AV.str [],AV.i (Jb (Z44c ts fs x y z))]=AV.tup [AV.str (Jbh ts fs x y z),AV.i (Jg3 ts fs x y z)])/\((Jb (Z44c ts fs x y z) != 0)=false->P0 129 [AV.sl 4 (List.map JC (rP ts fs x y z)),AV.fn (Fn.func
  130) [] []] (AV.agg [AV.str (Vo ts x y z (Jua fs ts x y z)).f.n,AV.str (Vo ts x y z (Jua fs ts x y z)).f.y,AV.sl 5 (List.map Ja (Vo ts x y z (Jua fs ts x y z)).f.tr),AV.i (XT ts x y z (Jua fs ts x y z))])/\AV.tup
  [AV.str (Vo ts x y z (Jua fs ts x y z)).f.n,AV.i 0]=AV.tup [AV.str (Jbh ts fs x y z),AV.i (Jg3 ts fs x y z)]):=by
   delta Z44a Jua Z44c
   rw[Kb]
   refine⟨c127 ts fs x y z hl hm hS hF,fun h=>h,fun h=>h,fun h=>h,c92 _ _,c87 [_,_] (by simp),fun h=>?_,fun h=>?_⟩
   . have h:(Jg3 ts fs x y z != 0)=true:=h
     show AV.tup [AV.str [],AV.i (Jg3 ts fs x y z)]=_
     rw[Jbh,if_pos h]
   have h:(Jg3 ts fs x y z != 0)=false:=h
   have hz:=UU h
   have hz':=hz
   unfold Jg3 at hz'
   rw[Jd,Jd]at hz'
   obtain⟨a,b,_⟩:=hz'
   have b:=V4 (by decide) b
   rw[if_pos (by rw[a];rfl)]at b
   have eP:rP ts fs x y z=fs.map (Vo ts x y z):=if_neg (by rw[a];decide)
   rw[eP,Kb]at b
   have hn:fs.length ≠ 0:=fun e=>by rw[e]at b;cases b
   rw[eP]
   refine⟨?_,?_⟩
   . have k:=c129 (fs.map (Vo ts x y z)) (by rw[Kb];omega) (by rw[Kb];omega)
     have e1:∀ k,k < fs.length->(fs.map (Vo ts x y z)).getD k default=Vo ts x y z (fs.getD k default):=fun k hk=>by
      rw[Ka,Ka,Kk,Kj hk]
      rfl
     have e2:bsI (fun k=>((fs.map (Vo ts x y z)).getD k default).e) ((fs.map (Vo ts x y z)).length-1)=bsI (fun k=>XT ts x y z (fs.getD k default)) (fs.length-1):=by
      rw[Kb]
      exact Jeb fun k hk=>by rw[e1 k (by omega)];rfl
     have e3:=Jea (fun k=>XT ts x y z (fs.getD k default)) (fs.length-1)
     rw[e2,e1 _ (by omega)]at k
     exact k
   rw[Jbh,if_neg (by rw[h];decide),hz]
   rfl
 exact JU Tryz.f65 (fzB (mkB (sp65 ts fs x y z) 65 [] QJ)) key (by kernel_rfl)
def louR(ts:List Ty)(fs:List Fl)(x y z:Int):List UInt8:=if((fs.length:Int) == 0)then[]else louN ts fs x y z
def louE(fs:List Fl):Int:=if((fs.length:Int) == 0)then 12 else 0
theorem sf_of{ts:List Ty}{fs:List Fl}(h:sSF ts fs=true):ts.length<=9/\fs.length<=17/\(∀ t,t ∈ ts->ShortTy t)/\∀ f,f ∈ fs->f.n.length<=1000/\f.y.length<=1000/\f.tr.length<=1000:=by
 unfold sSF at h
 simp only[Kd]at h
 obtain⟨h1,h2,h3⟩:=h
 have hsz:ts.length<=9/\fs.length<=17:=by
  unfold szOK at h3
  by_cases a:(ts.length:Int)<=4 <;> by_cases b:(ts.length:Int)=9 <;> by_cases c:(fs.length:Int)<=4 <;> by_cases d:(fs.length:Int)=17 <;> simp[a,b,c,d]at h3 <;> omega
 refine⟨hsz.1,hsz.2,fun t ht=>?_,fun f hf=>?_⟩
 . obtain⟨i,hi,e⟩:=List.mem_iff_getElem.1 ht
   have:=List.all_eq_true.1 h1 i (List.mem_range.2 hi)
   rw[Ka,Kj hi,e]at this
   exact Jmx this
 obtain⟨i,hi,e⟩:=List.mem_iff_getElem.1 hf
 have h:=List.all_eq_true.1 h2 i (List.mem_range.2 hi)
 rw[Ka,Kj hi,e]at h
 have h:Jjt f=true:=h
 unfold Jjt at h
 by_cases a:f.tr.length<=17
 . by_cases b:(f.n.length:Int) > 40
   . simp[a,b]at h
   by_cases c:(f.y.length:Int) > 40
   . simp[a,b,c]at h
   omega
 simp[a]at h
theorem Wd{ts:List Ty}{fs:List Fl}{x y z:Int}(hz:Q9 ts fs x y z=0):JV ts fs x y z=Jo2 (fs.map (XT ts x y z))/\Jl5 ts fs x y z=fs.map (XT ts x y z)/\Jg3 ts fs x y z=louE fs/\Jbh ts fs x y z=louR ts fs x y z:=by
 have e1:rP ts fs x y z=fs.map (Vo ts x y z):=if_neg (by rw[hz];decide)
 have e2:Jg3 ts fs x y z=louE fs:=by
  unfold Jg3 louE
  rw[e1,hz,Kb]
  cases (fs.length:Int) == 0 <;> rfl
 refine⟨if_neg (by rw[hz];decide),if_neg (by rw[hz];decide),e2,?_⟩
 unfold Jbh louR
 rw[e2]
 unfold louE
 cases (fs.length:Int) == 0 <;> rfl
end Go.Proofs.YtjhjmncjidbieaaGreatDoor
namespace Go.Proofs.YtjhjmncjidbieaaGreatDoor
open Go Go.Av Go.RowKit Go.ChangeShapes Go.WideShapes
theorem fx_of{n:Nat}{r:List AV}(hn:QM T0 n 110=[.int .i64,.int .i64,.int .i64,.int .i64,.int .i64])(hp:J1 T0 n 110=true)(h:ASh T0 n 110 r):∃ x:Fx,r=Ja x/\True:=by
 have:=QH n 110 r hp h
 rw[hn]at this
 obtain⟨_,_,rfl,⟨a,rfl,_⟩,_,_,rfl,⟨b,rfl,_⟩,_,_,rfl,⟨c,rfl,_⟩,_,_,rfl,⟨d,rfl,_⟩,_,_,rfl,⟨e,rfl,_⟩,rfl⟩:=this
 exact⟨⟨a,b,c,d,e⟩,rfl,trivial⟩
theorem ty_of{n m:Nat}{r:List AV}(hn:QM T0 n 47=[.str,.sl m 3 1,.int .i64,.int .i64,.int .i64,.int .i64,.int .i64,.int .i64,.int .i64,.int .i64,.int .i64,.sl m 3 1,.sl m 117 2])(hp:J1 T0 n 47=true){k:Nat}(h1:QM T0 m 3=[.int .i64])(h2:J1 T0 m 3=true)(h3:QM T0 m 117=[.int .i64,.sl k 3 1])(h4:J1 T0 m 117=true)(h5:QM T0 k 3=[.int .i64])(h6:J1 T0 k 3=true)(h:ASh T0 n 47 r):∃ t:Ty,r=Jf t/\t.st.length<=maxLen:=by
 have h2':=QH n 47 r hp h
 rw[hn]at h2'
 obtain⟨_,_,rfl,⟨nm,rfl,_⟩,_,_,rfl,⟨rs,rfl,_,hrs⟩,_,_,rfl,⟨d0,rfl,_⟩,_,_,rfl,⟨d1,rfl,_⟩,_,_,rfl,⟨d2,rfl,_⟩,_,_,rfl,⟨d3,rfl,_⟩,_,_,rfl,⟨d4,rfl,_⟩,_,_,rfl,⟨d5,rfl,_⟩,_,_,rfl,⟨d6,rfl,_⟩,_,_,rfl,⟨d7,rfl,_⟩,_,_,rfl,⟨sd,rfl,_⟩,_,_,rfl,⟨rq,rfl,_,hrq⟩,_,_,rfl,⟨rt,rfl,hlt,hrt⟩,rfl⟩:=h2'
 obtain⟨sh,rfl,_⟩:=Xr (enc:=Jh) (Q:=Jg) (fun r hm=>JkG h1 h2 (hrs r hm))
 obtain⟨sq,rfl,_⟩:=Xr (enc:=Jh) (Q:=Jg) (fun r hm=>JkG h1 h2 (hrq r hm))
 obtain⟨st,rfl,_⟩:=Xr (enc:=Ji) (Q:=fun _=>True) (fun r hm=>sg_of (m:=k) h3 h4 h5 h6 (hrt r hm))
 exact⟨⟨nm,sh,d0,d1,d2,d3,d4,d5,d6,d7,sd,sq,st⟩,rfl,by simpa using hlt⟩
theorem JqJ{a:AV}(h:JiD T0 8 120 a):∃ ts:List Ty,a=.sl 13 (ts.map Jf)/\ts.length<=maxLen/\∀ t,t ∈ ts->t.st.length<=maxLen:=by
 obtain⟨rows,rfl,hl,hr⟩:=Jhc (c:=.sl 7 47 13) (ti:=⟨(.slice 47 13 160),1,24,false,[.ex (.slice none 0 0)],false⟩) (by kernel_rfl) rfl (by kernel_rfl) (by kernel_rfl) h
 obtain⟨l,rfl,h2⟩:=Xr (enc:=Jf) (Q:=fun t=>t.st.length<=maxLen) (fun r hm=>ty_of (m:=5) (k:=3) (by kernel_rfl) (by kernel_rfl) (by kernel_rfl) (by kernel_rfl) (by kernel_rfl) (by kernel_rfl) (by kernel_rfl) (by kernel_rfl) (hr r hm))
 exact⟨l,rfl,by simpa using hl,h2⟩
theorem fl_of{n m:Nat}{r:List AV}(hn:QM T0 n 157=[.str,.str,.sl m 110 5])(hp:J1 T0 n 157=true)(h1:QM T0 m 110=[.int .i64,.int .i64,.int .i64,.int .i64,.int .i64])(h2:J1 T0 m 110=true)(h:ASh T0 n 157 r):∃ f:Fl,r=Jr f/\True:=by
 have h2':=QH n 157 r hp h
 rw[hn]at h2'
 obtain⟨_,_,rfl,⟨nm,rfl,_⟩,_,_,rfl,⟨ty,rfl,_⟩,_,_,rfl,⟨rt,rfl,_,hrt⟩,rfl⟩:=h2'
 obtain⟨tr,rfl,_⟩:=Xr (enc:=Ja) (Q:=fun _=>True) (fun r hm=>fx_of h1 h2 (hrt r hm))
 exact⟨⟨nm,ty,tr⟩,rfl,trivial⟩
theorem JrQ{a:AV}(h:JiD T0 8 121 a):∃ fs:List Fl,a=.sl 3 (fs.map Jr)/\fs.length<=maxLen:=by
 obtain⟨rows,rfl,hl,hr⟩:=Jhc (c:=.sl 7 157 3) (ti:=⟨(.slice 157 3 56),1,24,false,[.ex (.slice none 0 0)],false⟩) (by kernel_rfl) rfl (by kernel_rfl) (by kernel_rfl) h
 obtain⟨l,rfl,_⟩:=Xr (enc:=Jr) (Q:=fun _=>True) (fun r hm=>fl_of (m:=5) (by kernel_rfl) (by kernel_rfl) (by kernel_rfl) (by kernel_rfl) (hr r hm))
 exact⟨l,rfl,by simpa using hl⟩
theorem Jm2{a:AV}(h:JiD T0 8 155 a):∃ x y z q0 q1:Int,a=.agg [.i x,.i y,.i z,.int .u16 q0,.int .u16 q1]/\(0<=q0/\q0<=65535)/\(0<=q1/\q1<=65535):=by
 obtain⟨l,rfl,h2⟩:=JnJ (cs:=[.int .i64,.int .i64,.int .i64,.int .u16,.int .u16]) (ti:=⟨(.struct [(0,51,3),(3,107,1),(4,107,1)]),5,32,true,[.int .i64 0,.int .i64 0,.int .i64 0,.int .u16 0,.int .u16 0],true⟩) (by kernel_rfl) rfl (by kernel_rfl) (by kernel_rfl) h
 obtain⟨_,_,rfl,⟨x,rfl,_⟩,_,_,rfl,⟨y,rfl,_⟩,_,_,rfl,⟨z,rfl,_⟩,_,_,rfl,⟨q0,rfl,h0⟩,_,_,rfl,⟨q1,rfl,h1⟩,rfl⟩:=h2
 refine⟨x,y,z,q0,q1,rfl,?_,?_⟩
 . simp only[Lit.wf,Kd,Ko]at h0
   exact h0
 simp only[Lit.wf,Kd,Ko]at h1
 exact h1
end Go.Proofs.YtjhjmncjidbieaaGreatDoor
namespace Go.Proofs
open Go.Shelf
def Tryz.lays137_ren:Go.Shelf.Ren:=⟨fun | 137=>165 | 217=>177 | 266=>185 | n=>n,fun | 9=>9 | 5=>5 | 3=>3 | n=>n,fun | n=>n⟩
theorem Tryz.lays137:Go.Proofs.Lays.n137 Tryz.prog Tryz.lays137_ren:={
 mixed:=by kernel_rfl
 f137:=Tryz.func165.trans (congrArg some (by kernel_rfl))
 f217:=Tryz.func177.trans (congrArg some (by kernel_rfl))
 f266:=Tryz.func185.trans (congrArg some (by kernel_rfl))
 t3:=Tryz.underlying3
 a3:=Tryz.isAgg3
 z3:=Tryz.sizeOf3
 v3:=Tryz.zeroValue3
 t5:=Tryz.underlying5
 a5:=Tryz.isAgg5
 z5:=Tryz.sizeOf5
 v5:=Tryz.zeroValue5
 t9:=Tryz.underlying9
 a9:=Tryz.isAgg9
 z9:=Tryz.sizeOf9
 v9:=Tryz.zeroValue9 }
open Go.RowKit in
theorem Tryz.strings_IndexByte(s:ByteArray)(c:Int)(w:World) :
 Calls Tryz.prog 165 #[.string s,.int .u8 c] w fun e w'=>e=.returned (.int .i64 (Lib.indexByte s.data.toList c.toNat.toUInt8))/\w'=w:=Any.strings_IndexByte Tryz.lays137 s c w
def Tryz.lays143_ren:Go.Shelf.Ren:=⟨fun | 143=>181 | 219=>189 | 217=>177 | 225=>197 | 224=>198 | 267=>199 | 266=>185 | 314=>205 | n=>n,fun | 9=>9 | 3=>3 | 4=>4 | 5=>5 | 46=>283 | 146=>292 | 51=>78 | n=>n,fun | 1=>3 | n=>n⟩
theorem Tryz.lays143:Go.Proofs.Lays.n143 Tryz.prog Tryz.lays143_ren:={
 mixed:=by kernel_rfl
 f143:=Tryz.func181.trans (congrArg some (by kernel_rfl))
 f217:=Tryz.func177.trans (congrArg some (by kernel_rfl))
 f219:=Tryz.func189.trans (congrArg some (by kernel_rfl))
 f224:=Tryz.func198.trans (congrArg some (by kernel_rfl))
 f225:=Tryz.func197.trans (congrArg some (by kernel_rfl))
 f266:=Tryz.func185.trans (congrArg some (by kernel_rfl))
 f267:=Tryz.func199.trans (congrArg some (by kernel_rfl))
 f314:=Tryz.func205.trans (congrArg some (by kernel_rfl))
 t3:=Tryz.underlying3
 a3:=Tryz.isAgg3
 z3:=Tryz.sizeOf3
 v3:=Tryz.zeroValue3
 t4:=Tryz.underlying4
 a4:=Tryz.isAgg4
 z4:=Tryz.sizeOf4
 v4:=Tryz.zeroValue4
 t5:=Tryz.underlying5
 a5:=Tryz.isAgg5
 z5:=Tryz.sizeOf5
 v5:=Tryz.zeroValue5
 t9:=Tryz.underlying9
 a9:=Tryz.isAgg9
 z9:=Tryz.sizeOf9
 v9:=Tryz.zeroValue9
 t46:=Tryz.underlying283
 a46:=Tryz.isAgg283
 z46:=Tryz.sizeOf283
 v46:=Tryz.zeroValue283
 t51:=Tryz.underlying78
 a51:=Tryz.isAgg78
 z51:=Tryz.sizeOf78
 v51:=Tryz.zeroValue78
 t146:=Tryz.underlying292
 a146:=Tryz.isAgg292
 z146:=Tryz.sizeOf292
 v146:=Tryz.zeroValue292
 g1:=by kernel_rfl }
open Go.RowKit Go.Lib in
theorem Tryz.strings_Index_one(s:ByteArray)(c:UInt8)(w:World) :
 Calls Tryz.prog 181 #[.string s,.string ⟨#[c]⟩] w fun e w'=>e=.returned (.int .i64 (Lib.indexByte s.data.toList c))/\w'=w:=Any.strings_Index_one Tryz.lays143 s c w
def Tryz.lays138_ren:Go.Shelf.Ren:=⟨fun | 138=>180 | 195=>186 | 218=>188 | 143=>181 | 219=>189 | 217=>177 | 225=>197 | 224=>198 | 267=>199 | 266=>185 | 314=>205 | n=>n,fun | 9=>9 | 3=>3 | 4=>4 | 5=>5 | 0=>0 | 46=>283 | 146=>292 | 51=>78 | n=>n,fun | 1=>3 | n=>n⟩
theorem Tryz.lays138:Go.Proofs.Lays.n138 Tryz.prog Tryz.lays138_ren:={
 mixed:=by kernel_rfl
 f138:=Tryz.func180.trans (congrArg some (by kernel_rfl))
 f143:=Tryz.func181.trans (congrArg some (by kernel_rfl))
 f195:=Tryz.func186.trans (congrArg some (by kernel_rfl))
 f217:=Tryz.func177.trans (congrArg some (by kernel_rfl))
 f218:=Tryz.func188.trans (congrArg some (by kernel_rfl))
 f219:=Tryz.func189.trans (congrArg some (by kernel_rfl))
 f224:=Tryz.func198.trans (congrArg some (by kernel_rfl))
 f225:=Tryz.func197.trans (congrArg some (by kernel_rfl))
 f266:=Tryz.func185.trans (congrArg some (by kernel_rfl))
 f267:=Tryz.func199.trans (congrArg some (by kernel_rfl))
 f314:=Tryz.func205.trans (congrArg some (by kernel_rfl))
 t0:=Tryz.underlying0
 a0:=Tryz.isAgg0
 z0:=Tryz.sizeOf0
 v0:=Tryz.zeroValue0
 t3:=Tryz.underlying3
 a3:=Tryz.isAgg3
 z3:=Tryz.sizeOf3
 v3:=Tryz.zeroValue3
 t4:=Tryz.underlying4
 a4:=Tryz.isAgg4
 z4:=Tryz.sizeOf4
 v4:=Tryz.zeroValue4
 t5:=Tryz.underlying5
 a5:=Tryz.isAgg5
 z5:=Tryz.sizeOf5
 v5:=Tryz.zeroValue5
 t9:=Tryz.underlying9
 a9:=Tryz.isAgg9
 z9:=Tryz.sizeOf9
 v9:=Tryz.zeroValue9
 t46:=Tryz.underlying283
 a46:=Tryz.isAgg283
 z46:=Tryz.sizeOf283
 v46:=Tryz.zeroValue283
 t51:=Tryz.underlying78
 a51:=Tryz.isAgg78
 z51:=Tryz.sizeOf78
 v51:=Tryz.zeroValue78
 t146:=Tryz.underlying292
 a146:=Tryz.isAgg292
 z146:=Tryz.sizeOf292
 v146:=Tryz.zeroValue292
 g1:=by kernel_rfl }
open Go.RowKit Go.Lib in
theorem Tryz.strings_Count_one(s:ByteArray)(c:UInt8)(w:World) :
 Calls Tryz.prog 180 #[.string s,.string ⟨#[c]⟩] w fun e w'=>e=.returned (.int .i64 (Lib.countByte s.data.toList c))/\w'=w:=Any.strings_Count_one Tryz.lays138 s c w
def Tryz.lays221_ren:Go.Shelf.Ren:=⟨fun | 221=>167 | 268=>179 | 138=>180 | 143=>181 | 195=>186 | 197=>187 | 218=>188 | 219=>189 | 260=>196 | 217=>177 | 225=>197 | 224=>198 | 267=>199 | 266=>185 | 314=>205 | n=>n,fun | 9=>9 | 3=>3 | 31=>160 | 4=>4 | 0=>0 | 105=>272 | 21=>21 | 5=>5 | 46=>283 | 119=>288 | 139=>291 | 138=>290 | 146=>292 | 51=>78 | n=>n,fun | 1=>3 | 3=>5 | 4=>6 | n=>n⟩
theorem Tryz.lays221:Go.Proofs.Lays.n221 Tryz.prog Tryz.lays221_ren:={
 mixed:=by kernel_rfl
 f138:=Tryz.func180.trans (congrArg some (by kernel_rfl))
 f143:=Tryz.func181.trans (congrArg some (by kernel_rfl))
 f195:=Tryz.func186.trans (congrArg some (by kernel_rfl))
 f197:=Tryz.func187.trans (congrArg some (by kernel_rfl))
 f217:=Tryz.func177.trans (congrArg some (by kernel_rfl))
 f218:=Tryz.func188.trans (congrArg some (by kernel_rfl))
 f219:=Tryz.func189.trans (congrArg some (by kernel_rfl))
 f221:=Tryz.func167.trans (congrArg some (by kernel_rfl))
 f224:=Tryz.func198.trans (congrArg some (by kernel_rfl))
 f225:=Tryz.func197.trans (congrArg some (by kernel_rfl))
 f260:=Tryz.func196.trans (congrArg some (by kernel_rfl))
 f266:=Tryz.func185.trans (congrArg some (by kernel_rfl))
 f267:=Tryz.func199.trans (congrArg some (by kernel_rfl))
 f268:=Tryz.func179.trans (congrArg some (by kernel_rfl))
 f314:=Tryz.func205.trans (congrArg some (by kernel_rfl))
 t0:=Tryz.underlying0
 a0:=Tryz.isAgg0
 z0:=Tryz.sizeOf0
 v0:=Tryz.zeroValue0
 t3:=Tryz.underlying3
 a3:=Tryz.isAgg3
 z3:=Tryz.sizeOf3
 v3:=Tryz.zeroValue3
 t4:=Tryz.underlying4
 a4:=Tryz.isAgg4
 z4:=Tryz.sizeOf4
 v4:=Tryz.zeroValue4
 t5:=Tryz.underlying5
 a5:=Tryz.isAgg5
 z5:=Tryz.sizeOf5
 v5:=Tryz.zeroValue5
 t9:=Tryz.underlying9
 a9:=Tryz.isAgg9
 z9:=Tryz.sizeOf9
 v9:=Tryz.zeroValue9
 t21:=Tryz.underlying21
 a21:=Tryz.isAgg21
 z21:=Tryz.sizeOf21
 v21:=Tryz.zeroValue21
 t31:=Tryz.underlying160
 a31:=Tryz.isAgg160
 z31:=Tryz.sizeOf160
 v31:=Tryz.zeroValue160
 t46:=Tryz.underlying283
 a46:=Tryz.isAgg283
 z46:=Tryz.sizeOf283
 v46:=Tryz.zeroValue283
 t51:=Tryz.underlying78
 a51:=Tryz.isAgg78
 z51:=Tryz.sizeOf78
 v51:=Tryz.zeroValue78
 t105:=Tryz.underlying272
 a105:=Tryz.isAgg272
 z105:=Tryz.sizeOf272
 v105:=Tryz.zeroValue272
 t119:=Tryz.underlying288
 a119:=Tryz.isAgg288
 z119:=Tryz.sizeOf288
 t138:=Tryz.underlying290
 a138:=Tryz.isAgg290
 z138:=Tryz.sizeOf290
 v138:=Tryz.zeroValue290
 t139:=Tryz.underlying291
 a139:=Tryz.isAgg291
 z139:=Tryz.sizeOf291
 v139:=Tryz.zeroValue291
 t146:=Tryz.underlying292
 a146:=Tryz.isAgg292
 z146:=Tryz.sizeOf292
 v146:=Tryz.zeroValue292
 g1:=by kernel_rfl
 g3:=by kernel_rfl
 g4:=by kernel_rfl }
end Go.Proofs
namespace Go.Proofs.YtjhjmncjidbieaaGreatDoor
open Go Go.Av Go.RowKit
def Jx(x:List UInt8):List AV:=[.str x]
def hdL:List UInt8->List UInt8
 | []=>[]
 | c::t=>if c == 10 then[c]else c::hdL t
def tlL:List UInt8->List UInt8
 | []=>[]
 | c::t=>if c == 10 then t else tlL t
def spl(c:UInt8):List UInt8->List (List UInt8)
 | []=>[[]]
 | x::t=>if x == c then[]::spl c t else(x::(spl c t).headD [])::(spl c t).tail
theorem JbD(c:UInt8):∀ s,spl c s ≠ []
 | []=>by simp[spl]
 | x::t=>by rw[spl];split <;> simp
theorem Jgg(c:UInt8)(s:List UInt8):(spl c s).headD []::(spl c s).tail=spl c s:=by
 cases h:spl c s with
 | nil=>exact absurd h (JbD c s)
 | cons a b=>rfl
theorem Jnh:∀ s,hdL s++tlL s=s
 | []=>rfl
 | c::t=>by
  rw[hdL,tlL]
  split
  . rfl
  rw[List.cons_append,Jnh t]
theorem JaK(c:UInt8):∀ s:List UInt8,(Lib.indexByte s c = -1/\s.count c=0/\spl c s=[s]) ∨
 ∃ i:Nat,Lib.indexByte s c=i/\i < s.length/\s.count c=1+(s.drop (i+1)).count c/\spl c s=s.take i::spl c (s.drop (i+1))
 | []=>.inl ⟨rfl,rfl,rfl⟩
 | x::t=>by
  by_cases h:x=c
  . subst h
    refine .inr ⟨0,by simp[Lib.indexByte],by simp,by simp[Nat.add_comm],by simp[spl]⟩
  have hb:(x == c)=false:=beq_false_of_ne h
  rcases JaK c t with⟨h1,h2,h3⟩ | ⟨i,h1,h2,h3,h4⟩
  . refine .inl ⟨by rw[Lib.indexByte,hb,h1];rfl,by rw[List.count_cons_of_ne h,h2],?_⟩
    rw[spl,hb,h3]
    rfl
  refine .inr ⟨i+1,?_,by simp only[List.length_cons];omega,by rw[List.count_cons_of_ne h,h3];rfl,?_⟩
  . rw[Lib.indexByte,hb,h1,if_neg (by decide),if_neg (by rw[beq_iff_eq];omega)]
    rfl
  rw[spl,hb,h4]
  rfl
theorem Jcw:∀ s:List UInt8,(Lib.indexByte s 10 = -1/\hdL s=s/\tlL s=[]) ∨ ∃ i:Nat,Lib.indexByte s 10=i/\i < s.length/\hdL s=s.take (i+1)/\tlL s=s.drop (i+1)
 | []=>.inl ⟨rfl,rfl,rfl⟩
 | x::t=>by
  by_cases h:x=10
  . subst h
    exact .inr ⟨0,by simp[Lib.indexByte],by simp,by simp[hdL],by simp[tlL]⟩
  have hb:(x == 10)=false:=beq_false_of_ne h
  rcases Jcw t with⟨h1,h2,h3⟩ | ⟨i,h1,h2,h3,h4⟩
  . exact .inl ⟨by rw[Lib.indexByte,hb,h1];rfl,by rw[hdL,hb,h2];rfl,by rw[tlL,hb,h3];rfl⟩
  refine .inr ⟨i+1,?_,by simp only[List.length_cons];omega,by rw[hdL,hb,h3];rfl,by rw[tlL,hb,h4];rfl⟩
  rw[Lib.indexByte,hb,h1,if_neg (by decide),if_neg (by rw[beq_iff_eq];omega)]
  rfl
theorem spl_K(c:UInt8):∀ (k:Nat) (s:List UInt8),s.count c=k->Lib.splitK [c] 0 k s=spl c s
 | 0,s,h=>by
  rcases JaK c s with⟨_,_,h3⟩ | ⟨i,_,_,h3,_⟩
  . rw[h3];rfl
  omega
 | k+1,s,h=>by
  rcases JaK c s with⟨_,h2,_⟩ | ⟨i,h1,h2,h3,h4⟩
  . omega
  rw[Lib.splitK,Lib.index_one,h1,if_neg (by rw[beq_iff_eq];omega),h4,spl_K c k _ (by rw[Km];simpa using(by omega:(s.drop (i+1)).count c=k))]
  rfl
theorem c165(s:List UInt8)(c:Int):P0 165 [.str s,.int .u8 c] (.i (Lib.indexByte s c.toNat.toUInt8)):=by
 refine⟨⟨Tryz.f165,Xx Tryz.f165,by kernel_rfl,by kernel_rfl,by kernel_rfl⟩,fun w X vs hX hG hz=>?_⟩
 obtain⟨h1,h2⟩:=hz
 obtain⟨v,u,rfl⟩:∃ v u,vs=#[v,u]:=by
  obtain⟨l⟩:=vs
  match l,h1 with
  | [v,u],_=>exact⟨v,u,rfl⟩
 have hv:=Jap (h2 0 v (.str s) rfl rfl)
 have hu:=Jar (h2 1 u (.int .u8 c) rfl rfl)
 subst hv;subst hu
 exact(Tryz.strings_IndexByte ⟨s.toArray⟩ c w).mono fun e w' ⟨he,hw⟩=>⟨_,he,by rw[hw];exact Below.refl _ _,.int _ _⟩
theorem c167(s:List UInt8)(c:UInt8)(hs:s.length<=1000000):P0 167 [.str s,.str [c],.i 0,.i (-1)] (.sl 1 ((spl c s).map Jx)):=by
 refine⟨⟨Tryz.f167,Xx Tryz.f167,by kernel_rfl,by kernel_rfl,by kernel_rfl⟩,fun w X vs hX hG hz=>?_⟩
 obtain⟨h1,h2⟩:=hz
 obtain⟨v,u,x,y,rfl⟩:∃ v u x y,vs=#[v,u,x,y]:=by
  obtain⟨l⟩:=vs
  match l,h1 with
  | [v,u,x,y],_=>exact⟨v,u,x,y,rfl⟩
 have hv:=Jap (h2 0 v (.str s) rfl rfl)
 have hu:=Jap (h2 1 u (.str [c]) rfl rfl)
 have hx:=Jar (h2 2 x (.i 0) rfl rfl)
 have hy:=Jar (h2 3 y (.i (-1)) rfl rfl)
 subst hv;subst hu;subst hx;subst hy
 clear h1 h2
 obtain⟨S,hS⟩:∃ S:ByteArray,S=⟨s.toArray⟩:=⟨_,rfl⟩
 have hSs:S.size=s.length:=by rw[hS];simp[ByteArray.size]
 have hSd:S.data.toList=s:=by rw[hS]
 have hcb:Lib.countB S ⟨#[c]⟩=s.count c:=by
  show Lib.count S.data.toList [c]=_
  rw[Lib.count_one,hSd]
 have hcl:s.count c<=s.length:=List.count_le_length
 have key:=Any.strings_genSplit_core Tryz.lays221 (by kernel_rfl) S ⟨#[c]⟩ 0 (-1) (s.count c+1) w (by omega) (Kr 1) (Nat.zero_le _)
  (fun z cs _=>(Tryz.strings_Index_one z c _).mono fun e w' ⟨he,hw⟩=>⟨he.trans (by rw[show Lib.indexB z ⟨#[c]⟩=Lib.index z.data.toList [c]from rfl,Lib.index_one]),hw⟩)
  ((Tryz.strings_Count_one S c w).mono fun e w' ⟨he,hw⟩=>⟨he.trans (by rw[hcb,hSd];rfl),hw⟩) (by decide) (by decide)
  (by rw[hcb,if_pos (by decide),hSs];omega)
 rw[Nat.add_sub_cancel]at key
 have hlen:(Lib.splitB ⟨#[c]⟩ 0 (s.count c) S).length=s.count c+1:=Lib.splitB_all ⟨#[c]⟩ (Kr 1) 0 _ S hcb
 have hdat:(Lib.splitB ⟨#[c]⟩ 0 (s.count c) S).map (·.data.toList)=spl c s:=by
  rw[Lib.splitB_data,hSd]
  exact spl_K c _ s rfl
 have hsl:(spl c s).length=s.count c+1:=by rw[<- hdat,Kb,hlen]
 rw[<- hS]
 refine(show Calls Tryz.prog 167 #[.string S,.string ⟨#[c]⟩,.int .i64 0,.int .i64 (-1)] w _ from key).mono fun e w' ⟨he,hw⟩=>?_
 refine⟨_,he,by rw[hw];exact Qy _ _,?_⟩
 show Rep X w' _ (.sl 1 ((spl c s).map Jx))
 generalize hL:Lib.splitB ⟨#[c]⟩ 0 (s.count c) S=L at hw hlen hdat
 rw[hlen,show s.count c+1=((spl c s).map Jx).length by rw[Kb,hsl]]
 have hnew:w'.heap[w.heap.size]?=some (.cells (Lib.cellsOf L (s.count c+1)) (Tryz.lays221_ren.t 9)):=by rw[hw];exact World.alloc_heap_new w _
 have hcells:Lib.cellsOf L (s.count c+1)=(L.map Value.string).toArray:=by rw[<- hlen];exact Lib.cellsOf_full _
 rw[hcells]at hnew
 refine .sl w.heap.size 0 _ 1 _ (fun i _=>.string ⟨((spl c s).getD i []).toArray⟩) (by rw[hw];simp) (fun hx=>Nat.lt_irrefl _ (hX _ hx)) (Kr _) (by rw[Kb,hsl];unfold maxLen;omega) (fun i hi=>?_) (fun i hi j hj=>?_) (fun i hi j hj=>?_) (fun _ _ _ _=>rfl)
 . have:Jn ((spl c s).map Jx) i=Jx ((spl c s).getD i []):=by
    rw[Kb]at hi
    simp[Jn,List.getD_eq_getElem?_getD,hi]
   rw[this]
   rfl
 . have hj0:j=0:=by omega
   subst hj0
   rw[Kb,hsl]at hi
   rw[cell_of_row w' _ _ _ _ (0,0) hnew]
   have hiL:i < L.length:=by omega
   have e:(spl c s).getD i []=L[i].data.toList:=by
    rw[<- hdat]
    simp[List.getD_eq_getElem?_getD,hiL]
   rw[e]
   simp[hiL]
 have hj0:j=0:=by omega
 subst hj0
 have:nth (Jn ((spl c s).map Jx) i) 0=.str ((spl c s).getD i []):=by
  rw[Kb]at hi
  simp[Jn,nth,List.getD_eq_getElem?_getD,hi,Jx]
 rw[this]
 exact .str _
end Go.Proofs.YtjhjmncjidbieaaGreatDoor
namespace Go.Proofs.YtjhjmncjidbieaaGreatDoor
open Go Go.Av Go.RowKit
theorem s_ofB {f : Nat} {cells : List AV} {L : List (List AV)} (fn : Func) (B : Nat → BA) {q : Nat → Prop} (hq : ∀ l, q l) (h : ∀ l, VC (Qh Tryz.prog T0 G0 fn.ntmps L) (B l) 10000 0 (Xx fn) (Q1 l cells) (seqQ l L) = q l) (hf : Tryz.prog.funcs[f]? = some fn := by kernel_rfl) (hb : fn.body = some (Xx fn) := by kernel_rfl) (hn : (fn.name == "runtime.NumGoroutine") = false := by kernel_rfl) (hlen : Nat.ble 2 fn.ntmps = true := by kernel_rfl) (hres : fn.results.toList = [] := by kernel_rfl) : PSeqB Tryz.prog G0 f cells L :=
 JhE tok mix hf hb hn (Kl hlen) hres B fun l=>Ji4 (hq l) (h l)
def JkF:List (List UInt8)->List UInt8->Prop
 | [],s=>s=[]
 | x::L,s=>s ≠ []/\x=hdL s/\JkF L (tlL s)
def lnN:Nat->List UInt8->List (List UInt8)
 | 0,_=>[]
 | n+1,s=>if s.isEmpty then[]else hdL s::lnN n (tlL s)
def lns(s:List UInt8):List (List UInt8):=lnN s.length s
theorem hd_len{s:List UInt8}(h:s ≠ []):0 < (hdL s).length:=by
 cases s with
 | nil=>exact absurd rfl h
 | cons c t=>rw[hdL];split <;> simp
theorem Jjb{s:List UInt8}(h:s ≠ []):(tlL s).length < s.length:=by
 have h1:=congrArg List.length (Jnh s)
 have h2:=hd_len h
 rw[Kf]at h1
 omega
theorem ln_is:∀ (n:Nat) (s:List UInt8),s.length<=n->JkF (lnN n s) s
 | 0,s,h=>by
  cases s with
  | nil=>rfl
  | cons _ _=>simp at h
 | n+1,s,h=>by
  rw[lnN]
  by_cases q:s=[]
  . subst q;exact rfl
  rw[if_neg (by simpa using q)]
  have:=Jjb q
  exact⟨q,rfl,ln_is n _ (by omega)⟩
theorem JdJ(s:List UInt8):JkF (lns s) s:=ln_is _ s (Kr _)
theorem JaE:∀ {L:List (List UInt8)} {s:List UInt8},JkF L s->L.flatten=s
 | [],s,h=>h.symm
 | x::L,s,⟨_,h2,h3⟩=>by rw[List.flatten_cons,JaE h3,h2,Jnh]
theorem Jko:∀ {k:Nat} {L:List (List UInt8)} {s:List UInt8},JkF L s->JkF (L.drop k) (L.drop k).flatten
 | 0,L,s,h=>by rw[List.drop_zero,JaE h];exact h
 | k+1,[],s,h=>by simp[JkF]
 | k+1,x::L,s,h=>by rw[List.drop_succ_cons];exact Jko h.2.2
def rsL(s:List UInt8)(k:Nat):List UInt8:=((lns s).drop k).flatten
theorem rs_0(s:List UInt8):rsL s 0=s:=by rw[rsL,List.drop_zero,JaE (JdJ s)]
theorem JjA{s:List UInt8}{k:Nat}(h:k < (lns s).length):rsL s k ≠ []/\hdL (rsL s k)=(lns s).getD k []/\tlL (rsL s k)=rsL s (k+1):=by
 have h1:=Jko (k:=k) (JdJ s)
 have e:(lns s).drop k=(lns s).getD k []::(lns s).drop (k+1):=by
  rw[Ka,Kj h]
  exact List.drop_eq_getElem_cons h
 rw[e]at h1
 have e2:rsL s k=((lns s).getD k []::(lns s).drop (k+1)).flatten:=by rw[rsL,e]
 rw[e2]
 refine⟨h1.1,h1.2.1.symm,?_⟩
 rw[<- JaE h1.2.2]
 rfl
theorem rs_end{s:List UInt8}{k:Nat}(h:¬ k < (lns s).length):rsL s k=[]:=by rw[rsL,List.drop_eq_nil_of_le (by omega)];rfl
theorem rs_len(s:List UInt8)(k:Nat):(rsL s k).length<=s.length:=by
 have h:=congrArg List.length (JaE (JdJ s))
 have h2:((lns s).take k).flatten++((lns s).drop k).flatten=(lns s).flatten:=by rw[<- List.flatten_append,List.take_append_drop]
 have h3:=congrArg List.length h2
 rw[Kf]at h3
 unfold rsL
 omega
def spT:Nat->List AV->Option AV
 | 165,[.str s,_]=>some (.i (Lib.indexByte s 10))
 | _,_=>none
theorem Jjd{α:Type}[Inhabited α]{l:List (List α)}{g:Nat}(h:g < l.length):l.take (g+1)=l.take g++[l.getD g []]:=by
 rw[Ka,Kj h]
 exact(List.take_append_getElem h).symm
def la164(l:Nat)(s:List UInt8):LA:={
 pre:=[.keep [0,1] [0,1],.bound 2],post:=[.keep [0,1] [0,1],.bound 2]
 Gh:=Nat
 st:=fun k=>⟨[(0,.yld l),(1,.ptr 1 0)],[(0,.ready l (((lns s).take k).map Jx)),(1,.box [.str (rsL s k)])],2⟩
 ok:=fun k=>k<=(lns s).length
 ms:=fun k=>(lns s).length-k }
def B164(s:List UInt8)(l:Nat):BA:=mkB spT 164 [] (fun i=>if i.beq 0 then some (la164 l s)else none)
abbrev Z45a(s:List UInt8)(g:Nat):=[AV.str (List.take (Lib.indexByte (rsL s g) (10:UInt8)+1-0).toNat (List.drop 0 (rsL s g)))]
abbrev JsO(l:Nat):=[(0,AV.yld l),(1,AV.ptr 1 0)]
abbrev Jt9(g:Nat)(s:List UInt8):=List.map Jx (List.take g (lns s))
abbrev Jql(s:List UInt8)(g:Nat):=((rsL s g).length:Int)
abbrev Z45e(s:List UInt8)(g:Nat):=Lib.indexByte (rsL s g) (10:UInt8)+1
abbrev Z45f(l:Nat)(s:List UInt8):=ABlk.stop l=ABlk.ready l (List.map Jx (lns s)) ∨ ABlk.stop l=ABlk.stop l
abbrev Z45g(l:Nat)(g':Nat)(s:List UInt8):=[(0,ABlk.ready l (List.map Jx (List.take g' (lns s)))),(1,ABlk.box [AV.str (rsL s g')])]
theorem s164(s:List UInt8)(hs:s.length<=1000000):PSeqB Tryz.prog G0 164 [.str s] ((lns s).map Jx):=by
 have key :
  ∀ l:Nat,(∃ (g:Nat),g<=(lns s).length/\AS.mk (JsO l) [(0,ABlk.ready l []),(1,ABlk.box [AV.str s])] 2=AS.mk (JsO l) [(0,ABlk.ready l (Jt9 g s)),(1,ABlk.box [AV.str (rsL s g)])] 2)/\∀ (g:Nat),g<=(lns s).length
  → (decide ((Jql s g) > 0)=true->P0 165 [AV.str (rsL s g),AV.int IntKind.u8 (10:Int)] (AV.i (Lib.indexByte (rsL s g) (10:UInt8)))/\(decide (Lib.indexByte (rsL s g) (10:UInt8)>=0)=true->Jg (Z45e s g)/\(0:Int)<=0
  /\ (0:Int)<=Lib.indexByte (rsL s g) (10:UInt8)+1/\Lib.indexByte (rsL s g) (10:UInt8)+1<=(Jql s g)/\Jg (Z45e s g)/\(0:Int)<=Lib.indexByte (rsL s g) (10:UInt8)+1/\Lib.indexByte (rsL s g) (10:UInt8)+1 ≤
  (Jql s g)/\(Jql s g)<=(Jql s g)/\l=l/\(∃ (post:List (List AV)),List.map Jx (lns s)=List.map Jx (List.take g (lns s))++(Z45a s g)::post)/\l=l/\(List.map Jx (List.take g (lns s))++[(Z45a s g)]).length =
  (Jt9 g s).length+1/\(∃ (g':Nat),g'<=(lns s).length/\(lns s).length-g' < (lns s).length-g/\AS.mk (JsO l) [(0,ABlk.ready l (List.map Jx (List.take g (lns s))++[(Z45a s g)])),(1,ABlk.box [AV.str (List.take ((Jql
  s g)-(Z45e s g)).toNat (List.drop (Z45e s g).toNat (rsL s g)))])] 2=AS.mk (JsO l) (Z45g l g' s) 2)/\(Z45f l s))/\(decide (Lib.indexByte (rsL s g) (10:UInt8)>=0)=false->l=l/\(∃ (post:List (List AV)),List.map Jx
  (lns s)=List.map Jx (List.take g (lns s))++[AV.str (rsL s g)]::post)/\l=l/\(List.map Jx (List.take g (lns s))++[[AV.str (rsL s g)]]).length=(Jt9 g s).length+1/\(∃ (g':Nat),g'<=(lns s).length/\(lns
  s).length-g' < (lns s).length-g/\AS.mk (JsO l) [(0,ABlk.ready l (List.map Jx (List.take g (lns s))++[[AV.str (rsL s g)]])),(1,ABlk.box [AV.str []])] 2=AS.mk (JsO l) (Z45g l g' s) 2)/\(Z45f l s)))/\(decide ((Jql s
  g) > 0)=false->ABlk.ready l (Jt9 g s)=ABlk.ready l (List.map Jx (lns s)) ∨ ABlk.ready l (Jt9 g s)=ABlk.stop l):=by
   delta Z45a JsO Jt9 Jql Z45e Z45f Z45g
   intro l
   refine⟨⟨0,Nat.zero_le _,by rw[rs_0];rfl⟩,fun g hg=>⟨fun hlt=>?_,fun hge=>?_⟩⟩
   . have hlt:=K0 hlt
     have hk:g < (lns s).length:=by
      by_cases q:g < (lns s).length
      . exact q
      rw[rs_end q]at hlt
      exact absurd hlt (by decide)
     obtain⟨r1,r2,r3⟩:=JjA hk
     have hrl:=rs_len s g
     have hdr:(lns s).drop g=(lns s).getD g []::(lns s).drop (g+1):=by
      rw[Ka,Kj hk]
      exact List.drop_eq_getElem_cons hk
     have hpost:∃ post,(lns s).map Jx=((lns s).take g).map Jx++[AV.str ((lns s).getD g [])]::post:=by
      refine⟨((lns s).drop (g+1)).map Jx,?_⟩
      have h9:=congrArg (List.map Jx) (List.take_append_drop g (lns s))
      rw[hdr,Db,List.map_cons]at h9
      exact h9.symm
     have htk:((lns s).take (g+1)).map Jx=((lns s).take g).map Jx++[[AV.str ((lns s).getD g [])]]:=by
      rw[Jjd hk,Db]
      rfl
     refine⟨c165 _ 10,fun h2=>?_,fun h2=>?_⟩
     . rcases Jcw (rsL s g)with⟨q,_,_⟩ | ⟨i,q,q1,q2,q3⟩
       . rw[q]at h2
         exact absurd h2 (by decide)
       rw[q,show((i:Int)+1-0).toNat=i+1 by omega,show(((rsL s g).length:Int)-((i:Int)+1)).toNat=(rsL s g).length-(i+1) by omega,show((i:Int)+1).toNat=i+1 by omega,
        List.drop_zero,<- q2,r2,show List.take ((rsL s g).length-(i+1)) (List.drop (i+1) (rsL s g))=List.drop (i+1) (rsL s g)from Kv (by rw[Kh];exact Kr _),<- q3,r3]
       exact⟨by unfold Jg;omega,by omega,by omega,by omega,by unfold Jg;omega,by omega,by omega,by omega,rfl,hpost,rfl,by simp,⟨g+1,hk,by omega,by rw[htk]⟩,.inr rfl⟩
     rcases Jcw (rsL s g)with⟨q,q2,q3⟩ | ⟨i,q,q1,q2,q3⟩
     . have e:rsL s g=(lns s).getD g []:=q2.symm.trans r2
       have e4:rsL s (g+1)=[]:=r3.symm.trans q3
       rw[e]
       exact⟨rfl,hpost,rfl,by simp,⟨g+1,hk,by omega,by rw[htk,e4]⟩,.inr rfl⟩
     rw[q]at h2
     exact absurd (K1 h2) (by omega)
   have hge:=K1 hge
   have hk:¬ g < (lns s).length:=by
    intro q
    have:=(JjA q).1
    have:0 < (rsL s g).length:=List.length_pos_iff.2 this
    omega
   rw[Kv (by omega)]
   exact .inl rfl
 exact s_ofB Tryz.f164 (B164 s) key (fun l=>by kernel_rfl)
def dS(rows:List (List AV)):List (List UInt8):=rows.map fun r=>match r with
 | [.str x]=>x
 | _=>[]
theorem WT(ws:List (List UInt8)):dS (ws.map Jx)=ws:=by
 unfold dS
 rw[Dc]
 exact(List.map_congr_left fun x _=>rfl).trans (List.map_id ws)
theorem JoT {f : Nat} {args : List AV} {bs : List ABlk} {r : AV} {fin : List ABlk} (fn : Func) (B : BA) {q : Prop} (hq : q) (h : VC (Qh Tryz.prog T0 G0 fn.ntmps []) B 10000 0 (Xx fn) (Jad args bs) (JmF T0 fn bs.length r fin) = q) (hf : Tryz.prog.funcs[f]? = some fn := by kernel_rfl) (hb : fn.body = some (Xx fn) := by kernel_rfl) (hn : (fn.name == "runtime.NumGoroutine") = false := by kernel_rfl) (hlen : Nat.ble args.length fn.ntmps = true := by kernel_rfl) (hwf : wfB (bs.length + 1) (Jad args bs) = true := by kernel_rfl) : WCall Tryz.prog G0 f args bs r fin :=
 Jfz tok mix hf hb hn (Kl hlen) hwf B (Ji4 hq h)
def Ul(s t:List UInt8):Bool:=decide (t.length<=s.length) && s.drop (s.length-t.length) == t
theorem or_f{a b:Bool}(h:(if a=true then true else b)=false):a=false/\b=false:=by
 revert h
 cases a <;> cases b <;> decide
def Jgh:Nat->List AV->Option AV
 | 178,[.str s,.str t]=>some (.bool (decide (t.length<=s.length) && s.drop (s.length-t.length) == t))
 | 166,[.str s,.str t]=>some (.tup [.str (if Ul s t then s.take (s.length-t.length)else s),.bool (Ul s t)])
 | 167,[.str s,.str [c],_,_]=>some (.sl 1 ((spl c s).map Jx))
 | n,x=>spR n x
abbrev JlQ(s:List UInt8):=(s.length:Int)
abbrev Jqk(s:List UInt8)(t:List UInt8):=(JlQ s)>=(t.length:Int)
abbrev Jmf(s:List UInt8)(t:List UInt8):=decide (Jqk s t)=true->decide (Jqk s t)=true
theorem c178(s t:List UInt8)(hs:s.length<=1000000)(ht:t.length<=1000000):P0 178 [.str s,.str t] (.bool (decide (t.length<=s.length) && s.drop (s.length-t.length) == t)):=by
 have key :
  (Jmf s t)/\(Jmf s t)/\(Jmf s t)/\(Jmf s t)/\(decide (Jqk s t)=true->Jg ((JlQ s)-(t.length:Int)))/\(Jmf s t)/\(Jmf s t)/\(decide (Jqk s t)=true->(0:Int)<=(JlQ s)-(t.length:Int))/\(decide (Jqk
  s t)=true->(JlQ s)-(t.length:Int)<=(JlQ s))/\(decide (Jqk s t)=true->(JlQ s)<=(JlQ s))/\(Jmf s t)/\(Jmf s t)/\(Jmf s t)/\AV.bool (if decide (Jqk s t)=true then List.take ((JlQ s)-((JlQ s) -
  (t.length:Int))).toNat (List.drop ((JlQ s)-(t.length:Int)).toNat s) == t else false)=AV.bool (decide (t.length<=s.length) && List.drop (s.length-t.length) s == t):=by
   delta Jmf Jqk JlQ
   refine⟨fun h=>h,fun h=>h,fun h=>h,fun h=>h,fun h=>by have:=K0 h;unfold Jg;omega,fun h=>h,fun h=>h,fun h=>by have:=K0 h;omega,fun h=>by omega,fun h=>by omega,fun h=>h,fun h=>h,fun h=>h,?_⟩
   by_cases h:t.length<=s.length
   . rw[decide_eq_true (show(s.length:Int)>=t.length by omega),if_pos rfl,decide_eq_true h,Bool.true_and,show((s.length:Int)-(s.length-t.length)).toNat=t.length by omega,show((s.length:Int)-t.length).toNat=s.length-t.length by omega,Kv (by rw[Kh];omega)]
   rw[decide_eq_false (show ¬ (s.length:Int)>=t.length by omega),if_neg (by decide),decide_eq_false h,Bool.false_and]
 exact JU Tryz.f178 (mkB Jgh 178 [] QJ) key (by kernel_rfl)
theorem or_r{a b:Bool}(h:(if a=true then true else b)=true)(ha:a=false):b=true:=by
 rw[ha]at h
 exact h
abbrev Z47a(t:List UInt8)(s:List UInt8):=decide (t.length<=s.length) && List.drop (s.length-t.length) s == t
abbrev Z47b(s:List UInt8)(t:List UInt8):=[AV.str (if Ul s t=true then List.take (s.length-t.length) s else s),AV.bool (Ul s t)]
theorem c166(s t:List UInt8)(hs:s.length<=1000000)(ht:t.length<=1000000):P0 166 [.str s,.str t] (.tup [.str (if Ul s t then s.take (s.length-t.length)else s),.bool (Ul s t)]):=by
 have key :
  P0 178 [AV.str s,AV.str t] (AV.bool (Z47a t s))/\((!(Z47a t s))=true->AV.tup [AV.str s,AV.bool false]=AV.tup (Z47b s t))/\((!(Z47a t s))=false->Jg ((s.length:Int)-(t.length:Int))/\(0:Int)<=0/\(0:Int) ≤
  (s.length:Int)-(t.length:Int)/\(s.length:Int)-(t.length:Int)<=(s.length:Int)/\AV.tup [AV.str (List.take ((s.length:Int)-(t.length:Int)-0).toNat (List.drop 0 s)),AV.bool true]=AV.tup (Z47b s t)):=by
   delta Z47a Z47b
   refine⟨c178 s t hs ht,fun h=>?_,fun h=>?_⟩
   . have hc:Ul s t=false:=by
      unfold Ul
      revert h
      cases (decide (t.length<=s.length) && List.drop (s.length-t.length) s == t) <;> simp
     rw[hc]
     rfl
   have hc:Ul s t=true:=by
    unfold Ul
    revert h
    cases (decide (t.length<=s.length) && List.drop (s.length-t.length) s == t) <;> simp
   have hle:t.length<=s.length:=by
    have:=hc
    unfold Ul at this
    rw[Kd,Ko]at this
    exact this.1
   refine⟨by unfold Jg;omega,by omega,by omega,by omega,?_⟩
   rw[hc,if_pos rfl,List.drop_zero,show((s.length:Int)-t.length-0).toNat=s.length-t.length by omega]
 exact JU Tryz.f166 (mkB Jgh 166 [] QJ) key (by kernel_rfl)
theorem c137(s t:List UInt8)(hs:s.length<=1000000)(ht:t.length<=1000000):P0 137 [.str s,.str t] (.tup [.str (if Ul s t then s.take (s.length-t.length)else s),.bool (Ul s t)]):=by
 have key :
  P0 166 [AV.str s,AV.str t] (AV.tup [AV.str (if Ul s t=true then List.take (s.length-t.length) s else s),AV.bool (Ul s t)])/\AV.tup [AV.str (if Ul s t=true then List.take (s.length-t.length) s else
  s),AV.bool (Ul s t)]=AV.tup [AV.str (if Ul s t=true then List.take (s.length-t.length) s else s),AV.bool (Ul s t)]:=by
   exact⟨c166 s t hs ht,rfl⟩
 exact JU Tryz.f137 (mkB Jgh 137 [] QJ) key (by kernel_rfl)
theorem c138(s:List UInt8)(c:UInt8)(hs:s.length<=1000000):P0 138 [.str s,.str [c]] (.sl 1 ((spl c s).map Jx)):=by
 have key :
  P0 167 [AV.str s,AV.str [c],AV.i 0,AV.i (-1)] (AV.sl 1 (List.map Jx (spl c s)))/\AV.sl 1 (List.map Jx (spl c s))=AV.sl 1 (List.map Jx (spl c s)):=by
   exact⟨c167 s c hs,rfl⟩
 exact JU Tryz.f138 (mkB Jgh 138 [] QJ) key (by kernel_rfl)
theorem c136(s:List UInt8) :P0 136 [.str s] (.fbox 164 [.str s]):=by
 have key :
  AV.fbox 164 [AV.str s]=AV.fbox 164 [AV.str s]:=by
   rfl
 exact JU Tryz.f136 (mkB Jgh 136 [] QJ) key (by kernel_rfl)
def wdR(ws:List (List UInt8)):List (List UInt8):=if ws.headD [] == []then[]else ws.tail
def wdB(ws:List (List UInt8))(b:Bool):Bool:=if ws.headD [] == []then true else b
theorem Jpe{ws:List (List UInt8)}(h:(!((ws.map Jx).length:Int) == 0)=true):(0:Int) < ((ws.map Jx).length:Int):=by
 simp only[Kt,beq_eq_false_iff_ne]at h
 omega
theorem rd_w0{ws:List (List UInt8)}(h:(!((ws.map Jx).length:Int) == 0)=true):nth (Jn (ws.map Jx) 0) 0=AV.str (ws.getD 0 []):=by
 have h1:=Jpe h
 rw[Kb]at h1
 exact congrArg (fun r=>nth r 0) (Jq Jx (l:=ws) (i:=0) (by omega))
abbrev Jeu(ws:List (List UInt8)):=((List.map Jx ws).length:Int)
abbrev JsN(ws:List (List UInt8)):=(!(Jeu ws) == 0)=true->(!(Jeu ws) == 0)=true
theorem w139(ws:List (List UInt8))(b:Bool)(hw:ws.length<=1000000):WCall Tryz.prog G0 139 [.ptr 1 0] [ABlk.box [.sl 1 (ws.map Jx),.bool b]] (.str (ws.headD [])) [ABlk.box [.sl 1 ((wdR ws).map Jx),.bool (wdB ws b)]]:=by
 have key :
  (JsN ws)/\(JsN ws)/\(JsN ws)/\(JsN ws)/\((!(Jeu ws) == 0)=true->(0:Int)<=0)/\((!(Jeu ws) == 0)=true->(0:Int) < (Jeu ws))/\(JsN ws)/\(JsN ws)/\(((Jeu ws) == 0)=false->(!(Jeu ws) == 0)=true)/\Wx
  (!(Jeu ws) == 0) (nth (Jn (List.map Jx ws) 0) 0=AV.str (ws.getD 0 []))/\((if((Jeu ws) == 0)=true then true else ws.getD 0 [] == [])=true->AV.str []=AV.str (ws.headD [])/\[ABlk.box [AV.sl 1 [],AV.bool true]] =
  [ABlk.box [AV.sl 1 (List.map Jx (wdR ws)),AV.bool (wdB ws b)]])/\((if((Jeu ws) == 0)=true then true else ws.getD 0 [] == [])=false->(0:Int)<=0/\(0:Int) < (Jeu ws)/\nth (Jn (List.map Jx ws) 0) 0=AV.str
  (ws.getD 0 [])/\(0:Int)<=1/\(1:Int)<=(Jeu ws)/\(Jeu ws)<=(Jeu ws)/\AV.sl 1 (List.take ((Jeu ws)-1).toNat (List.drop 1 (List.map Jx ws)))=AV.sl 1 (List.map Jx ws.tail)/\AV.str (ws.getD 0 [])=AV.str
  (ws.headD [])/\[ABlk.box [AV.sl 1 (List.map Jx ws.tail),AV.bool b]]=[ABlk.box [AV.sl 1 (List.map Jx (wdR ws)),AV.bool (wdB ws b)]]):=by
   delta Jeu JsN
   have hwm:(List.map Jx ws).length=ws.length:=Kb _
   have hd0:ws.getD 0 []=ws.headD []:=by cases ws <;> rfl
   have:(List.map Jx ws).length=ws.length:=by simp only[Kb]
   refine⟨fun h=>h,fun h=>h,fun h=>h,fun h=>h,fun _=>by omega,fun hb=>Jpe hb,fun h=>h,fun h=>h,fun h=>by first | exact h | (rw[h];rfl) | simp_all,impB_iff.2 fun hb=>(by first | exact rd_w0 hb | exact congrArg (fun r=>nth r 0) (Jq Jx (l:=ws) (i:=0) (by omega))),fun h1=>?_,fun h1=>?_⟩
   . have hh:(ws.headD [] == [])=true:=by
      cases ws with
      | nil=>rfl
      | cons x ws =>
       have:=or_r h1 (by simp[beq_eq_false_iff_ne];omega)
       exact this
     refine⟨?_,?_⟩
     . rw[eq_of_beq hh]
     rw[wdR,wdB,if_pos hh,if_pos hh]
     rfl
   obtain⟨hl0,hh⟩:=or_f h1
   rw[hd0]at hh
   have hne:ws.length ≠ 0:=by
    have:=hl0
    simp only[beq_eq_false_iff_ne]at this
    omega
   refine⟨by omega,by omega,(by first | exact rd_w0 hb | exact congrArg (fun r=>nth r 0) (Jq Jx (l:=ws) (i:=0) (by omega))),by omega,by omega,by omega,?_,?_,?_⟩
   . rw[Kv (by rw[Kh];omega),<- List.map_drop,List.drop_one]
   . rw[hd0]
   rw[wdR,wdB,if_neg (by rw[hh];decide),if_neg (by rw[hh];decide)]
 exact JoT Tryz.f139 (gsB (fun i=>if i.beq 2 then[.nilb 1 0 1]else[]) (mkB Jgh 139 [(1,12,rdL 1 Jx ws 1 false),(4,5,rdL 1 Jx ws 1 false),(5,5,fun _=>some (.sl 1 (ws.tail.map Jx)))] QJ)) key (by kernel_rfl)
theorem Jjm(c:UInt8):∀ (d:Nat) (t:List UInt8),d < t.length->(∀ j,j < d->t.getD j 0 ≠ c)->t.getD d 0=c->spl c t=t.take d::spl c (t.drop (d+1))
 | _,[],h,_,_=>by simp at h
 | 0,x::t,_,_,h=>by
  have h:x=c:=h
  rw[spl,if_pos (by rw[h];exact Kz c)]
  rfl
 | d+1,x::t,h1,h2,h3=>by
  have hx:x ≠ c:=h2 0 (Nat.succ_pos d)
  rw[spl,if_neg (by rw[beq_iff_eq];exact hx),Jjm c d t (by simpa using h1) (fun j hj=>h2 (j+1) (by omega)) h3]
  rfl
theorem Jgf(c:UInt8):∀ t:List UInt8,(∀ j,j < t.length->t.getD j 0 ≠ c)->spl c t=[t]
 | [],_=>rfl
 | x::t,h=>by
  have hx:x ≠ c:=h 0 (by simp)
  rw[spl,if_neg (by rw[beq_iff_eq];exact hx),Jgf c t (fun j hj=>h (j+1) (by simpa using hj))]
  rfl
theorem JaR{t:List UInt8}{a j:Nat}:(t.drop a).getD j 0=t.getD (a+j) 0:=by
 rw[Ka,Ka,List.getElem?_drop]
def la84(s:List UInt8)(c:Int):LA:={
 pre:=[.own 5 9 1,.reno 5 1,.keep [0,1,5,6,7] [1],.bound 2],post:=[.reno 5 1,.keep [0,1,5,6,7] [1],.bound 2]
 Gh:=Nat × Nat × List (List UInt8)
 st:=fun q=>⟨[(0,.str s),(1,.int .u8 c),(5,.own 1 (q.2.2.map Jx).length),(6,.i q.2.1),(7,.i q.1)],[(1,.buf 9 1 (q.2.2.map Jx))],2⟩
 ok:=fun q=>q.2.1<=q.1/\q.1<=s.length/\q.2.2.length<=q.1/\spl c.toNat.toUInt8 s=q.2.2++spl c.toNat.toUInt8 (s.drop q.2.1)/\∀ j,q.2.1<=j->j < q.1->s.getD j 0 ≠ c.toNat.toUInt8
 ms:=fun q=>s.length-q.1 }
abbrev Z49a(g':Nat × Nat × List (List UInt8))(s:List UInt8)(c:Int):=(g'.snd.fst<=g'.fst/\g'.fst<=s.length/\g'.snd.snd.length<=g'.fst/\spl c.toNat.toUInt8 s=g'.snd.snd++spl c.toNat.toUInt8 (List.drop g'.snd.fst s)/\∀ (j:Nat),g'.snd.fst<=j->j < g'.fst->s.getD j (0:UInt8) ≠ c.toNat.toUInt8)
abbrev Z49b(g:Nat × Nat × List (List UInt8))(s:List UInt8)(c:Int):=(g.snd.fst<=g.fst/\g.fst<=s.length/\g.snd.snd.length<=g.fst/\spl c.toNat.toUInt8 s=g.snd.snd++spl c.toNat.toUInt8 (List.drop g.snd.fst s)/\∀ (j:Nat),g.snd.fst<=j->j < g.fst->s.getD j (0:UInt8) ≠ c.toNat.toUInt8)
abbrev Jme(g:Nat × Nat × List (List UInt8)):=List.map Jx g.snd.snd
abbrev Z49d(s:List UInt8)(c:Int)(g':Nat × Nat × List (List UInt8)):=[(0,AV.str s),(1,AV.int IntKind.u8 c),(5,AV.own 1 (List.map Jx g'.snd.snd).length),(6,AV.i (↑g'.snd.fst:Int)),(7,AV.i (↑g'.fst:Int))]
abbrev Jeo(g:Nat × Nat × List (List UInt8)):=(↑g.fst:Int)
abbrev JlP(g:Nat × Nat × List (List UInt8)):=(↑g.snd.fst:Int)
abbrev Jot(s:List UInt8):=(s.length:Int)
theorem c84(s:List UInt8)(c:Int)(hs:s.length<=1000000)(hc:0<=c/\c<=255):P0 84 [.str s,.int .u8 c] (.sl 1 ((spl c.toNat.toUInt8 s).map Jx)):=by
 have key :
  (∃ (g:Nat × Nat × List (List UInt8)),(Z49b g s c)/\AS.mk [(0,AV.str s),(1,AV.int IntKind.u8 c),(5,AV.own 1 0),(6,AV.i 0),(7,AV.i 0)] [(1,ABlk.buf 9 1 [])] 2=AS.mk [(0,AV.str s),(1,AV.int IntKind.u8 c),(5,AV.own
  1 (Jme g).length),(6,AV.i (JlP g)),(7,AV.i (Jeo g))] [(1,ABlk.buf 9 1 (Jme g))] 2)/\∀ (g:Nat × Nat × List (List UInt8)),(Z49b g s c)->(decide ((Jeo g) < (Jot s))=true->(0:Int)<=(Jeo g)/\(Jeo g) < (Jot s) /\
  (((↑(s.getD (Jeo g).toNat (0:UInt8)).toNat:Int) == c)=true->(0:Int)<=(JlP g)/\(JlP g)<=(Jeo g)/\(Jeo g)<=(Jot s)/\(Jme g).length+1<=9223372036854775807/\((Jme g).length+1) * 16<=140737488355328/\Jg
  ((Jeo g)+1)/\Jg ((Jeo g)+1)/\∃ (g':Nat × Nat × List (List UInt8)),(Z49a g' s c)/\s.length-g'.fst < s.length-g.fst/\AS.mk [(0,AV.str s),(1,AV.int IntKind.u8 c),(5,AV.own 1 ((Jme g).length+1)),(6,AV.i
  ((Jeo g)+1)),(7,AV.i ((Jeo g)+1))] [(1,ABlk.buf 9 1 (List.map Jx g.snd.snd++[[AV.str (List.take ((Jeo g)-(JlP g)).toNat (List.drop (JlP g).toNat s))]]))] 2=AS.mk (Z49d s c g') [(1,ABlk.buf 9 1 (List.map Jx
  g'.snd.snd))] 2)/\(((↑(s.getD (Jeo g).toNat (0:UInt8)).toNat:Int) == c)=false->Jg ((Jeo g)+1)/\∃ (g':Nat × Nat × List (List UInt8)),(Z49a g' s c)/\s.length-g'.fst < s.length-g.fst/\AS.mk [(0,AV.str s),(1,
  AV.int IntKind.u8 c),(5,AV.own 1 (Jme g).length),(6,AV.i (JlP g)),(7,AV.i ((Jeo g)+1))] [(1,ABlk.buf 9 1 (Jme g))] 2=AS.mk (Z49d s c g') [(1,ABlk.buf 9 1 (List.map Jx g'.snd.snd))] 2))/\(decide ((Jeo g) < (Jot
  s))=false->(0:Int)<=(JlP g)/\(JlP g)<=(Jot s)/\(Jot s)<=(Jot s)/\(Jme g).length+1<=9223372036854775807/\((Jme g).length+1) * 16<=140737488355328/\AV.sl 1 (List.map Jx g.snd.snd++[[AV.str (List.take
  ((Jot s)-(JlP g)).toNat (List.drop (JlP g).toNat s))]])=AV.sl 1 (List.map Jx (spl c.toNat.toUInt8 s))):=by
   delta Z49a Z49b Jme Z49d Jeo JlP Jot
   obtain⟨k,hk⟩:∃ k:UInt8,k=c.toNat.toUInt8:=⟨_,rfl⟩
   rw[<- hk]
   have hkc:(k.toNat:Int)=c:=by
    rw[hk]
    have:c.toNat < 256:=by omega
    rw[show(c.toNat.toUInt8).toNat=c.toNat % 256 from rfl,Nat.mod_eq_of_lt this]
    omega
   refine⟨⟨(0,0,[]),⟨Kr _,Nat.zero_le _,Kr _,by simp,fun j h1 h2=>absurd h2 (by simp)⟩,rfl⟩,fun q hq=>?_⟩
   obtain⟨i,a,P⟩:=q
   dsimp only at hq ⊢
   obtain⟨h1,h2,h3,h4,h5⟩:=hq
   have hPm:(List.map Jx P).length=P.length:=Kb _
   refine⟨fun hlt=>?_,fun hge=>?_⟩
   . have hlt:i < s.length:=by have:=K0 hlt;omega
     rw[Km,Km,show((i:Int)-(a:Int)).toNat=i-a by omega]
     refine⟨by omega,by omega,fun he=>?_,fun he=>?_⟩
     . have he:s.getD i 0=k:=by
        apply UInt8.toNat_inj.1
        have:=eq_of_beq he
        omega
       refine⟨by omega,by omega,by omega,by omega,by omega,by unfold Jg;omega,by unfold Jg;omega,(i+1,i+1,P++[(s.drop a).take (i-a)]),⟨Kr _,hlt,by rw[Kf,Kx];omega,?_,fun j hj1 hj2=>by dsimp only at hj1 hj2;omega⟩,by dsimp only;omega,?_⟩
       . dsimp only
         rw[h4,Jjm k (i-a) (s.drop a) (by rw[Kh];omega) (fun j hj=>by rw[JaR];exact h5 _ (by omega) (by omega)) (by rw[JaR,show a+(i-a)=i by omega];exact he),List.append_assoc,List.drop_drop,show a+(i-a+1)=i+1 by omega]
         rfl
       dsimp only
       rw[Db,Kf]
       rfl
     refine⟨by unfold Jg;omega,(i+1,a,P),⟨by dsimp only;omega,hlt,by dsimp only;omega,h4,fun j hj1 hj2=>?_⟩,by dsimp only;omega,rfl⟩
     dsimp only at hj1 hj2
     by_cases q:j=i
     . subst q
       intro e
       rw[e,hkc,Kz]at he
       cases he
     exact h5 j hj1 (by omega)
   have hi:i=s.length:=by have:=K1 hge;omega
   subst hi
   refine⟨by omega,by omega,by omega,by omega,by omega,?_⟩
   rw[h4,Jgf k (s.drop a) (fun j hj=>by rw[Kh]at hj;rw[JaR];exact h5 _ (by omega) (by omega)),Db,Km,show((s.length:Int)-(a:Int)).toNat=s.length-a by omega,Kv (by rw[Kh];exact Kr _)]
   rfl
 exact JU Tryz.f84 ({ mkB Jgh 84 [] (fun i=>if i.beq 0 then some (la84 s c)else none)with bx:=fun i=>if i.beq 0 then[]else[] }) key (by kernel_rfl)
end Go.Proofs.YtjhjmncjidbieaaGreatDoor
