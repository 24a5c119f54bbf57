/-
  What chapter 2's functions on paths, procedures and tracks return. What chapter 2's functions that walk along lists return: steps, copies, sameness. What chapter 2's small functions on lists, places and numbers return. No condition but the theorems' own.
-/
import Derived.Test.YtjhjmncjidbieaaGreatDoorPA
import Derived.Test.YtjhjmncjidbieaaGreatDoorAvD
namespace Go.Proofs.YtjhjmncjidbieaaGreatDoor
open Go Go.Av Go.RowKit
structure Pt where
 x:Int
 y:Int
 deriving Inhabited
structure Fx where
 t:Int
 x:Int
 y:Int
 z:Int
 p:Int
 deriving Inhabited
structure St where
 a:Int
 h:Int
 p:Int
 deriving Inhabited
def rdL {α:Type} [Inhabited α] (k:Nat) (enc:α->List AV) (l:List α) (size:Nat) (agg:Bool):List AV->Option AV
 | [.elt k' _ i j]=>if k'.beq k then some (if agg then .agg (((enc (l.getD i default)).drop j).take size) else nth (enc (l.getD i default)) j) else none
 | _=>none
def rdOr:List (List AV->Option AV)->List AV->Option AV
 | [],_=>none
 | f::fs,x=>match f x with
  | some v=>some v
  | none=>rdOr fs x
theorem row_at {α:Type} [Inhabited α] (enc:α->List AV) {l:List α} {i:Nat} (h:i < l.length):nthR (l.map enc) i=enc (l.getD i default):=by
 simp [nthR,List.getD_eq_getElem?_getD,h]
def sScan (f:Nat->Int) (n:Nat) (fin:Int):Int:=sFirst ((List.range n).map f++[fin])
theorem scan_hit {f:Nat->Int} {n i:Nat} {fin:Int} (h:i < n) (h0:∀ k,k < i->f k=0) (hne:f i ≠ 0):sScan f n fin=f i:=by
 have e:∀ k,k < n->((List.range n).map f++[fin]).getD k 0=f k:=fun k hk=>by
  simp [List.getD_eq_getElem?_getD,List.getElem?_append,hk]
 rw [sScan,first_hit (i:=i) (by simp;omega) (fun k hk=>by rw [e k (by omega)];exact h0 k hk) (by rw [e i h];exact hne),e i h]
theorem scan_end {f:Nat->Int} {n:Nat} {fin:Int} (h0:∀ k,k < n->f k=0):sScan f n fin=fin:=by
 have e:∀ k,k < n->((List.range n).map f++[fin]).getD k 0=f k:=fun k hk=>by
  simp [List.getD_eq_getElem?_getD,List.getElem?_append,hk]
 rw [sScan,first_drop _ n (fun k hk=>by rw [e k hk];exact h0 k hk) (by simp),List.drop_left' (by simp)]
 simp [sFirst]
 intro h;exact h.symm
def spB:Nat->List AV->Option AV
 | 96,[.int _ n,.int _ d]=>some (.i (0-sFloor (0-n) d))
 | n,l=>spA n l
theorem bne_t {a:Int} (h:(a != 0)=true):a ≠ 0:=by simpa using h
theorem bne_f {a:Int} (h:(a != 0)=false):a=0:=by simpa using h
def sLS (c:Int) (f:Nat->Int) (n:Nat) (fin:Int):Int:=if c != 0 then c else sScan f n fin
theorem ls_first {c:Int} {f:Nat->Int} {n:Nat} {fin:Int} (h:(c != 0)=true):sLS c f n fin=c:=by rw [sLS,if_pos h]
theorem ls_hit {c:Int} {f:Nat->Int} {n i:Nat} {fin:Int} (h:(c != 0)=false) (hi:decide ((i:Int) < (n:Int))=true) (h0:∀ k,k < i->f k=0) (hne:(f i != 0)=true):sLS c f n fin=f i:=by
 rw [sLS,if_neg (by rw [h];decide),scan_hit (by simpa using hi) h0 (bne_t hne)]
theorem ls_end {c:Int} {f:Nat->Int} {n i:Nat} {fin:Int} (h:(c != 0)=false) (hi:decide ((i:Int) < (n:Int))=false) (hle:i<=n) (h0:∀ k,k < i->f k=0):sLS c f n fin=fin:=by
 have:i=n:=by simp at hi;omega
 subst this
 rw [sLS,if_neg (by rw [h];decide),scan_end h0]
theorem all_succ {f:Nat->Int} {g:Nat} (h:∀ k,k < g->f k=0) (h2:(f g != 0)=false):∀ k,k < g+1->f k=0:=fun k hk=>by
 by_cases e:k=g
 · rw [e];exact bne_f h2
 · exact h k (by omega)
theorem ge_of_dec {i n:Nat} (hi:decide ((i:Int) < (n:Int))=false) (hle:i<=n):i=n:=by simp at hi;omega
theorem lt_of_dec {i n:Nat} (hi:decide ((i:Int) < (n:Int))=true):i < n:=by simpa using hi
theorem within_zero {x lo hi:Int}:sWithin x lo hi=0 ↔ lo<=x∧x<=hi:=by
 unfold sWithin sWhen
 by_cases h1:x < lo
 · simp [h1];omega
 · by_cases h2:x > hi
   · simp [h1,h2] <;> omega
   · simp [h1,h2] <;> omega
theorem first_zero {x:Int} {l:List Int}:sFirst (x::l)=0 ↔ x=0∧sFirst l=0:=by
 by_cases h:x=0
 · simp [sFirst,h]
 · simp [sFirst,h]
def prv (i:Nat):Nat:=(maxI 0 ((i:Int)-1)).toNat
end Go.Proofs.YtjhjmncjidbieaaGreatDoor
namespace Go.Proofs.YtjhjmncjidbieaaGreatDoor
open Go Go.Av Go.RowKit
def sBetween (a b p w:Int):Int:=a+sFloor ((b-a) * p) w
def spC:Nat->List AV->Option AV
 | 142,[.int _ a,.int _ b,.int _ p,.int _ w]=>some (.i (sBetween a b p w))
 | 97,[.int _ a,.int _ b,.int _ p,.int _ w]=>some (.i (sBetween a b p w))
 | n,l=>spB n l
structure BetOK (a b p w:Int):Prop where
 a1 : -1000000000<=a
 a2:a<=1000000000
 b1 : -1000000000<=b-a
 b2:b-a<=1000000000
 p1 : -1000000000<=p
 p2:p<=1000000000
 w:0 < w
structure ProcOK (l:List St):Prop where
 n1:2<=l.length
 n2:l.length<=8
 b:∀ i,i < l.length->0<=(l.getD i default).a∧(l.getD i default).a<=400000∧0<=(l.getD i default).h∧(l.getD i default).h<=20000∧1<=(l.getD i default).p∧(l.getD i default).p<=100
 s:∀ i,i+1 < l.length->(l.getD i default).a < (l.getD (i+1) default).a
 z:(l.getD 0 default).a=0
theorem take_succ {α:Type} [Inhabited α] (enc:α->List AV) {l:List α} {g:Nat} (h:g < l.length):(l.take g).map enc++[enc (l.getD g default)]=(l.take (g+1)).map enc:=by
 rw [List.take_add_one,List.map_append]
 simp [List.getD_eq_getElem?_getD,h]
end Go.Proofs.YtjhjmncjidbieaaGreatDoor
namespace Go.Proofs.YtjhjmncjidbieaaGreatDoor
open Go Go.Av Go.RowKit
def encI (x:Int):List AV:=[.i x]
def setA (f:An->An):Nat->List An->List An
 | 0,[]=>[f {}]
 | 0,a::l=>f a::l
 | n+1,[]=>{}::setA f n []
 | n+1,a::l=>a::setA f n l
def wrapAt (r k:Nat) (B:BA):BA:={ B with ra:=fun i=>if i.beq r then { B.ra i with ans:=setA (fun a=>{ a with nw:=false }) k (B.ra i).ans } else B.ra i }
def sRanged (l:List Int) (m:Int):Int:=sFirst (l.map fun x=>sWithin x 0 m)
def sCounted (n m:Int):Int:=sFirst [sWhen (n == 0) 12,sWhen (decide (n > m)) 5]
def sumW (l:List Int):Nat->Int
 | 0=>0
 | i+1=>IntKind.i64.wrap (sumW l i+l.getD i default)
def sDir (x y:Int):Int:=sFirst [sWithin x (-200000) 200000,sWithin y (-200000) 200000]
theorem take_succ_map {α β:Type} [Inhabited α] (enc:β->List AV) (f:α->β) {l:List α} {g:Nat} (h:g < l.length):((l.take g).map f).map enc++[enc (f (l.getD g default))]=((l.take (g+1)).map f).map enc:=by
 rw [List.take_add_one,List.map_append,List.map_append]
 simp [List.getD_eq_getElem?_getD,h]
theorem first_app0:∀ (l:List Int),sFirst (l++[0])=sFirst l
 | []=>by simp [sFirst]
 | x::l=>by
  rw [List.cons_append]
  simp only [sFirst]
  rw [first_app0 l]
theorem scan_list (f:Int->Int) (l:List Int):sScan (fun i=>f (l.getD i default)) l.length 0=sFirst (l.map f):=by
 unfold sScan
 rw [first_app0]
 congr 1
 refine List.ext_getElem (by simp) fun i h1 h2=>?_
 simp only [List.getElem_map,List.getElem_range]
 rw [List.getD_eq_getElem?_getD,List.getElem?_eq_getElem (by simpa using h1)]
 rfl
def spP:Nat->List AV->Option AV
 | 169,[.bool b,.int _ e]=>some (.i (sWhen b e))
 | 151,[.int _ x,.int _ lo,.int _ hi]=>some (.i (sWithin x lo hi))
 | 153,[.int _ x,.elt _ [[.int _ m]] _ _]=>some (.i (sWithin x 0 m))
 | 115,[.agg [.int _ x,.int _ y]]=>some (.i (sDir x y))
 | 46,[.agg [.int _ x,.int _ y]]=>some (.i (sDir x y))
 | 45,[.int _ x]=>some (.i (sWithin x 0 100000000000))
 | 123,[.int _ n,.int _ m]=>some (.i (sCounted n m))
 | n,x=>spC n x
theorem c123 (n m:Int) :PCall Tryz.prog G0 123 [.i n,.i m] (.i (sCounted n m)):=by
 have key :
  PCall Tryz.prog G0 92 [AV.bool (n == 0),AV.i 12] (AV.i (sWhen (n == 0) (12:Int)))∧PCall Tryz.prog G0 92 [AV.bool (decide (n > m)),AV.i 5] (AV.i (sWhen (decide (n > m)) (5:Int)))∧PCall Tryz.prog G0 87 [AV.sl 1 [[AV.i
  (sWhen (n == 0) (12:Int))],[AV.i (sWhen (decide (n > m)) (5:Int))]]] (AV.i (sFirst [hdI [AV.i (sWhen (n == 0) (12:Int))],hdI [AV.i (sWhen (decide (n > m)) (5:Int))]]))∧AV.i (sFirst [hdI [AV.i (sWhen (n == 0) (12 :
  Int))],hdI [AV.i (sWhen (decide (n > m)) (5:Int))]])=AV.i (sCounted n m):=by
   exact ⟨c92 _ _,c92 _ _,c87 [_,_] (by simp),rfl⟩
 exact c_of Tryz.f123 (mkB spP 123 [] noLa) (by kernel_rfl) (by kernel_rfl) (by kernel_rfl) (by kernel_rfl) key (by kernel_rfl)
theorem c153 (x m:Int) :PCall Tryz.prog G0 153 [.i x,.elt 1 [[.i m]] 0 0] (.i (sWithin x 0 m)):=by
 have key :
  PCall Tryz.prog G0 89 [AV.i x,AV.i 0,AV.i m] (AV.i (sWithin x (0:Int) m))∧AV.i (sWithin x (0:Int) m)=AV.i (sWithin x (0:Int) m):=by
   exact ⟨c89 _ _ _,rfl⟩
 exact c_of Tryz.f153 (mkB spP 153 [] noLa) (by kernel_rfl) (by kernel_rfl) (by kernel_rfl) (by kernel_rfl) key (by kernel_rfl)
def la152 (l:List Int) (m:Int):LA:={
 pre:=[.own 5 27 1,.reno 5 1,.keep [1,5,8,9,10] [1],.bound 2],post:=[.reno 5 1,.keep [1,5,8,9,10] [1],.bound 2]
 Gh:=Nat
 st:=fun i=>⟨[(1,.fn (.func 153) [] [.elt 1 [[.i m]] 0 0]),(5,.own 1 (((l.take i).map fun x=>sWithin x 0 m).map encI).length),(8,.sl 1 (l.map encI)),(9,.i (l.map encI).length),(10,.i i)],[(1,.buf 27 1 (((l.take i).map fun x=>sWithin x 0 m).map encI))],2⟩
 ok:=fun i=>i<=(l.map encI).length
 ms:=fun i=>(l.map encI).length-i }
abbrev zc152a (m:Int) (g:Nat) (l:List Int):=List.map encI (List.map (fun (x:Int)=>sWithin x (0:Int) m) (List.take g l))
theorem c152 (l:List Int) (m:Int) (hl:l.length<=1000):PCall Tryz.prog G0 152 [.sl 1 (l.map encI),.fn (.func 153) [] [.elt 1 [[.i m]] 0 0]] (.fresh 27 1 ((l.map fun x=>sWithin x 0 m).map encI)):=by
 have key :
  (∃ (g:Nat),g<=(List.map encI l).length∧AS.mk [(1,AV.fn (Fn.func 153) [] [AV.elt 1 [[AV.i m]] 0 0]),(5,AV.own 1 0),(8,AV.sl 1 (List.map encI l)),(9,AV.i (↑(List.map encI l).length:Int)),(10,AV.i 0)] [(1,ABlk.buf 27
  1 [])] 2=AS.mk [(1,AV.fn (Fn.func 153) [] [AV.elt 1 [[AV.i m]] 0 0]),(5,AV.own 1 (zc152a m g l).length),(8,AV.sl 1 (List.map encI l)),(9,AV.i (↑(List.map encI l).length:Int)),(10,AV.i (g:Int))] [(1,ABlk.buf 27 1
  (zc152a m g l))] 2)∧∀ (g:Nat),g<=(List.map encI l).length->(decide ((g:Int) < (↑(List.map encI l).length:Int))=true->(0:Int)<=(g:Int)∧(g:Int) < (↑(List.map encI l).length:Int)∧nth (nthR (List.map encI
  l) (g:Int).toNat) 0=AV.i (l.getD (g:Int).toNat default)∧(zc152a m g l).length+1<=9223372036854775807∧((zc152a m g l).length+1) * 8<=140737488355328∧PCall Tryz.prog G0 153 [AV.i (l.getD (g:Int).toNat default),
  AV.elt 1 [[AV.i m]] 0 0] (AV.i (sWithin (l.getD (g:Int).toNat default) (0:Int) m))∧In64 ((g:Int)+1)∧∃ (g':Nat),g'<=(List.map encI l).length∧(List.map encI l).length-g' < (List.map encI l).length-g∧AS.mk
  [(1,AV.fn (Fn.func 153) [] [AV.elt 1 [[AV.i m]] 0 0]),(5,AV.own 1 ((zc152a m g l).length+1)),(8,AV.sl 1 (List.map encI l)),(9,AV.i (↑(List.map encI l).length:Int)),(10,AV.i ((g:Int)+1))] [(1,ABlk.buf 27 1
  (List.map encI (List.map (fun (x:Int)=>sWithin x (0:Int) m) (List.take g l))++[[AV.i (sWithin (l.getD (g:Int).toNat default) (0:Int) m)]]))] 2=AS.mk [(1,AV.fn (Fn.func 153) [] [AV.elt 1 [[AV.i m]] 0 0]),(5,AV.own
  1 (List.map encI (List.map (fun (x:Int)=>sWithin x (0:Int) m) (List.take g' l))).length),(8,AV.sl 1 (List.map encI l)),(9,AV.i (↑(List.map encI l).length:Int)),(10,AV.i (↑g':Int))] [(1,ABlk.buf 27 1 (List.map encI
  (List.map (fun (x:Int)=>sWithin x (0:Int) m) (List.take g' l))))] 2)∧(decide ((g:Int) < (↑(List.map encI l).length:Int))=false->AV.fresh 27 1 (zc152a m g l)=AV.fresh 27 1 (List.map encI (List.map (fun (x:Int) =>
  sWithin x (0:Int) m) l))):=by
   delta zc152a
   simp only [List.length_map]
   refine ⟨⟨0,by omega,rfl⟩,fun g hg=>⟨fun hd=>?_,fun hd=>?_⟩⟩
   · have hlt:=lt_of_dec hd
     simp only [Int.toNat_natCast]
     refine ⟨by omega,by omega,by rw [row_at _ hlt];rfl,by rw [List.length_take];omega,by rw [List.length_take];omega,c153 _ _,by unfold In64;omega,g+1,hlt,by omega,?_⟩
     have h2:=take_succ_map encI (fun x=>sWithin x 0 m) hlt
     simp only [encI] at h2
     rw [show (l.take g).length+1=(l.take (g+1)).length by simp only [List.length_take];omega,h2]
     rfl
   · rw [ge_of_dec hd hg,List.take_length]
 exact c_of Tryz.f152 (mkB spP 152 [(4,1,rdOr [rdL 1 encI l 1 false])] (fun i=>if i.beq 0 then some (la152 l m) else none)) (by kernel_rfl) (by kernel_rfl) (by kernel_rfl) (by kernel_rfl) key (by kernel_rfl)
def la121 (l:List Int):LA:={
 pre:=[.keep [3,6,7,8] [],.bound 1],post:=[.keep [3,6,7,8] [],.bound 1]
 Gh:=Nat
 st:=fun i=>⟨[(3,.i (sumW l i)),(6,.sl 1 (l.map encI)),(7,.i (l.map encI).length),(8,.i i)],[],1⟩
 ok:=fun i=>i<=(l.map encI).length
 ms:=fun i=>(l.map encI).length-i }
theorem c121 (l:List Int) (hl:l.length<=1000000):PCall Tryz.prog G0 121 [.sl 1 (l.map encI)] (.i (sumW l l.length)):=by
 have key :
  (∃ (g:Nat),g<=(List.map encI l).length∧AS.mk [(3,AV.i 0),(6,AV.sl 1 (List.map encI l)),(7,AV.i (↑(List.map encI l).length:Int)),(8,AV.i 0)] [] 1=AS.mk [(3,AV.i (sumW l g)),(6,AV.sl 1 (List.map encI l)),(7,AV.i
  (↑(List.map encI l).length:Int)),(8,AV.i (g:Int))] [] 1)∧∀ (g:Nat),g<=(List.map encI l).length->(decide ((g:Int) < (↑(List.map encI l).length:Int))=true->(0:Int)<=(g:Int)∧(g:Int) < (↑(List.map encI
  l).length:Int)∧nth (nthR (List.map encI l) (g:Int).toNat) 0=AV.i (l.getD (g:Int).toNat default)∧In64 ((g:Int)+1)∧∃ (g':Nat),g'<=(List.map encI l).length∧(List.map encI l).length-g' < (List.map encI
  l).length-g∧AS.mk [(3,AV.i (IntKind.i64.wrap (sumW l g+l.getD (g:Int).toNat default))),(6,AV.sl 1 (List.map encI l)),(7,AV.i (↑(List.map encI l).length:Int)),(8,AV.i ((g:Int)+1))] [] 1=AS.mk [(3,AV.i (sumW
  l g')),(6,AV.sl 1 (List.map encI l)),(7,AV.i (↑(List.map encI l).length:Int)),(8,AV.i (↑g':Int))] [] 1)∧(decide ((g:Int) < (↑(List.map encI l).length:Int))=false->AV.i (sumW l g)=AV.i (sumW l l.length)):=by
   simp only [List.length_map]
   refine ⟨⟨0,by omega,rfl⟩,fun g hg=>⟨fun hd=>?_,fun hd=>?_⟩⟩
   · have hlt:=lt_of_dec hd
     simp only [Int.toNat_natCast]
     exact ⟨by omega,by omega,by rw [row_at _ hlt];rfl,by unfold In64;omega,g+1,hlt,by omega,rfl⟩
   · rw [ge_of_dec hd hg]
 exact c_of Tryz.f121 (wrapAt 5 2 (mkB spP 121 [(4,1,rdOr [rdL 1 encI l 1 false])] (fun i=>if i.beq 0 then some (la121 l) else none))) (by kernel_rfl) (by kernel_rfl) (by kernel_rfl) (by kernel_rfl) key (by kernel_rfl)
def la108 (l:List Int) (lo hi:Int):LA:={
 pre:=[.keep [0,1,2,7] [],.bound 1],post:=[.keep [0,1,2,7] [],.bound 1]
 Gh:=Nat
 st:=fun i=>⟨[(0,.sl 1 (l.map encI)),(1,.i lo),(2,.i hi),(7,.i i)],[],1⟩
 ok:=fun i=>i<=(l.map encI).length∧∀ k,k < i->sWithin (l.getD k default) lo hi=0
 ms:=fun i=>(l.map encI).length-i }
theorem c108 (l:List Int) (lo hi:Int) (hl:l.length<=1000000):PCall Tryz.prog G0 108 [.sl 1 (l.map encI),.i lo,.i hi] (.i (sFirst (l.map fun x=>sWithin x lo hi))):=by
 have key :
  (∃ (g:Nat),(g<=(List.map encI l).length∧∀ (k:Nat),k < g->sWithin (l.getD k default) lo hi=(0:Int))∧AS.mk [(0,AV.sl 1 (List.map encI l)),(1,AV.i lo),(2,AV.i hi),(7,AV.i 0)] [] 1=AS.mk [(0,AV.sl 1 (List.map
  encI l)),(1,AV.i lo),(2,AV.i hi),(7,AV.i (g:Int))] [] 1)∧∀ (g:Nat),(g<=(List.map encI l).length∧∀ (k:Nat),k < g->sWithin (l.getD k default) lo hi=(0:Int))->(decide ((g:Int) < (↑(List.map encI l).length
  : Int))=true->(0:Int)<=(g:Int)∧(g:Int) < (↑(List.map encI l).length:Int)∧nth (nthR (List.map encI l) (g:Int).toNat) 0=AV.i (l.getD (g:Int).toNat default)∧PCall Tryz.prog G0 95 [AV.i (l.getD (↑g :
  Int).toNat default),AV.i lo,AV.i hi] (AV.i (sWithin (l.getD (g:Int).toNat default) lo hi))∧((sWithin (l.getD (g:Int).toNat default) lo hi != 0)=true->AV.i (sWithin (l.getD (g:Int).toNat default) lo hi)=AV.i
  (sFirst (List.map (fun (x:Int)=>sWithin x lo hi) l)))∧((sWithin (l.getD (g:Int).toNat default) lo hi != 0)=false->In64 ((g:Int)+1)∧∃ (g':Nat),(g'<=(List.map encI l).length∧∀ (k:Nat),k < g'->sWithin
  (l.getD k default) lo hi=(0:Int))∧(List.map encI l).length-g' < (List.map encI l).length-g∧AS.mk [(0,AV.sl 1 (List.map encI l)),(1,AV.i lo),(2,AV.i hi),(7,AV.i ((g:Int)+1))] [] 1=AS.mk [(0,AV.sl 1
  (List.map encI l)),(1,AV.i lo),(2,AV.i hi),(7,AV.i (↑g':Int))] [] 1))∧(decide ((g:Int) < (↑(List.map encI l).length:Int))=false->AV.i 0=AV.i (sFirst (List.map (fun (x:Int)=>sWithin x lo hi) l))):=by
   simp only [List.length_map]
   refine ⟨⟨0,⟨by omega,by intros;omega⟩,rfl⟩,fun g hg=>⟨fun hd=>?_,fun hd=>?_⟩⟩
   · have hlt:=lt_of_dec hd
     simp only [Int.toNat_natCast]
     refine ⟨by omega,by omega,by rw [row_at _ hlt];rfl,c95 _ _ _,fun hne=>?_,fun hz=>⟨by unfold In64;omega,g+1,⟨hlt,all_succ (f:=fun k=>sWithin (l.getD k default) lo hi) hg.2 hz⟩,by omega,rfl⟩⟩
     rw [<- scan_list,scan_hit hlt hg.2 (bne_t hne)]
   · rw [<- scan_list,scan_end]
     exact fun k hk=>hg.2 k (by rw [ge_of_dec hd hg.1];exact hk)
 exact c_of Tryz.f108 (mkB spP 108 [(4,3,rdOr [rdL 1 encI l 1 false])] (fun i=>if i.beq 0 then some (la108 l lo hi) else none)) (by kernel_rfl) (by kernel_rfl) (by kernel_rfl) (by kernel_rfl) key (by kernel_rfl)
def sp124 (l:List Int) (m:Int):Nat->List AV->Option AV
 | 152,_=>some (.sl 1 ((l.map fun x=>sWithin x 0 m).map encI))
 | 87,_=>some (.i (sRanged l m))
 | _,_=>none
theorem c124 (l:List Int) (m:Int) (hl:l.length<=1000):PCall Tryz.prog G0 124 [.sl 1 (l.map encI),.i m] (.i (sRanged l m)):=by
 have key :
  PCall Tryz.prog G0 152 [AV.sl 1 (List.map encI l),AV.fn (Fn.func 153) [] [AV.elt 1 [[AV.i m]] 0 0]] (AV.sl 1 (List.map encI (List.map (fun (x:Int)=>sWithin x (0:Int) m) l)))∧PCall Tryz.prog G0 87 [AV.sl 1 (List.map encI
  (List.map (fun (x:Int)=>sWithin x (0:Int) m) l))] (AV.i (sRanged l m))∧AV.i (sRanged l m)=AV.i (sRanged l m):=by
   exact ⟨(c152 l m hl).un,c87 (l.map fun x=>sWithin x 0 m) (by simp;omega),rfl⟩
 exact c_of Tryz.f124 (mkB (sp124 l m) 124 [] noLa) (by kernel_rfl) (by kernel_rfl) (by kernel_rfl) (by kernel_rfl) key (by kernel_rfl)
end Go.Proofs.YtjhjmncjidbieaaGreatDoor
namespace Go.Proofs.YtjhjmncjidbieaaGreatDoor
open Go Go.Av Go.RowKit
theorem dec_ascii {c:UInt8} (r:List UInt8) (h:c.toNat < 128):dec (c::r)=(c.toNat,1):=by
 unfold dec Utf8.decode
 have:(({ data:=(c::r).toArray }:ByteArray).get! (0+0)).toNat=c.toNat:=rfl
 simp only [this]
 rw [if_pos (by simpa using h)]
theorem dec_big {c:UInt8} (r:List UInt8) (h:¬ c.toNat < 128):128<=(dec (c::r)).1:=by
 unfold dec Utf8.decode
 have:(({ data:=(c::r).toArray }:ByteArray).get! (0+0)).toNat=c.toNat:=rfl
 simp only [this]
 rw [if_neg (by simpa using h)]
 repeat' split
 all_goals first
  | (simp only [Bool.and_eq_true,decide_eq_true_eq] at *;omega)
  | omega
  | (show 128<=Utf8.runeError;decide)
def isLet (c:Nat):Bool:=decide (97<=c∧c<=122) || decide (65<=c∧c<=90)
def okB (first:Bool) (c:Nat):Bool:=isLet c || (!first && (decide (c=95) || decide (48<=c∧c<=57)))
def allB (s:List UInt8) (n:Nat):Bool:=(List.range n).all fun i=>okB (i == 0) (s.getD i 0).toNat
def sName (s:List UInt8):Bool:=allB s s.length && (!(s == []) && decide (s.length<=24))
def cutA (ts ids:List Nat) (n t:Nat) (f:AS->AV):AS->AS:=fun S=>⟨pickL ((t,f S)::delL t S.s) ts,pickL S.b ids,n⟩
def onI (x:Option AV) (f:Int->AV):AV:=match x with
 | some (.int _ n)=>f n
 | _=>.any
def isLetI (n:Int):Bool:=decide (97<=n∧n<=122) || decide (65<=n∧n<=90)
def isDigU (n:Int):Bool:=decide (48<=n∧n<=57) || decide (n=95)
theorem all_fail {s:List UInt8} {g:Nat} (h:g < s.length) (hf:okB (g == 0) (s.getD g 0).toNat=false):sName s=false:=by
 have:allB s s.length=false:=List.all_eq_false.2 ⟨g,by simpa using h,by rw [hf];decide⟩
 rw [sName,this]
 rfl
theorem all_next {s:List UInt8} {g:Nat} (ha:allB s g=true) (hf:okB (g == 0) (s.getD g 0).toNat=true):allB s (g+1)=true:=by
 unfold allB at ha ⊢
 rw [List.range_succ,List.all_append,ha]
 simp only [List.all_cons,List.all_nil,hf,Bool.and_self]
theorem okB_I (b:Bool) (c:Nat):okB b c=(isLetI (c:Int) || (!b && isDigU (c:Int))):=by
 have e1:isLet c=isLetI (c:Int):=by
  unfold isLet isLetI
  congr 1 <;> (apply decide_eq_decide.2;omega)
 have e2:(decide (c=95) || decide (48<=c∧c<=57))=isDigU (c:Int):=by
  unfold isDigU
  rw [Bool.or_comm]
  congr 1 <;> (apply decide_eq_decide.2;omega)
 rw [okB,e1,e2]
theorem okB_big (b:Bool) {c:Nat} (h:128<=c):okB b c=false:=by
 rw [okB_I]
 have e1:isLetI (c:Int)=false:=by
  simp only [isLetI,Bool.or_eq_false_iff,decide_eq_false_iff_not]
  omega
 have e2:isDigU (c:Int)=false:=by
  simp only [isDigU,Bool.or_eq_false_iff,decide_eq_false_iff_not]
  omega
 rw [e1,e2]
 simp
theorem dec_ok (b:Bool) (c:UInt8) (r:List UInt8):okB b (dec (c::r)).1=okB b c.toNat∧(okB b c.toNat=true->(dec (c::r)).2=1):=by
 by_cases h:c.toNat < 128
 · rw [dec_ascii r h]
   exact ⟨rfl,fun _=>rfl⟩
 · have h1:=okB_big b (dec_big r h)
   have h2:=okB_big b (show 128<=c.toNat by omega)
   rw [h1,h2]
   exact ⟨rfl,fun h=>by cases h⟩
def la122 (s:List UInt8):LA:={
 pre:=[.keep [0,7] [3],.bound 4],post:=[.keep [0,7] [3],.bound 4]
 Gh:=Nat
 st:=fun i=>⟨[(0,.str s),(7,.ref 3)],[(3,.iter (s.drop i) i)],4⟩
 ok:=fun i=>i<=s.length∧allB s i=true
 ms:=fun i=>s.length-i
 it:=some 3 }
def B122 (s:List UInt8):BA:={ mkB spP 122 [] (fun i=>if i.beq 0 then some (la122 s) else none) with
 split:=fun i=>if i.beq 4 then 1 else if i.beq 5 then 1 else 0
 gs:=fun i=>if i.beq 4 then [.keep [0,3,4,5,7] [3],.bound 4] else if i.beq 5 then [.keep [0,3,4,5,7,43] [3],.bound 4] else []
 cut:=fun i=>if i.beq 4 then some (cutA [0,3,4,5,7] [3] 4 5 fun S=>onI (slotF S 4) fun n=>.bool (isLetI n)) else none }
abbrev zc122a (c:UInt8) (r:List UInt8) (g:Nat):=[(3,ABlk.iter (List.drop (dec (c::r)).snd (c::r)) (g+(dec (c::r)).snd))]
abbrev zc122b (c:UInt8) (r:List UInt8):=(↑(dec (c::r)).fst:Int)
abbrev zc122c (s:List UInt8) (g:Nat) (c:UInt8) (r:List UInt8):=[(0,AV.str s),(3,AV.i (g:Int)),(4,AV.int IntKind.i32 (zc122b c r)),(5,AV.bool (isLetI (zc122b c r))),(7,AV.ref 3)]
abbrev zc122d (s:List UInt8):=[(0,AV.str s),(7,AV.ref 3)]
theorem c122 (s:List UInt8) (hs:s.length<=1000000):PCall Tryz.prog G0 122 [.str s] (.bool (sName s)):=by
 have key :
  (∃ (g:Nat),(g<=s.length∧allB s g=true)∧AS.mk (zc122d s) [(3,ABlk.iter s 0)] 4=AS.mk (zc122d s) [(3,ABlk.iter (List.drop g s) g)] 4)∧∀ (g:Nat),g<=s.length∧allB s g=true->(∀ (c:UInt8) (r:List UInt8),
  List.drop g s=c::r->(true=true->((decide ((zc122b c r)>=97)=true->(decide ((zc122b c r)<=122)=true->(true=false->false=true)∧AV.bool (decide ((zc122b c r)>=97))=AV.bool true∧AV.bool (decide ((zc122b c r)
  ≤ 122))=AV.bool true∧AS.mk [(0,AV.str s),(3,AV.i (g:Int)),(4,AV.int IntKind.i32 (zc122b c r)),(5,AV.bool true),(7,AV.ref 3)] (zc122a c r g) 4=AS.mk (zc122c s g c r) (zc122a c r g) 4)∧(decide ((zc122b c r)<=122)
  = false->(decide ((zc122b c r)>=65)=true->AV.bool (decide ((zc122b c r)>=97))=AV.bool true∧AV.bool (decide ((zc122b c r)<=122))=AV.bool false∧AV.bool (decide ((zc122b c r)>=65))=AV.bool true∧AS.mk [(0,AV.str
  s),(3,AV.i (g:Int)),(4,AV.int IntKind.i32 (zc122b c r)),(5,AV.bool (decide ((zc122b c r)<=90))),(7,AV.ref 3)] (zc122a c r g) 4=AS.mk (zc122c s g c r) (zc122a c r g) 4)∧(decide ((zc122b c r)>=65)=false->(false =
  true->false=true)∧AV.bool (decide ((zc122b c r)>=97))=AV.bool true∧AV.bool (decide ((zc122b c r)<=122))=AV.bool false∧AV.bool (decide ((zc122b c r)>=65))=AV.bool false∧AS.mk [(0,AV.str s),(3,AV.i (g:Int)),
  (4,AV.int IntKind.i32 (zc122b c r)),(5,AV.bool false),(7,AV.ref 3)] (zc122a c r g) 4=AS.mk (zc122c s g c r) (zc122a c r g) 4)))∧(decide ((zc122b c r)>=97)=false->(false=true->(false=true->false=true)∧(true =
  false->false=true)∧AV.bool (decide ((zc122b c r)>=97))=AV.bool false∧AV.bool false=AV.bool true∧AS.mk [(0,AV.str s),(3,AV.i (g:Int)),(4,AV.int IntKind.i32 (zc122b c r)),(5,AV.bool true),(7,AV.ref 3)]
  (zc122a c r g) 4=AS.mk (zc122c s g c r) (zc122a c r g) 4)∧(false=false->(decide ((zc122b c r)>=65)=true->(false=true->false=true)∧AV.bool (decide ((zc122b c r)>=97))=AV.bool false∧AV.bool false=AV.bool
  false∧AV.bool (decide ((zc122b c r)>=65))=AV.bool true∧AS.mk [(0,AV.str s),(3,AV.i (g:Int)),(4,AV.int IntKind.i32 (zc122b c r)),(5,AV.bool (decide ((zc122b c r)<=90))),(7,AV.ref 3)] (zc122a c r g) 4=AS.mk
  (zc122c s g c r) (zc122a c r g) 4)∧(decide ((zc122b c r)>=65)=false->(false=true->false=true)∧(false=true->false=true)∧AV.bool (decide ((zc122b c r)>=97))=AV.bool false∧AV.bool false=AV.bool false ∧
  AV.bool (decide ((zc122b c r)>=65))=AV.bool false∧AS.mk [(0,AV.str s),(3,AV.i (g:Int)),(4,AV.int IntKind.i32 (zc122b c r)),(5,AV.bool false),(7,AV.ref 3)] (zc122a c r g) 4=AS.mk (zc122c s g c r) (zc122a c r g)
  4))))∧((!isLetI (zc122b c r))=true->(((g:Int) == 0)=true->(true=false->false=true)∧(AV.bool !isLetI (zc122b c r))=AV.bool true∧AV.bool ((g:Int) == 0)=AV.bool true∧(true=true->AV.bool false=AV.bool
  (sName s))∧(true=false->∃ (g':Nat),(g'<=s.length∧allB s g'=true)∧s.length-g' < s.length-g∧AS.mk (zc122d s) (zc122a c r g) 4=AS.mk (zc122d s) [(3,ABlk.iter (List.drop g' s) g')] 4))∧(((g:Int) == 0) =
  false->(((zc122b c r) != 95)=true->(decide ((zc122b c r) < 48)=true->(true=false->false=true)∧(AV.bool !isLetI (zc122b c r))=AV.bool true∧AV.bool ((g:Int) == 0)=AV.bool false∧AV.bool ((zc122b c r) != 95) =
  AV.bool true∧AV.bool (decide ((zc122b c r) < 48))=AV.bool true∧(true=true->AV.bool false=AV.bool (sName s))∧(true=false->∃ (g':Nat),(g'<=s.length∧allB s g'=true)∧s.length-g' < s.length-g∧AS.mk
  (zc122d s) (zc122a c r g) 4=AS.mk (zc122d s) [(3,ABlk.iter (List.drop g' s) g')] 4))∧(decide ((zc122b c r) < 48)=false->(AV.bool !isLetI (zc122b c r))=AV.bool true∧AV.bool ((g:Int) == 0)=AV.bool false∧AV.bool
  ((zc122b c r) != 95)=AV.bool true∧AV.bool (decide ((zc122b c r) < 48))=AV.bool false∧(decide ((zc122b c r) > 57)=true->AV.bool false=AV.bool (sName s))∧(decide ((zc122b c r) > 57)=false->∃ (g':Nat),(g' ≤
  s.length∧allB s g'=true)∧s.length-g' < s.length-g∧AS.mk (zc122d s) (zc122a c r g) 4=AS.mk (zc122d s) [(3,ABlk.iter (List.drop g' s) g')] 4)))∧(((zc122b c r) != 95)=false->(false=true->false=true)∧(AV.bool
  !isLetI (zc122b c r))=AV.bool true∧AV.bool ((g:Int) == 0)=AV.bool false∧AV.bool ((zc122b c r) != 95)=AV.bool false∧(false=true->AV.bool false=AV.bool (sName s))∧(false=false->∃ (g':Nat),(g'<=s.length ∧
  allB s g'=true)∧s.length-g' < s.length-g∧AS.mk (zc122d s) (zc122a c r g) 4=AS.mk (zc122d s) [(3,ABlk.iter (List.drop g' s) g')] 4))))∧((!isLetI (zc122b c r))=false->(false=true->false=true)∧(AV.bool !isLetI
  (zc122b c r))=AV.bool false∧(false=true->AV.bool false=AV.bool (sName s))∧(false=false->∃ (g':Nat),(g'<=s.length∧allB s g'=true)∧s.length-g' < s.length-g∧AS.mk (zc122d s) (zc122a c r g) 4=AS.mk
  (zc122d s) [(3,ABlk.iter (List.drop g' s) g')] 4)))∧(true=false->((!s == [])=true->(!s == [])=true)∧((!s == [])=true->(!s == [])=true)∧((!s == [])=true->(!s == [])=true)∧AV.bool (if (!s == [])=true then
  decide ((↑s.length:Int)<=24) else false)=AV.bool (sName s)))∧(List.drop g s=[]->(false=true->False)∧(false=false->((!s == [])=true->(!s == [])=true)∧((!s == [])=true->(!s == [])=true)∧((!s == []) =
  true->(!s == [])=true)∧AV.bool (if (!s == [])=true then decide ((↑s.length:Int)<=24) else false)=AV.bool (sName s))):=by
   delta zc122a zc122b zc122c zc122d
   refine ⟨⟨0,⟨by omega,rfl⟩,rfl⟩,fun g ⟨hg,ha⟩=>⟨fun c r hcr=>?_,fun hnil=>?_⟩⟩
   · have hlt:g < s.length:=by
      by_cases h:g < s.length
      · exact h
      · rw [List.drop_eq_nil_of_le (by omega)] at hcr;cases hcr
     have hcg:s.getD g 0=c:=by
      have:=congrArg (fun l=>l.getD 0 0) hcr
      simpa [List.getD_eq_getElem?_getD] using this
     have hr:r=s.drop (g+1):=by
      have:=congrArg (fun l=>l.drop 1) hcr
      simpa using this.symm
     have hz:((g:Int) == 0)=(g == 0):=by
      by_cases h:g=0
      · simp [h]
      · rw [beq_eq_false_iff_ne.2 h,beq_eq_false_iff_ne.2 (by omega)]
     obtain ⟨hk1,hk2⟩:=dec_ok (g == 0) c r
     have hF:okB (g == 0) (dec (c::r)).1=false->AV.bool false=AV.bool (sName s):=fun h=>by
      rw [all_fail hlt (by rw [hcg,<- hk1];exact h)]
     have hN:okB (g == 0) (dec (c::r)).1=true->∃ (g':Nat),(g'<=s.length∧allB s g'=true)∧s.length-g' < s.length-g ∧
      AS.mk [(0,AV.str s),(7,AV.ref 3)] [(3,ABlk.iter (List.drop (dec (c::r)).snd (c::r)) (g+(dec (c::r)).snd))] 4=AS.mk [(0,AV.str s),(7,AV.ref 3)] [(3,ABlk.iter (List.drop g' s) g')] 4:=fun h=>by
      refine ⟨g+1,⟨hlt,all_next ha (by rw [hcg,<- hk1];exact h)⟩,by omega,?_⟩
      rw [hk2 (by rw [<- hk1];exact h),hr]
      rfl
     rw [okB_I] at hF hN
     clear hk1 hk2
     generalize (dec (c::r)).1=n at hF hN ⊢
     generalize (dec (c::r)).2=w at hN ⊢
     rw [hz]
     repeat' (first | apply And.intro | intro _)
     all_goals try first
      | contradiction
      | rfl
      | assumption
      | exact congrArg AV.bool (by assumption)
      | (rw [show isLetI (n:Int)=true by (simp only [decide_eq_true_eq,decide_eq_false_iff_not] at *;simp only [isLetI,Bool.or_eq_true,decide_eq_true_eq];omega)];done)
      | (rw [show isLetI (n:Int)=false by (simp only [decide_eq_true_eq,decide_eq_false_iff_not] at *;simp only [isLetI,Bool.or_eq_false_iff,decide_eq_false_iff_not];omega)];done)
      | (rw [show isLetI (n:Int)=decide ((n:Int)<=90) by (simp only [decide_eq_true_eq,decide_eq_false_iff_not] at *;simp only [isLetI];by_cases h90:(n:Int)<=90 <;> simp [h90] <;> omega)];done)
      | (refine hF ?_;simp_all [isDigU];done)
      | (refine hN ?_;simp_all [isDigU];done)
      | (refine hF ?_;simp_all [isDigU];omega)
      | (refine hN ?_;simp_all [isDigU];omega)
   · have hge:g=s.length:=by
      have:=congrArg List.length hnil
      rw [List.length_drop] at this
      simp only [List.length_nil] at this
      omega
     subst hge
     refine ⟨fun h=>by (cases h),fun _=>⟨fun h=>h,fun h=>h,fun h=>h,?_⟩⟩
     rw [sName,ha,Bool.true_and,show decide ((s.length:Int)<=24)=decide (s.length<=24) from decide_eq_decide.2 (by omega)]
     cases (!s == []) <;> rfl
 exact c_of Tryz.f122 (B122 s) (by kernel_rfl) (by kernel_rfl) (by kernel_rfl) (by kernel_rfl) key (by kernel_rfl)
def la148 (s:List UInt8):LA:={
 pre:=[.keep [0,3] [],.bound 1],post:=[.keep [0,3] [],.bound 1]
 Gh:=Nat
 st:=fun i=>⟨[(0,.str s),(3,.i i)],[],1⟩
 ok:=fun i=>i<=s.length∧allB s i=true
 ms:=fun i=>s.length-i }
def B148 (s:List UInt8):BA:={ mkB spP 148 [] (fun i=>if i.beq 0 then some (la148 s) else none) with
 split:=fun i=>if i.beq 1 then 0 else if i.beq 6 then 1 else if i.beq 7 then 1 else if i.beq 8 then 1 else 0
 gs:=fun i=>if i.beq 6 then [.keep [0,3,4] [],.bound 1] else if i.beq 7 then [.keep [0,3,4,5] [],.bound 1] else []
 cut:=fun i=>if i.beq 6 then some (cutA [0,3,4] [] 1 4 fun S=>onI (slotF S 3) fun n=>.bool (isLetI ((s.getD n.toNat 0).toNat:Int)))
  else if i.beq 7 then some (cutA [0,3,4,5] [] 1 5 fun S=>onI (slotF S 3) fun n=>.bool (isDigU ((s.getD n.toNat 0).toNat:Int))) else none }
abbrev zc148a (s:List UInt8) (g:Nat):=(↑(s.getD (g:Int).toNat (0:UInt8)).toNat:Int)
abbrev zc148b (s:List UInt8) (g:Nat):=[(0,AV.str s),(3,AV.i (g:Int)),(4,AV.bool (isLetI (zc148a s g)))]
abbrev zc148c (s:List UInt8) (g:Nat):=[(0,AV.str s),(3,AV.i (g:Int)),(4,AV.bool (isLetI (zc148a s g))),(5,AV.bool (isDigU (zc148a s g)))]
abbrev zc148d:=false=true->false=true
theorem c148 (s:List UInt8) (hs:s.length<=1000000):PCall Tryz.prog G0 148 [.str s] (.bool (sName s)):=by
 have key :
  ((!(↑s.length:Int) == 0)=true->(!(↑s.length:Int) == 0)=true)∧((!(↑s.length:Int) == 0)=true->(!(↑s.length:Int) == 0)=true)∧(((↑s.length:Int) == 0)=false->(!(↑s.length:Int) == 0)=true)∧((if
  ((↑s.length:Int) == 0)=true then true else decide ((↑s.length:Int) > 24))=true->AV.bool false=AV.bool (sName s))∧((if ((↑s.length:Int) == 0)=true then true else decide ((↑s.length:Int) > 24))=false->(∃ (g :
  Nat),(g<=s.length∧allB s g=true)∧AS.mk [(0,AV.str s),(3,AV.i 0)] [] 1=AS.mk [(0,AV.str s),(3,AV.i (g:Int))] [] 1)∧∀ (g:Nat),g<=s.length∧allB s g=true->(decide ((g:Int) < (↑s.length:Int))=true →
  ((decide ((zc148a s g)>=65)=true->(decide ((zc148a s g)<=90)=true->(0:Int)<=(g:Int)∧(g:Int) < (↑s.length:Int)∧(0:Int)<=(g:Int)∧(g:Int) < (↑s.length:Int)∧(true=false->false=true)∧AV.bool
  (decide ((zc148a s g)>=65))=AV.bool true∧AV.bool (decide ((zc148a s g)<=90))=AV.bool true∧AS.mk [(0,AV.str s),(3,AV.i (g:Int)),(4,AV.bool true)] [] 1=AS.mk (zc148b s g) [] 1)∧(decide ((zc148a s g)<=90) =
  false->(decide ((zc148a s g)>=97)=true->(0:Int)<=(g:Int)∧(g:Int) < (↑s.length:Int)∧(0:Int)<=(g:Int)∧(g:Int) < (↑s.length:Int)∧(0:Int)<=(g:Int)∧(g:Int) < (↑s.length:Int)∧(0:Int) ≤
  (g:Int)∧(g:Int) < (↑s.length:Int)∧AV.bool (decide ((zc148a s g)>=65))=AV.bool true∧AV.bool (decide ((zc148a s g)<=90))=AV.bool false∧AV.bool (decide ((zc148a s g)>=97))=AV.bool true∧AS.mk [(0,AV.str s),
  (3,AV.i (g:Int)),(4,AV.bool (decide ((zc148a s g)<=122)))] [] 1=AS.mk (zc148b s g) [] 1)∧(decide ((zc148a s g)>=97)=false->(0:Int)<=(g:Int)∧(g:Int) < (↑s.length:Int)∧(0:Int)<=(g:Int)∧(g:Int)
  < (↑s.length:Int)∧(0:Int)<=(g:Int)∧(g:Int) < (↑s.length:Int)∧zc148d∧AV.bool (decide ((zc148a s g)>=65))=AV.bool true∧AV.bool (decide ((zc148a s g)<=90))=AV.bool false∧AV.bool (decide ((zc148a s g) ≥
  97))=AV.bool false∧AS.mk [(0,AV.str s),(3,AV.i (g:Int)),(4,AV.bool false)] [] 1=AS.mk (zc148b s g) [] 1)))∧(decide ((zc148a s g)>=65)=false->(false=true->(0:Int)<=(g:Int)∧(g:Int) < (↑s.length :
  Int)∧zc148d∧(true=false->false=true)∧AV.bool (decide ((zc148a s g)>=65))=AV.bool false∧AV.bool false=AV.bool true∧AS.mk [(0,AV.str s),(3,AV.i (g:Int)),(4,AV.bool true)] [] 1=AS.mk (zc148b s g) [] 1) ∧
  (false=false->(decide ((zc148a s g)>=97)=true->(0:Int)<=(g:Int)∧(g:Int) < (↑s.length:Int)∧zc148d∧(0:Int)<=(g:Int)∧(g:Int) < (↑s.length:Int)∧(0:Int)<=(g:Int)∧(g:Int) < (↑s.length :
  Int)∧AV.bool (decide ((zc148a s g)>=65))=AV.bool false∧AV.bool false=AV.bool false∧AV.bool (decide ((zc148a s g)>=97))=AV.bool true∧AS.mk [(0,AV.str s),(3,AV.i (g:Int)),(4,AV.bool (decide ((zc148a s g) ≤
  122)))] [] 1=AS.mk (zc148b s g) [] 1)∧(decide ((zc148a s g)>=97)=false->(0:Int)<=(g:Int)∧(g:Int) < (↑s.length:Int)∧zc148d∧(0:Int)<=(g:Int)∧(g:Int) < (↑s.length:Int)∧zc148d∧AV.bool (decide
  ((zc148a s g)>=65))=AV.bool false∧AV.bool false=AV.bool false∧AV.bool (decide ((zc148a s g)>=97))=AV.bool false∧AS.mk [(0,AV.str s),(3,AV.i (g:Int)),(4,AV.bool false)] [] 1=AS.mk (zc148b s g) [] 1)))) ∧
  ((decide ((zc148a s g)>=48)=true->(decide ((zc148a s g)<=57)=true->(0:Int)<=(g:Int)∧(g:Int) < (↑s.length:Int)∧(0:Int)<=(g:Int)∧(g:Int) < (↑s.length:Int)∧(true=false->false=true)∧AV.bool
  (decide ((zc148a s g)>=48))=AV.bool true∧AV.bool (decide ((zc148a s g)<=57))=AV.bool true∧AS.mk [(0,AV.str s),(3,AV.i (g:Int)),(4,AV.bool (isLetI (zc148a s g))),(5,AV.bool true)] [] 1=AS.mk (zc148c s g) [] 1)
  ∧ (decide ((zc148a s g)<=57)=false->(0:Int)<=(g:Int)∧(g:Int) < (↑s.length:Int)∧(0:Int)<=(g:Int)∧(g:Int) < (↑s.length:Int)∧(0:Int)<=(g:Int)∧(g:Int) < (↑s.length:Int)∧AV.bool (decide
  ((zc148a s g)>=48))=AV.bool true∧AV.bool (decide ((zc148a s g)<=57))=AV.bool false∧AS.mk [(0,AV.str s),(3,AV.i (g:Int)),(4,AV.bool (isLetI (zc148a s g))),(5,AV.bool ((zc148a s g) == 95))] [] 1=AS.mk (zc148c s
  g) [] 1))∧(decide ((zc148a s g)>=48)=false->(false=true->(0:Int)<=(g:Int)∧(g:Int) < (↑s.length:Int)∧zc148d∧(true=false->false=true)∧AV.bool (decide ((zc148a s g)>=48))=AV.bool false∧AV.bool
  false=AV.bool true∧AS.mk [(0,AV.str s),(3,AV.i (g:Int)),(4,AV.bool (isLetI (zc148a s g))),(5,AV.bool true)] [] 1=AS.mk (zc148c s g) [] 1)∧(false=false->(0:Int)<=(g:Int)∧(g:Int) < (↑s.length:Int) ∧
  zc148d∧(0:Int)<=(g:Int)∧(g:Int) < (↑s.length:Int)∧AV.bool (decide ((zc148a s g)>=48))=AV.bool false∧AV.bool false=AV.bool false∧AS.mk [(0,AV.str s),(3,AV.i (g:Int)),(4,AV.bool (isLetI (zc148a s
  g))),(5,AV.bool ((zc148a s g) == 95))] [] 1=AS.mk (zc148c s g) [] 1)))∧((!isLetI (zc148a s g))=true->(((g:Int) == 0)=true->(true=false->false=true)∧(AV.bool !isLetI (zc148a s g))=AV.bool true∧AV.bool ((↑g
  : Int) == 0)=AV.bool true∧(true=true->AV.bool false=AV.bool (sName s))∧(true=false->In64 ((g:Int)+1)∧∃ (g':Nat),(g'<=s.length∧allB s g'=true)∧s.length-g' < s.length-g∧AS.mk [(0,AV.str s),(3,
  AV.i ((g:Int)+1))] [] 1=AS.mk [(0,AV.str s),(3,AV.i (↑g':Int))] [] 1))∧(((g:Int) == 0)=false->(AV.bool !isLetI (zc148a s g))=AV.bool true∧AV.bool ((g:Int) == 0)=AV.bool false∧((!isDigU (zc148a s g)) =
  true->AV.bool false=AV.bool (sName s))∧((!isDigU (zc148a s g))=false->In64 ((g:Int)+1)∧∃ (g':Nat),(g'<=s.length∧allB s g'=true)∧s.length-g' < s.length-g∧AS.mk [(0,AV.str s),(3,AV.i ((g:Int) +
  1))] [] 1=AS.mk [(0,AV.str s),(3,AV.i (↑g':Int))] [] 1)))∧((!isLetI (zc148a s g))=false->zc148d∧(AV.bool !isLetI (zc148a s g))=AV.bool false∧(false=true->AV.bool false=AV.bool (sName s))∧(false=false →
  In64 ((g:Int)+1)∧∃ (g':Nat),(g'<=s.length∧allB s g'=true)∧s.length-g' < s.length-g∧AS.mk [(0,AV.str s),(3,AV.i ((g:Int)+1))] [] 1=AS.mk [(0,AV.str s),(3,AV.i (↑g':Int))] [] 1)))∧(decide ((↑g
  : Int) < (↑s.length:Int))=false->AV.bool true=AV.bool (sName s))):=by
   delta zc148a zc148b zc148c zc148d
   have hs0:(s.length == 0)=(s == []):=by cases s <;> rfl
   refine ⟨fun h=>h,fun h=>h,fun h=>by rw [h];rfl,fun h=>?_,fun h=>⟨⟨0,⟨by omega,rfl⟩,rfl⟩,fun g ⟨hg,ha⟩=>⟨fun hd=>?_,fun hd=>?_⟩⟩⟩
   · have:(!(s == []) && decide (s.length<=24))=false:=by
      rw [<- hs0]
      by_cases h0:s.length=0
      · simp [h0]
      · rw [beq_eq_false_iff_ne.2 (show (s.length:Int) ≠ 0 by omega)] at h
        simp at h
        simp only [Bool.and_eq_false_iff,decide_eq_false_iff_not]
        omega
     rw [sName,this,Bool.and_false]
   · have hlt:=lt_of_dec hd
     have hz:((g:Int) == 0)=(g == 0):=by
      by_cases h:g=0
      · simp [h]
      · rw [beq_eq_false_iff_ne.2 h,beq_eq_false_iff_ne.2 (by omega)]
     obtain ⟨n,hx⟩:∃ n,(s.getD g 0).toNat=n:=⟨_,rfl⟩
     rw [show (s.getD ((g:Int)).toNat 0).toNat=n from hx]
     have hF:okB (g == 0) (s.getD g 0).toNat=false->AV.bool false=AV.bool (sName s):=fun h=>by
      rw [all_fail hlt h]
     have hN:okB (g == 0) (s.getD g 0).toNat=true->In64 ((g:Int)+1)∧∃ (g':Nat),(g'<=s.length∧allB s g'=true)∧s.length-g' < s.length-g ∧
      AS.mk [(0,AV.str s),(3,AV.i ((g:Int)+1))] [] 1=AS.mk [(0,AV.str s),(3,AV.i g')] [] 1:=fun h =>
      ⟨by unfold In64;omega,g+1,⟨hlt,all_next ha h⟩,by omega,rfl⟩
     rw [okB_I] at hF hN
     have h1:(0:Int)<=g:=by omega
     have h2:(g:Int) < s.length:=by omega
     rw [hx] at hF hN
     rw [hz]
     generalize sName s=sn at hF ⊢
     clear hx ha
     repeat' (first | apply And.intro | intro _)
     all_goals try first
      | omega
      | contradiction
      | rfl
      | assumption
      | exact congrArg AV.bool (by assumption)
      | (rw [show isLetI (n:Int)=true by (simp only [decide_eq_true_eq,decide_eq_false_iff_not] at *;simp only [isLetI,Bool.or_eq_true,decide_eq_true_eq];omega)];done)
      | (rw [show isLetI (n:Int)=false by (simp only [decide_eq_true_eq,decide_eq_false_iff_not] at *;simp only [isLetI,Bool.or_eq_false_iff,decide_eq_false_iff_not];omega)];done)
      | (rw [show isLetI (n:Int)=decide ((n:Int)<=122) by (simp only [decide_eq_true_eq,decide_eq_false_iff_not] at *;simp only [isLetI];by_cases h90:(n:Int)<=122 <;> simp [h90] <;> omega)];done)
      | (rw [show isDigU (n:Int)=true by (simp only [decide_eq_true_eq,decide_eq_false_iff_not] at *;simp only [isDigU,Bool.or_eq_true,decide_eq_true_eq];omega)];done)
      | (rw [show isDigU (n:Int)=((n:Int) == 95) by (simp only [decide_eq_true_eq,decide_eq_false_iff_not] at *;unfold isDigU;rw [decide_eq_false (show ¬ (48<=(n:Int)∧(n:Int)<=57) by omega),Bool.false_or];rfl)];done)
      | (refine hF ?_;(clear hF hN;generalize isLetI (n:Int)=p at *;generalize isDigU (n:Int)=q at *;generalize (g == 0)=z at *;cases p <;> cases q <;> cases z <;> first | rfl | (exfalso;simp at *;done));done)
      | (refine (hN ?_).1;(clear hF hN;generalize isLetI (n:Int)=p at *;generalize isDigU (n:Int)=q at *;generalize (g == 0)=z at *;cases p <;> cases q <;> cases z <;> first | rfl | (exfalso;simp at *;done));done)
      | (refine (hN ?_).2;(clear hF hN;generalize isLetI (n:Int)=p at *;generalize isDigU (n:Int)=q at *;generalize (g == 0)=z at *;cases p <;> cases q <;> cases z <;> first | rfl | (exfalso;simp at *;done));done)
   · have hge:=ge_of_dec hd hg
     subst hge
     have h2:(!(s == []) && decide (s.length<=24))=true:=by
      rw [<- hs0]
      by_cases h0:s.length=0
      · simp [h0] at h
      · rw [beq_eq_false_iff_ne.2 (show (s.length:Int) ≠ 0 by omega)] at h
        simp at h
        simp only [Bool.and_eq_true,decide_eq_true_eq,Bool.not_eq_true',beq_eq_false_iff_ne]
        omega
     rw [sName,ha,h2]
     rfl
 exact c_of Tryz.f148 (B148 s) (by kernel_rfl) (by kernel_rfl) (by kernel_rfl) (by kernel_rfl) key (by kernel_rfl)
def spQ:Nat->List AV->Option AV
 | 148,[.str s]=>some (.bool (sName s))
 | 122,[.str s]=>some (.bool (sName s))
 | n,x=>spP n x
theorem c106 (s:List UInt8) (hs:s.length<=1000000):PCall Tryz.prog G0 106 [.str s] (.i (sWhen (!sName s) 8)):=by
 have key :
  PCall Tryz.prog G0 148 [AV.str s] (AV.bool (sName s))∧PCall Tryz.prog G0 94 [AV.bool !sName s,AV.i 8] (AV.i (sWhen (!sName s) (8:Int)))∧AV.i (sWhen (!sName s) (8:Int))=AV.i (sWhen (!sName s) (8:Int)):=by
   exact ⟨c148 s hs,c94 _ _,rfl⟩
 exact c_of Tryz.f106 (mkB spQ 106 [] noLa) (by kernel_rfl) (by kernel_rfl) (by kernel_rfl) (by kernel_rfl) key (by kernel_rfl)
end Go.Proofs.YtjhjmncjidbieaaGreatDoor
