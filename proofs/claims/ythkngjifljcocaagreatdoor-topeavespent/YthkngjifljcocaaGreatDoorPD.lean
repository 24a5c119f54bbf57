/-
  What the small functions of chapter 7 return. What chapter 7's functions of a span of the day return, and of rules. What chapter 7's checks of rules return. What chapter 7's functions of movements return. No condition but the theorems' own.
-/
import Derived.Test.YthkngjifljcocaaGreatDoorPC
import Derived.Test.YthkngjifljcocaaGreatDoorAvD
namespace Go.Proofs.YthkngjifljcocaaGreatDoor.N7
open Go Go.Av Go.RowKit
def sWhen(b:Bool)(e:Int):Int:=if b then e else 0
def sFirst:List Int->Int
 | []=>0
 | x::l=>if x ≠ 0 then x else sFirst l
def Ja(x lo hi:Int):Int:=sWhen (if decide (x < lo)then true else decide (x > hi)) 3
def hdI(l:List AV):Int:=match l with
 | [.int _ n]=>n
 | _=>0
def QX(l:List Int):List (List AV):=l.map fun x=>[.i x]
def spA:Nat->List AV->Option AV
 | 28,[.bool b,.int _ e]=>some (.i (sWhen b e))
 | 53,[.bool b,.int _ e]=>some (.i (sWhen b e))
 | 27,[.sl _ rows]=>some (.i (sFirst (rows.map hdI)))
 | 51,[.sl _ rows]=>some (.i (sFirst (rows.map hdI)))
 | 64,[.int _ x,.int _ lo,.int _ hi]=>some (.i (Ja x lo hi))
 | 58,[.int _ x,.int _ lo,.int _ hi]=>some (.i (Ja x lo hi))
 | n,x=>spI n x
theorem Qa(es:List Int):(QX es).length=es.length:=by simp[QX]
theorem VT{es:List Int}{i:Nat}(h:i < es.length):Ji (QX es) i=[.i (es.getD i 0)]:=by
 simp[Ji,QX,List.getD_eq_getElem?_getD,h]
theorem QC(es:List Int):∀ (i:Nat),(∀ k,k < i->es.getD k 0=0)->i<=es.length->sFirst es=sFirst (es.drop i):=by
 intro i
 induction i with
 | zero=>intros;rfl
 | succ i ih =>
  intro h hl
  rw[ih (fun k hk=>h k (by omega)) (by omega)]
  have:=h i (by omega)
  rw[List.drop_eq_getElem_cons (show i < es.length by omega)]
  rw[Ka,Kj (show i < es.length by omega)]at this
  simp at this
  simp[sFirst,this]
theorem Q9{es:List Int}{i:Nat}(h:i < es.length)(h0:∀ k,k < i->es.getD k 0=0)(hne:es.getD i 0 ≠ 0):sFirst es=es.getD i 0:=by
 rw[QC es i h0 (by omega),List.drop_eq_getElem_cons h]
 simp[List.getD_eq_getElem?_getD,h]at hne
 simp[sFirst,hne,List.getD_eq_getElem?_getD,h]
theorem Vh{es:List Int}(h0:∀ k,k < es.length->es.getD k 0=0):sFirst es=0:=by
 rw[QC es es.length h0 (Kr _)]
 simp[sFirst]
theorem c28(b:Bool)(e:Int) :P0 28 [.bool b,.i e] (.i (sWhen b e)):=by
 have key :
  (b=true->AV.i e=AV.i (sWhen b e))/\(b=false->AV.i 0=AV.i (sWhen b e)):=by
   exact⟨fun h=>by simp[sWhen,h],fun h=>by simp[sWhen,h]⟩
 exact Jw Tryz.f28 (mkB spA 28 [] J1) key (by kernel_rfl)
theorem c53(b:Bool)(e:Int) :P0 53 [.bool b,.i e] (.i (sWhen b e)):=by
 have key :
  (b=true->AV.i e=AV.i (sWhen b e))/\(b=false->AV.i 0=AV.i (sWhen b e)):=by
   exact⟨fun h=>by simp[sWhen,h],fun h=>by simp[sWhen,h]⟩
 exact Jw Tryz.f53 (mkB spA 53 [] J1) key (by kernel_rfl)
theorem c64(x lo hi:Int) :P0 64 [.i x,.i lo,.i hi] (.i (Ja x lo hi)):=by
 have key :
  ((!decide (x < lo))=true->(!decide (x < lo))=true)/\((!decide (x < lo))=true->(!decide (x < lo))=true)/\(decide (x < lo)=false->(!decide (x < lo))=true)/\P0 28 [AV.bool (if decide (x < lo)=true
  then true else decide (x > hi)),AV.i 3] (AV.i (sWhen (if decide (x < lo)=true then true else decide (x > hi)) (3:Int)))/\AV.i (sWhen (if decide (x < lo)=true then true else decide (x > hi)) (3:Int))=AV.i (Ja x lo
  hi):=by
   exact⟨fun h=>h,fun h=>h,fun h=>by simp[h],c28 _ _,rfl⟩
 exact Jw Tryz.f64 (mkB spA 64 [] J1) key (by kernel_rfl)
theorem c58(x lo hi:Int) :P0 58 [.i x,.i lo,.i hi] (.i (Ja x lo hi)):=by
 have key :
  ((!decide (x < lo))=true->(!decide (x < lo))=true)/\((!decide (x < lo))=true->(!decide (x < lo))=true)/\(decide (x < lo)=false->(!decide (x < lo))=true)/\P0 53 [AV.bool (if decide (x < lo)=true
  then true else decide (x > hi)),AV.i 3] (AV.i (sWhen (if decide (x < lo)=true then true else decide (x > hi)) (3:Int)))/\AV.i (sWhen (if decide (x < lo)=true then true else decide (x > hi)) (3:Int))=AV.i (Ja x lo
  hi):=by
   exact⟨fun h=>h,fun h=>h,fun h=>by simp[h],c53 _ _,rfl⟩
 exact Jw Tryz.f58 (mkB spA 58 [] J1) key (by kernel_rfl)
def la87(es:List Int):LA:={
 pre:=[.keep [0,5,6,7] [],.bound 1],post:=[.keep [0,5,6,7] [],.bound 1]
 Gh:=Nat
 st:=fun i=>⟨[(0,.sl 1 (QX es)),(5,.sl 1 (QX es)),(6,.i es.length),(7,.i i)],[],1⟩
 ok:=fun i=>i<=es.length/\∀ k,k < i->es.getD k 0=0
 ms:=fun i=>es.length-i }
def la24(es:List Int):LA:={
 pre:=[.keep [0,3] [],.bound 1],post:=[.keep [0,3] [],.bound 1]
 Gh:=Nat
 st:=fun i=>⟨[(0,.sl 1 (QX es)),(3,.i i)],[],1⟩
 ok:=fun i=>i<=es.length/\∀ k,k < i->es.getD k 0=0
 ms:=fun i=>es.length-i }
def rdI(es:List Int):List AV->Option AV
 | [.elt _ _ i _]=>some (.i (es.getD i 0))
 | _=>none
abbrev Z36a(g:Nat)(es:List Int):=(g<=es.length/\∀ (k:Nat),k < g->es.getD k (0:Int)=(0:Int))
theorem c27(es:List Int)(hl:es.length<=1000000):P0 27 [.sl 1 (QX es)] (.i (sFirst es)):=by
 have key :
  (∃ (g:Nat),(Z36a g es)/\AS.mk [(0,AV.sl 1 (QX es)),(5,AV.sl 1 (QX es)),(6,AV.i ((QX es).length:Int)),(7,AV.i 0)] [] 1=AS.mk [(0,AV.sl 1 (QX es)),(5,AV.sl 1 (QX es)),(6,AV.i (es.length:Int)),(7,
  AV.i (g:Int))] [] 1)/\∀ (g:Nat),(Z36a g es)->(decide ((g:Int) < (es.length:Int))=true->(0:Int)<=(g:Int)/\(g:Int) < ((QX es).length:Int)/\nth (Ji (QX es) (g:Int).toNat) 0=AV.i (es.getD (↑g :
  Int).toNat (0:Int))/\((es.getD (g:Int).toNat (0:Int) != 0)=true->AV.i (es.getD (g:Int).toNat (0:Int))=AV.i (sFirst es))/\((es.getD (g:Int).toNat (0:Int) != 0)=false->Jc ((g:Int)+1)/\∃ (g':Nat),
  (g'<=es.length/\∀ (k:Nat),k < g'->es.getD k (0:Int)=(0:Int))/\es.length-g' < es.length-g/\AS.mk [(0,AV.sl 1 (QX es)),(5,AV.sl 1 (QX es)),(6,AV.i (es.length:Int)),(7,AV.i ((g:Int)+1))] [] 1 =
  AS.mk [(0,AV.sl 1 (QX es)),(5,AV.sl 1 (QX es)),(6,AV.i (es.length:Int)),(7,AV.i (g':Int))] [] 1))/\(decide ((g:Int) < (es.length:Int))=false->AV.i 0=AV.i (sFirst es)):=by
   delta Z36a
   refine⟨⟨0,⟨by omega,by intros;omega⟩,by simp[Qa]⟩,fun g ⟨h1,h2⟩=>⟨fun hd=>?_,fun hd=>?_⟩⟩
   . have hlt:g < es.length:=by simpa using hd
     refine⟨by omega,by rw[Qa];omega,by simp[VT hlt,nth],fun hne=>?_,fun hz=>⟨?_,g+1,⟨hlt,fun k hk=>?_⟩,by omega,rfl⟩⟩
     . rw[Q9 hlt h2 (by simpa using hne)];rfl
     . unfold Jc;omega
     by_cases e:k=g
     . subst e;simpa using hz
     exact h2 k (by omega)
   have hge:g=es.length:=by simp at hd;omega
   rw[Vh (hge ▸ h2)]
 exact Jw Tryz.f27 (mkB spA 27 [(3,1,rdI es)] (fun i=>if i.beq 0 then some (la87 es)else none)) key (by kernel_rfl)
abbrev Z37a(g:Nat)(es:List Int):=(g<=es.length/\∀ (k:Nat),k < g->es.getD k (0:Int)=(0:Int))
theorem c51(es:List Int)(hl:es.length<=1000000):P0 51 [.sl 1 (QX es)] (.i (sFirst es)):=by
 have key :
  (∃ (g:Nat),(Z37a g es)/\AS.mk [(0,AV.sl 1 (QX es)),(3,AV.i 0)] [] 1=AS.mk [(0,AV.sl 1 (QX es)),(3,AV.i (g:Int))] [] 1)/\∀ (g:Nat),(Z37a g es)->(decide ((g:Int) < ((QX es).length:Int))=true->(0 :
  Int)<=(g:Int)/\(g:Int) < ((QX es).length:Int)/\nth (Ji (QX es) (g:Int).toNat) 0=AV.i (es.getD (g:Int).toNat (0:Int))/\((es.getD (g:Int).toNat (0:Int) != 0)=true->(0:Int)<=(g:Int)/\(↑g :
  Int) < ((QX es).length:Int)/\nth (Ji (QX es) (g:Int).toNat) 0=AV.i (es.getD (g:Int).toNat (0:Int))/\AV.i (es.getD (g:Int).toNat (0:Int))=AV.i (sFirst es))/\((es.getD (g:Int).toNat (0:Int) != 0) =
  false->Jc ((g:Int)+1)/\∃ (g':Nat),(g'<=es.length/\∀ (k:Nat),k < g'->es.getD k (0:Int)=(0:Int))/\es.length-g' < es.length-g/\AS.mk [(0,AV.sl 1 (QX es)),(3,AV.i ((g:Int)+1))] [] 1=AS.mk [(0,
  AV.sl 1 (QX es)),(3,AV.i (g':Int))] [] 1))/\(decide ((g:Int) < ((QX es).length:Int))=false->AV.i 0=AV.i (sFirst es)):=by
   delta Z37a
   refine⟨⟨0,⟨by omega,by intros;omega⟩,by simp⟩,fun g ⟨h1,h2⟩=>⟨fun hd=>?_,fun hd=>?_⟩⟩
   . have hlt:g < es.length:=by simpa[Qa]using hd
     refine⟨by omega,by rw[Qa];omega,by simp[VT hlt,nth],fun hne=>?_,fun hz=>⟨?_,g+1,⟨hlt,fun k hk=>?_⟩,by omega,rfl⟩⟩
     . refine⟨by omega,by rw[Qa];omega,by simp[VT hlt,nth],?_⟩
       rw[Q9 hlt h2 (by simpa using hne)];rfl
     . unfold Jc;omega
     by_cases e:k=g
     . subst e;simpa using hz
     exact h2 k (by omega)
   have hge:g=es.length:=by simp[Qa]at hd;omega
   rw[Vh (hge ▸ h2)]
 exact Jw Tryz.f51 (mkB spA 51 [(4,3,rdI es),(5,3,rdI es)] (fun i=>if i.beq 0 then some (la24 es)else none)) key (by kernel_rfl)
def rdL{α:Type}[Inhabited α](k:Nat)(enc:α->List AV)(l:List α)(size:Nat)(agg:Bool):List AV->Option AV
 | [.elt k' _ i j]=>if k'.beq k then some (if agg then .agg (((enc (l.getD i default)).drop j).take size)else nth (enc (l.getD i default)) j)else none
 | _=>none
def WT:List (List AV->Option AV)->List AV->Option AV
 | [],_=>none
 | f::fs,x=>match f x with
  | some v=>some v
  | none=>WT fs x
theorem Jl{α:Type}[Inhabited α](enc:α->List AV){l:List α}{i:Nat}(h:i < l.length):Ji (l.map enc) i=enc (l.getD i default):=by
 simp[Ji,List.getD_eq_getElem?_getD,h]
def JC(f:Nat->Int)(n:Nat)(fin:Int):Int:=sFirst ((List.range n).map f++[fin])
theorem J4{f:Nat->Int}{n i:Nat}{fin:Int}(h:i < n)(h0:∀ k,k < i->f k=0)(hne:f i ≠ 0):JC f n fin=f i:=by
 have e:∀ k,k < n->((List.range n).map f++[fin]).getD k 0=f k:=fun k hk=>by
  simp[List.getD_eq_getElem?_getD,List.getElem?_append,hk]
 rw[JC,Q9 (i:=i) (by simp;omega) (fun k hk=>by rw[e k (by omega)];exact h0 k hk) (by rw[e i h];exact hne),e i h]
theorem scan_end{f:Nat->Int}{n:Nat}{fin:Int}(h0:∀ k,k < n->f k=0):JC f n fin=fin:=by
 have e:∀ k,k < n->((List.range n).map f++[fin]).getD k 0=f k:=fun k hk=>by
  simp[List.getD_eq_getElem?_getD,List.getElem?_append,hk]
 rw[JC,QC _ n (fun k hk=>by rw[e k hk];exact h0 k hk) (by simp),List.drop_left' (by simp)]
 simp[sFirst]
 intro h;exact h.symm
theorem Uv{a:Int}(h:(a != 0)=true):a ≠ 0:=by simpa using h
theorem QE{a:Int}(h:(a != 0)=false):a=0:=by simpa using h
def sLS(c:Int)(f:Nat->Int)(n:Nat)(fin:Int):Int:=if c != 0 then c else JC f n fin
theorem QY{c:Int}{f:Nat->Int}{n:Nat}{fin:Int}(h:(c != 0)=true):sLS c f n fin=c:=by rw[sLS,if_pos h]
theorem VL{c:Int}{f:Nat->Int}{n i:Nat}{fin:Int}(h:(c != 0)=false)(hi:decide ((i:Int) < (n:Int))=true)(h0:∀ k,k < i->f k=0)(hne:(f i != 0)=true):sLS c f n fin=f i:=by
 rw[sLS,if_neg (by rw[h];decide),J4 (by simpa using hi) h0 (Uv hne)]
theorem Ul{c:Int}{f:Nat->Int}{n i:Nat}{fin:Int}(h:(c != 0)=false)(hi:decide ((i:Int) < (n:Int))=false)(hle:i<=n)(h0:∀ k,k < i->f k=0):sLS c f n fin=fin:=by
 have:i=n:=by simp at hi;omega
 subst this
 rw[sLS,if_neg (by rw[h];decide),scan_end h0]
theorem Xn{f:Nat->Int}{g:Nat}(h:∀ k,k < g->f k=0)(h2:(f g != 0)=false):∀ k,k < g+1->f k=0:=fun k hk=>by
 by_cases e:k=g
 . rw[e];exact QE h2
 exact h k (by omega)
theorem Jt{i n:Nat}(hi:decide ((i:Int) < (n:Int))=false)(hle:i<=n):i=n:=by simp at hi;omega
theorem Jm{i n:Nat}(hi:decide ((i:Int) < (n:Int))=true):i < n:=by simpa using hi
theorem Xd{a b:Int}(h:a=b):AV.int .i64 b=.int .i64 a:=by rw[h]
theorem within_zero{x lo hi:Int}:Ja x lo hi=0 ↔ lo<=x/\x<=hi:=by
 unfold Ja sWhen
 by_cases h1:x < lo
 . simp[h1];omega
 by_cases h2:x > hi
 . simp[h1,h2] <;> omega
 simp[h1,h2] <;> omega
theorem first_zero{x:Int}{l:List Int}:sFirst (x::l)=0 ↔ x=0/\sFirst l=0:=by
 by_cases h:x=0
 . simp[sFirst,h]
 simp[sFirst,h]
theorem QG{α:Type}[Inhabited α](enc:α->List AV){l:List α}{g:Nat}(h:g < l.length):(l.take g).map enc++[enc (l.getD g default)]=(l.take (g+1)).map enc:=by
 rw[List.take_add_one,K8]
 simp[List.getD_eq_getElem?_getD,h]
theorem JdZ{c:Int}{f:Nat->Int}{n:Nat}(h:sLS c f n 0=0):c=0/\∀ k,k < n->f k=0:=by
 unfold sLS at h
 split at h
 . rename_i hc;rw[h]at hc;simp at hc
 rename_i hc
 refine⟨by simpa using hc,fun k=>?_⟩
 induction k using Nat.strongRecOn with
 | _ k ih =>
  intro hk
  by_cases e:f k=0
  . exact e
  rw[J4 hk (fun j hj=>ih j hj (by omega)) e]at h
  exact absurd h e
theorem when_zero{b:Bool}{e:Int}(he:e ≠ 0):sWhen b e=0 ↔ b=false:=by
 cases b <;> simp[sWhen,he]
theorem JL{f:Nat->Int}{n:Nat}{fin:Int}(h:JC f n fin=0):(∀ k,k < n->f k=0)/\fin=0:=by
 have h1:∀ l:List Int,sFirst (l++[fin])=0->(∀ x,x ∈ l->x=0)/\fin=0:=by
  intro l
  induction l with
  | nil=>intro h;rw[List.nil_append,first_zero]at h;exact⟨by simp,h.1⟩
  | cons x l ih =>
   intro h
   rw[List.cons_append,first_zero]at h
   obtain⟨h2,h3⟩:=h
   have:=ih h3
   exact⟨fun y hy=>by rcases List.mem_cons.1 hy with e | e;(· rw[e];exact h2);(· exact this.1 y e),this.2⟩
 have:=h1 _ h
 exact⟨fun k hk=>this.1 _ (List.mem_map.2 ⟨k,List.mem_range.2 hk,rfl⟩),this.2⟩
theorem Qp{b:Bool}{e:Int}(he:e ≠ 0)(h:sWhen b e=0):b=false:=by
 cases b
 . rfl
 exact absurd h (by simpa[sWhen]using he)
theorem Qq{f g:Nat->Int}{n:Nat}{fin:Int}(h:∀ k,k < n->f k=g k):JC f n fin=JC g n fin:=by
 unfold JC
 rw[List.map_congr_left (fun k hk=>h k (List.mem_range.1 hk))]
def Jh(x:Int):List AV:=[.i x]
def JjT(f:An->An):Nat->List An->List An
 | 0,[]=>[f {}]
 | 0,a::l=>f a::l
 | n+1,[]=>{}::JjT f n []
 | n+1,a::l=>a::JjT f n l
def Jcl(r k:Nat)(B:BA):BA:={ B with ra:=fun i=>if i.beq r then { B.ra i with ans:=JjT (fun a=>{ a with nw:=false }) k (B.ra i).ans }else B.ra i }
def sumW(l:List Int):Nat->Int
 | 0=>0
 | i+1=>IntKind.i64.wrap (sumW l i+l.getD i default)
theorem Jx{α β:Type}[Inhabited α](enc:β->List AV)(f:α->β){l:List α}{g:Nat}(h:g < l.length):((l.take g).map f).map enc++[enc (f (l.getD g default))]=((l.take (g+1)).map f).map enc:=by
 rw[List.take_add_one,K8,K8]
 simp[List.getD_eq_getElem?_getD,h]
theorem Q4:∀ (l:List Int),sFirst (l++[0])=sFirst l
 | []=>by simp[sFirst]
 | x::l=>by
  rw[List.cons_append]
  simp only[sFirst]
  rw[Q4 l]
theorem WP(f:Int->Int)(l:List Int):JC (fun i=>f (l.getD i default)) l.length 0=sFirst (l.map f):=by
 unfold JC
 rw[Q4]
 congr 1
 refine List.ext_getElem (by simp) fun i h1 h2=>?_
 simp only[List.getElem_map,List.getElem_range]
 rw[Ka,Kj (by simpa using h1)]
 rfl
theorem Jag{c:UInt8}(r:List UInt8)(h:c.toNat < 128):dec (c::r)=(c.toNat,1):=by
 unfold dec Utf8.decode
 have:(({ data:=(c::r).toArray }:ByteArray).get! (0+0)).toNat=c.toNat:=rfl
 simp only[this]
 rw[if_pos (by simpa using h)]
theorem Jef{c:UInt8}(r:List UInt8)(h:¬ c.toNat < 128):128<=(dec (c::r)).1:=by
 unfold dec Utf8.decode
 have:(({ data:=(c::r).toArray }:ByteArray).get! (0+0)).toNat=c.toNat:=rfl
 simp only[this]
 rw[if_neg (by simpa using h)]
 repeat' split
 all_goals first
  | (simp only[Kd,Ko]at *;omega)
  | omega
  | (show 128<=Utf8.runeError;decide)
def Jd3(c:Nat):Bool:=decide (97<=c/\c<=122) || decide (65<=c/\c<=90)
def okB(first:Bool)(c:Nat):Bool:=Jd3 c || (!first && (decide (c=95) || decide (48<=c/\c<=57)))
def XT(s:List UInt8)(n:Nat):Bool:=(List.range n).all fun i=>okB (i == 0) (s.getD i 0).toNat
def sName(s:List UInt8):Bool:=XT s s.length && (!(s == []) && decide (s.length<=24))
def JgD(ts ids:List Nat)(n t:Nat)(f:AS->AV):AS->AS:=fun S=>⟨VE ((t,f S)::Vu t S.s) ts,VE S.b ids,n⟩
def onI(x:Option AV)(f:Int->AV):AV:=match x with
 | some (.int _ n)=>f n
 | _=>.any
def Jq(n:Int):Bool:=decide (97<=n/\n<=122) || decide (65<=n/\n<=90)
def Jz(n:Int):Bool:=decide (48<=n/\n<=57) || decide (n=95)
theorem Ux{s:List UInt8}{g:Nat}(h:g < s.length)(hf:okB (g == 0) (s.getD g 0).toNat=false):sName s=false:=by
 have:XT s s.length=false:=List.all_eq_false.2 ⟨g,by simpa using h,by rw[hf];decide⟩
 rw[sName,this]
 rfl
theorem Uw{s:List UInt8}{g:Nat}(ha:XT s g=true)(hf:okB (g == 0) (s.getD g 0).toNat=true):XT s (g+1)=true:=by
 unfold XT at ha ⊢
 rw[List.range_succ,List.all_append,ha]
 simp only[List.all_cons,List.all_nil,hf,Bool.and_self]
theorem JdR(b:Bool)(c:Nat):okB b c=(Jq (c:Int) || (!b && Jz (c:Int))):=by
 have e1:Jd3 c=Jq (c:Int):=by
  unfold Jd3 Jq
  congr 1 <;> (apply decide_eq_decide.2;omega)
 have e2:(decide (c=95) || decide (48<=c/\c<=57))=Jz (c:Int):=by
  unfold Jz
  rw[Bool.or_comm]
  congr 1 <;> (apply decide_eq_decide.2;omega)
 rw[okB,e1,e2]
theorem WX(b:Bool){c:Nat}(h:128<=c):okB b c=false:=by
 rw[JdR]
 have e1:Jq (c:Int)=false:=by
  simp only[Jq,Bool.or_eq_false_iff,decide_eq_false_iff_not]
  omega
 have e2:Jz (c:Int)=false:=by
  simp only[Jz,Bool.or_eq_false_iff,decide_eq_false_iff_not]
  omega
 rw[e1,e2]
 simp
theorem Jiy(b:Bool)(c:UInt8)(r:List UInt8):okB b (dec (c::r)).1=okB b c.toNat/\(okB b c.toNat=true->(dec (c::r)).2=1):=by
 by_cases h:c.toNat < 128
 . rw[Jag r h]
   exact⟨rfl,fun _=>rfl⟩
 have h1:=WX b (Jef r h)
 have h2:=WX b (show 128<=c.toNat by omega)
 rw[h1,h2]
 exact⟨rfl,fun h=>by cases h⟩
def spP:Nat->List AV->Option AV:=spA
def la147(s:List UInt8):LA:={
 pre:=[.keep [0,7] [3],.bound 4],post:=[.keep [0,7] [3],.bound 4]
 Gh:=Nat
 st:=fun i=>⟨[(0,.str s),(7,.ref 3)],[(3,.iter (s.drop i) i)],4⟩
 ok:=fun i=>i<=s.length/\XT s i=true
 ms:=fun i=>s.length-i
 it:=some 3 }
def B147(s:List UInt8):BA:={ mkB spP 88 [] (fun i=>if i.beq 0 then some (la147 s)else none)with
 split:=fun i=>if i.beq 4 then 1 else if i.beq 5 then 1 else 0
 gs:=fun i=>if i.beq 4 then[.keep [0,3,4,5,7] [3],.bound 4]else if i.beq 5 then[.keep [0,3,4,5,7,43] [3],.bound 4]else[]
 cut:=fun i=>if i.beq 4 then some (JgD [0,3,4,5,7] [3] 4 5 fun S=>onI (Ju S 4) fun n=>.bool (Jq n))else none }
abbrev Jdm(c:UInt8)(r:List UInt8)(g:Nat):=[(3,ABlk.iter (List.drop (dec (c::r)).snd (c::r)) (g+(dec (c::r)).snd))]
abbrev X5(c:UInt8)(r:List UInt8):=(↑(dec (c::r)).fst:Int)
abbrev Jo4(s:List UInt8)(g:Nat)(c:UInt8)(r:List UInt8):=[(0,AV.str s),(3,AV.i (g:Int)),(4,AV.int IntKind.i32 (X5 c r)),(5,AV.bool (Jq (X5 c r))),(7,AV.ref 3)]
abbrev Jlk(s:List UInt8):=[(0,AV.str s),(7,AV.ref 3)]
abbrev Jmz:=false=true->false=true
abbrev Jo3(s:List UInt8):=(!s == [])=true->(!s == [])=true
abbrev Z38g(s:List UInt8)(g:Nat)(c:UInt8)(r:List UInt8):=(false=false->∃ (g':Nat),(g'<=s.length/\XT s g'=true)/\s.length-g' < s.length-g/\AS.mk (Jlk s) (Jdm c r g) 4=AS.mk (Jlk s) [(3,ABlk.iter (List.drop g' s) g')] 4)
abbrev Z38h(s:List UInt8)(g:Nat)(c:UInt8)(r:List UInt8):=(true=false->∃ (g':Nat),(g'<=s.length/\XT s g'=true)/\s.length-g' < s.length-g/\AS.mk (Jlk s) (Jdm c r g) 4=AS.mk (Jlk s) [(3,ABlk.iter (List.drop g' s) g')] 4)
abbrev Z38i:=true=false->false=true
abbrev Z38j(s:List UInt8)(g:Nat)(c:UInt8)(r:List UInt8):=[(0,AV.str s),(3,AV.i (g:Int)),(4,AV.int IntKind.i32 (X5 c r)),(5,AV.bool (decide ((X5 c r)<=90))),(7,AV.ref 3)]
abbrev Jo2(c:UInt8)(r:List UInt8):=decide ((X5 c r)>=97)
abbrev Z38l(s:List UInt8):=if(!s == [])=true then decide ((s.length:Int)<=24)else false
abbrev Jo1(g:Nat):=(g:Int) == 0
abbrev Jp0(c:UInt8)(r:List UInt8):=AV.bool !Jq (X5 c r)
abbrev Z38o(s:List UInt8)(g:Nat)(c:UInt8)(r:List UInt8):=[(0,AV.str s),(3,AV.i (g:Int)),(4,AV.int IntKind.i32 (X5 c r)),(5,AV.bool false),(7,AV.ref 3)]
abbrev Z38p(s:List UInt8)(g:Nat)(c:UInt8)(r:List UInt8):=[(0,AV.str s),(3,AV.i (g:Int)),(4,AV.int IntKind.i32 (X5 c r)),(5,AV.bool true),(7,AV.ref 3)]
theorem c88(s:List UInt8)(hs:s.length<=1000000):P0 88 [.str s] (.bool (sName s)):=by
 have key :
  (∃ (g:Nat),(g<=s.length/\XT s g=true)/\AS.mk (Jlk s) [(3,ABlk.iter s 0)] 4=AS.mk (Jlk s) [(3,ABlk.iter (List.drop g s) g)] 4)/\∀ (g:Nat),g<=s.length/\XT s g=true->(∀ (c:UInt8) (r:List UInt8),
  List.drop g s=c::r->(true=true->((decide ((X5 c r)>=97)=true->(decide ((X5 c r)<=122)=true->Z38i/\AV.bool (Jo2 c r)=AV.bool true/\AV.bool (decide ((X5 c r)<=122))=AV.bool true/\AS.mk (Z38p s g c r)
  (Jdm c r g) 4=AS.mk (Jo4 s g c r) (Jdm c r g) 4)/\(decide ((X5 c r)<=122)=false->(decide ((X5 c r)>=65)=true->AV.bool (Jo2 c r)=AV.bool true/\AV.bool (decide ((X5 c r)<=122))=AV.bool false/\AV.bool
  (decide ((X5 c r)>=65))=AV.bool true/\AS.mk (Z38j s g c r) (Jdm c r g) 4=AS.mk (Jo4 s g c r) (Jdm c r g) 4)/\(decide ((X5 c r)>=65)=false->Jmz/\AV.bool (Jo2 c r)=AV.bool true/\AV.bool (decide ((X5 c r) ≤
  122))=AV.bool false/\AV.bool (decide ((X5 c r)>=65))=AV.bool false/\AS.mk (Z38o s g c r) (Jdm c r g) 4=AS.mk (Jo4 s g c r) (Jdm c r g) 4)))/\(decide ((X5 c r)>=97)=false->(false=true->Jmz/\Z38i/\AV.bool
  (Jo2 c r)=AV.bool false/\AV.bool false=AV.bool true/\AS.mk (Z38p s g c r) (Jdm c r g) 4=AS.mk (Jo4 s g c r) (Jdm c r g) 4)/\(false=false->(decide ((X5 c r)>=65)=true->Jmz/\AV.bool (Jo2 c r)=AV.bool false
  /\ AV.bool false=AV.bool false/\AV.bool (decide ((X5 c r)>=65))=AV.bool true/\AS.mk (Z38j s g c r) (Jdm c r g) 4=AS.mk (Jo4 s g c r) (Jdm c r g) 4)/\(decide ((X5 c r)>=65)=false->Jmz/\Jmz/\AV.bool (Jo2 c r)
  = AV.bool false/\AV.bool false=AV.bool false/\AV.bool (decide ((X5 c r)>=65))=AV.bool false/\AS.mk (Z38o s g c r) (Jdm c r g) 4=AS.mk (Jo4 s g c r) (Jdm c r g) 4))))/\((!Jq (X5 c r))=true->((Jo1 g)=true
  → Z38i/\(Jp0 c r)=AV.bool true/\AV.bool (Jo1 g)=AV.bool true/\(true=true->AV.bool false=AV.bool (sName s))/\(Z38h s g c r))/\((Jo1 g)=false->(((X5 c r) != 95)=true->(decide ((X5 c r) < 48)=true->Z38i /\
  (Jp0 c r)=AV.bool true/\AV.bool (Jo1 g)=AV.bool false/\AV.bool ((X5 c r) != 95)=AV.bool true/\AV.bool (decide ((X5 c r) < 48))=AV.bool true/\(true=true->AV.bool false=AV.bool (sName s))/\(Z38h s g c r)) /\
  (decide ((X5 c r) < 48)=false->(Jp0 c r)=AV.bool true/\AV.bool (Jo1 g)=AV.bool false/\AV.bool ((X5 c r) != 95)=AV.bool true/\AV.bool (decide ((X5 c r) < 48))=AV.bool false/\(decide ((X5 c r) > 57)=true →
  AV.bool false=AV.bool (sName s))/\(decide ((X5 c r) > 57)=false->∃ (g':Nat),(g'<=s.length/\XT s g'=true)/\s.length-g' < s.length-g/\AS.mk (Jlk s) (Jdm c r g) 4=AS.mk (Jlk s) [(3,ABlk.iter (List.drop g'
  s) g')] 4)))/\(((X5 c r) != 95)=false->Jmz/\(Jp0 c r)=AV.bool true/\AV.bool (Jo1 g)=AV.bool false/\AV.bool ((X5 c r) != 95)=AV.bool false/\(false=true->AV.bool false=AV.bool (sName s))/\(Z38g s g c r))))
  /\ ((!Jq (X5 c r))=false->Jmz/\(Jp0 c r)=AV.bool false/\(false=true->AV.bool false=AV.bool (sName s))/\(Z38g s g c r)))/\(true=false->(Jo3 s)/\(Jo3 s)/\(Jo3 s)/\AV.bool (Z38l s)=AV.bool (sName s))) /\
  (List.drop g s=[]->(false=true->False)/\(false=false->(Jo3 s)/\(Jo3 s)/\(Jo3 s)/\AV.bool (Z38l s)=AV.bool (sName s))):=by
   delta Jdm X5 Jo4 Jlk Jmz Jo3 Z38g Z38h Z38i Z38j Jo2 Z38l Jo1 Jp0 Z38o Z38p
   refine⟨⟨0,⟨by omega,rfl⟩,rfl⟩,fun g ⟨hg,ha⟩=>⟨fun c r hcr=>?_,fun hnil=>?_⟩⟩
   . have hlt:g < s.length:=by
      by_cases h:g < s.length
      . exact h
      rw[List.drop_eq_nil_of_le (by omega)]at hcr;cases hcr
     have hcg:s.getD g 0=c:=by
      have:=congrArg (fun l=>l.getD 0 0) hcr
      simpa[List.getD_eq_getElem?_getD]using this
     have hr:r=s.drop (g+1):=by
      have:=congrArg (fun l=>l.drop 1) hcr
      simpa using this.symm
     have hz:((g:Int) == 0)=(g == 0):=by
      by_cases h:g=0
      . simp[h]
      rw[beq_eq_false_iff_ne.2 h,beq_eq_false_iff_ne.2 (by omega)]
     obtain⟨hk1,hk2⟩:=Jiy (g == 0) c r
     have hF:okB (g == 0) (dec (c::r)).1=false->AV.bool false=AV.bool (sName s):=fun h=>by
      rw[Ux hlt (by rw[hcg,<- hk1];exact h)]
     have hN:okB (g == 0) (dec (c::r)).1=true->∃ (g':Nat),(g'<=s.length/\XT s g'=true)/\s.length-g' < s.length-g /\
      AS.mk [(0,AV.str s),(7,AV.ref 3)] [(3,ABlk.iter (List.drop (dec (c::r)).snd (c::r)) (g+(dec (c::r)).snd))] 4=AS.mk [(0,AV.str s),(7,AV.ref 3)] [(3,ABlk.iter (List.drop g' s) g')] 4:=fun h=>by
      refine⟨g+1,⟨hlt,Uw ha (by rw[hcg,<- hk1];exact h)⟩,by omega,?_⟩
      rw[hk2 (by rw[<- hk1];exact h),hr]
      rfl
     rw[JdR]at hF hN
     clear hk1 hk2
     generalize (dec (c::r)).1=n at hF hN ⊢
     generalize (dec (c::r)).2=w at hN ⊢
     rw[hz]
     repeat' (first | apply And.intro | intro _)
     all_goals try first
      | contradiction
      | rfl
      | assumption
      | exact congrArg AV.bool (by assumption)
      | (rw[show Jq (n:Int)=true by(simp only[Ko,decide_eq_false_iff_not]at *;simp only[Jq,Bool.or_eq_true,Ko];omega)];done)
      | (rw[show Jq (n:Int)=false by(simp only[Ko,decide_eq_false_iff_not]at *;simp only[Jq,Bool.or_eq_false_iff,decide_eq_false_iff_not];omega)];done)
      | (rw[show Jq (n:Int)=decide ((n:Int)<=90) by(simp only[Ko,decide_eq_false_iff_not]at *;simp only[Jq];by_cases h90:(n:Int)<=90 <;> simp[h90] <;> omega)];done)
      | (refine hF ?_;simp_all [Jz];done)
      | (refine hN ?_;simp_all [Jz];done)
      | (refine hF ?_;simp_all [Jz];omega)
      | (refine hN ?_;simp_all [Jz];omega)
   have hge:g=s.length:=by
    have:=congrArg List.length hnil
    rw[Kh]at this
    simp only[List.length_nil]at this
    omega
   subst hge
   refine⟨fun h=>by(cases h),fun _=>⟨fun h=>h,fun h=>h,fun h=>h,?_⟩⟩
   rw[sName,ha,Bool.true_and,show decide ((s.length:Int)<=24)=decide (s.length<=24)from decide_eq_decide.2 (by omega)]
   cases (!s == []) <;> rfl
 exact Jw Tryz.f88 (B147 s) key (by kernel_rfl)
def JnQ(s:List UInt8):LA:={
 pre:=[.keep [0,3] [],.bound 1],post:=[.keep [0,3] [],.bound 1]
 Gh:=Nat
 st:=fun i=>⟨[(0,.str s),(3,.i i)],[],1⟩
 ok:=fun i=>i<=s.length/\XT s i=true
 ms:=fun i=>s.length-i }
def B122(s:List UInt8):BA:={ mkB spP 101 [] (fun i=>if i.beq 0 then some (JnQ s)else none)with
 split:=fun i=>if i.beq 1 then 0 else if i.beq 6 then 1 else if i.beq 7 then 1 else if i.beq 8 then 1 else 0
 gs:=fun i=>if i.beq 6 then[.keep [0,3,4] [],.bound 1]else if i.beq 7 then[.keep [0,3,4,5] [],.bound 1]else[]
 cut:=fun i=>if i.beq 6 then some (JgD [0,3,4] [] 1 4 fun S=>onI (Ju S 3) fun n=>.bool (Jq ((s.getD n.toNat 0).toNat:Int)))
  else if i.beq 7 then some (JgD [0,3,4,5] [] 1 5 fun S=>onI (Ju S 3) fun n=>.bool (Jz ((s.getD n.toNat 0).toNat:Int)))else none }
abbrev XJ(s:List UInt8)(g:Nat):=(↑(s.getD (g:Int).toNat (0:UInt8)).toNat:Int)
abbrev Vz(s:List UInt8):=(s.length:Int)
abbrev Jo0(s:List UInt8)(g:Nat):=[(0,AV.str s),(3,AV.i (g:Int)),(4,AV.bool (Jq (XJ s g)))]
abbrev Z39d(s:List UInt8)(g:Nat):=[(0,AV.str s),(3,AV.i (g:Int)),(4,AV.bool (Jq (XJ s g))),(5,AV.bool (Jz (XJ s g)))]
abbrev Jlj:=false=true->false=true
abbrev JpZ:=true=false->false=true
abbrev Z39g(s:List UInt8)(g:Nat):=[(0,AV.str s),(3,AV.i (g:Int)),(4,AV.bool (Jq (XJ s g))),(5,AV.bool ((XJ s g) == 95))]
abbrev JoZ(s:List UInt8)(g:Nat):=decide ((XJ s g)>=65)
abbrev Z39i(s:List UInt8)(g:Nat):=[(0,AV.str s),(3,AV.i (g:Int)),(4,AV.bool (Jq (XJ s g))),(5,AV.bool true)]
abbrev Z39j(s:List UInt8)(g:Nat):=[(0,AV.str s),(3,AV.i (g:Int)),(4,AV.bool (decide ((XJ s g)<=122)))]
abbrev Z39k(s:List UInt8)(g:Nat):=[(0,AV.str s),(3,AV.i ((g:Int)+1))]
abbrev Z39l(s:List UInt8):=if((Vz s) == 0)=true then true else decide ((Vz s) > 24)
theorem c101(s:List UInt8)(hs:s.length<=1000000):P0 101 [.str s] (.bool (sName s)):=by
 have key :
  ((!(Vz s) == 0)=true->(!(Vz s) == 0)=true)/\((!(Vz s) == 0)=true->(!(Vz s) == 0)=true)/\(((Vz s) == 0)=false->(!(Vz s) == 0)=true)/\((Z39l s)=true->AV.bool false=AV.bool (sName s))/\((Z39l s) =
  false->(∃ (g:Nat),(g<=s.length/\XT s g=true)/\AS.mk [(0,AV.str s),(3,AV.i 0)] [] 1=AS.mk [(0,AV.str s),(3,AV.i (g:Int))] [] 1)/\∀ (g:Nat),g<=s.length/\XT s g=true->(decide ((g:Int) < (Vz s)) =
  true->((decide ((XJ s g)>=65)=true->(decide ((XJ s g)<=90)=true->(0:Int)<=(g:Int)/\(g:Int) < (Vz s)/\(0:Int)<=(g:Int)/\(g:Int) < (Vz s)/\JpZ/\AV.bool (JoZ s g)=AV.bool true/\AV.bool
  (decide ((XJ s g)<=90))=AV.bool true/\AS.mk [(0,AV.str s),(3,AV.i (g:Int)),(4,AV.bool true)] [] 1=AS.mk (Jo0 s g) [] 1)/\(decide ((XJ s g)<=90)=false->(decide ((XJ s g)>=97)=true->(0:Int)<=(↑g :
  Int)/\(g:Int) < (Vz s)/\(0:Int)<=(g:Int)/\(g:Int) < (Vz s)/\(0:Int)<=(g:Int)/\(g:Int) < (Vz s)/\(0:Int)<=(g:Int)/\(g:Int) < (Vz s)/\AV.bool (JoZ s g)=AV.bool true/\AV.bool (decide
  ((XJ s g)<=90))=AV.bool false/\AV.bool (decide ((XJ s g)>=97))=AV.bool true/\AS.mk (Z39j s g) [] 1=AS.mk (Jo0 s g) [] 1)/\(decide ((XJ s g)>=97)=false->(0:Int)<=(g:Int)/\(g:Int) < (Vz s)/\(0 :
  Int)<=(g:Int)/\(g:Int) < (Vz s)/\(0:Int)<=(g:Int)/\(g:Int) < (Vz s)/\Jlj/\AV.bool (JoZ s g)=AV.bool true/\AV.bool (decide ((XJ s g)<=90))=AV.bool false/\AV.bool (decide ((XJ s g)>=97)) =
  AV.bool false/\AS.mk [(0,AV.str s),(3,AV.i (g:Int)),(4,AV.bool false)] [] 1=AS.mk (Jo0 s g) [] 1)))/\(decide ((XJ s g)>=65)=false->(false=true->(0:Int)<=(g:Int)/\(g:Int) < (Vz s)/\Jlj/\JpZ /\
  AV.bool (JoZ s g)=AV.bool false/\AV.bool false=AV.bool true/\AS.mk [(0,AV.str s),(3,AV.i (g:Int)),(4,AV.bool true)] [] 1=AS.mk (Jo0 s g) [] 1)/\(false=false->(decide ((XJ s g)>=97)=true->(0:Int)<=(↑g
  : Int)/\(g:Int) < (Vz s)/\Jlj/\(0:Int)<=(g:Int)/\(g:Int) < (Vz s)/\(0:Int)<=(g:Int)/\(g:Int) < (Vz s)/\AV.bool (JoZ s g)=AV.bool false/\AV.bool false=AV.bool false/\AV.bool (decide ((XJ s
  g)>=97))=AV.bool true/\AS.mk (Z39j s g) [] 1=AS.mk (Jo0 s g) [] 1)/\(decide ((XJ s g)>=97)=false->(0:Int)<=(g:Int)/\(g:Int) < (Vz s)/\Jlj/\(0:Int)<=(g:Int)/\(g:Int) < (Vz s)/\Jlj/\AV.bool
  (JoZ s g)=AV.bool false/\AV.bool false=AV.bool false/\AV.bool (decide ((XJ s g)>=97))=AV.bool false/\AS.mk [(0,AV.str s),(3,AV.i (g:Int)),(4,AV.bool false)] [] 1=AS.mk (Jo0 s g) [] 1))))/\((decide ((XJ s
  g)>=48)=true->(decide ((XJ s g)<=57)=true->(0:Int)<=(g:Int)/\(g:Int) < (Vz s)/\(0:Int)<=(g:Int)/\(g:Int) < (Vz s)/\JpZ/\AV.bool (decide ((XJ s g)>=48))=AV.bool true/\AV.bool (decide
  ((XJ s g)<=57))=AV.bool true/\AS.mk (Z39i s g) [] 1=AS.mk (Z39d s g) [] 1)/\(decide ((XJ s g)<=57)=false->(0:Int)<=(g:Int)/\(g:Int) < (Vz s)/\(0:Int)<=(g:Int)/\(g:Int) < (Vz s)/\(0:Int) ≤
  (g:Int)/\(g:Int) < (Vz s)/\AV.bool (decide ((XJ s g)>=48))=AV.bool true/\AV.bool (decide ((XJ s g)<=57))=AV.bool false/\AS.mk (Z39g s g) [] 1=AS.mk (Z39d s g) [] 1))/\(decide ((XJ s g)>=48)=false →
  (false=true->(0:Int)<=(g:Int)/\(g:Int) < (Vz s)/\Jlj/\JpZ/\AV.bool (decide ((XJ s g)>=48))=AV.bool false/\AV.bool false=AV.bool true/\AS.mk (Z39i s g) [] 1=AS.mk (Z39d s g) [] 1)/\(false=false->(0
  : Int)<=(g:Int)/\(g:Int) < (Vz s)/\Jlj/\(0:Int)<=(g:Int)/\(g:Int) < (Vz s)/\AV.bool (decide ((XJ s g)>=48))=AV.bool false/\AV.bool false=AV.bool false/\AS.mk (Z39g s g) [] 1=AS.mk (Z39d s g) []
  1)))/\((!Jq (XJ s g))=true->(((g:Int) == 0)=true->JpZ/\(AV.bool !Jq (XJ s g))=AV.bool true/\AV.bool ((g:Int) == 0)=AV.bool true/\(true=true->AV.bool false=AV.bool (sName s))/\(true=false →
  Jc ((g:Int)+1)/\∃ (g':Nat),(g'<=s.length/\XT s g'=true)/\s.length-g' < s.length-g/\AS.mk (Z39k s g) [] 1=AS.mk [(0,AV.str s),(3,AV.i (g':Int))] [] 1))/\(((g:Int) == 0)=false->(AV.bool !Jq
  (XJ s g))=AV.bool true/\AV.bool ((g:Int) == 0)=AV.bool false/\((!Jz (XJ s g))=true->AV.bool false=AV.bool (sName s))/\((!Jz (XJ s g))=false->Jc ((g:Int)+1)/\∃ (g':Nat),(g'<=s.length /\
  XT s g'=true)/\s.length-g' < s.length-g/\AS.mk (Z39k s g) [] 1=AS.mk [(0,AV.str s),(3,AV.i (g':Int))] [] 1)))/\((!Jq (XJ s g))=false->Jlj/\(AV.bool !Jq (XJ s g))=AV.bool false/\(false=true →
  AV.bool false=AV.bool (sName s))/\(false=false->Jc ((g:Int)+1)/\∃ (g':Nat),(g'<=s.length/\XT s g'=true)/\s.length-g' < s.length-g/\AS.mk (Z39k s g) [] 1=AS.mk [(0,AV.str s),(3,AV.i (g':Int))] []
  1)))/\(decide ((g:Int) < (Vz s))=false->AV.bool true=AV.bool (sName s))):=by
   delta XJ Vz Jo0 Z39d Jlj JpZ Z39g JoZ Z39i Z39j Z39k Z39l
   have hs0:(s.length == 0)=(s == []):=by cases s <;> rfl
   refine⟨fun h=>h,fun h=>h,fun h=>by rw[h];rfl,fun h=>?_,fun h=>⟨⟨0,⟨by omega,rfl⟩,rfl⟩,fun g ⟨hg,ha⟩=>⟨fun hd=>?_,fun hd=>?_⟩⟩⟩
   . have:(!(s == []) && decide (s.length<=24))=false:=by
      rw[<- hs0]
      by_cases h0:s.length=0
      . simp[h0]
      rw[beq_eq_false_iff_ne.2 (show(s.length:Int) ≠ 0 by omega)]at h
      simp at h
      simp only[Bool.and_eq_false_iff,decide_eq_false_iff_not]
      omega
     rw[sName,this,Bool.and_false]
   . have hlt:=Jm hd
     have hz:((g:Int) == 0)=(g == 0):=by
      by_cases h:g=0
      . simp[h]
      rw[beq_eq_false_iff_ne.2 h,beq_eq_false_iff_ne.2 (by omega)]
     obtain⟨n,hx⟩:∃ n,(s.getD g 0).toNat=n:=⟨_,rfl⟩
     rw[show(s.getD ((g:Int)).toNat 0).toNat=n from hx]
     have hF:okB (g == 0) (s.getD g 0).toNat=false->AV.bool false=AV.bool (sName s):=fun h=>by
      rw[Ux hlt h]
     have hN:okB (g == 0) (s.getD g 0).toNat=true->Jc ((g:Int)+1)/\∃ (g':Nat),(g'<=s.length/\XT s g'=true)/\s.length-g' < s.length-g /\
      AS.mk [(0,AV.str s),(3,AV.i ((g:Int)+1))] [] 1=AS.mk [(0,AV.str s),(3,AV.i g')] [] 1:=fun h =>
      ⟨by unfold Jc;omega,g+1,⟨hlt,Uw ha h⟩,by omega,rfl⟩
     rw[JdR]at hF hN
     have h1:(0:Int)<=g:=by omega
     have h2:(g:Int) < s.length:=by omega
     rw[hx]at hF hN
     rw[hz]
     generalize sName s=sn at hF ⊢
     clear hx ha
     repeat' (first | apply And.intro | intro _)
     all_goals try first
      | omega
      | contradiction
      | rfl
      | assumption
      | exact congrArg AV.bool (by assumption)
      | (rw[show Jq (n:Int)=true by(simp only[Ko,decide_eq_false_iff_not]at *;simp only[Jq,Bool.or_eq_true,Ko];omega)];done)
      | (rw[show Jq (n:Int)=false by(simp only[Ko,decide_eq_false_iff_not]at *;simp only[Jq,Bool.or_eq_false_iff,decide_eq_false_iff_not];omega)];done)
      | (rw[show Jq (n:Int)=decide ((n:Int)<=122) by(simp only[Ko,decide_eq_false_iff_not]at *;simp only[Jq];by_cases h90:(n:Int)<=122 <;> simp[h90] <;> omega)];done)
      | (rw[show Jz (n:Int)=true by(simp only[Ko,decide_eq_false_iff_not]at *;simp only[Jz,Bool.or_eq_true,Ko];omega)];done)
      | (rw[show Jz (n:Int)=((n:Int) == 95) by(simp only[Ko,decide_eq_false_iff_not]at *;unfold Jz;rw[decide_eq_false (show ¬ (48<=(n:Int)/\(n:Int)<=57) by omega),Bool.false_or];rfl)];done)
      | (refine hF ?_;(clear hF hN;generalize Jq (n:Int)=p at *;generalize Jz (n:Int)=q at *;generalize (g == 0)=z at *;cases p <;> cases q <;> cases z <;> first | rfl | (exfalso;simp at *;done));done)
      | (refine(hN ?_).1;(clear hF hN;generalize Jq (n:Int)=p at *;generalize Jz (n:Int)=q at *;generalize (g == 0)=z at *;cases p <;> cases q <;> cases z <;> first | rfl | (exfalso;simp at *;done));done)
      | (refine(hN ?_).2;(clear hF hN;generalize Jq (n:Int)=p at *;generalize Jz (n:Int)=q at *;generalize (g == 0)=z at *;cases p <;> cases q <;> cases z <;> first | rfl | (exfalso;simp at *;done));done)
   have hge:=Jt hd hg
   subst hge
   have h2:(!(s == []) && decide (s.length<=24))=true:=by
    rw[<- hs0]
    by_cases h0:s.length=0
    . simp[h0]at h
    rw[beq_eq_false_iff_ne.2 (show(s.length:Int) ≠ 0 by omega)]at h
    simp at h
    simp only[Kd,Ko,Ks,beq_eq_false_iff_ne]
    omega
   rw[sName,ha,h2]
   rfl
 exact Jw Tryz.f101 (B122 s) key (by kernel_rfl)
def spN:Nat->List AV->Option AV
 | 88,[.str s]=>some (.bool (sName s))
 | 101,[.str s]=>some (.bool (sName s))
 | 42,[.str s]=>some (.i (sWhen (!sName s) 8))
 | 55,[.str s]=>some (.i (sWhen (!sName s) 8))
 | n,x=>spA n x
theorem c42(s:List UInt8)(hs:s.length<=1000000):P0 42 [.str s] (.i (sWhen (!sName s) 8)):=by
 have key :
  P0 88 [AV.str s] (AV.bool (sName s))/\P0 28 [AV.bool !sName s,AV.i 8] (AV.i (sWhen (!sName s) (8:Int)))/\AV.i (sWhen (!sName s) (8:Int))=AV.i (sWhen (!sName s) (8:Int)):=by
   exact⟨c88 s hs,c28 _ _,rfl⟩
 exact Jw Tryz.f42 (mkB spN 42 [] J1) key (by kernel_rfl)
theorem c55(s:List UInt8)(hs:s.length<=1000000):P0 55 [.str s] (.i (sWhen (!sName s) 8)):=by
 have key :
  P0 101 [AV.str s] (AV.bool (sName s))/\P0 53 [AV.bool !sName s,AV.i 8] (AV.i (sWhen (!sName s) (8:Int)))/\AV.i (sWhen (!sName s) (8:Int))=AV.i (sWhen (!sName s) (8:Int)):=by
   exact⟨c101 s hs,c53 _ _,rfl⟩
 exact Jw Tryz.f55 (mkB spN 55 [] J1) key (by kernel_rfl)
def cI(rows:List (List AV))(i:Nat):Int:=match nth (Ji rows i) 0 with
 | .int _ n=>n
 | _=>0
def rdJ:List AV->Option AV
 | [.elt _ rows i _]=>some (.i (cI rows i))
 | _=>none
theorem JZ(l:List Int)(i:Nat):cI (l.map Jh) i=l.getD i default:=by
 unfold cI Ji
 rw[Ka,Ka,Kk]
 cases l[i]? <;> rfl
theorem VI{l:List Int}{i:Nat}(h:i < l.length):nth (Ji (l.map Jh) i) 0=.i (cI (l.map Jh) i):=by
 rw[JZ,Jl Jh h]
 rfl
def Jjn(r k:Nat)(f:An->An)(B:BA):BA:={ B with ra:=fun i=>if i.beq r then { B.ra i with ans:=JjT f k (B.ra i).ans }else B.ra i }
def JaE(l:List Int):Int:=sumW l l.length
def fzB(B:BA):BA:={ B with gs:=fun i=>(B.ra i).fz.map GS.frzo++B.gs i }
def gsB(g:Nat->List GS)(B:BA):BA:={ B with gs:=fun i=>B.gs i++g i }
def rdT:List AV->Option AV:=fun _=>some (.bool true)
def JnH(r:Nat)(B:BA):BA:={ B with ra:=fun i=>if i.beq r then { B.ra i with ans:=(B.ra i).ans.map fun a=>{ a with sym:=false } }else B.ra i }
def rdF:List AV->Option AV:=fun _=>some (.bool false)
def md(g:List GS)(l:List (Nat × AV)):Option (List GS × AS):=some (g++[.keep (l.map (·.1)) [],.bound 1],⟨l,[],1⟩)
theorem Js{α:Type}[Inhabited α]{l:List α}{i:Nat}(h:i < l.length):l.getD i default ∈ l:=by
 rw[Ka,Kj h]
 exact List.getElem_mem h
def fiN(p:Nat->Bool):Nat->Nat
 | 0=>0
 | n+1=>if fiN p n < n then fiN p n else if p n then n else n+1
theorem fi_none{p:Nat->Bool}:∀ {i:Nat},(∀ j,j < i->p j=false)->fiN p i=i
 | 0,_=>rfl
 | i+1,h=>by
  have h1:fiN p i=i:=fi_none fun j hj=>h j (by omega)
  simp only[fiN]
  rw[h1,if_neg (by omega),if_neg (by rw[h i (by omega)];exact Bool.false_ne_true)]
theorem fi_some{p:Nat->Bool}{i:Nat}(h:∀ j,j < i->p j=false)(hp:p i=true):∀ {m:Nat},i < m->fiN p m=i
 | 0,h0=>absurd h0 (by omega)
 | m+1,h0=>by
  simp only[fiN]
  by_cases e:i=m
  . subst e
    rw[fi_none h,if_neg (by omega),if_pos hp]
  rw[fi_some h hp (m:=m) (by omega),if_pos (by omega)]
def fiI(p:Nat->Bool)(n:Nat):Int:=if fiN p n=n then -1 else fiN p n
theorem Xm{p q:Nat->Bool}:∀ {n:Nat},(∀ j,j < n->p j=q j)->fiN p n=fiN q n
 | 0,_=>rfl
 | n+1,h=>by
  simp only[fiN]
  rw[Xm (n:=n) (fun j hj=>h j (by omega)),h n (by omega)]
theorem XH{p q:Nat->Bool}{n:Nat}(h:∀ j,j < n->p j=q j):fiI p n=fiI q n:=by
 unfold fiI
 rw[Xm h]
theorem Jea{p:Nat->Bool}:∀ n,fiN p n<=n
 | 0=>Kr _
 | n+1=>by
  have:=Jea (p:=p) n
  simp only[fiN]
  split
  . omega
  split <;> omega
theorem Ja5{p:Nat->Bool}:∀ {n:Nat},fiN p n < n->p (fiN p n)=true
 | n+1,h=>by
  simp only[fiN]at h ⊢
  split
  . rename_i h1
    exact Ja5 h1
  rename_i h1
  rw[if_neg h1]at h
  split
  . assumption
  rename_i h2
  rw[if_neg h2]at h
  omega
theorem Wa{p:Nat->Bool}:∀ {n:Nat},¬ fiN p n < n->∀ j,j < n->p j=false
 | n+1,h,j,hj=>by
  simp only[fiN]at h
  split at h
  . omega
  rename_i h1
  split at h
  . omega
  rename_i h2
  by_cases e:j=n
  . rw[e];simpa using h2
  exact Wa h1 j (by omega)
theorem fi_ex{p:Nat->Bool}{n j:Nat}(hj:j < n)(hp:p j=true):fiN p n < n:=by
 refine Classical.byContradiction fun h=>?_
 rw[Wa h j hj]at hp
 cases hp
theorem fiI_dec{p:Nat->Bool}{n:Nat}:decide (fiI p n>=0)=decide (fiN p n < n):=by
 have:=Jea (p:=p) n
 unfold fiI
 refine decide_eq_decide.2 ?_
 split <;> omega
theorem Vx{α:Type}[Inhabited α]{l:List α}{q:α->Bool}{i:Nat}(hi:i<=l.length):(l.take i).any q=decide (fiN (fun j=>q (l.getD j default)) i < i):=by
 rw[Bool.eq_iff_iff,Ko]
 constructor
 . intro h
   obtain⟨x,hx,hq⟩:=List.any_eq_true.1 h
   obtain⟨j,hj,rfl⟩:=List.mem_iff_getElem.1 hx
   rw[Kg]at hj
   refine fi_ex (j:=j) (by omega) ?_
   rw[List.getElem_take]at hq
   rw[Ka,Kj (by omega)]
   exact hq
 intro h
 have hq:=Ja5 h
 refine List.any_eq_true.2 ⟨_,?_,hq⟩
 generalize fiN (fun j=>q (l.getD j default)) i=j at h
 rw[Ka,Kj (show j < l.length by omega)]
 refine List.mem_iff_getElem.2 ⟨j,by rw[Kg];omega,by rw[List.getElem_take];rfl⟩
theorem Qr{α:Type}{enc:α->List AV}{dec:List AV->α}(h:∀ x,dec (enc x)=x)(l:List α):(l.map enc).map dec=l:=by
 rw[K9]
 conv=>rhs;rw[<- List.map_id l]
 exact List.map_congr_left fun x _=>h x
def VN(es:List (AV × AV)):AV->Bool
 | .str s=>es.any fun p=>match p.1 with
  | .str x=>x == s
  | _=>false
 | _=>false
def rdK:BL->List AV->Option AV:=fun bs ins=>match ins with
 | [.ref id,k]=>match Jr bs id with
  | .map es=>some (.bool (VN es k))
  | _=>none
 | _=>none
theorem Qu(a b:List UInt8):(a == b)=(b == a):=by
 rw[Bool.eq_iff_iff,beq_iff_eq,beq_iff_eq]
 exact eq_comm
def U7(s:List UInt8):AV × AV:=(.str s,.bool true)
theorem QQ{α:Type}(f:α->List UInt8)(s:List UInt8)(l:List α):VN (l.map fun a=>U7 (f a)) (.str s)=l.any fun a=>f a == s:=by
 show((l.map fun a=>U7 (f a)).any fun p=>match p.1 with
  | .str x=>x == s
  | _=>false)=_
 rw[List.any_map]
 rfl
theorem XO{α:Type}(f:α->List UInt8)(s:List UInt8):∀ l:List α,J7 (.str s) (l.map fun a=>U7 (f a))=some (if(l.any fun a=>f a == s)=true then some (.bool true)else none)
 | []=>rfl
 | a::l=>by
  have ih:=XO f s l
  simp only[List.map_cons,U7,J7,Qw,List.any_cons]at ih ⊢
  rw[Qu s (f a)]
  by_cases h:(f a == s)=true
  . simp only[h,Bool.true_or,if_true]
  have h:=Bool.eq_false_iff.2 h
  simp only[h,Bool.false_or]
  exact ih
theorem UN{α:Type}(f:α->List UInt8)(s:List UInt8):∀ l:List α,(l.any fun a=>f a == s)=false->Q6 (.str s) (.bool true) (l.map fun a=>U7 (f a))=some ((l.map fun a=>U7 (f a))++[U7 s])
 | [],_=>rfl
 | a::l,h=>by
  rw[List.any_cons,Bool.or_eq_false_iff]at h
  have ih:=UN f s l h.2
  simp only[List.map_cons,U7,Q6,Qw]at ih ⊢
  rw[Qu s (f a),h.1]
  simp only[ih,List.cons_append]
theorem Xj{α:Type}(f:α->List UInt8)(s:List UInt8)(l:List α):Um false (.bool false) (J7 (.str s) (l.map fun a=>U7 (f a)))=.bool (VN (l.map fun a=>U7 (f a)) (.str s)):=by
 rw[XO,QQ]
 cases l.any fun a=>f a == s <;> rfl
theorem QJ{α:Type}(f:α->List UInt8)(s:List UInt8)(l:List α):(J7 (.str s) (l.map fun a=>U7 (f a))).isSome=true:=by
 rw[XO]
 rfl
structure Tp where
 n:List UInt8
 c:Int
 f:Int
 deriving Inhabited
structure Ru where
 a:Int
 b:Int
 c:Int
 d:Int
 ts:List Tp
 q:Int
 rs:List (List UInt8)
 dl:Int
 fi:Int
 ra:Int
 k0:Int
 k1:Int
 k2:Int
 k3:Int
 k4:Int
 k5:Int
 k6:Int
 k7:Int
 deriving Inhabited
def encTp(t:Tp):List AV:=[.str t.n,.i t.c,.i t.f]
def encS(s:List UInt8):List AV:=[.str s]
def encRu(r:Ru):List AV:=[.i r.a,.i r.b,.i r.c,.i r.d,.sl 3 (r.ts.map encTp),.i r.q,.sl 1 (r.rs.map encS),.i r.dl,.i r.fi,.i r.ra,.int .u8 r.k0,.int .u8 r.k1,.int .u8 r.k2,.int .u8 r.k3,.int .u8 r.k4,.int .u8 r.k5,.int .u8 r.k6,.int .u8 r.k7]
def wiR(a b m:Int):Bool:=if decide (a < b)then(if decide (m>=a)then decide (m < b)else false)else if decide (m>=a)then true else decide (m < b)
def sSp(a b:Int):Int:=sWhen (if(if(if(if decide (a < 0)then true else decide (a>=1440))then true else decide (b < 0))then true else decide (b>=1440))then true else a == b) 14
def UQ(a b m:Int):Bool:=decide (Qv a m < Qv a b)
def niI(a b day m:Int):Int:=if(if decide (a > b)then decide (m < b)else false)then day-1 else day
def spS:Nat->List AV->Option AV
 | 1022,[.agg [.int _ a,.int _ b]]=>some (.i (sSp a b))
 | 38,[.agg [.int _ a,.int _ b]]=>some (.i (sSp a b))
 | 39,[.int _ m]=>some (.i (Ja m 0 1439))
 | 40,[.agg [.int _ a,.int _ b],.int _ m]=>some (.bool (UQ a b m))
 | 1026,[.agg [.int _ a,.int _ b],.int _ m]=>some (.bool (wiR a b m))
 | 81,[.agg [.int _ a,_],.int _ m]=>some (.i (Qv a m))
 | 82,[.agg [.int _ a,.int _ b]]=>some (.i (Qv a b))
 | n,x=>spN n x
abbrev Z40f(a:Int):=if decide (a < 0)=true then true else decide (a>=1440)
abbrev Z40a(a:Int)(b:Int):=if(Z40f a)=true then true else decide (b < 0)
abbrev Z40g(a:Int)(b:Int):=!if(Z40a a b)=true then true else decide (b>=1440)
abbrev Z40b(a:Int)(b:Int):=(Z40g a b)=true->(Z40g a b)=true
abbrev JpY(a:Int)(b:Int):=!if(Z40f a)=true then true else decide (b < 0)
abbrev JpX(a:Int):=!if decide (a < 0)=true then true else decide (a>=1440)
abbrev Z40e(a:Int)(b:Int):=if(if(Z40a a b)=true then true else decide (b>=1440))=true then true else a == b
abbrev Z40h(a:Int):=(!decide (a < 0))=true->(!decide (a < 0))=true
theorem c38(a b:Int) :P0 38 [.agg [.i a,.i b]] (.i (sSp a b)):=by
 have key :
  (Z40h a)/\(Z40h a)/\(decide (a < 0)=false->(!decide (a < 0))=true)/\((JpX a)=true->(JpX a)=true)/\((JpX a)=true->(JpX a)=true)/\((Z40f a)=false->(JpX a)=true)/\((JpY a b)=true->(JpY a b)=true)
  /\ ((JpY a b)=true->(JpY a b)=true)/\((Z40a a b)=false->(JpY a b)=true)/\(Z40b a b)/\(Z40b a b)/\(Z40b a b)/\(Z40b a b)/\((if(Z40a a b)=true then true else decide (b>=1440))=false->(Z40g a b)=true)/\P0
  28 [AV.bool (Z40e a b),AV.i 14] (AV.i (sWhen (Z40e a b) (14:Int)))/\AV.i (sWhen (Z40e a b) (14:Int))=AV.i (sSp a b):=by
   delta Z40a Z40b JpY JpX Z40e Z40f Z40g Z40h
   repeat' (first | apply And.intro | intro _)
   all_goals first
    | assumption
    | exact c53 _ _
    | exact c28 _ _
    | rfl
    | (simp_all;done)
 exact Jw Tryz.f38 (mkB spS 38 [] J1) key (by kernel_rfl)
theorem c39(m:Int) :P0 39 [.i m] (.i (Ja m 0 1439)):=by
 have key :
  P0 64 [AV.i m,AV.i 0,AV.i 1439] (AV.i (Ja m (0:Int) (1439:Int)))/\AV.i (Ja m (0:Int) (1439:Int))=AV.i (Ja m (0:Int) (1439:Int)):=by
   exact⟨c64 _ _ _,rfl⟩
 exact Jw Tryz.f39 (mkB spS 39 [] J1) key (by kernel_rfl)
theorem c40(a b m:Int)(ha:0<=a/\a < 1440)(hb:0<=b/\b < 1440)(hm:0<=m/\m < 1440):P0 40 [.agg [.i a,.i b],.i m] (.bool (UQ a b m)):=by
 have key :
  P0 81 [AV.agg [AV.i a,AV.i b],AV.i m] (AV.i (Qv a m))/\P0 82 [AV.agg [AV.i a,AV.i b]] (AV.i (Qv a b))/\AV.bool (decide (Qv a m < Qv a b))=AV.bool (UQ a b m):=by
   exact⟨c81 a b m (by unfold Jc;omega) (by unfold Jc;omega),c82 a b (by unfold Jc;omega) (by unfold Jc;omega),rfl⟩
 exact Jw Tryz.f40 (mkB spS 40 [] J1) key (by kernel_rfl)
def cntN(p:Nat->Bool):Nat->Nat
 | 0=>0
 | n+1=>if p n then cntN p n+1 else cntN p n
theorem c67(r:Ru)(day m:Int)(h:Jc (day-1)):P0 67 [.agg (encRu r),.i day,.i m] (.i (niI r.a r.b day m)):=by
 have key :
  (decide (r.a > r.b)=true->decide (r.a > r.b)=true)/\(decide (r.a > r.b)=true->decide (r.a > r.b)=true)/\(decide (r.a > r.b)=true->decide (r.a > r.b)=true)/\(decide (r.a > r.b)=true->decide (r.a > r.b)=true) /\
  (decide (r.a > r.b)=true->decide (r.a > r.b)=true)/\((if decide (r.a > r.b)=true then decide (m < r.b)else false)=true->Jc (day-1)/\AV.i (day-1)=AV.i (niI r.a r.b day m))/\((if decide (r.a > r.b)=true then
  decide (m < r.b)else false)=false->AV.i day=AV.i (niI r.a r.b day m)):=by
   refine⟨fun h=>h,fun h=>h,fun h=>h,fun h=>h,fun h=>h,fun h2=>⟨h,?_⟩,fun h2=>?_⟩
   . rw[niI,if_pos h2]
   rw[niI,if_neg (by rw[h2];decide)]
 exact Jw Tryz.f67 (mkB spS 67 [] J1) key (by kernel_rfl)
def JcO(c d a b:Int):Bool:=if c == a && d == b then true else(List.range (Qv c d).toNat).all fun(i:Nat)=>UQ a b ((c+i).tmod 1440)
def fa96(c d a b:Int):FA:={
 X:=Nat,xs:=List.range (Qv c d).toNat,enc:=fun i=>[.i ((c+i).tmod 1440)]
 post:=[.keep [] [1],.bound 2]
 Gh:=Unit
 st:=fun _=>⟨[(3,.elt 2 [[.i a,.i b]] 0 0),(4,.ptr 1 0),(10,.fn (.func 126) [] [.elt 2 [[.i c,.i d]] 0 0])],[(1,.box [.bool false])],2⟩
 ok:=fun pre _=>(pre.all fun i=>UQ a b ((c+i).tmod 1440))=true }
def sp96:Nat->List AV->Option AV
 | 112,[.agg [.int _ a,.int _ b]]=>some (.fn (.func 126) [] [.elt 2 [[.i a,.i b]] 0 0])
 | n,x=>spS n x
theorem c112(a b:Int) :P0 112 [.agg [.i a,.i b]] (.fn (.func 126) [] [.elt 2 [[.i a,.i b]] 0 0]):=by
 have key :
  AV.fn (Fn.func 126) [] [AV.elt 2 [[AV.i a,AV.i b]] 0 0]=AV.fn (Fn.func 126) [] [AV.elt 2 [[AV.i a,AV.i b]] 0 0]:=by
   rfl
 exact Jw Tryz.f112 (mkB spS 112 [] J1) key (by kernel_rfl)
abbrev Z41a(a:Int)(b:Int)(c:Int)(d:Int):=[(3,AV.elt 2 [[AV.i a,AV.i b]] 0 0),(4,AV.ptr 1 0),(10,AV.fn (Fn.func 126) [] [AV.elt 2 [[AV.i c,AV.i d]] 0 0])]
abbrev Z41b:=[(1,ABlk.box [AV.bool false])]
abbrev Z41c(c:Int)(x:Nat):=(c+(x:Int)).tmod (1440:Int)
theorem c83(a b c d:Int)(ha:0<=a/\a < 1440)(hb:0<=b/\b < 1440)(hc:0<=c/\c < 1440)(hd:0<=d/\d < 1440):P0 83 [.agg [.i c,.i d],.agg [.i a,.i b]] (.bool (JcO c d a b)):=by
 have key :
  ((c == a && true && (d == b && true && true))=true->AV.bool true=AV.bool (JcO c d a b))/\((c == a && true && (d == b && true && true))=false->P0 112 [AV.agg [AV.i c,AV.i d]] (AV.fn (Fn.func 126) [] [AV.elt 2 [[AV.i c,
  AV.i d]] 0 0])/\PSeq Tryz.prog G0 126 [AV.elt 2 [[AV.i c,AV.i d]] 0 0] (List.map (fa96 c d a b).enc (List.range (Qv c d).toNat))/\(∀ (x:Nat),1=1)/\(∃ (g:Unit),true=true/\AS.mk (Z41a a b c d) Z41b 2=AS.mk (Z41a a
  b c d) Z41b 2)/\(∀ (pre:List Nat) (x:Nat) (post:List Nat) (g:Unit),List.range (Qv c d).toNat=pre++x::post->(pre.all fun(i:Nat)=>UQ a b ((c+(i:Int)).tmod (1440:Int)))=true->Exit.normal =
  Exit.normal/\false=false/\P0 40 [AV.agg [AV.i a,AV.i b],AV.i (Z41c c x)] (AV.bool (UQ a b (Z41c c x)))/\((!UQ a b (Z41c c x))=true->false=false/\AV.bool false=AV.bool (JcO c d a b))/\((!UQ a b (Z41c c x)) =
  false->false=false/\∃ (g':Unit),((pre++[x]).all fun(i:Nat)=>UQ a b ((c+(i:Int)).tmod (1440:Int)))=true/\AS.mk (Z41a a b c d) Z41b 2=AS.mk (Z41a a b c d) Z41b 2))/\∀ (g:Unit),((List.range (Qv c
  d).toNat).all fun(i:Nat)=>UQ a b ((c+(i:Int)).tmod (1440:Int)))=true->AV.bool true=AV.bool (JcO c d a b)):=by
   delta Z41a Z41b Z41c
   refine⟨fun h=>?_,fun h=>⟨c112 c d,s172 c d hc hd,fun _=>rfl,⟨(),rfl,rfl⟩,fun pre x post g hr hg=>⟨rfl,rfl,c40 a b _ ha hb (JnI (by omega)),fun hx=>⟨rfl,?_⟩,fun hx=>⟨rfl,(),?_,rfl⟩⟩,fun g hg=>?_⟩⟩
   . simp only[Bool.and_true]at h
     rw[JcO,if_pos h]
   . have e:JcO c d a b=(List.range (Qv c d).toNat).all fun(i:Nat)=>UQ a b ((c+i).tmod 1440):=if_neg (by simpa using h)
     rw[e,hr,List.all_append,List.all_cons]
     rw[show UQ a b ((c+(x:Int)).tmod 1440)=false by simpa using hx]
     simp
   . rw[List.all_append,hg]
     simpa using hx
   have e:JcO c d a b=(List.range (Qv c d).toNat).all fun(i:Nat)=>UQ a b ((c+i).tmod 1440):=if_neg (by simpa using h)
   rw[e,hg]
 exact Jw Tryz.f83 ({ mkB sp96 83 [] J1 with fa:=some (fa96 c d a b),gs:=fun i=>if i.beq 3 then[.reno 4 1,.keep [3,4,10] [1],.bound 2]else[] }) key (by kernel_rfl)
def pN(ts:List Tp)(s:List UInt8)(i:Nat):Bool:=(ts.getD i default).n == s
def pS(rs:List (List UInt8))(s:List UInt8)(i:Nat):Bool:=rs.getD i default == s
def rdN(f:Nat->List UInt8):List AV->Option AV
 | [.elt _ _ i _]=>some (.str (f i))
 | _=>none
theorem c85(t:Tp) :P0 85 [.agg (encTp t)] (.str t.n):=by
 have key :
  AV.str t.n=AV.str t.n:=by
   rfl
 exact Jw Tryz.f85 (mkB spS 85 [] J1) key (by kernel_rfl)
theorem c87(n:Int) :P0 87 [.i n] (.i 0):=by
 have key :
  AV.i 0=AV.i 0:=by
   rfl
 exact Jw Tryz.f87 (mkB spS 87 [] J1) key (by kernel_rfl)
def sp97:Nat->List AV->Option AV
 | 85,[.agg (.str n::_)]=>some (.str n)
 | n,x=>spS n x
def la97(ts:List Tp):LA:={
 pre:=[.own 5 9 1,.reno 5 1,.keep [1,5,8,9,10] [1],.bound 2],post:=[.reno 5 1,.keep [1,5,8,9,10] [1],.bound 2]
 Gh:=Nat
 st:=fun i=>⟨[(1,.fn (.func 85) [] []),(5,.own 1 (((ts.take i).map Tp.n).map encS).length),(8,.sl 3 (ts.map encTp)),(9,.i (ts.map encTp).length),(10,.i i)],[(1,.buf 9 1 (((ts.take i).map Tp.n).map encS))],2⟩
 ok:=fun i=>i<=(ts.map encTp).length
 ms:=fun i=>(ts.map encTp).length-i }
abbrev JoY(g:Nat)(ts:List Tp):=List.map encS (List.map Tp.n (List.take g ts))
abbrev JgR(ts:List Tp):=List.map encTp ts
abbrev Jmy(ts:List Tp):=((JgR ts).length:Int)
abbrev Jli(ts:List Tp)(g:Nat):=ts.getD (g:Int).toNat default
theorem c84(ts:List Tp)(hl:ts.length<=1000):P0 84 [.sl 3 (ts.map encTp),.fn (.func 85) [] []] (.fresh 9 1 ((ts.map Tp.n).map encS)):=by
 have key :
  (∃ (g:Nat),g<=(JgR ts).length/\AS.mk [(1,AV.fn (Fn.func 85) [] []),(5,AV.own 1 0),(8,AV.sl 3 (JgR ts)),(9,AV.i (Jmy ts)),(10,AV.i 0)] [(1,ABlk.buf 9 1 [])] 2=AS.mk [(1,AV.fn (Fn.func 85) [] []),(5,AV.own 1
  (JoY g ts).length),(8,AV.sl 3 (JgR ts)),(9,AV.i (Jmy ts)),(10,AV.i (g:Int))] [(1,ABlk.buf 9 1 (JoY g ts))] 2)/\∀ (g:Nat),g<=(JgR ts).length->(decide ((g:Int) < (Jmy ts))=true->(0:Int)<=(g:Int) /\
  (g:Int) < (Jmy ts)/\AV.agg (Ji (JgR ts) (g:Int).toNat)=AV.agg [AV.str (Jli ts g).n,AV.i (Jli ts g).c,AV.i (Jli ts g).f]/\(JoY g ts).length+1<=9223372036854775807/\((JoY g ts).length+1) * 16 ≤
  140737488355328/\P0 85 [AV.agg [AV.str (Jli ts g).n,AV.i (Jli ts g).c,AV.i (Jli ts g).f]] (AV.str (Jli ts g).n)/\Jc ((g:Int)+1)/\∃ (g':Nat),g'<=(JgR ts).length/\(JgR ts).length-g' < (JgR ts).length-g /\
  AS.mk [(1,AV.fn (Fn.func 85) [] []),(5,AV.own 1 ((JoY g ts).length+1)),(8,AV.sl 3 (JgR ts)),(9,AV.i (Jmy ts)),(10,AV.i ((g:Int)+1))] [(1,ABlk.buf 9 1 (List.map encS (List.map Tp.n (List.take g ts))++[[AV.str
  (Jli ts g).n]]))] 2=AS.mk [(1,AV.fn (Fn.func 85) [] []),(5,AV.own 1 (List.map encS (List.map Tp.n (List.take g' ts))).length),(8,AV.sl 3 (JgR ts)),(9,AV.i (Jmy ts)),(10,AV.i (g':Int))] [(1,ABlk.buf 9 1 (List.map
  encS (List.map Tp.n (List.take g' ts))))] 2)/\(decide ((g:Int) < (Jmy ts))=false->AV.fresh 9 1 (JoY g ts)=AV.fresh 9 1 (List.map encS (List.map Tp.n ts))):=by
   delta JoY Jmy Jli JgR
   have hlm:(List.map encTp ts).length=ts.length:=Kb _
   refine⟨⟨0,by omega,rfl⟩,fun g hg=>⟨fun hd=>?_,fun hd=>?_⟩⟩
   . rw[hlm]at hd
     have hlt:=Jm hd
     have h2:=Jx encS Tp.n hlt
     have h7:(List.map encS (List.map Tp.n (List.take g ts))).length=g:=by rw[Kb,Kb,Kg];omega
     have h8:(List.map encS (List.map Tp.n (List.take (g+1) ts))).length=g+1:=by rw[Kb,Kb,Kg];omega
     refine⟨by omega,by omega,congrArg AV.agg (Jl encTp hlt),by omega,by omega,c85 (ts.getD g default),by unfold Jc;omega,g+1,by omega,by omega,?_⟩
     rw[h8,<- h2,h7]
     rfl
   rw[Jt hd hg,hlm,Kw]
 exact Jw Tryz.f84 (fzB (mkB sp97 84 [(4,1,rdL 3 encTp ts 3 true)] (fun i=>if i.beq 0 then some (la97 ts)else none))) key (by kernel_rfl)
def shR(r:Ru):Bool:=(r.ts.all fun t=>decide (t.n.length<=40)) && ((r.rs.all fun s=>decide (s.length<=40)) && (if decide ((r.ts.length:Int)<=17)then decide ((r.rs.length:Int)<=9)else false))
theorem Jds{a b:Int}(h:sSp a b=0):(0<=a/\a < 1440)/\(0<=b/\b < 1440)/\a ≠ b:=by
 have h1:=Qp (by decide) h
 have key:¬ a < 0/\¬ a>=1440/\¬ b < 0/\¬ b>=1440/\¬ a=b:=by
  refine⟨fun c=>?_,fun c=>?_,fun c=>?_,fun c=>?_,fun c=>?_⟩ <;> simp[c]at h1
 exact⟨by omega,by omega,key.2.2.2.2⟩
def rWi(a b m:Int):Bool:=if sFirst [sSp a b,Ja m 0 1439] != 0 then false else UQ a b m
abbrev Z43b(m:Int):=Ja m (0:Int) (1439:Int)
abbrev Z43a(a:Int)(b:Int)(m:Int):=[hdI [AV.i (sSp a b)],hdI [AV.i (Z43b m)]]
abbrev Z43c(a:Int)(b:Int)(m:Int):=[AV.bool (rWi a b m),AV.i (sFirst [sSp a b,Ja m (0:Int) (1439:Int)])]
theorem c18(a b m:Int) :P0 18 [.agg [.i a,.i b],.i m] (.tup [.bool (rWi a b m),.i (sFirst [sSp a b,Ja m 0 1439])]):=by
 have key :
  P0 38 [AV.agg [AV.i a,AV.i b]] (AV.i (sSp a b))/\P0 39 [AV.i m] (AV.i (Z43b m))/\P0 27 [AV.sl 1 [[AV.i (sSp a b)],[AV.i (Z43b m)]]] (AV.i (sFirst (Z43a a b m)))/\((sFirst (Z43a a b m) != 0)=true->AV.tup [AV.bool false,AV.i
  (sFirst (Z43a a b m))]=AV.tup (Z43c a b m))/\((sFirst (Z43a a b m) != 0)=false->P0 40 [AV.agg [AV.i a,AV.i b],AV.i m] (AV.bool (UQ a b m))/\AV.tup [AV.bool (UQ a b m),AV.i 0]=AV.tup (Z43c a b m)):=by
   delta Z43a Z43b Z43c
   refine⟨c38 _ _,c39 _,c27 [_,_] (by simp),fun h=>?_,fun h=>?_⟩
   . have h:(sFirst [sSp a b,Ja m 0 1439] != 0)=true:=h
     rw[rWi,if_pos h]
     rfl
   have h:(sFirst [sSp a b,Ja m 0 1439] != 0)=false:=h
   have hz:=QE h
   have hz':=hz
   rw[first_zero,first_zero,within_zero]at hz'
   have p:=Jds hz'.1
   refine⟨c40 a b m p.1 p.2.1 (by omega),?_⟩
   rw[rWi,if_neg (by rw[h];decide),hz]
 exact Jw Tryz.f18 (mkB spS 18 [] J1) key (by kernel_rfl)
def rLe(a b:Int):Int:=if sSp a b != 0 then 0 else Qv a b
def fur(r:Ru)(i:Nat):Int:=sFirst [Ja (r.ts.getD i default).c 0 64,Ja (r.ts.getD i default).f 0 100000]
abbrev JoX(r:Ru)(i:Nat):=r.ts.getD (i:Int).toNat default
abbrev Z44d(r:Ru)(i:Nat):=Ja (JoX r i).c (0:Int) (64:Int)
abbrev Z44c(r:Ru)(i:Nat):=Ja (JoX r i).f (0:Int) (100000:Int)
abbrev Z44b(r:Ru)(i:Nat):=sFirst [hdI [AV.i (Z44d r i)],hdI [AV.i (Z44c r i)]]
theorem c86(r:Ru)(i:Nat)(hi:i < r.ts.length):P0 86 [.i i,.elt 18 [encRu r] 0 0] (.i (fur r i)):=by
 have key :
  (0:Int)<=(i:Int)/\(i:Int) < ((List.map encTp r.ts).length:Int)/\(0:Int)<=(i:Int)/\(i:Int) < ((List.map encTp r.ts).length:Int)/\nth (Ji (List.map encTp r.ts) (i:Int).toNat) 1=AV.i (JoX r i).c /\
  P0 64 [AV.i (JoX r i).c,AV.i 0,AV.i 64] (AV.i (Z44d r i))/\nth (Ji (List.map encTp r.ts) (i:Int).toNat) 2=AV.i (JoX r i).f/\P0 64 [AV.i (JoX r i).f,AV.i 0,AV.i 100000] (AV.i (Z44c r i))/\P0 27 [AV.sl 1 [[AV.i (Z44d
  r i)],[AV.i (Z44c r i)]]] (AV.i (Z44b r i))/\AV.i (Z44b r i)=AV.i (fur r i):=by
   delta JoX Z44b Z44c Z44d
   have hlm:(List.map encTp r.ts).length=r.ts.length:=Kb _
   simp only[Km]
   exact⟨by omega,by omega,by omega,by omega,by rw[Jl encTp hi];rfl,c64 _ _ _,by rw[Jl encTp hi];rfl,c64 _ _ _,c27 [_,_] (by simp),rfl⟩
 exact Jw Tryz.f86 (mkB spS 86 [(1,5,rdL 3 encTp r.ts 1 false),(1,12,rdL 3 encTp r.ts 1 false)] J1) key (by kernel_rfl)
def knS(l:List (List UInt8)):List (AV × AV):=l.map fun s=>U7 s
theorem JeS{l:List (List UInt8)}{g:Nat}(hg:g < l.length)(h:VN (knS (l.take g)) (.str (l.getD g default))=false):Q6 (.str (l.getD g default)) (.bool true) (knS (l.take g))=some (knS (l.take (g+1))):=by
 unfold knS at h ⊢
 rw[QQ (fun s=>s)]at h
 rw[UN (fun s=>s) _ _ h,List.take_add_one,K8]
 simp[List.getD_eq_getElem?_getD,hg]
def fNm(l:List (List UInt8))(g:Nat->Int)(i:Nat):Int:=sFirst [sWhen (!sName (l.getD i default)) 8,sWhen (VN (knS (l.take i)) (.str (l.getD i default))) 9,g i]
def Vm(l:List (List UInt8))(g:Nat->Int):Int:=JC (fNm l g) l.length 0
def la99(l:List (List UInt8))(g:Nat->Int)(F:AV):LA:={
 pre:=[.keep [1,5,10,11,12] [2],.bound 3],post:=[.keep [1,5,10,11,12] [2],.bound 3]
 Gh:=Nat
 st:=fun i=>⟨[(1,F),(5,.ref 2),(10,.sl 1 (l.map encS)),(11,.i (l.map encS).length),(12,.i i)],[(2,.map (knS (l.take i)))],3⟩
 ok:=fun i=>i<=l.length/\∀ j,j < i->fNm l g j=0
 ms:=fun i=>l.length-i }
def sp99(g:Nat->Int):Nat->List AV->Option AV
 | 86,(.int _ i::_)=>some (.i (g i.toNat))
 | 87,_=>some (.i 0)
 | n,x=>spS n x
def atK(B:BA):BA:=Jjn 5 4 (fun a=>{ a with rdb:=rdK }) B
def F100(r:Ru):AV:=.fn (.func 86) [] [.elt 18 [encRu r] 0 0]
def F101:AV:=.fn (.func 87) [] []
abbrev Jgs(r:Ru):=List.map Tp.n r.ts
abbrev Ji8(r:Ru)(g:Nat):=(Jgs r).getD (g:Int).toNat []
abbrev JoV(g:Nat)(r:Ru):=knS (List.take g (Jgs r))
abbrev JpW(g:Nat)(r:Ru):=VN (JoV g r) (AV.str (Ji8 r g))
abbrev Z45a(r:Ru)(g:Nat):=[hdI [AV.i (sWhen (!sName (Ji8 r g)) (8:Int))],hdI [AV.i (sWhen (JpW g r) (9:Int))],hdI [AV.i (fur r (g:Int).toNat)]]
abbrev JoW(r:Ru):=List.map encS (Jgs r)
abbrev Jmx(r:Ru):=((JoW r).length:Int)
abbrev Z45h(g:Nat)(r:Ru):=(g<=(Jgs r).length/\∀ (j:Nat),j < g->fNm (Jgs r) (fur r) j=(0:Int))
abbrev Z45i(r:Ru):=[AV.elt 18 [(encRu r)] 0 0]
theorem c59a(r:Ru)(hl:r.ts.length<=1000)(hn:∀ t,t ∈ r.ts->t.n.length<=1000):P0 59 [.sl 1 ((r.ts.map Tp.n).map encS),F100 r] (.i (Vm (r.ts.map Tp.n) (fur r))):=by
 have key :
  (∃ (g:Nat),(Z45h g r)/\AS.mk [(1,AV.fn (Fn.func 86) [] (Z45i r)),(5,AV.ref 2),(10,AV.sl 1 (JoW r)),(11,AV.i (Jmx r)),(12,AV.i 0)] [(2,ABlk.map [])] 3=AS.mk [(1,AV.fn (Fn.func 86) [] (Z45i r)),(5,AV.ref 2),(10,
  AV.sl 1 (JoW r)),(11,AV.i (Jmx r)),(12,AV.i (g:Int))] [(2,ABlk.map (JoV g r))] 3)/\∀ (g:Nat),(Z45h g r)->(decide ((g:Int) < (Jmx r))=true->(0:Int)<=(g:Int)/\(g:Int) < (Jmx r)/\nth (Ji (JoW r)
  (g:Int).toNat) 0=AV.str (Ji8 r g)/\(J7 (AV.str (Ji8 r g)) (JoV g r)).isSome=true/\P0 42 [AV.str (Ji8 r g)] (AV.i (sWhen (!sName (Ji8 r g)) (8:Int)))/\Um false (AV.bool false) (J7 (AV.str (Ji8 r g)) (JoV
  g r))=AV.bool (JpW g r)/\P0 28 [AV.bool (JpW g r),AV.i 9] (AV.i (sWhen (JpW g r) (9:Int)))/\P0 86 [AV.i (g:Int),AV.elt 18 [(encRu r)] 0 0] (AV.i (fur r (g:Int).toNat))/\P0 27 [AV.sl 1 [[AV.i (sWhen (!sName (Ji8 r
  g)) (8:Int))],[AV.i (sWhen (JpW g r) (9:Int))],[AV.i (fur r (g:Int).toNat)]]] (AV.i (sFirst (Z45a r g)))/\((sFirst (Z45a r g) != 0)=true->AV.i (sFirst (Z45a r g))=AV.i (Vm (Jgs r) (fur r)))/\((sFirst (Z45a r g)
  != 0)=false->(Q6 (AV.str (Ji8 r g)) (AV.bool true) (JoV g r)).isSome=true/\Jc ((g:Int)+1)/\∃ (g':Nat),(g'<=(Jgs r).length/\∀ (j:Nat),j < g'->fNm (Jgs r) (fur r) j=(0:Int))/\(Jgs r).length-g' <
  (Jgs r).length-g/\AS.mk [(1,AV.fn (Fn.func 86) [] (Z45i r)),(5,AV.ref 2),(10,AV.sl 1 (JoW r)),(11,AV.i (Jmx r)),(12,AV.i ((g:Int)+1))] [(2,ABlk.map ((Q6 (AV.str (Ji8 r g)) (AV.bool true) (JoV g r)).getD
  []))] 3=AS.mk [(1,AV.fn (Fn.func 86) [] (Z45i r)),(5,AV.ref 2),(10,AV.sl 1 (JoW r)),(11,AV.i (Jmx r)),(12,AV.i (g':Int))] [(2,ABlk.map (knS (List.take g' (Jgs r))))] 3))/\(decide ((g:Int) < (Jmx r))=false →
  AV.i 0=AV.i (Vm (Jgs r) (fur r))):=by
   delta Z45a Jgs Ji8 Jmx JpW JoW JoV Z45h Z45i
   have hlm:(List.map encS (List.map Tp.n r.ts)).length=(List.map Tp.n r.ts).length:=Kb _
   have hlr:(List.map Tp.n r.ts).length<=1000:=by rw[Kb];exact hl
   have hnr:∀ s,s ∈ (List.map Tp.n r.ts)->s.length<=1000:=fun s hs=>by obtain⟨t,ht,rfl⟩:=List.mem_map.1 hs;exact hn t ht
   refine⟨⟨0,⟨by omega,by intros;omega⟩,rfl⟩,fun g ⟨hg,ha⟩=>⟨fun hd=>?_,fun hd=>?_⟩⟩
   . rw[hlm]at hd
     have hlt:=Jm hd
     have hput:fNm (List.map Tp.n r.ts) (fur r) g=0->Q6 (.str ((List.map Tp.n r.ts).getD g default)) (.bool true) (knS ((List.map Tp.n r.ts).take g))=some (knS ((List.map Tp.n r.ts).take (g+1))):=fun hz=>by
      unfold fNm at hz
      rw[first_zero,first_zero]at hz
      exact JeS hlt (Qp (by decide) hz.2.1)
     refine⟨by omega,by omega,by rw[show Ji (List.map encS (List.map Tp.n r.ts)) ((g:Int)).toNat=encS ((List.map Tp.n r.ts).getD g default)from Jl encS hlt];rfl,QJ (fun s=>s) _ _,c42 ((List.map Tp.n r.ts).getD g default) (by have:=hnr _ (Js hlt);omega),Xj (fun s=>s) _ _,c28 _ _,c86 r g (by rw[Kb]at hlt;exact hlt),c27 [_,_,_] (by simp),fun hx=>?_,fun hx=>?_⟩
     . have hne:fNm (List.map Tp.n r.ts) (fur r) g ≠ 0:=Uv hx
       refine Xd ?_
       unfold Vm
       rw[J4 hlt ha hne]
       rfl
     have hz:fNm (List.map Tp.n r.ts) (fur r) g=0:=QE hx
     have hp:=hput hz
     refine⟨by rw[show Q6 (AV.str ((List.map Tp.n r.ts).getD ((g:Int)).toNat [])) (AV.bool true) (knS (List.take g (List.map Tp.n r.ts)))=_ from hp];rfl,by unfold Jc;omega,g+1,⟨hlt,fun j hj=>?_⟩,by omega,?_⟩
     . by_cases e:j=g
       . rw[e];exact hz
       exact ha j (by omega)
     rw[show Q6 (AV.str ((List.map Tp.n r.ts).getD ((g:Int)).toNat [])) (AV.bool true) (knS (List.take g (List.map Tp.n r.ts)))=_ from hp]
     rfl
   rw[hlm]at hd
   have e:=Jt hd hg
   subst e
   unfold Vm
   rw[scan_end ha]
 exact Jw Tryz.f59 (atK (mkB (sp99 (fur r)) 59 [(4,2,rdL 1 encS (r.ts.map Tp.n) 1 false)] (fun i=>if i.beq 0 then some (la99 (r.ts.map Tp.n) (fur r) (F100 r))else none))) key (by kernel_rfl)
abbrev Ji7(l:List (List UInt8))(g:Nat):=l.getD (g:Int).toNat []
abbrev JpV(g:Nat)(l:List (List UInt8)):=VN (knS (List.take g l)) (AV.str (Ji7 l g))
abbrev Z46a(l:List (List UInt8))(g:Nat):=[hdI [AV.i (sWhen (!sName (Ji7 l g)) (8:Int))],hdI [AV.i (sWhen (JpV g l) (9:Int))],hdI [AV.i 0]]
abbrev Jmw(l:List (List UInt8)):=((List.map encS l).length:Int)
abbrev Z46e(g:Nat)(l:List (List UInt8)):=(g<=l.length/\∀ (j:Nat),j < g->fNm l (fun(x:Nat)=>(0:Int)) j=(0:Int))
theorem c59b(l:List (List UInt8))(hl:l.length<=1000)(hn:∀ s,s ∈ l->s.length<=1000):P0 59 [.sl 1 (l.map encS),F101] (.i (Vm l fun _=>0)):=by
 have key :
  (∃ (g:Nat),(Z46e g l)/\AS.mk [(1,AV.fn (Fn.func 87) [] []),(5,AV.ref 2),(10,AV.sl 1 (List.map encS l)),(11,AV.i (Jmw l)),(12,AV.i 0)] [(2,ABlk.map [])] 3=AS.mk [(1,AV.fn (Fn.func 87) [] []),(5,AV.ref 2),(10,
  AV.sl 1 (List.map encS l)),(11,AV.i (Jmw l)),(12,AV.i (g:Int))] [(2,ABlk.map (knS (List.take g l)))] 3)/\∀ (g:Nat),(Z46e g l)->(decide ((g:Int) < (Jmw l))=true->(0:Int)<=(g:Int)/\(g:Int) < (Jmw l) /\
  nth (Ji (List.map encS l) (g:Int).toNat) 0=AV.str (Ji7 l g)/\(J7 (AV.str (Ji7 l g)) (knS (List.take g l))).isSome=true/\P0 42 [AV.str (Ji7 l g)] (AV.i (sWhen (!sName (Ji7 l g)) (8:Int)))/\Um false (AV.bool
  false) (J7 (AV.str (Ji7 l g)) (knS (List.take g l)))=AV.bool (JpV g l)/\P0 28 [AV.bool (JpV g l),AV.i 9] (AV.i (sWhen (JpV g l) (9:Int)))/\P0 87 [AV.i (g:Int)] (AV.i 0)/\P0 27 [AV.sl 1 [[AV.i (sWhen (!sName (Ji7
  l g)) (8:Int))],[AV.i (sWhen (JpV g l) (9:Int))],[AV.i 0]]] (AV.i (sFirst (Z46a l g)))/\((sFirst (Z46a l g) != 0)=true->AV.i (sFirst (Z46a l g))=AV.i (Vm l fun(x:Nat)=>(0:Int)))/\((sFirst (Z46a l g) != 0) =
  false->(Q6 (AV.str (Ji7 l g)) (AV.bool true) (knS (List.take g l))).isSome=true/\Jc ((g:Int)+1)/\∃ (g':Nat),(g'<=l.length/\∀ (j:Nat),j < g'->fNm l (fun(x:Nat)=>(0:Int)) j=(0:Int))/\l.length-g'
  < l.length-g/\AS.mk [(1,AV.fn (Fn.func 87) [] []),(5,AV.ref 2),(10,AV.sl 1 (List.map encS l)),(11,AV.i (Jmw l)),(12,AV.i ((g:Int)+1))] [(2,ABlk.map ((Q6 (AV.str (Ji7 l g)) (AV.bool true) (knS (List.take g
  l))).getD []))] 3=AS.mk [(1,AV.fn (Fn.func 87) [] []),(5,AV.ref 2),(10,AV.sl 1 (List.map encS l)),(11,AV.i (Jmw l)),(12,AV.i (g':Int))] [(2,ABlk.map (knS (List.take g' l)))] 3))/\(decide ((g:Int) < (Jmw l)) =
  false->AV.i 0=AV.i (Vm l fun(x:Nat)=>(0:Int))):=by
   delta Z46a Ji7 Jmw JpV Z46e
   have hlm:(List.map encS (l)).length=(l).length:=Kb _
   have hlr:(l).length<=1000:=hl
   have hnr:∀ s,s ∈ (l)->s.length<=1000:=hn
   refine⟨⟨0,⟨by omega,by intros;omega⟩,rfl⟩,fun g ⟨hg,ha⟩=>⟨fun hd=>?_,fun hd=>?_⟩⟩
   . rw[hlm]at hd
     have hlt:=Jm hd
     have hput:fNm (l) (fun _=>0) g=0->Q6 (.str ((l).getD g default)) (.bool true) (knS ((l).take g))=some (knS ((l).take (g+1))):=fun hz=>by
      unfold fNm at hz
      rw[first_zero,first_zero]at hz
      exact JeS hlt (Qp (by decide) hz.2.1)
     refine⟨by omega,by omega,by rw[show Ji (List.map encS (l)) ((g:Int)).toNat=encS ((l).getD g default)from Jl encS hlt];rfl,QJ (fun s=>s) _ _,c42 ((l).getD g default) (by have:=hnr _ (Js hlt);omega),Xj (fun s=>s) _ _,c28 _ _,c87 _,c27 [_,_,_] (by simp),fun hx=>?_,fun hx=>?_⟩
     . have hne:fNm (l) (fun _=>0) g ≠ 0:=Uv hx
       refine Xd ?_
       unfold Vm
       rw[J4 hlt ha hne]
       rfl
     have hz:fNm (l) (fun _=>0) g=0:=QE hx
     have hp:=hput hz
     refine⟨by rw[show Q6 (AV.str ((l).getD ((g:Int)).toNat [])) (AV.bool true) (knS (List.take g (l)))=_ from hp];rfl,by unfold Jc;omega,g+1,⟨hlt,fun j hj=>?_⟩,by omega,?_⟩
     . by_cases e:j=g
       . rw[e];exact hz
       exact ha j (by omega)
     rw[show Q6 (AV.str ((l).getD ((g:Int)).toNat [])) (AV.bool true) (knS (List.take g (l)))=_ from hp]
     rfl
   rw[hlm]at hd
   have e:=Jt hd hg
   subst e
   unfold Vm
   rw[scan_end ha]
 exact Jw Tryz.f59 (atK (mkB (sp99 fun _=>0) 59 [(4,2,rdL 1 encS l 1 false)] (fun i=>if i.beq 0 then some (la99 l (fun _=>0) F101)else none))) key (by kernel_rfl)
def e1(r:Ru):Int:=sFirst [sSp r.a r.b,sSp r.c r.d]
def e2(r:Ru):Int:=sFirst [sWhen (!JcO r.c r.d r.a r.b) 21,sWhen (decide ((r.ts.length:Int) > 16)) 5]
def e4(r:Ru):Int:=sFirst [Ja r.q 0 100000,sWhen (decide ((r.rs.length:Int) > 8)) 5]
def e5(r:Ru):Int:=sFirst [Vm r.rs fun _=>0,Ja r.dl 0 60,Ja r.fi 0 100000,Ja r.ra 1 60]
def Wz(r:Ru):Int:=if e1 r != 0 then e1 r else if e2 r != 0 then e2 r else if Vm (r.ts.map Tp.n) (fur r) != 0 then Vm (r.ts.map Tp.n) (fur r)else if e4 r != 0 then e4 r else e5 r
def sp29(r:Ru):Nat->List AV->Option AV
 | 83,_=>some (.bool (JcO r.c r.d r.a r.b))
 | 84,_=>some (.sl 1 ((r.ts.map Tp.n).map encS))
 | 59,[_,.fn (.func 86) _ _]=>some (.i (Vm (r.ts.map Tp.n) (fur r)))
 | 59,_=>some (.i (Vm r.rs fun _=>0))
 | n,x=>spS n x
abbrev Z47g(r:Ru):=sWhen (!JcO r.c r.d r.a r.b) (21:Int)
abbrev Z47d(r:Ru):=decide (((List.map encTp r.ts).length:Int) > 16)
abbrev Z47a(r:Ru):=[hdI [AV.i (Z47g r)],hdI [AV.i (sWhen (Z47d r) (5:Int))]]
abbrev Z47i(r:Ru):=Ja r.q (0:Int) (100000:Int)
abbrev Z47e(r:Ru):=decide (((List.map encS r.rs).length:Int) > 8)
abbrev Z47b(r:Ru):=[hdI [AV.i (Z47i r)],hdI [AV.i (sWhen (Z47e r) (5:Int))]]
abbrev Z47j(r:Ru):=Vm r.rs fun(x:Nat)=>(0:Int)
abbrev Z47l(r:Ru):=Ja r.dl (0:Int) (60:Int)
abbrev Z47h(r:Ru):=Ja r.fi (0:Int) (100000:Int)
abbrev Z47m(r:Ru):=Ja r.ra (1:Int) (60:Int)
abbrev Z47c(r:Ru):=sFirst [hdI [AV.i (Z47j r)],hdI [AV.i (Z47l r)],hdI [AV.i (Z47h r)],hdI [AV.i (Z47m r)]]
abbrev Z47f(r:Ru):=[hdI [AV.i (sSp r.a r.b)],hdI [AV.i (sSp r.c r.d)]]
abbrev JoU(r:Ru):=List.map Tp.n r.ts
theorem c41(r:Ru)(hl:r.ts.length<=1000)(hm:r.rs.length<=1000)(hn:∀ t,t ∈ r.ts->t.n.length<=1000)(hs:∀ s,s ∈ r.rs->s.length<=1000):P0 41 [.agg (encRu r)] (.i (Wz r)):=by
 have key :
  P0 38 [AV.agg [AV.i r.a,AV.i r.b]] (AV.i (sSp r.a r.b))/\P0 38 [AV.agg [AV.i r.c,AV.i r.d]] (AV.i (sSp r.c r.d))/\P0 27 [AV.sl 1 [[AV.i (sSp r.a r.b)],[AV.i (sSp r.c r.d)]]] (AV.i (sFirst (Z47f r)))/\((sFirst (Z47f r) != 0) =
  true->AV.i (sFirst (Z47f r))=AV.i (Wz r))/\((sFirst (Z47f r) != 0)=false->P0 83 [AV.agg [AV.i r.c,AV.i r.d],AV.agg [AV.i r.a,AV.i r.b]] (AV.bool (JcO r.c r.d r.a r.b))/\P0 28 [AV.bool !JcO r.c r.d r.a r.b,AV.i 21]
  (AV.i (Z47g r))/\P0 28 [AV.bool (Z47d r),AV.i 5] (AV.i (sWhen (Z47d r) (5:Int)))/\P0 27 [AV.sl 1 [[AV.i (Z47g r)],[AV.i (sWhen (Z47d r) (5:Int))]]] (AV.i (sFirst (Z47a r)))/\((sFirst (Z47a r) != 0)=true->AV.i (sFirst
  (Z47a r))=AV.i (Wz r))/\((sFirst (Z47a r) != 0)=false->P0 84 [AV.sl 3 (List.map encTp r.ts),AV.fn (Fn.func 85) [] []] (AV.sl 1 (List.map encS (JoU r)))/\P0 59 [AV.sl 1 (List.map encS (JoU r)),AV.fn (Fn.func 86) []
  [AV.elt 18 [(encRu r)] 0 0]] (AV.i (Vm (JoU r) (fur r)))/\((Vm (JoU r) (fur r) != 0)=true->AV.i (Vm (JoU r) (fur r))=AV.i (Wz r))/\((Vm (JoU r) (fur r) != 0)=false->P0 64 [AV.i r.q,AV.i 0,AV.i 100000]
  (AV.i (Z47i r))/\P0 28 [AV.bool (Z47e r),AV.i 5] (AV.i (sWhen (Z47e r) (5:Int)))/\P0 27 [AV.sl 1 [[AV.i (Z47i r)],[AV.i (sWhen (Z47e r) (5:Int))]]] (AV.i (sFirst (Z47b r)))/\((sFirst (Z47b r) != 0)=true->AV.i (sFirst
  (Z47b r))=AV.i (Wz r))/\((sFirst (Z47b r) != 0)=false->P0 59 [AV.sl 1 (List.map encS r.rs),AV.fn (Fn.func 87) [] []] (AV.i (Z47j r))/\P0 64 [AV.i r.dl,AV.i 0,AV.i 60] (AV.i (Z47l r))/\P0 64 [AV.i r.fi,AV.i 0,AV.i
  100000] (AV.i (Z47h r))/\P0 64 [AV.i r.ra,AV.i 1,AV.i 60] (AV.i (Z47m r))/\P0 27 [AV.sl 1 [[AV.i (Z47j r)],[AV.i (Z47l r)],[AV.i (Z47h r)],[AV.i (Z47m r)]]] (AV.i (Z47c r))/\AV.i (Z47c r)=AV.i (Wz r))))):=by
   delta Z47a Z47b Z47c Z47d Z47e Z47f Z47g Z47h Z47i Z47j JoU Z47l Z47m
   simp only[Kb]
   refine⟨c38 _ _,c38 _ _,c27 [_,_] (by simp),fun h=>?_,fun h=>?_⟩
   . have h:(e1 r != 0)=true:=h
     rw[Wz,if_pos h]
     rfl
   have h:(e1 r != 0)=false:=h
   have hz:=QE h
   unfold e1 at hz
   rw[first_zero,first_zero]at hz
   have p:=Jds hz.1
   have q:=Jds hz.2.1
   have n1:¬ (e1 r != 0)=true:=by rw[h];decide
   refine⟨c83 r.a r.b r.c r.d p.1 p.2.1 q.1 q.2.1,c28 _ _,c28 _ _,c27 [_,_] (by simp),fun h2=>?_,fun h2=>?_⟩
   . have h2:(e2 r != 0)=true:=h2
     rw[Wz,if_neg n1,if_pos h2]
     rfl
   have h2:(e2 r != 0)=false:=h2
   have n2:¬ (e2 r != 0)=true:=by rw[h2];decide
   refine⟨(c84 r.ts hl).un,c59a r hl hn,fun h3=>?_,fun h3=>⟨c64 _ _ _,c28 _ _,c27 [_,_] (by simp),fun h4=>?_,fun h4=>⟨c59b r.rs hm hs,c64 _ _ _,c64 _ _ _,c64 _ _ _,c27 [_,_,_,_] (by simp),?_⟩⟩⟩
   . rw[Wz,if_neg n1,if_neg n2,if_pos h3]
   . have h4:(e4 r != 0)=true:=h4
     rw[Wz,if_neg n1,if_neg n2,if_neg (by rw[h3];decide),if_pos h4]
     rfl
   have h4:(e4 r != 0)=false:=h4
   rw[Wz,if_neg n1,if_neg n2,if_neg (by rw[h3];decide),if_neg (by rw[h4];decide)]
   rfl
 exact Jw Tryz.f41 (fzB (mkB (sp29 r) 41 [] J1)) key (by kernel_rfl)
def eNi(r:Ru)(day m:Int):Int:=sFirst [Wz r,Ja day 1 100000,Ja m 0 1439]
def rNi(r:Ru)(day m:Int):Int:=if eNi r day m != 0 then 0 else if(!UQ r.a r.b m)then 0 else niI r.a r.b day m
def xNi(r:Ru)(day m:Int):Int:=if eNi r day m != 0 then eNi r day m else if(!UQ r.a r.b m)then 7 else 0
def fM(r:Ru)(m:Nat):Int:=if(if wiR r.c r.d m then !wiR r.a r.b m else false)then 21 else 0
def fT(r:Ru)(i:Nat):Int:=sFirst [sWhen (!sName (r.ts.getD i default).n) 8,sWhen (decide (fiI (pN r.ts (r.ts.getD i default).n) i>=0)) 9,Ja (r.ts.getD i default).c 0 64,Ja (r.ts.getD i default).f 0 100000]
def fS(r:Ru)(i:Nat):Int:=sFirst [sWhen (!sName (r.rs.getD i default)) 8,sWhen (decide (fiN (pS r.rs (r.rs.getD i default)) i < i)) 9]
def e6(r:Ru):Int:=sFirst [Ja r.dl 0 60,Ja r.fi 0 100000,Ja r.ra 1 60]
def chkR(r:Ru):Int:=if e1 r != 0 then e1 r else JC (fM r) 1440 (if decide ((r.ts.length:Int) > 16)then 5 else JC (fT r) r.ts.length (if e4 r != 0 then e4 r else JC (fS r) r.rs.length (e6 r)))
def la25(r:Ru)(b:Nat):Option LA :=
 if b.beq 0 then some {
  pre:=[.keep [1,4] [],.bound 1],post:=[.keep [1,4] [],.bound 1]
  Gh:=Nat
  st:=fun i=>⟨[(1,.elt 18 [encRu r] 0 0),(4,.i i)],[],1⟩
  ok:=fun i=>i<=1440/\∀ j,j < i->fM r j=0
  ms:=fun i=>1440-i }
 else if b.beq 2 then some {
  pre:=[.keep [1,5] [],.bound 1],post:=[.keep [1,5] [],.bound 1]
  Gh:=Nat
  st:=fun i=>⟨[(1,.elt 18 [encRu r] 0 0),(5,.i i)],[],1⟩
  ok:=fun i=>i<=r.ts.length/\∀ j,j < i->fT r j=0
  ms:=fun i=>r.ts.length-i }
 else some {
  pre:=[.keep [1,9] [],.bound 1],post:=[.keep [1,9] [],.bound 1]
  Gh:=Nat
  st:=fun i=>⟨[(1,.elt 18 [encRu r] 0 0),(9,.i i)],[],1⟩
  ok:=fun i=>i<=r.rs.length/\∀ j,j < i->fS r j=0
  ms:=fun i=>r.rs.length-i }
theorem JcE{a m:Int}(ha:0<=a/\a < 1440)(hm:0<=m/\m < 1440):(m>=a->Qv a m=m-a)/\(m < a->Qv a m=m-a+1440):=by
 unfold Qv
 rw[Int.tmod_eq_emod_of_nonneg (by omega)]
 exact⟨fun h=>by omega,fun h=>by omega⟩
theorem U8{a b m:Int}(ha:0<=a/\a < 1440)(hb:0<=b/\b < 1440)(hab:a ≠ b)(hm:0<=m/\m < 1440):UQ a b m=wiR a b m:=by
 have h1:=JcE ha hm
 have h2:=JcE ha hb
 unfold UQ wiR
 by_cases c1:a < b <;> by_cases c2:m>=a <;> by_cases c3:m < b
 all_goals
  simp only[c1,c2,c3,decide_true,decide_false,if_true,if_false,Bool.false_eq_true]
  first
   | (refine decide_eq_true ?_;omega)
   | (refine decide_eq_false ?_;omega)
theorem Jl1{p:Nat->Bool}:∀ {n j:Nat},j < fiN p n->p j=false
 | 0,j,h=>absurd h (K6 j)
 | n+1,j,h=>by
  simp only[fiN]at h
  split at h
  . exact Jl1 h
  rename_i h1
  split at h
  . exact Wa h1 j h
  rename_i h2
  by_cases e:j=n
  . rw[e];simpa using h2
  exact Wa h1 j (by omega)
theorem XF(fin:Int):∀ l:List Int,sFirst (l++[fin])=if sFirst l != 0 then sFirst l else fin
 | []=>by
  simp[sFirst]
  intro h
  exact h.symm
 | x::l=>by
  have ih:=XF fin l
  simp only[List.cons_append,sFirst]
  by_cases h:x=0
  . subst h
    simpa using ih
  simp[h]
theorem JeM(f:Nat->Int)(n:Nat)(fin:Int):JC f n fin=if JC f n 0 != 0 then JC f n 0 else fin:=by
 unfold JC
 rw[Q4,XF]
theorem Jkw{c d a b:Int}(hc:0<=c/\c < 1440)(hd:0<=d/\d < 1440)(hcd:c ≠ d)(ha:0<=a/\a < 1440)(hb:0<=b/\b < 1440)(hab:a ≠ b)(h:JcO c d a b=true)(m:Nat)(hm:m < 1440)(hw:wiR c d m=true):wiR a b m=true:=by
 unfold JcO at h
 split at h
 . rename_i h1
   simp only[Kd,beq_iff_eq]at h1
   rw[<- h1.1,<- h1.2]
   exact hw
 have hmm:(0:Int)<=m/\(m:Int) < 1440:=by omega
 rw[<- U8 hc hd hcd hmm]at hw
 have hlt:Qv c m < Qv c d:=Ky hw
 have h2:=JcE hc hmm
 have h0:0<=Qv c m:=by
  by_cases c1:(m:Int)>=c
  . rw[h2.1 c1];omega
  rw[h2.2 (by omega)];omega
 have:=List.all_eq_true.1 h (Qv c m).toNat (List.mem_range.2 (by omega))
 have e:(c+((Qv c m).toNat:Int)).tmod 1440=m:=by
  rw[Int.tmod_eq_emod_of_nonneg (by omega)]
  by_cases c1:(m:Int)>=c
  . have:=h2.1 c1;omega
  have:=h2.2 (by omega);omega
 rw[e,U8 ha hb hab hmm]at this
 exact this
theorem Jic{c d a b:Int}(hc:0<=c/\c < 1440)(hd:0<=d/\d < 1440)(hcd:c ≠ d)(ha:0<=a/\a < 1440)(hb:0<=b/\b < 1440)(hab:a ≠ b)(h:JcO c d a b=false):∃ m:Nat,m < 1440/\wiR c d m=true/\wiR a b m=false:=by
 unfold JcO at h
 split at h
 . cases h
 obtain⟨i,hi,hx⟩:=List.all_eq_false.1 h
 have hi:=List.mem_range.1 hi
 have hm:=JnI (n:=c+(i:Int)) (by omega)
 have hx:UQ a b ((c+(i:Int)).tmod 1440)=false:=by simpa using hx
 rw[U8 ha hb hab hm]at hx
 have e:(((c+(i:Int)).tmod 1440).toNat:Int)=(c+(i:Int)).tmod 1440:=by omega
 refine⟨((c+(i:Int)).tmod 1440).toNat,by omega,?_,by rw[e];exact hx⟩
 rw[e,<- U8 hc hd hcd hm]
 refine decide_eq_true ?_
 have h2:=JcE hc hm
 have h3:=JcE hc hd
 have hlt:Qv c d<=1440:=by
  by_cases c1:d>=c
  . rw[h3.1 c1];omega
  rw[h3.2 (by omega)];omega
 rw[Int.tmod_eq_emod_of_nonneg (by omega)]at h2 ⊢
 by_cases c1:(c+(i:Int)) % 1440>=c
 . rw[h2.1 c1];omega
 rw[h2.2 (by omega)];omega
theorem JkE{l:List (List UInt8)}{s:List UInt8}{i:Nat}(hi:i<=l.length):VN (knS (l.take i)) (.str s)=decide (fiN (pS l s) i < i):=by
 unfold knS
 rw[QQ (fun s=>s),Vx hi]
 rfl
theorem Jg5{ts:List Tp}{i:Nat}(h:i < ts.length):(ts.map Tp.n).getD i default=(ts.getD i default).n:=by
 rw[Ka,Ka,Kk,Kj h]
 rfl
theorem first3(a b x y:Int):sFirst [a,b,sFirst [x,y]]=sFirst [a,b,x,y]:=by
 simp only[sFirst]
 by_cases h:x=0 <;> by_cases h2:y=0 <;> simp[h,h2]
theorem first2(a b:Int):sFirst [a,b,0]=sFirst [a,b]:=by
 simp[sFirst]
theorem Jom(r:Ru):Vm (r.ts.map Tp.n) (fur r)=JC (fT r) r.ts.length 0:=by
 unfold Vm
 rw[Kb]
 refine Qq fun k hk=>?_
 unfold fNm fT fur
 rw[Jg5 hk,JkE (by rw[Kb];omega),Xm (p:=pS (r.ts.map Tp.n) _) (q:=pN r.ts _) (fun j hj=>by unfold pS pN;rw[Jg5 (by omega)]),<- fiI_dec,first3]
theorem Jon(r:Ru):(Vm r.rs fun _=>0)=JC (fS r) r.rs.length 0:=by
 unfold Vm
 refine Qq fun k hk=>?_
 unfold fNm fS
 rw[JkE (by omega),first2]
theorem Jl4(r:Ru):Wz r=chkR r:=by
 unfold Wz chkR
 by_cases n1:(e1 r != 0)=true
 . rw[if_pos n1,if_pos n1]
 rw[if_neg n1,if_neg n1]
 have hz:e1 r=0:=by simpa using n1
 unfold e1 at hz
 rw[first_zero,first_zero]at hz
 have p:=Jds hz.1
 have q:=Jds hz.2.1
 cases hi:JcO r.c r.d r.a r.b with
 | false =>
  obtain⟨m,hm,h1,h2⟩:=Jic q.1 q.2.1 q.2.2 p.1 p.2.1 p.2.2 hi
  have e2':e2 r=21:=by unfold e2;rw[hi];rfl
  rw[e2',if_pos (by decide)]
  have hx:(fM r m != 0)=true:=by unfold fM;rw[h1,h2];rfl
  have hlt:=fi_ex (p:=fun m=>fM r m != 0) hm hx
  have hh:(fM r (fiN (fun m=>fM r m != 0) 1440) != 0)=true:=Ja5 (p:=fun m=>fM r m != 0) hlt
  rw[J4 hlt (fun j hj=>QE (Jl1 (p:=fun m=>fM r m != 0) hj)) (Uv hh)]
  have hne:=Uv hh
  generalize fiN (fun m=>fM r m != 0) 1440=i at hne
  unfold fM at hne ⊢
  generalize (if wiR r.c r.d (i:Int)=true then !wiR r.a r.b (i:Int)else false)=q at hne ⊢
  cases q with
  | false=>exact absurd rfl hne
  | true=>rfl
 | true =>
  have hM:∀ j,j < 1440->fM r j=0:=fun j hj=>by
   unfold fM
   cases hw:wiR r.c r.d j with
   | false=>rfl
   | true=>rw[Jkw q.1 q.2.1 q.2.2 p.1 p.2.1 p.2.2 hi j hj hw];rfl
  rw[scan_end hM]
  have e2':e2 r=sWhen (decide ((r.ts.length:Int) > 16)) 5:=by
   unfold e2
   rw[hi]
   cases decide ((r.ts.length:Int) > 16) <;> rfl
  rw[e2',Jom]
  cases decide ((r.ts.length:Int) > 16)with
  | true=>rfl
  | false =>
   rw[if_neg (show ¬ (sWhen false 5 != 0)=true by decide),if_neg (show ¬ (false=true) by decide),JeM (fT r) r.ts.length (if(e4 r != 0)=true then e4 r else JC (fS r) r.rs.length (e6 r))]
   by_cases n2:(JC (fT r) r.ts.length 0 != 0)=true
   . rw[if_pos n2,if_pos n2]
   rw[if_neg n2,if_neg n2]
   by_cases n3:(e4 r != 0)=true
   . rw[if_pos n3,if_pos n3]
   rw[if_neg n3,if_neg n3,JeM (fS r) r.rs.length (e6 r),<- Jon]
   unfold e5 e6
   generalize (Vm r.rs fun _=>0)=x
   by_cases hx:x=0
   . subst hx;simp[sFirst]
   simp[sFirst,hx]
structure Mv where
 fl:List UInt8
 al:List UInt8
 ty:List UInt8
 day:Int
 mi:Int
 deriving Inhabited
def encMv(m:Mv):List AV:=[.str m.fl,.str m.al,.str m.ty,.i m.day,.i m.mi]
structure Dt where
 m:Mv
 k:Tp
 dk:Bool
 ni:Int
 deriving Inhabited
def JS(d:Dt):List AV:=[.str d.m.fl,.str d.m.al,.str d.m.ty,.i d.m.day,.i d.m.mi,.str d.k.n,.i d.k.c,.i d.k.f,.bool d.dk,.i d.ni]
def WI(ts:List Tp)(s:List UInt8):Tp:=if fiN (pN ts s) ts.length < ts.length then ts.getD (fiN (pN ts s) ts.length) default else⟨[],0,0⟩
theorem c105(t:Tp)(s:List UInt8) :P0 105 [.agg (encTp t),.elt 1 [[.str s]] 0 0] (.bool (t.n == s)):=by
 have key :
  AV.bool (t.n == s)=AV.bool (t.n == s):=by
   rfl
 exact Jw Tryz.f105 (mkB spS 105 [] J1) key (by kernel_rfl)
def sp161:Nat->List AV->Option AV
 | 105,[.agg (.str n::_),.elt _ [[.str s]] _ _]=>some (.bool (n == s))
 | n,x=>spS n x
def la161(ts:List Tp)(s:List UInt8):LA:={
 pre:=[.keep [0,1,7,8] [],.bound 1],post:=[.keep [0,1,7,8] [],.bound 1]
 Gh:=Nat
 st:=fun i=>⟨[(0,.sl 3 (ts.map encTp)),(1,.fn (.func 105) [] [.elt 1 [[.str s]] 0 0]),(7,.i ts.length),(8,.i i)],[],1⟩
 ok:=fun i=>i<=ts.length/\∀ j,j < i->pN ts s j=false
 ms:=fun i=>ts.length-i }
abbrev Jju(ts:List Tp)(g:Nat):=ts.getD (g:Int).toNat default
abbrev Jmv(ts:List Tp):=List.map encTp ts
abbrev Z48c(s:List UInt8):=[AV.elt 1 [[AV.str s]] 0 0]
theorem c104(ts:List Tp)(s:List UInt8)(hl:ts.length<=1000):P0 104 [.sl 3 (ts.map encTp),.fn (.func 105) [] [.elt 1 [[.str s]] 0 0]] (.i (fiI (pN ts s) ts.length)):=by
 have key :
  (∃ (g:Nat),(g<=ts.length/\∀ (j:Nat),j < g->pN ts s j=false)/\AS.mk [(0,AV.sl 3 (Jmv ts)),(1,AV.fn (Fn.func 105) [] (Z48c s)),(7,AV.i ((Jmv ts).length:Int)),(8,AV.i 0)] [] 1=AS.mk [(0,AV.sl 3 (Jmv ts)),
  (1,AV.fn (Fn.func 105) [] (Z48c s)),(7,AV.i (ts.length:Int)),(8,AV.i (g:Int))] [] 1)/\∀ (g:Nat),(g<=ts.length/\∀ (j:Nat),j < g->pN ts s j=false)->(decide ((g:Int) < (ts.length:Int))=true->(0:Int)
  ≤ (g:Int)/\(g:Int) < ((Jmv ts).length:Int)/\AV.agg (Ji (Jmv ts) (g:Int).toNat)=AV.agg [AV.str (Jju ts g).n,AV.i (Jju ts g).c,AV.i (Jju ts g).f]/\P0 105 [AV.agg [AV.str (Jju ts g).n,AV.i (Jju ts g).c,
  AV.i (Jju ts g).f],AV.elt 1 [[AV.str s]] 0 0] (AV.bool ((Jju ts g).n == s))/\(((Jju ts g).n == s)=true->AV.i (g:Int)=AV.i (fiI (pN ts s) ts.length))/\(((Jju ts g).n == s)=false->Jc ((g:Int)+1)/\∃ (g' :
  Nat),(g'<=ts.length/\∀ (j:Nat),j < g'->pN ts s j=false)/\ts.length-g' < ts.length-g/\AS.mk [(0,AV.sl 3 (Jmv ts)),(1,AV.fn (Fn.func 105) [] (Z48c s)),(7,AV.i (ts.length:Int)),(8,AV.i ((g:Int)+1))] [] 1
  = AS.mk [(0,AV.sl 3 (Jmv ts)),(1,AV.fn (Fn.func 105) [] (Z48c s)),(7,AV.i (ts.length:Int)),(8,AV.i (g':Int))] [] 1))/\(decide ((g:Int) < (ts.length:Int))=false->AV.i (-1)=AV.i (fiI (pN ts s) ts.length)):=by
   delta Jju Jmv Z48c
   have hlm:(List.map encTp ts).length=ts.length:=Kb _
   refine⟨⟨0,⟨by omega,by intros;omega⟩,by rw[hlm];rfl⟩,fun g ⟨hg,ha⟩=>⟨fun hd=>?_,fun hd=>?_⟩⟩
   . have hlt:=Jm hd
     refine⟨by omega,by omega,congrArg AV.agg (Jl encTp hlt),c105 (ts.getD g default) s,fun hx=>?_,fun hx=>⟨by unfold Jc;omega,g+1,⟨hlt,fun j hj=>?_⟩,by omega,rfl⟩⟩
     . rw[fiI,fi_some ha (show pN ts s g=true from hx) hlt,if_neg (by omega)]
     by_cases e:j=g
     . rw[e];exact hx
     exact ha j (by omega)
   have e:=Jt hd hg
   subst e
   rw[fiI,fi_none ha,if_pos rfl]
 exact Jw Tryz.f104 (mkB sp161 104 [(4,4,rdL 3 encTp ts 3 true)] (fun j=>if j.beq 0 then some (la161 ts s)else none)) key (by kernel_rfl)
def Jm5(ts:List Tp):Nat->List AV->Option AV
 | 104,[_,.fn _ _ [.elt _ [[.str s]] _ _]]=>some (.i (fiI (pN ts s) ts.length))
 | 66,[_,.str s]=>some (.tup [.agg (encTp (WI ts s)),.bool (decide (fiN (pN ts s) ts.length < ts.length))])
 | n,x=>spS n x
abbrev Z49a(r:Ru)(s:List UInt8):=[AV.str (WI r.ts s).n,AV.i (WI r.ts s).c,AV.i (WI r.ts s).f]
abbrev Z49b(r:Ru)(s:List UInt8):=[AV.agg (Z49a r s),AV.bool (decide (fiN (pN r.ts s) r.ts.length < r.ts.length))]
theorem c66(r:Ru)(s:List UInt8)(hl:r.ts.length<=1000):P0 66 [.agg (encRu r),.str s] (.tup [.agg (encTp (WI r.ts s)),.bool (decide (fiN (pN r.ts s) r.ts.length < r.ts.length))]):=by
 have key :
  P0 104 [AV.sl 3 (List.map encTp r.ts),AV.fn (Fn.func 105) [] [AV.elt 1 [[AV.str s]] 0 0]] (AV.i (fiI (pN r.ts s) r.ts.length))/\(decide (fiI (pN r.ts s) r.ts.length < 0)=true->AV.tup [AV.agg [AV.str [],AV.i 0,AV.i 0],
  AV.bool false]=AV.tup (Z49b r s))/\(decide (fiI (pN r.ts s) r.ts.length < 0)=false->(0:Int)<=fiI (pN r.ts s) r.ts.length/\fiI (pN r.ts s) r.ts.length < ((List.map encTp r.ts).length:Int)/\AV.agg (Ji (List.map encTp
  r.ts) (fiI (pN r.ts s) r.ts.length).toNat)=AV.agg (Z49a r s)/\AV.tup [AV.agg (Z49a r s),AV.bool true]=AV.tup (Z49b r s)):=by
   delta Z49a Z49b
   have hlm:(List.map encTp r.ts).length=r.ts.length:=Kb _
   have hle:=Jea (p:=pN r.ts s) r.ts.length
   refine⟨c104 r.ts s hl,fun h=>?_,fun h=>?_⟩
   . have h1:=Ky h
     have hn:¬ fiN (pN r.ts s) r.ts.length < r.ts.length:=fun hlt=>by
      unfold fiI at h1
      rw[if_neg (by omega)]at h1
      omega
     rw[show WI r.ts s=⟨[],0,0⟩from if_neg hn,decide_eq_false hn]
   have h1:=Kz h
   have hlt:fiN (pN r.ts s) r.ts.length < r.ts.length:=by
    refine Classical.byContradiction fun hn=>?_
    unfold fiI at h1
    rw[if_pos (by omega)]at h1
    omega
   have hI:fiI (pN r.ts s) r.ts.length=(fiN (pN r.ts s) r.ts.length:Nat):=if_neg (by omega)
   rw[hI,show WI r.ts s=r.ts.getD (fiN (pN r.ts s) r.ts.length) default from if_pos hlt,decide_eq_true hlt]
   exact⟨by omega,by omega,congrArg AV.agg (Jl encTp hlt),rfl⟩
 exact Jw Tryz.f66 (fzB (mkB (Jm5 r.ts) 66 [(4,4,fun _=>some (.agg (encTp (WI r.ts s))))] J1)) key (by kernel_rfl)
theorem c63(r:Ru)(s:List UInt8)(hl:r.ts.length<=1000):P0 63 [.agg (encRu r),.str s] (.i (sWhen (!decide (fiN (pN r.ts s) r.ts.length < r.ts.length)) 10)):=by
 have key :
  P0 66 [AV.agg (encRu r),AV.str s] (AV.tup [AV.agg [AV.str (WI r.ts s).n,AV.i (WI r.ts s).c,AV.i (WI r.ts s).f],AV.bool (decide (fiN (pN r.ts s) r.ts.length < r.ts.length))])/\P0 28
  [AV.bool !decide (fiN (pN r.ts s) r.ts.length < r.ts.length),AV.i 10] (AV.i (sWhen (!decide (fiN (pN r.ts s) r.ts.length < r.ts.length)) (10:Int)))/\AV.i (sWhen (!decide (fiN (pN r.ts s) r.ts.length < r.ts.length)) (10:Int))
  = AV.i (sWhen (!decide (fiN (pN r.ts s) r.ts.length < r.ts.length)) (10:Int)):=by
   exact⟨c66 r s hl,c28 _ _,rfl⟩
 exact Jw Tryz.f63 (mkB (Jm5 r.ts) 63 [] J1) key (by kernel_rfl)
def QR(r:Ru)(m:Mv):Dt:=⟨m,WI r.ts m.ty,UQ r.a r.b m.mi,niI r.a r.b m.day m.mi⟩
def sp105(r:Ru):Nat->List AV->Option AV
 | 67,[_,.int _ day,.int _ m]=>some (.i (niI r.a r.b day m))
 | n,x=>Jm5 r.ts n x
theorem c30(r:Ru)(m:Mv)(hl:r.ts.length<=1000)(ha:0<=r.a/\r.a < 1440)(hb:0<=r.b/\r.b < 1440)(hd:1<=m.day/\m.day<=100000)(hm:0<=m.mi/\m.mi<=1439):P0 30 [.agg (encRu r),.agg (encMv m)] (.agg (JS (QR r m))):=by
 have key :
  P0 66 [AV.agg (encRu r),AV.str m.ty] (AV.tup [AV.agg [AV.str (WI r.ts m.ty).n,AV.i (WI r.ts m.ty).c,AV.i (WI r.ts m.ty).f],AV.bool (decide (fiN (pN r.ts m.ty) r.ts.length < r.ts.length))])/\P0 40 [AV.agg [AV.i r.a,AV.i r.b],AV.i m.mi] (AV.bool (UQ r.a r.b m.mi))/\P0 67 [AV.agg (encRu r),AV.i m.day,AV.i m.mi] (AV.i (niI r.a r.b m.day m.mi))/\AV.agg [AV.str m.fl,AV.str m.al,AV.str
  m.ty,AV.i m.day,AV.i m.mi,AV.str (WI r.ts m.ty).n,AV.i (WI r.ts m.ty).c,AV.i (WI r.ts m.ty).f,AV.bool (UQ r.a r.b m.mi),AV.i (niI r.a r.b m.day m.mi)]=AV.agg [AV.str (QR r m).m.fl,AV.str (QR r m).m.al,AV.str
  (QR r m).m.ty,AV.i (QR r m).m.day,AV.i (QR r m).m.mi,AV.str (QR r m).k.n,AV.i (QR r m).k.c,AV.i (QR r m).k.f,AV.bool (UQ r.a r.b m.mi),AV.i (niI r.a r.b m.day m.mi)]:=by
   exact⟨c66 r m.ty hl,c40 r.a r.b m.mi ha hb (by omega),c67 r m.day m.mi (by unfold Jc;omega),rfl⟩
 exact Jw Tryz.f30 (fzB (mkB (sp105 r) 30 [] J1)) key (by kernel_rfl)
def V5(d:Dt):Int:=if(!d.dk)then 0 else d.k.c
def feOf(d:Dt):Int:=if d.dk then 2 * d.k.f else d.k.f
theorem c31(d:Dt) :P0 31 [.agg (JS d)] (.i (V5 d)):=by
 have key :
  ((!d.dk)=true->AV.i 0=AV.i (V5 d))/\((!d.dk)=false->AV.i d.k.c=AV.i (V5 d)):=by
   refine⟨fun h=>?_,fun h=>?_⟩
   . rw[V5,if_pos h]
   rw[V5,if_neg (by rw[h];decide)]
 exact Jw Tryz.f31 (mkB spS 31 [] J1) key (by kernel_rfl)
theorem c61(m:Mv) :P0 61 [.agg (encMv m)] (.str m.fl):=by
 have key :
  AV.str m.fl=AV.str m.fl:=by
   rfl
 exact Jw Tryz.f61 (mkB spS 61 [] J1) key (by kernel_rfl)
def pM(l:List Mv)(s:List UInt8)(i:Nat):Bool:=(l.getD i default).fl == s
def la109(l:List Mv)(s:List UInt8):LA:={
 pre:=[.keep [0,1,5] [],.bound 1],post:=[.keep [0,1,5] [],.bound 1]
 Gh:=Nat
 st:=fun i=>⟨[(0,.sl 5 (l.map encMv)),(1,.str s),(5,.i i)],[],1⟩
 ok:=fun i=>i<=l.length/\∀ j,j < i->pM l s j=false
 ms:=fun i=>l.length-i }
def Jm7:Nat->List AV->Option AV
 | 61,[.agg (.str n::_)]=>some (.str n)
 | n,x=>spS n x
def JnR(l:List Mv):LA:={
 pre:=[.own 5 9 1,.reno 5 1,.keep [1,5,8,9,10] [1],.bound 2],post:=[.reno 5 1,.keep [1,5,8,9,10] [1],.bound 2]
 Gh:=Nat
 st:=fun i=>⟨[(1,.fn (.func 61) [] []),(5,.own 1 (((l.take i).map Mv.fl).map encS).length),(8,.sl 5 (l.map encMv)),(9,.i (l.map encMv).length),(10,.i i)],[(1,.buf 9 1 (((l.take i).map Mv.fl).map encS))],2⟩
 ok:=fun i=>i<=(l.map encMv).length
 ms:=fun i=>(l.map encMv).length-i }
abbrev JoT(g:Nat)(l:List Mv):=List.map encS (List.map Mv.fl (List.take g l))
abbrev JgQ(l:List Mv):=List.map encMv l
abbrev Jmu(l:List Mv):=((JgQ l).length:Int)
abbrev Z51d(l:List Mv)(g:Nat):=l.getD (g:Int).toNat default
theorem c60(l:List Mv)(hl:l.length<=1000):P0 60 [.sl 5 (l.map encMv),.fn (.func 61) [] []] (.fresh 9 1 ((l.map Mv.fl).map encS)):=by
 have key :
  (∃ (g:Nat),g<=(JgQ l).length/\AS.mk [(1,AV.fn (Fn.func 61) [] []),(5,AV.own 1 0),(8,AV.sl 5 (JgQ l)),(9,AV.i (Jmu l)),(10,AV.i 0)] [(1,ABlk.buf 9 1 [])] 2=AS.mk [(1,AV.fn (Fn.func 61) [] []),(5,AV.own 1 (JoT
  g l).length),(8,AV.sl 5 (JgQ l)),(9,AV.i (Jmu l)),(10,AV.i (g:Int))] [(1,ABlk.buf 9 1 (JoT g l))] 2)/\∀ (g:Nat),g<=(JgQ l).length->(decide ((g:Int) < (Jmu l))=true->(0:Int)<=(g:Int)/\(g:Int) <
  (Jmu l)/\AV.agg (Ji (JgQ l) (g:Int).toNat)=AV.agg (encMv (Z51d l g))/\(JoT g l).length+1<=9223372036854775807/\((JoT g l).length+1) * 16<=140737488355328/\P0 61 [AV.agg (encMv (Z51d l g))] (AV.str (Z51d l
  g).fl)/\Jc ((g:Int)+1)/\∃ (g':Nat),g'<=(JgQ l).length/\(JgQ l).length-g' < (JgQ l).length-g/\AS.mk [(1,AV.fn (Fn.func 61) [] []),(5,AV.own 1 ((JoT g l).length+1)),(8,AV.sl 5 (JgQ l)),(9,AV.i (Jmu
  l)),(10,AV.i ((g:Int)+1))] [(1,ABlk.buf 9 1 (List.map encS (List.map Mv.fl (List.take g l))++[[AV.str (Z51d l g).fl]]))] 2=AS.mk [(1,AV.fn (Fn.func 61) [] []),(5,AV.own 1 (List.map encS (List.map Mv.fl (List.take g'
  l))).length),(8,AV.sl 5 (JgQ l)),(9,AV.i (Jmu l)),(10,AV.i (g':Int))] [(1,ABlk.buf 9 1 (List.map encS (List.map Mv.fl (List.take g' l))))] 2)/\(decide ((g:Int) < (Jmu l))=false->AV.fresh 9 1 (JoT g l) =
  AV.fresh 9 1 (List.map encS (List.map Mv.fl l))):=by
   delta JoT Jmu JgQ Z51d
   have hlm:(List.map encMv l).length=l.length:=Kb _
   refine⟨⟨0,by omega,rfl⟩,fun g hg=>⟨fun hd=>?_,fun hd=>?_⟩⟩
   . rw[hlm]at hd
     have hlt:=Jm hd
     have h2:=Jx encS Mv.fl hlt
     have h7:(List.map encS (List.map Mv.fl (List.take g l))).length=g:=by rw[Kb,Kb,Kg];omega
     have h8:(List.map encS (List.map Mv.fl (List.take (g+1) l))).length=g+1:=by rw[Kb,Kb,Kg];omega
     refine⟨by omega,by omega,congrArg AV.agg (Jl encMv hlt),by omega,by omega,c61 (l.getD g default),by unfold Jc;omega,g+1,by omega,by omega,?_⟩
     rw[h8,<- h2,h7]
     rfl
   rw[Jt hd hg,hlm,Kw]
 exact Jw Tryz.f60 (fzB (mkB Jm7 60 [(4,1,rdL 5 encMv l 5 true)] (fun i=>if i.beq 0 then some (JnR l)else none))) key (by kernel_rfl)
def fuM(r:Ru)(l:List Mv)(i:Nat):Int:=sFirst [sWhen (!sName (l.getD i default).al) 8,sWhen (!decide (fiN (pN r.ts (l.getD i default).ty) r.ts.length < r.ts.length)) 10,Ja (l.getD i default).day 1 100000,Ja (l.getD i default).mi 0 1439]
def sp112(ts:List Tp):Nat->List AV->Option AV
 | 63,[_,.str s]=>some (.i (sWhen (!decide (fiN (pN ts s) ts.length < ts.length)) 10))
 | n,x=>spS n x
abbrev JgP(l:List Mv)(i:Nat):=l.getD (i:Int).toNat default
abbrev Z52c(r:Ru)(l:List Mv)(i:Nat):=sWhen (!decide (fiN (pN r.ts (JgP l i).ty) r.ts.length < r.ts.length)) (10:Int)
abbrev Z52d(l:List Mv)(i:Nat):=Ja (JgP l i).day (1:Int) (100000:Int)
abbrev Z52e(l:List Mv)(i:Nat):=Ja (JgP l i).mi (0:Int) (1439:Int)
abbrev Z52b(l:List Mv)(i:Nat)(r:Ru):=sFirst [hdI [AV.i (sWhen (!sName (JgP l i).al) (8:Int))],hdI [AV.i (Z52c r l i)],hdI [AV.i (Z52d l i)],hdI [AV.i (Z52e l i)]]
theorem c62(r:Ru)(l:List Mv)(i:Nat)(hl:r.ts.length<=1000)(hi:i < l.length)(hA:(l.getD i default).al.length<=1000):P0 62 [.i i,.elt 1 [[.sl 5 (l.map encMv)]] 0 0,.elt 18 [encRu r] 0 0] (.i (fuM r l i)):=by
 have key :
  (0:Int)<=(i:Int)/\(i:Int) < ((List.map encMv l).length:Int)/\AV.agg (Ji (List.map encMv l) (i:Int).toNat)=AV.agg (encMv (JgP l i))/\P0 42 [AV.str (JgP l i).al] (AV.i (sWhen (!sName (JgP l i).al) (8:Int)))
  /\ P0 63 [AV.agg (encRu r),AV.str (JgP l i).ty] (AV.i (Z52c r l i))/\P0 64 [AV.i (JgP l i).day,AV.i 1,AV.i 100000] (AV.i (Z52d l i))/\P0 39 [AV.i (JgP l i).mi] (AV.i (Z52e l i))/\P0 27 [AV.sl 1 [[AV.i (sWhen (!sName (JgP l
  i).al) (8:Int))],[AV.i (Z52c r l i)],[AV.i (Z52d l i)],[AV.i (Z52e l i)]]] (AV.i (Z52b l i r))/\AV.i (Z52b l i r)=AV.i (fuM r l i):=by
   delta JgP Z52b Z52c Z52d Z52e
   have hlm:(List.map encMv l).length=l.length:=Kb _
   simp only[Km]
   exact⟨by omega,by omega,congrArg AV.agg (Jl encMv hi),c42 _ (by omega),c63 r _ hl,c64 _ _ _,c39 _,c27 [_,_,_,_] (by simp),rfl⟩
 exact Jw Tryz.f62 (fzB (mkB (sp112 r.ts) 62 [(1,3,rdL 5 encMv l 5 true)] J1)) key (by kernel_rfl)
def F112(r:Ru)(l:List Mv):AV:=.fn (.func 62) [] [.elt 1 [[.sl 5 (l.map encMv)]] 0 0,.elt 18 [encRu r] 0 0]
def sp99c(g:Nat->Int):Nat->List AV->Option AV
 | 62,(.int _ i::_)=>some (.i (g i.toNat))
 | n,x=>spS n x
abbrev Jgr(l:List Mv):=List.map Mv.fl l
abbrev Ji6(l:List Mv)(g:Nat):=(Jgr l).getD (g:Int).toNat []
abbrev JoR(g:Nat)(l:List Mv):=knS (List.take g (Jgr l))
abbrev JpU(g:Nat)(l:List Mv):=VN (JoR g l) (AV.str (Ji6 l g))
abbrev Z53a(l:List Mv)(g:Nat)(r:Ru):=[hdI [AV.i (sWhen (!sName (Ji6 l g)) (8:Int))],hdI [AV.i (sWhen (JpU g l) (9:Int))],hdI [AV.i (fuM r l (g:Int).toNat)]]
abbrev JoS(l:List Mv):=List.map encS (Jgr l)
abbrev Jmt(l:List Mv):=((JoS l).length:Int)
abbrev Z53e(l:List Mv)(r:Ru):=[AV.elt 1 [[AV.sl 5 (List.map encMv l)]] 0 0,AV.elt 18 [(encRu r)] 0 0]
abbrev Z53i(g:Nat)(l:List Mv)(r:Ru):=(g<=(Jgr l).length/\∀ (j:Nat),j < g->fNm (Jgr l) (fuM r l) j=(0:Int))
theorem c59c(r:Ru)(l:List Mv)(hr:r.ts.length<=1000)(hl:l.length<=1000)(hn:∀ m,m ∈ l->m.fl.length<=1000/\m.al.length<=1000):P0 59 [.sl 1 ((l.map Mv.fl).map encS),F112 r l] (.i (Vm (l.map Mv.fl) (fuM r l))):=by
 have key :
  (∃ (g:Nat),(Z53i g l r)/\AS.mk [(1,AV.fn (Fn.func 62) [] (Z53e l r)),(5,AV.ref 2),(10,AV.sl 1 (JoS l)),(11,AV.i (Jmt l)),(12,AV.i 0)] [(2,ABlk.map [])] 3=AS.mk [(1,AV.fn (Fn.func 62) [] (Z53e l r)),(5,AV.ref
  2),(10,AV.sl 1 (JoS l)),(11,AV.i (Jmt l)),(12,AV.i (g:Int))] [(2,ABlk.map (JoR g l))] 3)/\∀ (g:Nat),(Z53i g l r)->(decide ((g:Int) < (Jmt l))=true->(0:Int)<=(g:Int)/\(g:Int) < (Jmt l)/\nth (Ji
  (JoS l) (g:Int).toNat) 0=AV.str (Ji6 l g)/\(J7 (AV.str (Ji6 l g)) (JoR g l)).isSome=true/\P0 42 [AV.str (Ji6 l g)] (AV.i (sWhen (!sName (Ji6 l g)) (8:Int)))/\Um false (AV.bool false) (J7 (AV.str (Ji6 l
  g)) (JoR g l))=AV.bool (JpU g l)/\P0 28 [AV.bool (JpU g l),AV.i 9] (AV.i (sWhen (JpU g l) (9:Int)))/\P0 62 [AV.i (g:Int),AV.elt 1 [[AV.sl 5 (List.map encMv l)]] 0 0,AV.elt 18 [(encRu r)] 0 0] (AV.i (fuM r l (↑g :
  Int).toNat))/\P0 27 [AV.sl 1 [[AV.i (sWhen (!sName (Ji6 l g)) (8:Int))],[AV.i (sWhen (JpU g l) (9:Int))],[AV.i (fuM r l (g:Int).toNat)]]] (AV.i (sFirst (Z53a l g r)))/\((sFirst (Z53a l g r) != 0)=true->AV.i (sFirst
  (Z53a l g r))=AV.i (Vm (Jgr l) (fuM r l)))/\((sFirst (Z53a l g r) != 0)=false->(Q6 (AV.str (Ji6 l g)) (AV.bool true) (JoR g l)).isSome=true/\Jc ((g:Int)+1)/\∃ (g':Nat),(g'<=(Jgr l).length/\∀ (j:Nat),
  j < g'->fNm (Jgr l) (fuM r l) j=(0:Int))/\(Jgr l).length-g' < (Jgr l).length-g/\AS.mk [(1,AV.fn (Fn.func 62) [] (Z53e l r)),(5,AV.ref 2),(10,AV.sl 1 (JoS l)),(11,AV.i (Jmt l)),(12,AV.i ((g:Int)+1))]
  [(2,ABlk.map ((Q6 (AV.str (Ji6 l g)) (AV.bool true) (JoR g l)).getD []))] 3=AS.mk [(1,AV.fn (Fn.func 62) [] (Z53e l r)),(5,AV.ref 2),(10,AV.sl 1 (JoS l)),(11,AV.i (Jmt l)),(12,AV.i (g':Int))] [(2,ABlk.map (knS
  (List.take g' (Jgr l))))] 3))/\(decide ((g:Int) < (Jmt l))=false->AV.i 0=AV.i (Vm (Jgr l) (fuM r l))):=by
   delta Z53a Ji6 Jgr Jmt Z53e JpU JoS JoR Z53i
   have hlm:(List.map encS (List.map Mv.fl l)).length=(List.map Mv.fl l).length:=Kb _
   have hlr:(List.map Mv.fl l).length<=1000:=by rw[Kb];exact hl
   have hnr:∀ s,s ∈ (List.map Mv.fl l)->s.length<=1000:=fun s hs=>by obtain⟨m,hm,rfl⟩:=List.mem_map.1 hs;exact(hn m hm).1
   refine⟨⟨0,⟨by omega,by intros;omega⟩,rfl⟩,fun g ⟨hg,ha⟩=>⟨fun hd=>?_,fun hd=>?_⟩⟩
   . rw[hlm]at hd
     have hlt:=Jm hd
     have hput:fNm (List.map Mv.fl l) (fuM r l) g=0->Q6 (.str ((List.map Mv.fl l).getD g default)) (.bool true) (knS ((List.map Mv.fl l).take g))=some (knS ((List.map Mv.fl l).take (g+1))):=fun hz=>by
      unfold fNm at hz
      rw[first_zero,first_zero]at hz
      exact JeS hlt (Qp (by decide) hz.2.1)
     refine⟨by omega,by omega,by rw[show Ji (List.map encS (List.map Mv.fl l)) ((g:Int)).toNat=encS ((List.map Mv.fl l).getD g default)from Jl encS hlt];rfl,QJ (fun s=>s) _ _,c42 ((List.map Mv.fl l).getD g default) (by have:=hnr _ (Js hlt);omega),Xj (fun s=>s) _ _,c28 _ _,(by rw[Kb]at hlt;exact c62 r l g hr hlt (hn _ (Js hlt)).2),c27 [_,_,_] (by simp),fun hx=>?_,fun hx=>?_⟩
     . have hne:fNm (List.map Mv.fl l) (fuM r l) g ≠ 0:=Uv hx
       refine Xd ?_
       unfold Vm
       rw[J4 hlt ha hne]
       rfl
     have hz:fNm (List.map Mv.fl l) (fuM r l) g=0:=QE hx
     have hp:=hput hz
     refine⟨by rw[show Q6 (AV.str ((List.map Mv.fl l).getD ((g:Int)).toNat [])) (AV.bool true) (knS (List.take g (List.map Mv.fl l)))=_ from hp];rfl,by unfold Jc;omega,g+1,⟨hlt,fun j hj=>?_⟩,by omega,?_⟩
     . by_cases e:j=g
       . rw[e];exact hz
       exact ha j (by omega)
     rw[show Q6 (AV.str ((List.map Mv.fl l).getD ((g:Int)).toNat [])) (AV.bool true) (knS (List.take g (List.map Mv.fl l)))=_ from hp]
     rfl
   rw[hlm]at hd
   have e:=Jt hd hg
   subst e
   unfold Vm
   rw[scan_end ha]
 exact Jw Tryz.f59 (atK (mkB (sp99c (fuM r l)) 59 [(4,2,rdL 1 encS (l.map Mv.fl) 1 false)] (fun i=>if i.beq 0 then some (la99 (l.map Mv.fl) (fuM r l) (F112 r l))else none))) key (by kernel_rfl)
def JY(r:Ru)(l:List Mv):Int:=if sFirst [Wz r,sWhen (decide ((l.length:Int) > 256)) 5] != 0 then sFirst [Wz r,sWhen (decide ((l.length:Int) > 256)) 5]else Vm (l.map Mv.fl) (fuM r l)
def sp42(r:Ru)(l:List Mv):Nat->List AV->Option AV
 | 41,_=>some (.i (Wz r))
 | 60,_=>some (.sl 1 ((l.map Mv.fl).map encS))
 | 59,_=>some (.i (Vm (l.map Mv.fl) (fuM r l)))
 | n,x=>spS n x
abbrev Z54a(l:List Mv):=sWhen (decide (((List.map encMv l).length:Int) > 256)) (5:Int)
abbrev Z54b(r:Ru)(l:List Mv):=[hdI [AV.i (Wz r)],hdI [AV.i (Z54a l)]]
theorem c24(r:Ru)(l:List Mv)(hr:r.ts.length<=1000)(hm:r.rs.length<=1000)(hn:∀ t,t ∈ r.ts->t.n.length<=1000)(hs:∀ s,s ∈ r.rs->s.length<=1000)(hl:l.length<=1000)(hv:∀ m,m ∈ l->m.fl.length<=1000/\m.al.length<=1000):P0 24 [.agg (encRu r),.sl 5 (l.map encMv)] (.i (JY r l)):=by
 have key :
  P0 41 [AV.agg (encRu r)] (AV.i (Wz r))/\P0 28 [AV.bool (decide (((List.map encMv l).length:Int) > 256)),AV.i 5] (AV.i (Z54a l))/\P0 27 [AV.sl 1 [[AV.i (Wz r)],[AV.i (Z54a l)]]] (AV.i (sFirst (Z54b r l)))/\((sFirst (Z54b
  r l) != 0)=true->AV.i (sFirst (Z54b r l))=AV.i (JY r l))/\((sFirst (Z54b r l) != 0)=false->P0 60 [AV.sl 5 (List.map encMv l),AV.fn (Fn.func 61) [] []] (AV.sl 1 (List.map encS (List.map Mv.fl l)))/\P0 59 [AV.sl 1
  (List.map encS (List.map Mv.fl l)),AV.fn (Fn.func 62) [] [AV.elt 1 [[AV.sl 5 (List.map encMv l)]] 0 0,AV.elt 18 [(encRu r)] 0 0]] (AV.i (Vm (List.map Mv.fl l) (fuM r l)))/\AV.i (Vm (List.map Mv.fl l) (fuM r l))=AV.i (JY
  r l)):=by
   delta Z54a Z54b
   have hlm:(List.map encMv l).length=l.length:=Kb _
   rw[hlm]
   refine⟨c41 r hr hm hn hs,c28 _ _,c27 [_,_] (by simp),fun h=>?_,fun h=>⟨(c60 l hl).un,c59c r l hr hl hv,?_⟩⟩
   . have h:(sFirst [Wz r,sWhen (decide ((l.length:Int) > 256)) 5] != 0)=true:=h
     rw[JY,if_pos h]
     rfl
   have h:(sFirst [Wz r,sWhen (decide ((l.length:Int) > 256)) 5] != 0)=false:=h
   rw[JY,if_neg (by rw[h];decide)]
 exact Jw Tryz.f24 (fzB (mkB (sp42 r l) 24 [] J1)) key (by kernel_rfl)
def fMv(r:Ru)(l:List Mv)(i:Nat):Int:=sFirst [sWhen (!sName (l.getD i default).fl) 8,sWhen (decide (fiI (pM l (l.getD i default).fl) i>=0)) 9,sWhen (!sName (l.getD i default).al) 8,sWhen (decide (fiI (pN r.ts (l.getD i default).ty) r.ts.length < 0)) 10,Ja (l.getD i default).day 1 100000,Ja (l.getD i default).mi 0 1439]
def chkMR(r:Ru)(l:List Mv):Int:=if sFirst [chkR r,sWhen (decide ((l.length:Int) > 256)) 5] != 0 then sFirst [chkR r,sWhen (decide ((l.length:Int) > 256)) 5]else JC (fMv r l) l.length 0
theorem JhS{l:List Mv}{i:Nat}(h:i < l.length):(l.map Mv.fl).getD i default=(l.getD i default).fl:=by
 rw[Ka,Ka,Kk,Kj h]
 rfl
theorem Jn9(a b c d x y:Int):sFirst [a,b,sFirst [c,d,x,y]]=sFirst [a,b,c,d,x,y]:=by
 simp only[sFirst]
 by_cases h1:c=0 <;> by_cases h2:d=0 <;> by_cases h3:x=0 <;> by_cases h4:y=0 <;> simp[h1,h2,h3,h4]
theorem WY{p:Nat->Bool}{n:Nat}:(!decide (fiN p n < n))=decide (fiI p n < 0):=by
 have:=Jea (p:=p) n
 unfold fiI
 by_cases h:fiN p n=n
 . rw[if_pos h,decide_eq_false (by omega),decide_eq_true (by omega)]
   rfl
 rw[if_neg h,decide_eq_true (by omega),decide_eq_false (by omega)]
 rfl
theorem Jal(r:Ru)(l:List Mv):JY r l=chkMR r l:=by
 unfold JY chkMR
 rw[Jl4]
 congr 1
 unfold Vm
 rw[Kb]
 refine Qq fun k hk=>?_
 unfold fNm fMv fuM
 rw[JhS hk,JkE (by rw[Kb];omega),Xm (p:=pS (l.map Mv.fl) _) (q:=pM l _) (fun j hj=>by unfold pS pM;rw[JhS (by omega)]),<- fiI_dec,Jn9,WY]
structure MvOK(r:Ru)(m:Mv):Prop where
 t:fiN (pN r.ts m.ty) r.ts.length < r.ts.length
 d:1<=m.day/\m.day<=100000
 m:0<=m.mi/\m.mi<=1439
structure RuOK(r:Ru):Prop where
 a:0<=r.a/\r.a < 1440
 b:0<=r.b/\r.b < 1440
 n:r.a ≠ r.b
 l:r.ts.length<=16
 k:∀ t,t ∈ r.ts->(0<=t.c/\t.c<=64)/\(0<=t.f/\t.f<=100000)
 q:0<=r.q/\r.q<=100000
def F105(r:Ru):AV:=.fn (.func 30) [.agg (encRu r)] []
def decMv:List AV->Mv
 | [.str a,.str b,.str c,.int _ d,.int _ e]=>⟨a,b,c,d,e⟩
 | _=>default
theorem decMv_enc(m:Mv):decMv (encMv m)=m:=rfl
def Jb0:List AV->Dt
 | [.str a,.str b,.str c,.int _ d,.int _ e,.str n,.int _ p,.int _ f,.bool k,.int _ i]=>⟨⟨a,b,c,d,e⟩,⟨n,p,f⟩,k,i⟩
 | _=>default
theorem JiB(d:Dt):Jb0 (JS d)=d:=rfl
def sp104(r:Ru):Nat->List AV->Option AV
 | 30,[_,.agg c]=>some (.agg (JS (QR r (decMv c))))
 | n,x=>sp105 r n x
def la104(r:Ru)(l:List Mv):LA:={
 pre:=[.own 5 101 10,.reno 5 1,.keep [1,5,8,9,10] [1],.bound 2],post:=[.reno 5 1,.keep [1,5,8,9,10] [1],.bound 2]
 Gh:=Nat
 st:=fun i=>⟨[(1,F105 r),(5,.own 1 (((l.take i).map (QR r)).map JS).length),(8,.sl 5 (l.map encMv)),(9,.i (l.map encMv).length),(10,.i i)],[(1,.buf 101 10 (((l.take i).map (QR r)).map JS))],2⟩
 ok:=fun i=>i<=(l.map encMv).length
 ms:=fun i=>(l.map encMv).length-i }
abbrev Jfy(l:List Mv)(g:Nat):=l.getD (g:Int).toNat default
abbrev Z55a(l:List Mv)(g:Nat)(r:Ru):=[AV.str (Jfy l g).fl,AV.str (Jfy l g).al,AV.str (Jfy l g).ty,AV.i (Jfy l g).day,AV.i (Jfy l g).mi,AV.str (QR r (decMv (encMv (Jfy l g)))).k.n,AV.i (QR r (decMv (encMv (Jfy l g)))).k.c,AV.i (QR r (decMv (encMv (Jfy l g)))).k.f,AV.bool (UQ r.a r.b (Jfy l g).mi),AV.i (niI r.a r.b (Jfy l g).day (Jfy l g).mi)]
abbrev JoQ(r:Ru)(g:Nat)(l:List Mv):=List.map JS (List.map (QR r) (List.take g l))
abbrev JgO(l:List Mv):=List.map encMv l
abbrev Jms(l:List Mv):=((JgO l).length:Int)
theorem c29(r:Ru)(l:List Mv)(hR:RuOK r)(hM:∀ m,m ∈ l->MvOK r m)(hl:l.length<=1000):P0 29 [.sl 5 (l.map encMv),F105 r] (.fresh 101 10 ((l.map (QR r)).map JS)):=by
 have key :
  (∃ (g:Nat),g<=(JgO l).length/\AS.mk [(1,AV.fn (Fn.func 30) [AV.agg (encRu r)] []),(5,AV.own 1 0),(8,AV.sl 5 (JgO l)),(9,AV.i (Jms l)),(10,AV.i 0)] [(1,ABlk.buf 101 10 [])] 2=AS.mk [(1,AV.fn (Fn.func 30) [AV.agg
  (encRu r)] []),(5,AV.own 1 (JoQ r g l).length),(8,AV.sl 5 (JgO l)),(9,AV.i (Jms l)),(10,AV.i (g:Int))] [(1,ABlk.buf 101 10 (JoQ r g l))] 2)/\∀ (g:Nat),g<=(JgO l).length->(decide ((g:Int) < (Jms l))=true
  → (0:Int)<=(g:Int)/\(g:Int) < (Jms l)/\AV.agg (Ji (JgO l) (g:Int).toNat)=AV.agg (encMv (Jfy l g))/\(JoQ r g l).length+1<=9223372036854775807/\((JoQ r g l).length+1) * 112<=140737488355328/\P0 30
  [AV.agg (encRu r),AV.agg (encMv (Jfy l g))] (AV.agg (Z55a l g r))/\Jc ((g:Int)+1)/\∃ (g':Nat),g'<=(JgO l).length/\(JgO l).length-g' < (JgO l).length-g/\AS.mk [(1,AV.fn (Fn.func 30) [AV.agg (encRu r)] []),
  (5,AV.own 1 ((JoQ r g l).length+1)),(8,AV.sl 5 (JgO l)),(9,AV.i (Jms l)),(10,AV.i ((g:Int)+1))] [(1,ABlk.buf 101 10 (List.map JS (List.map (QR r) (List.take g l))++[(Z55a l g r)]))] 2=AS.mk [(1,AV.fn
  (Fn.func 30) [AV.agg (encRu r)] []),(5,AV.own 1 (List.map JS (List.map (QR r) (List.take g' l))).length),(8,AV.sl 5 (JgO l)),(9,AV.i (Jms l)),(10,AV.i (g':Int))] [(1,ABlk.buf 101 10 (List.map JS (List.map
  (QR r) (List.take g' l))))] 2)/\(decide ((g:Int) < (Jms l))=false->AV.fresh 101 10 (JoQ r g l)=AV.fresh 101 10 (List.map JS (List.map (QR r) l))):=by
   delta Z55a Jfy JoQ Jms JgO
   have hlm:(List.map encMv l).length=l.length:=Kb _
   refine⟨⟨0,by omega,rfl⟩,fun g hg=>⟨fun hd=>?_,fun hd=>?_⟩⟩
   . rw[hlm]at hd
     have hlt:=Jm hd
     have hmem:=Js hlt
     have h2:=Jx JS (QR r) hlt
     have h7:(List.map JS (List.map (QR r) (List.take g l))).length=g:=by rw[Kb,Kb,Kg];omega
     have h8:(List.map JS (List.map (QR r) (List.take (g+1) l))).length=g+1:=by rw[Kb,Kb,Kg];omega
     refine⟨by omega,by omega,congrArg AV.agg (Jl encMv hlt),by omega,by omega,c30 r (l.getD g default) (by have:=hR.l;omega) hR.a hR.b (hM _ hmem).d (hM _ hmem).m,by unfold Jc;omega,g+1,by omega,by omega,?_⟩
     rw[h8,<- h2,h7]
     rfl
   rw[Jt hd hg,hlm,Kw]
 exact Jw Tryz.f29 (fzB (mkB (sp104 r) 29 [(4,1,rdL 5 encMv l 5 true)] (fun i=>if i.beq 0 then some (la104 r l)else none))) key (by kernel_rfl)
def sp103:Nat->List AV->Option AV
 | 31,[.agg c]=>some (.i (V5 (Jb0 c)))
 | 1106,[.agg c]=>some (.i (feOf (Jb0 c)))
 | n,x=>spS n x
def la103(f:Nat)(g:Dt->Int)(l:List Dt):LA:={
 pre:=[.own 5 3 1,.reno 5 1,.keep [1,5,8,9,10] [1],.bound 2],post:=[.reno 5 1,.keep [1,5,8,9,10] [1],.bound 2]
 Gh:=Nat
 st:=fun i=>⟨[(1,.fn (.func f) [] []),(5,.own 1 (((l.take i).map g).map Jh).length),(8,.sl 10 (l.map JS)),(9,.i (l.map JS).length),(10,.i i)],[(1,.buf 3 1 (((l.take i).map g).map Jh))],2⟩
 ok:=fun i=>i<=(l.map JS).length
 ms:=fun i=>(l.map JS).length-i }
abbrev JoP(g:Nat)(l:List Dt):=List.map Jh (List.map V5 (List.take g l))
abbrev JgN(l:List Dt):=List.map JS l
abbrev Jmr(l:List Dt):=((JgN l).length:Int)
abbrev Z56d(l:List Dt)(g:Nat):=JS (l.getD (g:Int).toNat default)
theorem c65a(l:List Dt)(hl:l.length<=1000):P0 65 [.sl 10 (l.map JS),.fn (.func 31) [] []] (.fresh 3 1 ((l.map V5).map Jh)):=by
 have key :
  (∃ (g:Nat),g<=(JgN l).length/\AS.mk [(1,AV.fn (Fn.func 31) [] []),(5,AV.own 1 0),(8,AV.sl 10 (JgN l)),(9,AV.i (Jmr l)),(10,AV.i 0)] [(1,ABlk.buf 3 1 [])] 2=AS.mk [(1,AV.fn (Fn.func 31) [] []),(5,AV.own 1
  (JoP g l).length),(8,AV.sl 10 (JgN l)),(9,AV.i (Jmr l)),(10,AV.i (g:Int))] [(1,ABlk.buf 3 1 (JoP g l))] 2)/\∀ (g:Nat),g<=(JgN l).length->(decide ((g:Int) < (Jmr l))=true->(0:Int)<=(g:Int)/\(↑g :
  Int) < (Jmr l)/\AV.agg (Ji (JgN l) (g:Int).toNat)=AV.agg (Z56d l g)/\(JoP g l).length+1<=9223372036854775807/\((JoP g l).length+1) * 8<=140737488355328/\P0 31 [AV.agg (Z56d l g)] (AV.i (V5 (Jb0 (Z56d l
  g))))/\Jc ((g:Int)+1)/\∃ (g':Nat),g'<=(JgN l).length/\(JgN l).length-g' < (JgN l).length-g/\AS.mk [(1,AV.fn (Fn.func 31) [] []),(5,AV.own 1 ((JoP g l).length+1)),(8,AV.sl 10 (JgN l)),(9,AV.i (Jmr
  l)),(10,AV.i ((g:Int)+1))] [(1,ABlk.buf 3 1 (List.map Jh (List.map V5 (List.take g l))++[[AV.i (V5 (Jb0 (Z56d l g)))]]))] 2=AS.mk [(1,AV.fn (Fn.func 31) [] []),(5,AV.own 1 (List.map Jh (List.map V5
  (List.take g' l))).length),(8,AV.sl 10 (JgN l)),(9,AV.i (Jmr l)),(10,AV.i (g':Int))] [(1,ABlk.buf 3 1 (List.map Jh (List.map V5 (List.take g' l))))] 2)/\(decide ((g:Int) < (Jmr l))=false->AV.fresh 3 1 (JoP
  g l)=AV.fresh 3 1 (List.map Jh (List.map V5 l))):=by
   delta JoP Jmr JgN Z56d
   have hlm:(List.map JS l).length=l.length:=Kb _
   refine⟨⟨0,by omega,rfl⟩,fun g hg=>⟨fun hd=>?_,fun hd=>?_⟩⟩
   . rw[hlm]at hd
     have hlt:=Jm hd
     have hmem:=Js hlt
     have h2:=Jx Jh V5 hlt
     have h7:(List.map Jh (List.map V5 (List.take g l))).length=g:=by rw[Kb,Kb,Kg];omega
     have h8:(List.map Jh (List.map V5 (List.take (g+1) l))).length=g+1:=by rw[Kb,Kb,Kg];omega
     refine⟨by omega,by omega,congrArg AV.agg (Jl JS hlt),by omega,by omega,c31 (l.getD g default),by unfold Jc;omega,g+1,by omega,by omega,?_⟩
     rw[h8,<- h2,h7]
     rfl
   rw[Jt hd hg,hlm,Kw]
 exact Jw Tryz.f65 (fzB (mkB sp103 65 [(4,1,rdL 10 JS l 10 true)] (fun i=>if i.beq 0 then some (la103 31 V5 l)else none))) key (by kernel_rfl)
def Jgg(rows:List (List AV)):List Mv:=rows.map decMv
def JiC(rows:List (List AV)):List Dt:=rows.map Jb0
def sp102(r:Ru):Nat->List AV->Option AV
 | 29,[.sl _ rows,_]=>some (.sl 10 (((Jgg rows).map (QR r)).map JS))
 | 65,[.sl _ rows,.fn (.func 31) _ _]=>some (.fresh 3 1 (((JiC rows).map V5).map Jh))
 | 65,[.sl _ rows,_]=>some (.fresh 3 1 (((JiC rows).map feOf).map Jh))
 | n,x=>spS n x
theorem c25(r:Ru)(l:List Mv)(hR:RuOK r)(hM:∀ m,m ∈ l->MvOK r m)(hl:l.length<=1000):P0 25 [.agg (encRu r),.sl 5 (l.map encMv)] (.fresh 3 1 (((l.map (QR r)).map V5).map Jh)):=by
 have key :
  P0 29 [AV.sl 5 (List.map encMv l),AV.fn (Fn.func 30) [AV.agg (encRu r)] []] (AV.sl 10 (List.map JS (List.map (QR r) (Jgg (List.map encMv l)))))/\P0 65 [AV.sl 10 (List.map JS (List.map
  (QR r) (Jgg (List.map encMv l)))),AV.fn (Fn.func 31) [] []] (AV.fresh 3 1 (List.map Jh (List.map V5 (JiC (List.map JS (List.map (QR r) (Jgg (List.map encMv l))))))))/\AV.fresh 3 1 (List.map Jh (List.map V5
  (JiC (List.map JS (List.map (QR r) (Jgg (List.map encMv l)))))))=AV.fresh 3 1 (List.map Jh (List.map V5 (List.map (QR r) l))):=by
   have e1:Jgg (List.map encMv l)=l:=Qr decMv_enc l
   rw[e1]
   have e2:JiC (List.map JS (List.map (QR r) l))=List.map (QR r) l:=Qr JiB _
   rw[e2]
   exact⟨(c29 r l hR hM hl).un,c65a _ (by rw[Kb];exact hl),rfl⟩
 exact Jw Tryz.f25 (mkB (sp102 r) 25 [] J1) key (by kernel_rfl)
def rCo(r:Ru)(m:Mv):Int:=if(!wiR r.a r.b m.mi)then 0 else(WI r.ts m.ty).c
def rFe(r:Ru)(m:Mv):Int:=if wiR r.a r.b m.mi then 2 * (WI r.ts m.ty).f else(WI r.ts m.ty).f
def JnS(l:List Int):LA:={
 pre:=[.keep [3,6,7,8] [],.bound 1],post:=[.keep [3,6,7,8] [],.bound 1]
 Gh:=Nat
 st:=fun i=>⟨[(3,.i (sumW l i)),(6,.sl 1 (l.map Jh)),(7,.i (l.map Jh).length),(8,.i i)],[],1⟩
 ok:=fun i=>i<=l.length
 ms:=fun i=>l.length-i }
abbrev Jlh(l:List Int):=List.map Jh l
abbrev Jmq(l:List Int):=((Jlh l).length:Int)
theorem c26(l:List Int)(hl:l.length<=1000000):P0 26 [.sl 1 (l.map Jh)] (.i (JaE l)):=by
 have key :
  (∃ (g:Nat),g<=l.length/\AS.mk [(3,AV.i 0),(6,AV.sl 1 (Jlh l)),(7,AV.i (Jmq l)),(8,AV.i 0)] [] 1=AS.mk [(3,AV.i (sumW l g)),(6,AV.sl 1 (Jlh l)),(7,AV.i (Jmq l)),(8,AV.i (g:Int))] [] 1)/\∀ (g:Nat),g ≤
  l.length->(decide ((g:Int) < (Jmq l))=true->(0:Int)<=(g:Int)/\(g:Int) < (Jmq l)/\nth (Ji (Jlh l) (g:Int).toNat) 0=AV.i (cI (Jlh l) (g:Int).toNat)/\Jc ((g:Int)+1)/\∃ (g':Nat),g'<=l.length
  /\ l.length-g' < l.length-g/\AS.mk [(3,AV.i (IntKind.i64.wrap (sumW l g+cI (Jlh l) (g:Int).toNat))),(6,AV.sl 1 (Jlh l)),(7,AV.i (Jmq l)),(8,AV.i ((g:Int)+1))] [] 1=AS.mk [(3,AV.i (sumW l g')),(6,AV.sl 1
  (Jlh l)),(7,AV.i (Jmq l)),(8,AV.i (g':Int))] [] 1)/\(decide ((g:Int) < (Jmq l))=false->AV.i (sumW l g)=AV.i (JaE l)):=by
   delta Jmq Jlh
   have hle:(List.map Jh l).length=l.length:=Kb _
   rw[hle]
   refine⟨⟨0,by omega,rfl⟩,fun g hg=>⟨fun hd=>?_,fun hd=>?_⟩⟩
   . have hlt:=Jm hd
     refine⟨by omega,by omega,VI hlt,by unfold Jc;omega,g+1,by omega,by omega,?_⟩
     rw[JZ]
     rfl
   have e:=Jt hd hg
   subst e
   rfl
 exact Jw Tryz.f26 (Jcl 5 2 (mkB spI 26 [(4,1,rdJ)] (fun j=>if j.beq 0 then some (JnS l)else none))) key (by kernel_rfl)
def leW(r:Ru)(l:List Mv):Nat->Int
 | 0=>r.q
 | i+1=>IntKind.i64.wrap (leW r l i-rCo r (l.getD i default))
def sp40(r:Ru):Nat->List AV->Option AV
 | 1038,[_,.agg c]=>some (.i (rCo r (decMv c)))
 | n,x=>spI n x
def inR(r:Ru)(x y:Int)(m:Mv):Bool:=if(if wiR r.a r.b m.mi then decide (niI r.a r.b m.day m.mi>=x)else false)then decide (niI r.a r.b m.day m.mi < y)else false
def spW(r:Ru)(x y:Int)(l:List Mv):Nat->Int
 | 0=>0
 | i+1=>if inR r x y (l.getD i default)then IntKind.i64.wrap (spW r x y l i+rCo r (l.getD i default))else spW r x y l i
def csM(r:Ru)(l:List Mv):List Int:=(l.map (QR r)).map V5
def sLe(r:Ru)(l:List Mv):Int:=IntKind.i64.wrap (r.q-JaE (csM r l))
def sp35(r:Ru)(l:List Mv):Nat->List AV->Option AV
 | 24,_=>some (.i (JY r l))
 | 25,_=>some (.fresh 3 1 ((csM r l).map Jh))
 | 26,_=>some (.i (JaE (csM r l)))
 | n,x=>spI n x
theorem c11(r:Ru)(l:List Mv)(hr:r.ts.length<=1000)(hm:r.rs.length<=1000)(hn:∀ t,t ∈ r.ts->t.n.length<=1000)(hs:∀ s,s ∈ r.rs->s.length<=1000)(hl:l.length<=1000)(hv:∀ m,m ∈ l->m.fl.length<=1000/\m.al.length<=1000)(hK:JY r l=0->RuOK r/\∀ m,m ∈ l->MvOK r m):P0 11 [.agg (encRu r),.sl 5 (l.map encMv)] (.tup [.i (if JY r l != 0 then 0 else sLe r l),.i (JY r l)]):=by
 have key :
  P0 24 [AV.agg (encRu r),AV.sl 5 (List.map encMv l)] (AV.i (JY r l))/\((JY r l != 0)=true->AV.tup [AV.i 0,AV.i (JY r l)]=AV.tup [AV.i (if(JY r l != 0)=true then(0:Int)else sLe r l),AV.i
  (JY r l)])/\((JY r l != 0)=false->P0 25 [AV.agg (encRu r),AV.sl 5 (List.map encMv l)] (AV.fresh 3 1 (List.map Jh (csM r l)))/\P0 26 [AV.sl 1 (List.map Jh (csM r l))] (AV.i (JaE (csM
  r l)))/\AV.tup [AV.i (IntKind.i64.wrap (r.q-JaE (csM r l))),AV.i 0]=AV.tup [AV.i (if(JY r l != 0)=true then(0:Int)else sLe r l),AV.i (JY r l)]):=by
   have hc:(csM r l).length<=1000000:=by unfold csM;simp only[Kb];omega
   refine⟨c24 r l hr hm hn hs hl hv,fun h=>?_,fun h=>?_⟩
   . rw[if_pos h]
   have hz:JY r l=0:=QE h
   obtain⟨hR,hM⟩:=hK hz
   refine⟨c25 r l hR hM hl,c26 _ hc,?_⟩
   rw[if_neg (by rw[h];decide),hz]
   rfl
 exact Jw Tryz.f11 (Jcl 4 6 (fzB (mkB (sp35 r l) 11 [] J1))) key (by kernel_rfl)
def inD(x y:Int)(d:Dt):Bool:=if decide (d.ni>=x)then decide (d.ni < y)else false
def spD(x y:Int)(l:List Dt):Nat->Int
 | 0=>0
 | i+1=>if inD x y (l.getD i default)then IntKind.i64.wrap (spD x y l i+V5 (l.getD i default))else spD x y l i
def eSp(r:Ru)(l:List Mv)(x y:Int):Int:=sFirst [JY r l,sWhen (if decide (x < 0)then true else decide (x > y)) 14]
def sp34(r:Ru)(l:List Mv):Nat->List AV->Option AV
 | 24,_=>some (.i (JY r l))
 | 29,_=>some (.fresh 101 10 ((l.map (QR r)).map JS))
 | 31,[.agg c]=>some (.i (V5 (Jb0 c)))
 | n,x=>spS n x
def la34(r:Ru)(x y:Int)(l:List Mv):LA:={
 pre:=[.keep [5,9,34,35,36] [],.bound 1],post:=[.keep [5,9,34,35,36] [],.bound 1]
 Gh:=Nat
 st:=fun i=>⟨[(5,.elt 2 [[.i x,.i y]] 0 0),(9,.i (spD x y (l.map (QR r)) i)),(34,.sl 10 ((l.map (QR r)).map JS)),(35,.i ((l.map (QR r)).map JS).length),(36,.i i)],[],1⟩
 ok:=fun i=>i<=l.length
 ms:=fun i=>l.length-i }
abbrev Jle(r:Ru)(l:List Mv):=List.map (QR r) l
abbrev Ji5(r:Ru)(l:List Mv)(g:Nat):=(Jle r l).getD (g:Int).toNat default
abbrev Jlg(r:Ru)(l:List Mv):=List.map JS (Jle r l)
abbrev Z58c(x:Int)(y:Int):=sWhen (if decide (x < 0)=true then true else decide (x > y)) (14:Int)
abbrev JpT(r:Ru)(l:List Mv)(g:Nat)(x:Int):=decide ((Ji5 r l g).ni>=x)=true->decide ((Ji5 r l g).ni>=x)=true
abbrev Z58e(x:Int):=(!decide (x < 0))=true->(!decide (x < 0))=true
abbrev Jlf(r:Ru)(l:List Mv):=((Jlg r l).length:Int)
abbrev Z58g(x:Int)(y:Int)(r:Ru)(l:List Mv)(g':Nat):=[(5,AV.elt 2 [[AV.i x,AV.i y]] 0 0),(9,AV.i (spD x y (Jle r l) g')),(34,AV.sl 10 (Jlg r l)),(35,AV.i (Jlf r l)),(36,AV.i (g':Int))]
abbrev Z58i(r:Ru)(l:List Mv)(x:Int)(y:Int):=[hdI [AV.i (JY r l)],hdI [AV.i (Z58c x y)]]
abbrev Z58j(r:Ru)(l:List Mv)(x:Int)(y:Int):=[AV.i (if(eSp r l x y != 0)=true then(0:Int)else spD x y (Jle r l) l.length),AV.i (eSp r l x y)]
theorem c12(r:Ru)(l:List Mv)(x y:Int)(hr:r.ts.length<=1000)(hm:r.rs.length<=1000)(hn:∀ t,t ∈ r.ts->t.n.length<=1000)(hs:∀ s,s ∈ r.rs->s.length<=1000)(hl:l.length<=1000)(hv:∀ m,m ∈ l->m.fl.length<=1000/\m.al.length<=1000)(hK:JY r l=0->RuOK r/\∀ m,m ∈ l->MvOK r m):P0 12 [.agg (encRu r),.sl 5 (l.map encMv),.agg [.i x,.i y]] (.tup [.i (if eSp r l x y != 0 then 0 else spD x y (l.map (QR r)) l.length),.i (eSp r l x y)]):=by
 have key :
  (Z58e x)/\(Z58e x)/\(Z58e x)/\(Z58e x)/\(decide (x < 0)=false->(!decide (x < 0))=true)/\P0 24 [AV.agg (encRu r),AV.sl 5 (List.map encMv l)] (AV.i (JY r l))/\P0 28 [AV.bool (if decide (x < 0)=true then true else
  decide (x > y)),AV.i 14] (AV.i (Z58c x y))/\P0 27 [AV.sl 1 [[AV.i (JY r l)],[AV.i (Z58c x y)]]] (AV.i (sFirst (Z58i r l x y)))/\((sFirst (Z58i r l x y) != 0)=true->AV.tup [AV.i 0,AV.i (sFirst (Z58i r l x y))]=AV.tup
  (Z58j r l x y))/\((sFirst (Z58i r l x y) != 0)=false->P0 29 [AV.sl 5 (List.map encMv l),AV.fn (Fn.func 30) [AV.agg (encRu r)] []] (AV.fresh 101 10 (Jlg r l))/\(∃ (g:Nat),g<=l.length/\AS.mk [(5,AV.elt 2 [[AV.i x,AV.i
  y]] 0 0),(9,AV.i 0),(34,AV.sl 10 (Jlg r l)),(35,AV.i (Jlf r l)),(36,AV.i 0)] [] 1=AS.mk [(5,AV.elt 2 [[AV.i x,AV.i y]] 0 0),(9,AV.i (spD x y (Jle r l) g)),(34,AV.sl 10 (Jlg r l)),(35,AV.i (Jlf r l)),(36,
  AV.i (g:Int))] [] 1)/\∀ (g:Nat),g<=l.length->(decide ((g:Int) < (Jlf r l))=true->(0:Int)<=(g:Int)/\(g:Int) < (Jlf r l)/\AV.agg (Ji (Jlg r l) (g:Int).toNat)=AV.agg (JS (Ji5 r l g))/\(JpT r l
  g x)/\(JpT r l g x)/\(JpT r l g x)/\(JpT r l g x)/\(JpT r l g x)/\((if decide ((Ji5 r l g).ni>=x)=true then decide ((Ji5 r l g).ni < y)else false)=true->P0 31 [AV.agg (JS (Ji5 r l g))] (AV.i (V5 (Jb0
  (JS (Ji5 r l g)))))/\Jc ((g:Int)+1)/\∃ (g':Nat),g'<=l.length/\l.length-g' < l.length-g/\AS.mk [(5,AV.elt 2 [[AV.i x,AV.i y]] 0 0),(9,AV.i (IntKind.i64.wrap (spD x y (Jle r l) g+V5 (Jb0 (JS (Ji5
  r l g)))))),(34,AV.sl 10 (Jlg r l)),(35,AV.i (Jlf r l)),(36,AV.i ((g:Int)+1))] [] 1=AS.mk (Z58g x y r l g') [] 1)/\((if decide ((Ji5 r l g).ni>=x)=true then decide ((Ji5 r l g).ni < y)else false)=false →
  Jc ((g:Int)+1)/\∃ (g':Nat),g'<=l.length/\l.length-g' < l.length-g/\AS.mk [(5,AV.elt 2 [[AV.i x,AV.i y]] 0 0),(9,AV.i (spD x y (Jle r l) g)),(34,AV.sl 10 (Jlg r l)),(35,AV.i (Jlf r l)),(36,AV.i ((↑g :
  Int)+1))] [] 1=AS.mk (Z58g x y r l g') [] 1))/\(decide ((g:Int) < (Jlf r l))=false->AV.tup [AV.i (spD x y (Jle r l) g),AV.i 0]=AV.tup (Z58j r l x y))):=by
   delta Ji5 Jlg Z58c JpT Z58e Jlf Z58g Jle Z58i Z58j
   have hlm:((l.map (QR r)).map JS).length=l.length:=by rw[Kb,Kb]
   refine⟨fun h=>h,fun h=>h,fun h=>h,fun h=>h,fun h=>by rw[h];rfl,c24 r l hr hm hn hs hl hv,c28 _ _,c27 [_,_] (by simp),fun h=>?_,fun h=>?_⟩
   . have h:(eSp r l x y != 0)=true:=h
     rw[if_pos h]
     rfl
   have h:(eSp r l x y != 0)=false:=h
   have hz:eSp r l x y=0:=QE h
   have hz1:JY r l=0:=by
    have h9:=hz
    unfold eSp at h9
    by_cases q:JY r l=0
    . exact q
    exact absurd h9 (by simp[sFirst,q])
   obtain⟨hR,hM⟩:=hK hz1
   refine⟨c29 r l hR hM hl,⟨0,by omega,rfl⟩,fun g hg=>?_⟩
   rw[hlm]
   have hl2:(l.map (QR r)).length=l.length:=Kb _
   refine⟨fun hd=>?_,fun hd=>?_⟩
   . have hlt:=Jm hd
     refine⟨by omega,by omega,congrArg AV.agg (Jl JS (by omega)),fun h=>h,fun h=>h,fun h=>h,fun h=>h,fun h=>h,fun h=>?_,fun h=>?_⟩
     . have h:inD x y ((l.map (QR r)).getD g default)=true:=h
       refine⟨c31 _,by unfold Jc;omega,g+1,by omega,by omega,?_⟩
       rw[spD,if_pos h]
       rfl
     have h:inD x y ((l.map (QR r)).getD g default)=false:=h
     refine⟨by unfold Jc;omega,g+1,by omega,by omega,?_⟩
     rw[spD,if_neg (by rw[h];decide)]
     rfl
   have e:=Jt hd hg
   subst e
   rw[if_neg (by rw[h];decide),hz]
 exact Jw Tryz.f12 (gsB (fun i=>if i.beq 5 then[.frzo 34]else[]) (Jcl 9 3 (fzB (mkB (sp34 r l) 12 [(7,1,rdL 10 JS (l.map (QR r)) 10 true)] (fun i=>if i.beq 0 then some (la34 r x y l)else none))))) key (by kernel_rfl)
theorem c9(r:Ru)(l:List Mv)(hr:r.ts.length<=1000)(hm:r.rs.length<=1000)(hn:∀ t,t ∈ r.ts->t.n.length<=1000)(hs:∀ s,s ∈ r.rs->s.length<=1000)(hl:l.length<=1000)(hv:∀ m,m ∈ l->m.fl.length<=1000/\m.al.length<=1000)(hK:JY r l=0->RuOK r/\∀ m,m ∈ l->MvOK r m):P0 9 [.agg (encRu r),.sl 5 (l.map encMv)] (.tup [.sl 1 (if JY r l != 0 then[]else(csM r l).map Jh),.i (JY r l)]):=by
 have key :
  P0 24 [AV.agg (encRu r),AV.sl 5 (List.map encMv l)] (AV.i (JY r l))/\((JY r l != 0)=true->AV.tup [AV.sl 1 [],AV.i (JY r l)]=AV.tup [AV.sl 1 (if(JY r l != 0)=true then[]else List.map Jh
  (csM r l)),AV.i (JY r l)])/\((JY r l != 0)=false->P0 25 [AV.agg (encRu r),AV.sl 5 (List.map encMv l)] (AV.fresh 3 1 (List.map Jh (csM r l)))/\AV.tup [AV.sl 1 (List.map Jh (csM r l)),AV.i 0] =
  AV.tup [AV.sl 1 (if(JY r l != 0)=true then[]else List.map Jh (csM r l)),AV.i (JY r l)]):=by
   refine⟨c24 r l hr hm hn hs hl hv,fun h=>?_,fun h=>?_⟩
   . rw[if_pos h]
   have hz:JY r l=0:=QE h
   obtain⟨hR,hM⟩:=hK hz
   refine⟨c25 r l hR hM hl,?_⟩
   rw[if_neg (by rw[h];decide),hz]
 exact Jw Tryz.f9 (gsB (fun i=>if i.beq 4 then[.frzo 4]else if i.beq 3 then[.nil 4 1]else[]) (fzB (mkB (sp35 r l) 9 [] J1))) key (by kernel_rfl)
theorem Jau{P:Nat->Prop}{g:Nat}(h:∀ j,j < g->P j)(h2:P g):∀ j,j < g+1->P j:=fun j hj=>by
 by_cases e:j=g
 . rw[e];exact h2
 exact h j (by omega)
def la32(l:List Mv):LA:={
 pre:=[.own 3 79 5,.reno 3 1,.keep [3,6,7,8] [1],.bound 2],post:=[.reno 3 1,.keep [3,6,7,8] [1],.bound 2]
 Gh:=Nat
 st:=fun i=>⟨[(3,.own 1 ((l.take i).map encMv).length),(6,.sl 5 (l.map encMv)),(7,.i (l.map encMv).length),(8,.i i)],[(1,.buf 79 5 ((l.take i).map encMv))],2⟩
 ok:=fun i=>i<=(l.map encMv).length
 ms:=fun i=>(l.map encMv).length-i }
def okM(m:Mv):Bool:=if(if decide ((m.fl.length:Int) > 40)then true else decide ((m.al.length:Int) > 40))then false else !decide ((m.ty.length:Int) > 40)
def shM(l:List Mv):Bool:=if(if decide ((l.length:Int) > 12)then(l.length:Int) != 257 else false)then false else l.all okM
theorem UE{n:Int}(h:Jc n):IntKind.i64.wrap n=n:=by
 unfold Jc at h
 show(if(true && decide (n % 18446744073709551616>=9223372036854775808))=true then n % 18446744073709551616-18446744073709551616 else n % 18446744073709551616)=n
 simp only[Bool.true_and,Ko]
 split <;> omega
theorem JcM{a b:Int}(h:(if a != 0 then a else b)=0):a=0/\b=0:=by
 by_cases q:a=0
 . subst q;exact⟨rfl,by simpa using h⟩
 rw[if_pos (by simpa using q)]at h;exact absurd h q
theorem gt5{n m:Int}{x:Int}(h:(if decide (n > m)then 5 else x)=0):n<=m/\x=0:=by
 by_cases q:n > m
 . rw[if_pos (by simpa using q)]at h;cases h
 rw[if_neg (by simpa using q)]at h;exact⟨by omega,h⟩
theorem mem_get{α:Type}[Inhabited α]{l:List α}{x:α}(h:x ∈ l):∃ i,i < l.length/\l.getD i default=x:=by
 obtain⟨i,hi,e⟩:=List.mem_iff_getElem.1 h
 exact⟨i,hi,by rw[Ka,Kj hi,e];rfl⟩
theorem ru_ok{r:Ru}(h:chkR r=0):RuOK r:=by
 unfold chkR at h
 obtain⟨h1,h2⟩:=JcM h
 obtain⟨-,h3⟩:=JL h2
 obtain⟨hl,h4⟩:=gt5 h3
 obtain⟨hT,h5⟩:=JL h4
 obtain⟨h6, -⟩:=JcM h5
 unfold e1 at h1
 rw[first_zero,first_zero]at h1
 have p:=Jds h1.1
 unfold e4 at h6
 rw[first_zero,within_zero]at h6
 refine⟨p.1,p.2.1,p.2.2,by omega,fun t ht=>?_,h6.1⟩
 obtain⟨i,hi,rfl⟩:=mem_get ht
 have h7:=hT i hi
 unfold fT at h7
 rw[first_zero,first_zero,first_zero,first_zero,within_zero,within_zero]at h7
 exact⟨h7.2.2.1,h7.2.2.2.1⟩
theorem mv_ok{r:Ru}{l:List Mv}(h:chkMR r l=0):chkR r=0/\(RuOK r/\∀ m,m ∈ l->MvOK r m)/\l.length<=256:=by
 unfold chkMR at h
 obtain⟨h1,h2⟩:=JcM h
 rw[first_zero,first_zero]at h1
 have hl:=Qp (by decide) h1.2.1
 simp only[decide_eq_false_iff_not]at hl
 refine⟨h1.1,⟨ru_ok h1.1,fun m hm=>?_⟩,by omega⟩
 obtain⟨i,hi,rfl⟩:=mem_get hm
 have h7:=(JL h2).1 i hi
 unfold fMv at h7
 rw[first_zero,first_zero,first_zero,first_zero,first_zero,first_zero,within_zero,within_zero]at h7
 obtain⟨-, -, -,h8,h9,h10, -⟩:=h7
 have h8:=Qp (by decide) h8
 rw[<- WY]at h8
 exact⟨by simpa using h8,h9,h10⟩
theorem co_eq{r:Ru}{m:Mv}(hR:RuOK r)(hM:MvOK r m):V5 (QR r m)=rCo r m:=by
 have e:(QR r m).dk=wiR r.a r.b m.mi:=U8 hR.a hR.b hR.n (by have:=hM.m;omega)
 unfold V5 rCo
 rw[e]
 rfl
theorem cs_eq{r:Ru}{l:List Mv}(h:RuOK r/\∀ m,m ∈ l->MvOK r m):csM r l=l.map (rCo r):=by
 unfold csM
 rw[K9]
 exact List.map_congr_left fun m hm=>co_eq h.1 (h.2 m hm)
theorem tp_in{r:Ru}{m:Mv}(hM:MvOK r m):WI r.ts m.ty ∈ r.ts:=by
 rw[WI,if_pos hM.t]
 exact Js hM.t
theorem co_bd{r:Ru}{m:Mv}(hR:RuOK r)(hM:MvOK r m):0<=rCo r m/\rCo r m<=64:=by
 have h:=(hR.k _ (tp_in hM)).1
 unfold rCo
 split
 . omega
 exact h
theorem JlG{l:List Int}{b:Int}(hb:0<=b/\b<=1000000000)(hl:l.length<=1000)(h:∀ x,x ∈ l->0<=x/\x<=b):∀ i,i<=l.length->(0<=sumW l i/\sumW l i<=b * i)/\∀ j,j < i->sumW l (j+1)=sumW l j+l.getD j default
 | 0,_=>⟨by simp[sumW],by intros;omega⟩
 | i+1,hi=>by
  obtain⟨⟨h1,h2⟩,h3⟩:=JlG hb hl h i (by omega)
  have h4:=h _ (Js (show i < l.length by omega))
  have h5:b * (i:Int)<=1000000000 * 1000:=Int.mul_le_mul hb.2 (by omega) (by omega) (by omega)
  have e:sumW l (i+1)=sumW l i+l.getD i default:=UE (by unfold Jc;omega)
  refine⟨?_,fun j hj=>?_⟩
  . rw[e,Int.natCast_add,Int.mul_add]
    refine⟨by omega,?_⟩
    have:b * ((1:Nat):Int)=b:=by omega
    omega
  by_cases q:j=i
  . rw[q];exact e
  exact h3 j (by omega)
theorem Ww{α β:Type}[Inhabited α][Inhabited β]{f:α->β}{l:List α}{i:Nat}(h:i < l.length):(l.map f).getD i default=f (l.getD i default):=by
 rw[Ka,Ka,Kk,Kj h]
 rfl
theorem le_eq{r:Ru}{l:List Mv}(h:RuOK r/\∀ m,m ∈ l->MvOK r m)(hl:l.length<=1000):sLe r l=leW r l l.length/\sLe r l=r.q-JaE (l.map (rCo r))/\(0<=JaE (l.map (rCo r))/\JaE (l.map (rCo r))<=64000):=by
 have hb:∀ x,x ∈ l.map (rCo r)->0<=x/\x<=64:=fun x hx=>by
  obtain⟨m,hm,rfl⟩:=List.mem_map.1 hx
  exact co_bd h.1 (h.2 m hm)
 have hlm:(l.map (rCo r)).length=l.length:=Kb _
 have hs:=fun i hi=>JlG (b:=64) (by omega) (by omega) hb i hi
 have hq:=h.1.q
 have key:∀ i,i<=l.length->leW r l i=r.q-sumW (l.map (rCo r)) i:=fun i=>by
  induction i with
  | zero=>intro _;simp[leW,sumW]
  | succ i ih =>
   intro hi
   have h1:=hs (i+1) (by omega)
   have h2:=h1.2 i (by omega)
   have h3:=(hs i (by omega)).1
   rw[Ww (by omega)]at h2
   have h4:=co_bd h.1 (h.2 _ (Js (show i < l.length by omega)))
   rw[leW,ih (by omega),UE (by unfold Jc;omega),h2]
   omega
 have h1:=(hs l.length (by omega)).1
 have e:sLe r l=r.q-JaE (l.map (rCo r)):=by
  unfold sLe
  rw[cs_eq h]
  refine UE ?_
  unfold JaE
  rw[hlm]
  unfold Jc
  omega
 refine⟨?_,e,?_⟩
 . rw[e,key _ (Kr _)]
   unfold JaE
   rw[hlm]
 unfold JaE
 rw[hlm]
 omega
theorem sp_eq{r:Ru}{l:List Mv}(h:RuOK r/\∀ m,m ∈ l->MvOK r m)(hl:l.length<=1000)(x y:Int):spD x y (l.map (QR r)) l.length=spW r x y l l.length/\(0<=spW r x y l l.length/\spW r x y l l.length<=64000):=by
 have key:∀ i,i<=l.length->spD x y (l.map (QR r)) i=spW r x y l i/\(0<=spW r x y l i/\spW r x y l i<=64 * i):=fun i=>by
  induction i with
  | zero=>intro _;exact⟨rfl,by simp[spW]⟩
  | succ i ih =>
   intro hi
   obtain⟨h1,h2,h3⟩:=ih (by omega)
   have hm:=h.2 _ (Js (show i < l.length by omega))
   have hc:=co_bd h.1 hm
   have ec:=co_eq h.1 hm
   have ew:(QR r (l.getD i default)).dk=wiR r.a r.b (l.getD i default).mi:=U8 h.1.a h.1.b h.1.n (by have:=hm.m;omega)
   rw[spD,spW,Ww (show i < l.length by omega),h1,ec]
   have hn:Jc (spW r x y l i):=by unfold Jc;omega
   have hn2:Jc (spW r x y l i+rCo r (l.getD i default)):=by unfold Jc;omega
   rw[UE hn2]
   have e1:inR r x y (l.getD i default)=(wiR r.a r.b (l.getD i default).mi && inD x y (QR r (l.getD i default))):=by
    unfold inR inD
    show _=(_ && if decide (niI r.a r.b (l.getD i default).day (l.getD i default).mi>=x)=true then decide (niI r.a r.b (l.getD i default).day (l.getD i default).mi < y)else false)
    cases wiR r.a r.b (l.getD i default).mi <;> simp
   rw[e1]
   have c0:wiR r.a r.b (l.getD i default).mi=false->rCo r (l.getD i default)=0:=fun hw=>by unfold rCo;rw[hw];rfl
   cases hw:wiR r.a r.b (l.getD i default).mi with
   | false =>
    rw[c0 hw]
    simp only[Bool.false_and,Bool.false_eq_true,if_false,Int.add_zero,ite_self]
    exact⟨trivial,h2,by omega⟩
   | true =>
    simp only[Bool.true_and]
    refine⟨trivial,?_⟩
    split <;> omega
 have:=key l.length (Kr _)
 exact⟨this.1,this.2.1,by omega⟩
def o1(a b m:Int):Int:=sFirst [sSp a b,Ja m 0 1439]
def th(r:Ru)(day m:Int):Int:=sFirst [chkR r,Ja day 1 100000,Ja m 0 1439]
def sp3(r:Ru)(a b n0 n1:Int):Nat->List AV->Option AV
 | 1016,_=>some (.bool true)
 | 1017,_=>some (.bool (shR r))
 | 18,_=>some (.tup [.bool (rWi a b n1),.i (o1 a b n1)])
 | 1019,_=>some (.tup [.i (rLe a b),.i (sSp a b)])
 | 1020,_=>some (.tup [.i (rNi r n0 n1),.i (xNi r n0 n1)])
 | 1021,_=>some (.agg (encRu r))
 | 1025,_=>some (.i (chkR r))
 | 1027,_=>some (.i (cntN (fun m=>wiR a b m) 1440))
 | 1028,_=>some (.i (niI r.a r.b n0 n1))
 | 41,_=>some (.i (Wz r))
 | n,w=>spS n w
def b3(r:Ru)(a b n0 n1:Int):List (Nat × AV):=[(3,.elt 18 [encRu r] 0 0),(4,.elt 2 [[.i a,.i b]] 0 0),(5,.elt 2 [[.i n0,.i n1]] 0 0),(6,.bool false)]
def w3(r:Ru)(a b n0 n1:Int):List (Nat × AV):=[(7,.bool (rWi a b n1)),(8,.i (o1 a b n1)),(9,.i (rLe a b)),(10,.i (sSp a b)),(11,.i (rNi r n0 n1)),(12,.i (xNi r n0 n1)),(13,.i (sSp a b)),(14,.i (Ja n1 0 1439)),(15,.i (o1 a b n1))]
def c1076(r:Ru)(n0 n1:Int):Bool:=if th r n0 n1 == 0 then !wiR r.a r.b n1 else false
def m3(r:Ru)(a b n0 n1:Int):List (Option (List GS × AS)) :=
 let B:=b3 r a b n0 n1
 let W:=w3 r a b n0 n1
 let t:=th r n0 n1
 let x:=xNi r n0 n1
 let V:=B++W++[(16,.i x)]
 [md [] B,md [] (B++[(26,.bool false)]),md [] B,md [] (B++W.take 2),md [] (B++W.take 4),md [] (B++W.take 6),md [] (B++W.take 8),md [] (B++W++[(16,.i t)]),
  md [] (B++W++[(16,.i t),(76,.bool (c1076 r n0 n1))]),md [] V,md [] (V++[(17,.bool false),(18,.i 0),(19,.i 0)]),
  md [] (V++[(17,.bool false),(18,.i 0),(19,.i 0),(78,.bool (o1 a b n1 == 0))]),
  md [] (V++[(17,.bool (rWi a b n1)),(18,.i 0),(19,.i 0)]),
  md [] (V++[(17,.bool (rWi a b n1)),(18,.i 0),(19,.i 0),(84,.bool (sSp a b == 0))]),
  md [] (V++[(17,.bool (rWi a b n1)),(18,.i (rLe a b)),(19,.i 0)]),
  md [] (V++[(17,.bool (rWi a b n1)),(18,.i (rLe a b)),(19,.i 0),(88,.bool (x == 0))]),
  md [] (V++[(17,.bool (rWi a b n1)),(18,.i (rLe a b)),(19,.i (rNi r n0 n1))])]
def f3(r:Ru)(a b n0 n1:Int):List (Option (List GS × AS)):=[md [] (b3 r a b n0 n1),md [] (b3 r a b n0 n1++[(26,.bool true)])]
def cl3:Operand->Bool
 | .tmp t=>t.beq 26
 | _=>false
def rds3:List (Nat × Nat × (List AV->Option AV)):=[(17,5,rdT),(17,9,rdT),(17,14,rdT),(17,19,rdT),(17,24,rdT),(17,29,rdT),(17,34,rdT)]
def B3(r:Ru)(a b n0 n1:Int)(l:List (Nat × Nat × (List AV->Option AV))):BA:={ JnH 1 (JnH 17 (fzB (mkB (sp3 r a b n0 n1) 1003 (l++rds3) J1)))with cl:=cl3 }
theorem Jeo{a:Int}(h:(a == 0)=false):(a != 0)=true:=by
 rw[bne,h]
 rfl
theorem JbE{a:Int}(h:(a == 0)=true):¬ (a != 0)=true:=by
 rw[bne,h]
 exact Bool.false_ne_true
def cs4(r:Ru)(l:List Mv):List Int:=if chkMR r l == 0 then l.map (rCo r)else[]
def fs4(r:Ru)(l:List Mv):List Int:=if chkMR r l == 0 then l.map (rFe r)else[]
def eSr(r:Ru)(l:List Mv)(x y:Int):Int:=sFirst [chkMR r l,sWhen (if decide (x < 0)then true else decide (x > y)) 14]
def Jm4(r:Ru)(l:List Mv)(x y:Int):Int:=if eSr r l x y == 0 then spW r x y l l.length else 0
def le4(r:Ru)(l:List Mv):Int:=if chkMR r l == 0 then leW r l l.length else 0
structure Sh(r:Ru)(l:List Mv):Prop where
 t:r.ts.length<=1000
 s:r.rs.length<=1000
 n:∀ t,t ∈ r.ts->t.n.length<=1000
 m:∀ s,s ∈ r.rs->s.length<=1000
 k:l.length<=1000
 v:∀ m,m ∈ l->m.fl.length<=1000/\m.al.length<=1000
theorem c24r{r:Ru}{l:List Mv}(h:Sh r l):P0 24 [.agg (encRu r),.sl 5 (l.map encMv)] (.i (chkMR r l)):=by
 have:=c24 r l h.t h.s h.n h.m h.k h.v
 rw[Jal]at this
 exact this
theorem hKr{r:Ru}{l:List Mv}(h:JY r l=0):RuOK r/\∀ m,m ∈ l->MvOK r m:=(mv_ok (Jal r l ▸ h)).2.1
theorem c9r{r:Ru}{l:List Mv}(h:Sh r l):P0 9 [.agg (encRu r),.sl 5 (l.map encMv)] (.tup [.sl 1 ((cs4 r l).map Jh),.i (chkMR r l)]):=by
 have:=c9 r l h.t h.s h.n h.m h.k h.v hKr
 rw[Jal]at this
 cases q:(chkMR r l == 0)with
 | true =>
  rw[if_neg (JbE q),cs_eq (mv_ok (by simpa using q)).2.1]at this
  rw[cs4,if_pos q]
  exact this
 | false =>
  rw[if_pos (Jeo q)]at this
  rw[cs4,if_neg (by rw[q];decide)]
  exact this
theorem eS_chk{r:Ru}{l:List Mv}{x y:Int}(h:eSr r l x y=0):chkMR r l=0:=by
 unfold eSr at h
 rw[first_zero]at h
 exact h.1
theorem c12r{r:Ru}{l:List Mv}(x y:Int)(h:Sh r l):P0 12 [.agg (encRu r),.sl 5 (l.map encMv),.agg [.i x,.i y]] (.tup [.i (Jm4 r l x y),.i (eSr r l x y)]):=by
 have:=c12 r l x y h.t h.s h.n h.m h.k h.v hKr
 rw[show eSp r l x y=eSr r l x y by unfold eSp eSr;rw[Jal]]at this
 cases q:(eSr r l x y == 0)with
 | true =>
  rw[if_neg (JbE q),(sp_eq (mv_ok (eS_chk (by simpa using q))).2.1 h.k x y).1]at this
  rw[Jm4,if_pos q]
  exact this
 | false =>
  rw[if_pos (Jeo q)]at this
  rw[Jm4,if_neg (by rw[q];decide)]
  exact this
theorem c11r{r:Ru}{l:List Mv}(h:Sh r l):P0 11 [.agg (encRu r),.sl 5 (l.map encMv)] (.tup [.i (le4 r l),.i (chkMR r l)]):=by
 have:=c11 r l h.t h.s h.n h.m h.k h.v hKr
 rw[Jal]at this
 cases q:(chkMR r l == 0)with
 | true =>
  rw[if_neg (JbE q),(le_eq (mv_ok (by simpa using q)).2.1 h.k).1]at this
  rw[le4,if_pos q]
  exact this
 | false =>
  rw[if_pos (Jeo q)]at this
  rw[le4,if_neg (by rw[q];decide)]
  exact this
def sp4(r:Ru)(l:List Mv)(x y:Int):Nat->List AV->Option AV
 | 1016,_=>some (.bool true)
 | 1017,_=>some (.bool (shR r))
 | 1030,_=>some (.bool (shM l))
 | 1021,_=>some (.agg (encRu r))
 | 1032,_=>some (.sl 5 (l.map encMv))
 | 9,_=>some (.tup [.sl 1 ((cs4 r l).map Jh),.i (chkMR r l)])
 | 1033,_=>some (.tup [.sl 1 ((fs4 r l).map Jh),.i (chkMR r l)])
 | 12,_=>some (.tup [.i (Jm4 r l x y),.i (eSr r l x y)])
 | 11,_=>some (.tup [.i (le4 r l),.i (chkMR r l)])
 | 1036,_=>some (.i (chkMR r l))
 | 24,_=>some (.i (chkMR r l))
 | 1043,_=>some (.bool true)
 | 1038,[_,.agg c]=>some (.i (rCo r (decMv c)))
 | 1039,[_,.agg c]=>some (.i (rFe r (decMv c)))
 | 1040,_=>some (.i (leW r l l.length))
 | 1041,_=>some (.i (spW r x y l l.length))
 | n,w=>spS n w
def b4(r:Ru)(l:List Mv)(x y:Int):List (Nat × AV):=[(1,.sl 5 (l.map encMv)),(3,.elt 18 [encRu r] 0 0),(5,.elt 2 [[.i x,.i y]] 0 0),(6,.bool false)]
def w4(r:Ru)(l:List Mv)(x y:Int):List (Nat × AV):=[(7,.sl 1 ((cs4 r l).map Jh)),(8,.i (chkMR r l)),(9,.sl 1 ((fs4 r l).map Jh)),(10,.i (chkMR r l)),(11,.i (Jm4 r l x y)),(12,.i (eSr r l x y)),(13,.i (le4 r l)),(14,.i (chkMR r l)),(15,.i (chkMR r l)),(16,.i (eSr r l x y))]
def bs4(a b:List (List AV)):BL:=[(1,.buf 3 1 a),(2,.buf 3 1 b)]
def mb(g:List GS)(l:List (Nat × AV))(bs:BL):Option (List GS × AS):=some (g++[.keep (l.map (·.1)) (bs.map (·.1)),.bound (bs.length+1)],⟨l,bs,bs.length+1⟩)
def m4(r:Ru)(l:List Mv)(x y:Int):List (Option (List GS × AS)) :=
 let B:=b4 r l x y
 let W:=w4 r l x y
 let V:=B++W
 let O:List (Nat × AV):=[(17,.own 1 0),(18,.own 2 0)]
 let S:List (Nat × AV):=[(17,.sl 1 ((cs4 r l).map Jh)),(18,.sl 1 ((fs4 r l).map Jh))]
 [md [] B,md [] (B++[(33,.bool false)]),md [] B,md [] (B++W.take 2),md [] (B++W.take 4),md [] (B++W.take 6),md [] (B++W.take 8),md [] (B++W.take 9),md [] V,
  mb [.own 17 3 1,.own 18 3 1,.reno 17 1,.reno 18 2] (V++O) (bs4 [] []),mb [] (V++O++[(19,.i 0),(20,.i 0)]) (bs4 [] []),mb [] (V++O++[(19,.i 0),(20,.i 0),(86,.bool (chkMR r l == 0))]) (bs4 [] []),
  md [.frzo 17,.frzo 18] (V++S++[(19,.i 0),(20,.i (le4 r l))]),
  md [] (V++S++[(19,.i 0),(20,.i (le4 r l)),(115,.bool (eSr r l x y == 0))]),
  md [] (V++S++[(19,.i (Jm4 r l x y)),(20,.i (le4 r l))])]
def f4(r:Ru)(l:List Mv)(x y:Int):List (Option (List GS × AS)):=[md [] (b4 r l x y),md [] (b4 r l x y++[(33,.bool true)])]
theorem sp_z{a b:Int}(ha:0<=a/\a < 1440)(hb:0<=b/\b < 1440)(hab:a ≠ b):sSp a b=0:=by
 unfold sSp
 rw[decide_eq_false (show ¬ a < 0 by omega),decide_eq_false (show ¬ a>=1440 by omega),decide_eq_false (show ¬ b < 0 by omega),decide_eq_false (show ¬ b>=1440 by omega),beq_false_of_ne hab]
 rfl
theorem JjE{x lo hi:Int}(h:lo<=x/\x<=hi):Ja x lo hi=0:=within_zero.2 h
theorem c18v{a b m:Int}(ha:0<=a/\a < 1440)(hb:0<=b/\b < 1440)(hab:a ≠ b)(hm:0<=m/\m < 1440):P0 18 [.agg [.i a,.i b],.i m] (.tup [.bool (wiR a b m),.i 0]):=by
 have h:=c18 a b m
 have e:sFirst [sSp a b,Ja m 0 1439]=0:=by rw[sp_z ha hb hab,JjE (by omega)];rfl
 rw[rWi,e,if_neg (by decide),U8 ha hb hab hm]at h
 exact h
theorem c9v{r:Ru}{l:List Mv}(hS:Sh r l)(h0:chkMR r l=0):P0 9 [.agg (encRu r),.sl 5 (l.map encMv)] (.tup [.sl 1 ((l.map (rCo r)).map Jh),.i 0]):=by
 have h:=c9r hS
 rw[h0,cs4,h0,if_pos (by rfl)]at h
 exact h
theorem c12v{r:Ru}{l:List Mv}(hS:Sh r l)(h0:chkMR r l=0){x y:Int}(hx:0<=x)(hy:x<=y):P0 12 [.agg (encRu r),.sl 5 (l.map encMv),.agg [.i x,.i y]] (.tup [.i (spW r x y l l.length),.i 0]):=by
 have h:=c12r x y hS
 have e:eSr r l x y=0:=by unfold eSr;rw[h0,decide_eq_false (show ¬ x < 0 by omega),decide_eq_false (show ¬ x > y by omega)];rfl
 rw[e,Jm4,e,if_pos (by rfl)]at h
 exact h
theorem c11v{r:Ru}{l:List Mv}(hS:Sh r l)(h0:chkMR r l=0):P0 11 [.agg (encRu r),.sl 5 (l.map encMv)] (.tup [.i (r.q-sumW (l.map (rCo r)) l.length),.i 0]):=by
 have h:=c11r hS
 have e:=le_eq (mv_ok h0).2.1 hS.k
 rw[h0,le4,h0,if_pos (by rfl),<- e.1,e.2.1]at h
 unfold JaE at h
 rw[Kb]at h
 exact h
end Go.Proofs.YthkngjifljcocaaGreatDoor.N7
