/-
  What the small functions of chapter 7 return. The balance of a fund: contracts. The arguments of chapter 8's statements, and the way from a contract of a statement to its row. Plain definitions and laws. No condition but the theorems' own.
-/
import Derived.Test.YtfoeefaamjknpaaGreatDoorPA
import Derived.Test.YtfoeefaamjknpaaGreatDoorAvD
import Derived.Test.YtfoeefaamjknpaaGreatDoorCards
import Derived.Test.YtfoeefaamjknpaaGreatDoorTie
import Derived.LaidMore
import Derived.LaidOnce
import Derived.Lay
import Derived.Stop.Joined
import Derived.SevenTiedAt
namespace Go.Proofs.YtfoeefaamjknpaaGreatDoor
open Go Go.Av Go.RowKit
def sWhen (b:Bool) (e:Int):Int:=if b then e else 0
def sFirst:List Int->Int
 | []=>0
 | x::l=>if x ≠ 0 then x else sFirst l
def sWithin (x lo hi:Int):Int:=sWhen (if decide (x < lo) then true else decide (x > hi)) 3
def hdI (l:List AV):Int:=match l with
 | [.int _ n]=>n
 | _=>0
def rInt (l:List Int):List (List AV):=l.map fun x=>[.i x]
def spI:Nat->List AV->Option AV:=fun _ _=>none
def spA:Nat->List AV->Option AV
 | 116,[.bool b,.int _ e]=>some (.i (sWhen b e))
 | 109,[.bool b,.int _ e]=>some (.i (sWhen b e))
 | 104,[.sl _ rows]=>some (.i (sFirst (rows.map hdI)))
 | 107,[.sl _ rows]=>some (.i (sFirst (rows.map hdI)))
 | 118,[.int _ x,.int _ lo,.int _ hi]=>some (.i (sWithin x lo hi))
 | 81,[.int _ x,.int _ lo,.int _ hi]=>some (.i (sWithin x lo hi))
 | n,x=>spI n x
theorem rInt_len (es:List Int):(rInt es).length=es.length:=by simp [rInt]
theorem rInt_at {es:List Int} {i:Nat} (h:i < es.length):nthR (rInt es) i=[.i (es.getD i 0)]:=by
 simp [nthR,rInt,List.getD_eq_getElem?_getD,h]
theorem first_drop (es:List Int):∀ (i:Nat),(∀ k,k < i->es.getD k 0=0)->i<=es.length->sFirst es=sFirst (es.drop i):=by
 intro i
 induction i with
 | zero=>intros;rfl
 | succ i ih =>
  intro h hl
  rw [ih (fun k hk=>h k (by omega)) (by omega)]
  have:=h i (by omega)
  rw [List.drop_eq_getElem_cons (show i < es.length by omega)]
  rw [List.getD_eq_getElem?_getD,List.getElem?_eq_getElem (show i < es.length by omega)] at this
  simp at this
  simp [sFirst,this]
theorem first_hit {es:List Int} {i:Nat} (h:i < es.length) (h0:∀ k,k < i->es.getD k 0=0) (hne:es.getD i 0 ≠ 0):sFirst es=es.getD i 0:=by
 rw [first_drop es i h0 (by omega),List.drop_eq_getElem_cons h]
 simp [List.getD_eq_getElem?_getD,h] at hne
 simp [sFirst,hne,List.getD_eq_getElem?_getD,h]
theorem first_end {es:List Int} (h0:∀ k,k < es.length->es.getD k 0=0):sFirst es=0:=by
 rw [first_drop es es.length h0 (Nat.le_refl _)]
 simp [sFirst]
theorem c116 (b:Bool) (e:Int) :PCall Tryz.prog G0 116 [.bool b,.i e] (.i (sWhen b e)):=by
 have key :
  (b=true->AV.i e=AV.i (sWhen b e))∧(b=false->AV.i 0=AV.i (sWhen b e)):=by
   exact ⟨fun h=>by simp [sWhen,h],fun h=>by simp [sWhen,h]⟩
 exact c_of Tryz.f116 (mkB spA 116 [] noLa) (by kernel_rfl) (by kernel_rfl) (by kernel_rfl) (by kernel_rfl) key (by kernel_rfl)
theorem c109 (b:Bool) (e:Int) :PCall Tryz.prog G0 109 [.bool b,.i e] (.i (sWhen b e)):=by
 have key :
  (b=true->AV.i e=AV.i (sWhen b e))∧(b=false->AV.i 0=AV.i (sWhen b e)):=by
   exact ⟨fun h=>by simp [sWhen,h],fun h=>by simp [sWhen,h]⟩
 exact c_of Tryz.f109 (mkB spA 109 [] noLa) (by kernel_rfl) (by kernel_rfl) (by kernel_rfl) (by kernel_rfl) key (by kernel_rfl)
theorem c118 (x lo hi:Int) :PCall Tryz.prog G0 118 [.i x,.i lo,.i hi] (.i (sWithin x lo hi)):=by
 have key :
  ((!decide (x < lo))=true->(!decide (x < lo))=true)∧((!decide (x < lo))=true->(!decide (x < lo))=true)∧(decide (x < lo)=false->(!decide (x < lo))=true)∧PCall Tryz.prog G0 116 [AV.bool (if decide (x < lo)=true
  then true else decide (x > hi)),AV.i 3] (AV.i (sWhen (if decide (x < lo)=true then true else decide (x > hi)) (3:Int)))∧AV.i (sWhen (if decide (x < lo)=true then true else decide (x > hi)) (3:Int))=AV.i (sWithin x lo
  hi):=by
   exact ⟨fun h=>h,fun h=>h,fun h=>by simp [h],c116 _ _,rfl⟩
 exact c_of Tryz.f118 (mkB spA 118 [] noLa) (by kernel_rfl) (by kernel_rfl) (by kernel_rfl) (by kernel_rfl) key (by kernel_rfl)
theorem c81 (x lo hi:Int) :PCall Tryz.prog G0 81 [.i x,.i lo,.i hi] (.i (sWithin x lo hi)):=by
 have key :
  ((!decide (x < lo))=true->(!decide (x < lo))=true)∧((!decide (x < lo))=true->(!decide (x < lo))=true)∧(decide (x < lo)=false->(!decide (x < lo))=true)∧PCall Tryz.prog G0 109 [AV.bool (if decide (x < lo)=true
  then true else decide (x > hi)),AV.i 3] (AV.i (sWhen (if decide (x < lo)=true then true else decide (x > hi)) (3:Int)))∧AV.i (sWhen (if decide (x < lo)=true then true else decide (x > hi)) (3:Int))=AV.i (sWithin x lo
  hi):=by
   exact ⟨fun h=>h,fun h=>h,fun h=>by simp [h],c109 _ _,rfl⟩
 exact c_of Tryz.f81 (mkB spA 81 [] noLa) (by kernel_rfl) (by kernel_rfl) (by kernel_rfl) (by kernel_rfl) key (by kernel_rfl)
def la104 (es:List Int):LA:={
 pre:=[.keep [0,5,6,7] [],.bound 1],post:=[.keep [0,5,6,7] [],.bound 1]
 Gh:=Nat
 st:=fun i=>⟨[(0,.sl 1 (rInt es)),(5,.sl 1 (rInt es)),(6,.i es.length),(7,.i i)],[],1⟩
 ok:=fun i=>i<=es.length∧∀ k,k < i->es.getD k 0=0
 ms:=fun i=>es.length-i }
def la107 (es:List Int):LA:={
 pre:=[.keep [0,3] [],.bound 1],post:=[.keep [0,3] [],.bound 1]
 Gh:=Nat
 st:=fun i=>⟨[(0,.sl 1 (rInt es)),(3,.i i)],[],1⟩
 ok:=fun i=>i<=es.length∧∀ k,k < i->es.getD k 0=0
 ms:=fun i=>es.length-i }
def rdI (es:List Int):List AV->Option AV
 | [.elt _ _ i _]=>some (.i (es.getD i 0))
 | _=>none
theorem c104 (es:List Int) (hl:es.length<=1000000):PCall Tryz.prog G0 104 [.sl 1 (rInt es)] (.i (sFirst es)):=by
 have key :
  (∃ (g:Nat),(g<=es.length∧∀ (k:Nat),k < g->es.getD k (0:Int)=(0:Int))∧AS.mk [(0,AV.sl 1 (rInt es)),(5,AV.sl 1 (rInt es)),(6,AV.i (↑(rInt es).length:Int)),(7,AV.i 0)] [] 1=AS.mk [(0,AV.sl 1 (rInt es)),
  (5,AV.sl 1 (rInt es)),(6,AV.i (↑es.length:Int)),(7,AV.i (g:Int))] [] 1)∧∀ (g:Nat),(g<=es.length∧∀ (k:Nat),k < g->es.getD k (0:Int)=(0:Int))->(decide ((g:Int) < (↑es.length:Int))=true->(0:Int)
  ≤ (g:Int)∧(g:Int) < (↑(rInt es).length:Int)∧nth (nthR (rInt es) (g:Int).toNat) 0=AV.i (es.getD (g:Int).toNat (0:Int))∧((es.getD (g:Int).toNat (0:Int) != 0)=true->AV.i (es.getD (g:Int).toNat (0 :
  Int))=AV.i (sFirst es))∧((es.getD (g:Int).toNat (0:Int) != 0)=false->In64 ((g:Int)+1)∧∃ (g':Nat),(g'<=es.length∧∀ (k:Nat),k < g'->es.getD k (0:Int)=(0:Int))∧es.length-g' < es.length-g ∧
  AS.mk [(0,AV.sl 1 (rInt es)),(5,AV.sl 1 (rInt es)),(6,AV.i (↑es.length:Int)),(7,AV.i ((g:Int)+1))] [] 1=AS.mk [(0,AV.sl 1 (rInt es)),(5,AV.sl 1 (rInt es)),(6,AV.i (↑es.length:Int)),(7,AV.i (↑g':Int))] []
  1))∧(decide ((g:Int) < (↑es.length:Int))=false->AV.i 0=AV.i (sFirst es)):=by
   refine ⟨⟨0,⟨by omega,by intros;omega⟩,by simp [rInt_len]⟩,fun g ⟨h1,h2⟩=>⟨fun hd=>?_,fun hd=>?_⟩⟩
   · have hlt:g < es.length:=by simpa using hd
     refine ⟨by omega,by rw [rInt_len];omega,by simp [rInt_at hlt,nth],fun hne=>?_,fun hz=>⟨?_,g+1,⟨hlt,fun k hk=>?_⟩,by omega,rfl⟩⟩
     · rw [first_hit hlt h2 (by simpa using hne)];rfl
     · unfold In64;omega
     · by_cases e:k=g
       · subst e;simpa using hz
       · exact h2 k (by omega)
   · have hge:g=es.length:=by simp at hd;omega
     rw [first_end (hge ▸ h2)]
 exact c_of Tryz.f104 (mkB spA 104 [(3,1,rdI es)] (fun i=>if i.beq 0 then some (la104 es) else none)) (by kernel_rfl) (by kernel_rfl) (by kernel_rfl) (by kernel_rfl) key (by kernel_rfl)
theorem c107 (es:List Int) (hl:es.length<=1000000):PCall Tryz.prog G0 107 [.sl 1 (rInt es)] (.i (sFirst es)):=by
 have key :
  (∃ (g:Nat),(g<=es.length∧∀ (k:Nat),k < g->es.getD k (0:Int)=(0:Int))∧AS.mk [(0,AV.sl 1 (rInt es)),(3,AV.i 0)] [] 1=AS.mk [(0,AV.sl 1 (rInt es)),(3,AV.i (g:Int))] [] 1)∧∀ (g:Nat),(g<=es.length∧∀
  (k:Nat),k < g->es.getD k (0:Int)=(0:Int))->(decide ((g:Int) < (↑(rInt es).length:Int))=true->(0:Int)<=(g:Int)∧(g:Int) < (↑(rInt es).length:Int)∧nth (nthR (rInt es) (g:Int).toNat) 0=AV.i
  (es.getD (g:Int).toNat (0:Int))∧((es.getD (g:Int).toNat (0:Int) != 0)=true->(0:Int)<=(g:Int)∧(g:Int) < (↑(rInt es).length:Int)∧nth (nthR (rInt es) (g:Int).toNat) 0=AV.i (es.getD (g:Int).toNat
  (0:Int))∧AV.i (es.getD (g:Int).toNat (0:Int))=AV.i (sFirst es))∧((es.getD (g:Int).toNat (0:Int) != 0)=false->In64 ((g:Int)+1)∧∃ (g':Nat),(g'<=es.length∧∀ (k:Nat),k < g'->es.getD k (0:Int) =
  (0:Int))∧es.length-g' < es.length-g∧AS.mk [(0,AV.sl 1 (rInt es)),(3,AV.i ((g:Int)+1))] [] 1=AS.mk [(0,AV.sl 1 (rInt es)),(3,AV.i (↑g':Int))] [] 1))∧(decide ((g:Int) < (↑(rInt es).length:Int))=false
  → AV.i 0=AV.i (sFirst es)):=by
   refine ⟨⟨0,⟨by omega,by intros;omega⟩,by simp⟩,fun g ⟨h1,h2⟩=>⟨fun hd=>?_,fun hd=>?_⟩⟩
   · have hlt:g < es.length:=by simpa [rInt_len] using hd
     refine ⟨by omega,by rw [rInt_len];omega,by simp [rInt_at hlt,nth],fun hne=>?_,fun hz=>⟨?_,g+1,⟨hlt,fun k hk=>?_⟩,by omega,rfl⟩⟩
     · refine ⟨by omega,by rw [rInt_len];omega,by simp [rInt_at hlt,nth],?_⟩
       rw [first_hit hlt h2 (by simpa using hne)];rfl
     · unfold In64;omega
     · by_cases e:k=g
       · subst e;simpa using hz
       · exact h2 k (by omega)
   · have hge:g=es.length:=by simp [rInt_len] at hd;omega
     rw [first_end (hge ▸ h2)]
 exact c_of Tryz.f107 (mkB spA 107 [(4,3,rdI es),(5,3,rdI es)] (fun i=>if i.beq 0 then some (la107 es) else none)) (by kernel_rfl) (by kernel_rfl) (by kernel_rfl) (by kernel_rfl) key (by kernel_rfl)
def rdL {α:Type} [Inhabited α] (k:Nat) (enc:α->List AV) (l:List α) (size:Nat) (agg:Bool):List AV->Option AV
 | [.elt k' _ i j]=>if k'.beq k then some (if agg then .agg (((enc (l.getD i default)).drop j).take size) else nth (enc (l.getD i default)) j) else none
 | _=>none
theorem row_at {α:Type} [Inhabited α] (enc:α->List AV) {l:List α} {i:Nat} (h:i < l.length):nthR (l.map enc) i=enc (l.getD i default):=by
 simp [nthR,List.getD_eq_getElem?_getD,h]
def sScan (f:Nat->Int) (n:Nat) (fin:Int):Int:=sFirst ((List.range n).map f++[fin])
theorem scan_hit {f:Nat->Int} {n i:Nat} {fin:Int} (h:i < n) (h0:∀ k,k < i->f k=0) (hne:f i ≠ 0):sScan f n fin=f i:=by
 have e:∀ k,k < n->((List.range n).map f++[fin]).getD k 0=f k:=fun k hk=>by
  simp [List.getD_eq_getElem?_getD,List.getElem?_append,hk]
 rw [sScan,first_hit (i:=i) (by simp;omega) (fun k hk=>by rw [e k (by omega)];exact h0 k hk) (by rw [e i h];exact hne),e i h]
theorem scan_end {f:Nat->Int} {n:Nat} {fin:Int} (h0:∀ k,k < n->f k=0):sScan f n fin=fin:=by
 have e:∀ k,k < n->((List.range n).map f++[fin]).getD k 0=f k:=fun k hk=>by
  simp [List.getD_eq_getElem?_getD,List.getElem?_append,hk]
 rw [sScan,first_drop _ n (fun k hk=>by rw [e k hk];exact h0 k hk) (by simp),List.drop_left' (by simp)]
 simp [sFirst]
 intro h;exact h.symm
theorem bne_t {a:Int} (h:(a != 0)=true):a ≠ 0:=by simpa using h
theorem bne_f {a:Int} (h:(a != 0)=false):a=0:=by simpa using h
def sLS (c:Int) (f:Nat->Int) (n:Nat) (fin:Int):Int:=if c != 0 then c else sScan f n fin
theorem ls_first {c:Int} {f:Nat->Int} {n:Nat} {fin:Int} (h:(c != 0)=true):sLS c f n fin=c:=by rw [sLS,if_pos h]
theorem ls_hit {c:Int} {f:Nat->Int} {n i:Nat} {fin:Int} (h:(c != 0)=false) (hi:decide ((i:Int) < (n:Int))=true) (h0:∀ k,k < i->f k=0) (hne:(f i != 0)=true):sLS c f n fin=f i:=by
 rw [sLS,if_neg (by rw [h];decide),scan_hit (by simpa using hi) h0 (bne_t hne)]
theorem ls_end {c:Int} {f:Nat->Int} {n i:Nat} {fin:Int} (h:(c != 0)=false) (hi:decide ((i:Int) < (n:Int))=false) (hle:i<=n) (h0:∀ k,k < i->f k=0):sLS c f n fin=fin:=by
 have:i=n:=by simp at hi;omega
 subst this
 rw [sLS,if_neg (by rw [h];decide),scan_end h0]
theorem ge_of_dec {i n:Nat} (hi:decide ((i:Int) < (n:Int))=false) (hle:i<=n):i=n:=by simp at hi;omega
theorem lt_of_dec {i n:Nat} (hi:decide ((i:Int) < (n:Int))=true):i < n:=by simpa using hi
theorem within_zero {x lo hi:Int}:sWithin x lo hi=0 ↔ lo<=x∧x<=hi:=by
 unfold sWithin sWhen
 by_cases h1:x < lo
 · simp [h1];omega
 · by_cases h2:x > hi
   · simp [h1,h2] <;> omega
   · simp [h1,h2] <;> omega
theorem first_zero {x:Int} {l:List Int}:sFirst (x::l)=0 ↔ x=0∧sFirst l=0:=by
 by_cases h:x=0
 · simp [sFirst,h]
 · simp [sFirst,h]
theorem take_succ {α:Type} [Inhabited α] (enc:α->List AV) {l:List α} {g:Nat} (h:g < l.length):(l.take g).map enc++[enc (l.getD g default)]=(l.take (g+1)).map enc:=by
 rw [List.take_add_one,List.map_append]
 simp [List.getD_eq_getElem?_getD,h]
theorem ls_zero {c:Int} {f:Nat->Int} {n:Nat} (h:sLS c f n 0=0):c=0∧∀ k,k < n->f k=0:=by
 unfold sLS at h
 split at h
 · rename_i hc;rw [h] at hc;simp at hc
 · rename_i hc
   refine ⟨by simpa using hc,fun k=>?_⟩
   induction k using Nat.strongRecOn with
   | _ k ih =>
    intro hk
    by_cases e:f k=0
    · exact e
    · rw [scan_hit hk (fun j hj=>ih j hj (by omega)) e] at h
      exact absurd h e
theorem scan_zero {f:Nat->Int} {n:Nat} {fin:Int} (h:sScan f n fin=0):(∀ k,k < n->f k=0)∧fin=0:=by
 have h1:∀ l:List Int,sFirst (l++[fin])=0->(∀ x,x ∈ l->x=0)∧fin=0:=by
  intro l
  induction l with
  | nil=>intro h;rw [List.nil_append,first_zero] at h;exact ⟨by simp,h.1⟩
  | cons x l ih =>
   intro h
   rw [List.cons_append,first_zero] at h
   obtain ⟨h2,h3⟩:=h
   have:=ih h3
   exact ⟨fun y hy=>by rcases List.mem_cons.1 hy with e | e;(· rw [e];exact h2);(· exact this.1 y e),this.2⟩
 have:=h1 _ h
 exact ⟨fun k hk=>this.1 _ (List.mem_map.2 ⟨k,List.mem_range.2 hk,rfl⟩),this.2⟩
theorem when_z {b:Bool} {e:Int} (he:e ≠ 0) (h:sWhen b e=0):b=false:=by
 cases b
 · rfl
 · exact absurd h (by simpa [sWhen] using he)
def setA (f:An->An):Nat->List An->List An
 | 0,[]=>[f {}]
 | 0,a::l=>f a::l
 | n+1,[]=>{}::setA f n []
 | n+1,a::l=>a::setA f n l
theorem take_succ_map {α β:Type} [Inhabited α] (enc:β->List AV) (f:α->β) {l:List α} {g:Nat} (h:g < l.length):((l.take g).map f).map enc++[enc (f (l.getD g default))]=((l.take (g+1)).map f).map enc:=by
 rw [List.take_add_one,List.map_append,List.map_append]
 simp [List.getD_eq_getElem?_getD,h]
theorem first_app0:∀ (l:List Int),sFirst (l++[0])=sFirst l
 | []=>by simp [sFirst]
 | x::l=>by
  rw [List.cons_append]
  simp only [sFirst]
  rw [first_app0 l]
theorem dec_ascii {c:UInt8} (r:List UInt8) (h:c.toNat < 128):dec (c::r)=(c.toNat,1):=by
 unfold dec Utf8.decode
 have:(({ data:=(c::r).toArray }:ByteArray).get! (0+0)).toNat=c.toNat:=rfl
 simp only [this]
 rw [if_pos (by simpa using h)]
theorem dec_big {c:UInt8} (r:List UInt8) (h:¬ c.toNat < 128):128<=(dec (c::r)).1:=by
 unfold dec Utf8.decode
 have:(({ data:=(c::r).toArray }:ByteArray).get! (0+0)).toNat=c.toNat:=rfl
 simp only [this]
 rw [if_neg (by simpa using h)]
 repeat' split
 all_goals first
  | (simp only [Bool.and_eq_true,decide_eq_true_eq] at *;omega)
  | omega
  | (show 128<=Utf8.runeError;decide)
def isLet (c:Nat):Bool:=decide (97<=c∧c<=122) || decide (65<=c∧c<=90)
def okB (first:Bool) (c:Nat):Bool:=isLet c || (!first && (decide (c=95) || decide (48<=c∧c<=57)))
def allB (s:List UInt8) (n:Nat):Bool:=(List.range n).all fun i=>okB (i == 0) (s.getD i 0).toNat
def sName (s:List UInt8):Bool:=allB s s.length && (!(s == []) && decide (s.length<=24))
def cutA (ts ids:List Nat) (n t:Nat) (f:AS->AV):AS->AS:=fun S=>⟨pickL ((t,f S)::delL t S.s) ts,pickL S.b ids,n⟩
def onI (x:Option AV) (f:Int->AV):AV:=match x with
 | some (.int _ n)=>f n
 | _=>.any
def isLetI (n:Int):Bool:=decide (97<=n∧n<=122) || decide (65<=n∧n<=90)
def isDigU (n:Int):Bool:=decide (48<=n∧n<=57) || decide (n=95)
theorem all_fail {s:List UInt8} {g:Nat} (h:g < s.length) (hf:okB (g == 0) (s.getD g 0).toNat=false):sName s=false:=by
 have:allB s s.length=false:=List.all_eq_false.2 ⟨g,by simpa using h,by rw [hf];decide⟩
 rw [sName,this]
 rfl
theorem all_next {s:List UInt8} {g:Nat} (ha:allB s g=true) (hf:okB (g == 0) (s.getD g 0).toNat=true):allB s (g+1)=true:=by
 unfold allB at ha ⊢
 rw [List.range_succ,List.all_append,ha]
 simp only [List.all_cons,List.all_nil,hf,Bool.and_self]
theorem okB_I (b:Bool) (c:Nat):okB b c=(isLetI (c:Int) || (!b && isDigU (c:Int))):=by
 have e1:isLet c=isLetI (c:Int):=by
  unfold isLet isLetI
  congr 1 <;> (apply decide_eq_decide.2;omega)
 have e2:(decide (c=95) || decide (48<=c∧c<=57))=isDigU (c:Int):=by
  unfold isDigU
  rw [Bool.or_comm]
  congr 1 <;> (apply decide_eq_decide.2;omega)
 rw [okB,e1,e2]
theorem okB_big (b:Bool) {c:Nat} (h:128<=c):okB b c=false:=by
 rw [okB_I]
 have e1:isLetI (c:Int)=false:=by
  simp only [isLetI,Bool.or_eq_false_iff,decide_eq_false_iff_not]
  omega
 have e2:isDigU (c:Int)=false:=by
  simp only [isDigU,Bool.or_eq_false_iff,decide_eq_false_iff_not]
  omega
 rw [e1,e2]
 simp
theorem dec_ok (b:Bool) (c:UInt8) (r:List UInt8):okB b (dec (c::r)).1=okB b c.toNat∧(okB b c.toNat=true->(dec (c::r)).2=1):=by
 by_cases h:c.toNat < 128
 · rw [dec_ascii r h]
   exact ⟨rfl,fun _=>rfl⟩
 · have h1:=okB_big b (dec_big r h)
   have h2:=okB_big b (show 128<=c.toNat by omega)
   rw [h1,h2]
   exact ⟨rfl,fun h=>by cases h⟩
def spP:Nat->List AV->Option AV:=spA
def la117 (s:List UInt8):LA:={
 pre:=[.keep [0,7] [3],.bound 4],post:=[.keep [0,7] [3],.bound 4]
 Gh:=Nat
 st:=fun i=>⟨[(0,.str s),(7,.ref 3)],[(3,.iter (s.drop i) i)],4⟩
 ok:=fun i=>i<=s.length∧allB s i=true
 ms:=fun i=>s.length-i
 it:=some 3 }
def B117 (s:List UInt8):BA:={ mkB spP 117 [] (fun i=>if i.beq 0 then some (la117 s) else none) with
 split:=fun i=>if i.beq 4 then 1 else if i.beq 5 then 1 else 0
 gs:=fun i=>if i.beq 4 then [.keep [0,3,4,5,7] [3],.bound 4] else if i.beq 5 then [.keep [0,3,4,5,7,43] [3],.bound 4] else []
 cut:=fun i=>if i.beq 4 then some (cutA [0,3,4,5,7] [3] 4 5 fun S=>onI (slotF S 4) fun n=>.bool (isLetI n)) else none }
abbrev zc117a (c:UInt8) (r:List UInt8) (g:Nat):=[(3,ABlk.iter (List.drop (dec (c::r)).snd (c::r)) (g+(dec (c::r)).snd))]
abbrev zc117b (c:UInt8) (r:List UInt8):=(↑(dec (c::r)).fst:Int)
abbrev zc117c (s:List UInt8) (g:Nat) (c:UInt8) (r:List UInt8):=[(0,AV.str s),(3,AV.i (g:Int)),(4,AV.int IntKind.i32 (zc117b c r)),(5,AV.bool (isLetI (zc117b c r))),(7,AV.ref 3)]
abbrev zc117d (s:List UInt8):=[(0,AV.str s),(7,AV.ref 3)]
theorem c117 (s:List UInt8) (hs:s.length<=1000000):PCall Tryz.prog G0 117 [.str s] (.bool (sName s)):=by
 have key :
  (∃ (g:Nat),(g<=s.length∧allB s g=true)∧AS.mk (zc117d s) [(3,ABlk.iter s 0)] 4=AS.mk (zc117d s) [(3,ABlk.iter (List.drop g s) g)] 4)∧∀ (g:Nat),g<=s.length∧allB s g=true->(∀ (c:UInt8) (r:List UInt8),
  List.drop g s=c::r->(true=true->((decide ((zc117b c r)>=97)=true->(decide ((zc117b c r)<=122)=true->(true=false->false=true)∧AV.bool (decide ((zc117b c r)>=97))=AV.bool true∧AV.bool (decide ((zc117b c r)
  ≤ 122))=AV.bool true∧AS.mk [(0,AV.str s),(3,AV.i (g:Int)),(4,AV.int IntKind.i32 (zc117b c r)),(5,AV.bool true),(7,AV.ref 3)] (zc117a c r g) 4=AS.mk (zc117c s g c r) (zc117a c r g) 4)∧(decide ((zc117b c r)<=122)
  = false->(decide ((zc117b c r)>=65)=true->AV.bool (decide ((zc117b c r)>=97))=AV.bool true∧AV.bool (decide ((zc117b c r)<=122))=AV.bool false∧AV.bool (decide ((zc117b c r)>=65))=AV.bool true∧AS.mk [(0,AV.str
  s),(3,AV.i (g:Int)),(4,AV.int IntKind.i32 (zc117b c r)),(5,AV.bool (decide ((zc117b c r)<=90))),(7,AV.ref 3)] (zc117a c r g) 4=AS.mk (zc117c s g c r) (zc117a c r g) 4)∧(decide ((zc117b c r)>=65)=false->(false =
  true->false=true)∧AV.bool (decide ((zc117b c r)>=97))=AV.bool true∧AV.bool (decide ((zc117b c r)<=122))=AV.bool false∧AV.bool (decide ((zc117b c r)>=65))=AV.bool false∧AS.mk [(0,AV.str s),(3,AV.i (g:Int)),
  (4,AV.int IntKind.i32 (zc117b c r)),(5,AV.bool false),(7,AV.ref 3)] (zc117a c r g) 4=AS.mk (zc117c s g c r) (zc117a c r g) 4)))∧(decide ((zc117b c r)>=97)=false->(false=true->(false=true->false=true)∧(true =
  false->false=true)∧AV.bool (decide ((zc117b c r)>=97))=AV.bool false∧AV.bool false=AV.bool true∧AS.mk [(0,AV.str s),(3,AV.i (g:Int)),(4,AV.int IntKind.i32 (zc117b c r)),(5,AV.bool true),(7,AV.ref 3)]
  (zc117a c r g) 4=AS.mk (zc117c s g c r) (zc117a c r g) 4)∧(false=false->(decide ((zc117b c r)>=65)=true->(false=true->false=true)∧AV.bool (decide ((zc117b c r)>=97))=AV.bool false∧AV.bool false=AV.bool
  false∧AV.bool (decide ((zc117b c r)>=65))=AV.bool true∧AS.mk [(0,AV.str s),(3,AV.i (g:Int)),(4,AV.int IntKind.i32 (zc117b c r)),(5,AV.bool (decide ((zc117b c r)<=90))),(7,AV.ref 3)] (zc117a c r g) 4=AS.mk
  (zc117c s g c r) (zc117a c r g) 4)∧(decide ((zc117b c r)>=65)=false->(false=true->false=true)∧(false=true->false=true)∧AV.bool (decide ((zc117b c r)>=97))=AV.bool false∧AV.bool false=AV.bool false ∧
  AV.bool (decide ((zc117b c r)>=65))=AV.bool false∧AS.mk [(0,AV.str s),(3,AV.i (g:Int)),(4,AV.int IntKind.i32 (zc117b c r)),(5,AV.bool false),(7,AV.ref 3)] (zc117a c r g) 4=AS.mk (zc117c s g c r) (zc117a c r g)
  4))))∧((!isLetI (zc117b c r))=true->(((g:Int) == 0)=true->(true=false->false=true)∧(AV.bool !isLetI (zc117b c r))=AV.bool true∧AV.bool ((g:Int) == 0)=AV.bool true∧(true=true->AV.bool false=AV.bool
  (sName s))∧(true=false->∃ (g':Nat),(g'<=s.length∧allB s g'=true)∧s.length-g' < s.length-g∧AS.mk (zc117d s) (zc117a c r g) 4=AS.mk (zc117d s) [(3,ABlk.iter (List.drop g' s) g')] 4))∧(((g:Int) == 0) =
  false->(((zc117b c r) != 95)=true->(decide ((zc117b c r) < 48)=true->(true=false->false=true)∧(AV.bool !isLetI (zc117b c r))=AV.bool true∧AV.bool ((g:Int) == 0)=AV.bool false∧AV.bool ((zc117b c r) != 95) =
  AV.bool true∧AV.bool (decide ((zc117b c r) < 48))=AV.bool true∧(true=true->AV.bool false=AV.bool (sName s))∧(true=false->∃ (g':Nat),(g'<=s.length∧allB s g'=true)∧s.length-g' < s.length-g∧AS.mk
  (zc117d s) (zc117a c r g) 4=AS.mk (zc117d s) [(3,ABlk.iter (List.drop g' s) g')] 4))∧(decide ((zc117b c r) < 48)=false->(AV.bool !isLetI (zc117b c r))=AV.bool true∧AV.bool ((g:Int) == 0)=AV.bool false∧AV.bool
  ((zc117b c r) != 95)=AV.bool true∧AV.bool (decide ((zc117b c r) < 48))=AV.bool false∧(decide ((zc117b c r) > 57)=true->AV.bool false=AV.bool (sName s))∧(decide ((zc117b c r) > 57)=false->∃ (g':Nat),(g' ≤
  s.length∧allB s g'=true)∧s.length-g' < s.length-g∧AS.mk (zc117d s) (zc117a c r g) 4=AS.mk (zc117d s) [(3,ABlk.iter (List.drop g' s) g')] 4)))∧(((zc117b c r) != 95)=false->(false=true->false=true)∧(AV.bool
  !isLetI (zc117b c r))=AV.bool true∧AV.bool ((g:Int) == 0)=AV.bool false∧AV.bool ((zc117b c r) != 95)=AV.bool false∧(false=true->AV.bool false=AV.bool (sName s))∧(false=false->∃ (g':Nat),(g'<=s.length ∧
  allB s g'=true)∧s.length-g' < s.length-g∧AS.mk (zc117d s) (zc117a c r g) 4=AS.mk (zc117d s) [(3,ABlk.iter (List.drop g' s) g')] 4))))∧((!isLetI (zc117b c r))=false->(false=true->false=true)∧(AV.bool !isLetI
  (zc117b c r))=AV.bool false∧(false=true->AV.bool false=AV.bool (sName s))∧(false=false->∃ (g':Nat),(g'<=s.length∧allB s g'=true)∧s.length-g' < s.length-g∧AS.mk (zc117d s) (zc117a c r g) 4=AS.mk
  (zc117d s) [(3,ABlk.iter (List.drop g' s) g')] 4)))∧(true=false->((!s == [])=true->(!s == [])=true)∧((!s == [])=true->(!s == [])=true)∧((!s == [])=true->(!s == [])=true)∧AV.bool (if (!s == [])=true then
  decide ((↑s.length:Int)<=24) else false)=AV.bool (sName s)))∧(List.drop g s=[]->(false=true->False)∧(false=false->((!s == [])=true->(!s == [])=true)∧((!s == [])=true->(!s == [])=true)∧((!s == []) =
  true->(!s == [])=true)∧AV.bool (if (!s == [])=true then decide ((↑s.length:Int)<=24) else false)=AV.bool (sName s))):=by
   delta zc117a zc117b zc117c zc117d
   refine ⟨⟨0,⟨by omega,rfl⟩,rfl⟩,fun g ⟨hg,ha⟩=>⟨fun c r hcr=>?_,fun hnil=>?_⟩⟩
   · have hlt:g < s.length:=by
      by_cases h:g < s.length
      · exact h
      · rw [List.drop_eq_nil_of_le (by omega)] at hcr;cases hcr
     have hcg:s.getD g 0=c:=by
      have:=congrArg (fun l=>l.getD 0 0) hcr
      simpa [List.getD_eq_getElem?_getD] using this
     have hr:r=s.drop (g+1):=by
      have:=congrArg (fun l=>l.drop 1) hcr
      simpa using this.symm
     have hz:((g:Int) == 0)=(g == 0):=by
      by_cases h:g=0
      · simp [h]
      · rw [beq_eq_false_iff_ne.2 h,beq_eq_false_iff_ne.2 (by omega)]
     obtain ⟨hk1,hk2⟩:=dec_ok (g == 0) c r
     have hF:okB (g == 0) (dec (c::r)).1=false->AV.bool false=AV.bool (sName s):=fun h=>by
      rw [all_fail hlt (by rw [hcg,<- hk1];exact h)]
     have hN:okB (g == 0) (dec (c::r)).1=true->∃ (g':Nat),(g'<=s.length∧allB s g'=true)∧s.length-g' < s.length-g ∧
      AS.mk [(0,AV.str s),(7,AV.ref 3)] [(3,ABlk.iter (List.drop (dec (c::r)).snd (c::r)) (g+(dec (c::r)).snd))] 4=AS.mk [(0,AV.str s),(7,AV.ref 3)] [(3,ABlk.iter (List.drop g' s) g')] 4:=fun h=>by
      refine ⟨g+1,⟨hlt,all_next ha (by rw [hcg,<- hk1];exact h)⟩,by omega,?_⟩
      rw [hk2 (by rw [<- hk1];exact h),hr]
      rfl
     rw [okB_I] at hF hN
     clear hk1 hk2
     generalize (dec (c::r)).1=n at hF hN ⊢
     generalize (dec (c::r)).2=w at hN ⊢
     rw [hz]
     repeat' (first | apply And.intro | intro _)
     all_goals try first
      | contradiction
      | rfl
      | assumption
      | exact congrArg AV.bool (by assumption)
      | (rw [show isLetI (n:Int)=true by (simp only [decide_eq_true_eq,decide_eq_false_iff_not] at *;simp only [isLetI,Bool.or_eq_true,decide_eq_true_eq];omega)];done)
      | (rw [show isLetI (n:Int)=false by (simp only [decide_eq_true_eq,decide_eq_false_iff_not] at *;simp only [isLetI,Bool.or_eq_false_iff,decide_eq_false_iff_not];omega)];done)
      | (rw [show isLetI (n:Int)=decide ((n:Int)<=90) by (simp only [decide_eq_true_eq,decide_eq_false_iff_not] at *;simp only [isLetI];by_cases h90:(n:Int)<=90 <;> simp [h90] <;> omega)];done)
      | (refine hF ?_;simp_all [isDigU];done)
      | (refine hN ?_;simp_all [isDigU];done)
      | (refine hF ?_;simp_all [isDigU];omega)
      | (refine hN ?_;simp_all [isDigU];omega)
   · have hge:g=s.length:=by
      have:=congrArg List.length hnil
      rw [List.length_drop] at this
      simp only [List.length_nil] at this
      omega
     subst hge
     refine ⟨fun h=>by (cases h),fun _=>⟨fun h=>h,fun h=>h,fun h=>h,?_⟩⟩
     rw [sName,ha,Bool.true_and,show decide ((s.length:Int)<=24)=decide (s.length<=24) from decide_eq_decide.2 (by omega)]
     cases (!s == []) <;> rfl
 exact c_of Tryz.f117 (B117 s) (by kernel_rfl) (by kernel_rfl) (by kernel_rfl) (by kernel_rfl) key (by kernel_rfl)
def la143 (s:List UInt8):LA:={
 pre:=[.keep [0,3] [],.bound 1],post:=[.keep [0,3] [],.bound 1]
 Gh:=Nat
 st:=fun i=>⟨[(0,.str s),(3,.i i)],[],1⟩
 ok:=fun i=>i<=s.length∧allB s i=true
 ms:=fun i=>s.length-i }
def B143 (s:List UInt8):BA:={ mkB spP 143 [] (fun i=>if i.beq 0 then some (la143 s) else none) with
 split:=fun i=>if i.beq 1 then 0 else if i.beq 6 then 1 else if i.beq 7 then 1 else if i.beq 8 then 1 else 0
 gs:=fun i=>if i.beq 6 then [.keep [0,3,4] [],.bound 1] else if i.beq 7 then [.keep [0,3,4,5] [],.bound 1] else []
 cut:=fun i=>if i.beq 6 then some (cutA [0,3,4] [] 1 4 fun S=>onI (slotF S 3) fun n=>.bool (isLetI ((s.getD n.toNat 0).toNat:Int)))
  else if i.beq 7 then some (cutA [0,3,4,5] [] 1 5 fun S=>onI (slotF S 3) fun n=>.bool (isDigU ((s.getD n.toNat 0).toNat:Int))) else none }
abbrev zc143a (s:List UInt8) (g:Nat):=(↑(s.getD (g:Int).toNat (0:UInt8)).toNat:Int)
abbrev zc143b (s:List UInt8) (g:Nat):=[(0,AV.str s),(3,AV.i (g:Int)),(4,AV.bool (isLetI (zc143a s g)))]
abbrev zc143c (s:List UInt8) (g:Nat):=[(0,AV.str s),(3,AV.i (g:Int)),(4,AV.bool (isLetI (zc143a s g))),(5,AV.bool (isDigU (zc143a s g)))]
abbrev zc143d:=false=true->false=true
theorem c143 (s:List UInt8) (hs:s.length<=1000000):PCall Tryz.prog G0 143 [.str s] (.bool (sName s)):=by
 have key :
  ((!(↑s.length:Int) == 0)=true->(!(↑s.length:Int) == 0)=true)∧((!(↑s.length:Int) == 0)=true->(!(↑s.length:Int) == 0)=true)∧(((↑s.length:Int) == 0)=false->(!(↑s.length:Int) == 0)=true)∧((if
  ((↑s.length:Int) == 0)=true then true else decide ((↑s.length:Int) > 24))=true->AV.bool false=AV.bool (sName s))∧((if ((↑s.length:Int) == 0)=true then true else decide ((↑s.length:Int) > 24))=false->(∃ (g :
  Nat),(g<=s.length∧allB s g=true)∧AS.mk [(0,AV.str s),(3,AV.i 0)] [] 1=AS.mk [(0,AV.str s),(3,AV.i (g:Int))] [] 1)∧∀ (g:Nat),g<=s.length∧allB s g=true->(decide ((g:Int) < (↑s.length:Int))=true →
  ((decide ((zc143a s g)>=65)=true->(decide ((zc143a s g)<=90)=true->(0:Int)<=(g:Int)∧(g:Int) < (↑s.length:Int)∧(0:Int)<=(g:Int)∧(g:Int) < (↑s.length:Int)∧(true=false->false=true)∧AV.bool
  (decide ((zc143a s g)>=65))=AV.bool true∧AV.bool (decide ((zc143a s g)<=90))=AV.bool true∧AS.mk [(0,AV.str s),(3,AV.i (g:Int)),(4,AV.bool true)] [] 1=AS.mk (zc143b s g) [] 1)∧(decide ((zc143a s g)<=90) =
  false->(decide ((zc143a s g)>=97)=true->(0:Int)<=(g:Int)∧(g:Int) < (↑s.length:Int)∧(0:Int)<=(g:Int)∧(g:Int) < (↑s.length:Int)∧(0:Int)<=(g:Int)∧(g:Int) < (↑s.length:Int)∧(0:Int) ≤
  (g:Int)∧(g:Int) < (↑s.length:Int)∧AV.bool (decide ((zc143a s g)>=65))=AV.bool true∧AV.bool (decide ((zc143a s g)<=90))=AV.bool false∧AV.bool (decide ((zc143a s g)>=97))=AV.bool true∧AS.mk [(0,AV.str s),
  (3,AV.i (g:Int)),(4,AV.bool (decide ((zc143a s g)<=122)))] [] 1=AS.mk (zc143b s g) [] 1)∧(decide ((zc143a s g)>=97)=false->(0:Int)<=(g:Int)∧(g:Int) < (↑s.length:Int)∧(0:Int)<=(g:Int)∧(g:Int)
  < (↑s.length:Int)∧(0:Int)<=(g:Int)∧(g:Int) < (↑s.length:Int)∧zc143d∧AV.bool (decide ((zc143a s g)>=65))=AV.bool true∧AV.bool (decide ((zc143a s g)<=90))=AV.bool false∧AV.bool (decide ((zc143a s g) ≥
  97))=AV.bool false∧AS.mk [(0,AV.str s),(3,AV.i (g:Int)),(4,AV.bool false)] [] 1=AS.mk (zc143b s g) [] 1)))∧(decide ((zc143a s g)>=65)=false->(false=true->(0:Int)<=(g:Int)∧(g:Int) < (↑s.length :
  Int)∧zc143d∧(true=false->false=true)∧AV.bool (decide ((zc143a s g)>=65))=AV.bool false∧AV.bool false=AV.bool true∧AS.mk [(0,AV.str s),(3,AV.i (g:Int)),(4,AV.bool true)] [] 1=AS.mk (zc143b s g) [] 1) ∧
  (false=false->(decide ((zc143a s g)>=97)=true->(0:Int)<=(g:Int)∧(g:Int) < (↑s.length:Int)∧zc143d∧(0:Int)<=(g:Int)∧(g:Int) < (↑s.length:Int)∧(0:Int)<=(g:Int)∧(g:Int) < (↑s.length :
  Int)∧AV.bool (decide ((zc143a s g)>=65))=AV.bool false∧AV.bool false=AV.bool false∧AV.bool (decide ((zc143a s g)>=97))=AV.bool true∧AS.mk [(0,AV.str s),(3,AV.i (g:Int)),(4,AV.bool (decide ((zc143a s g) ≤
  122)))] [] 1=AS.mk (zc143b s g) [] 1)∧(decide ((zc143a s g)>=97)=false->(0:Int)<=(g:Int)∧(g:Int) < (↑s.length:Int)∧zc143d∧(0:Int)<=(g:Int)∧(g:Int) < (↑s.length:Int)∧zc143d∧AV.bool (decide
  ((zc143a s g)>=65))=AV.bool false∧AV.bool false=AV.bool false∧AV.bool (decide ((zc143a s g)>=97))=AV.bool false∧AS.mk [(0,AV.str s),(3,AV.i (g:Int)),(4,AV.bool false)] [] 1=AS.mk (zc143b s g) [] 1)))) ∧
  ((decide ((zc143a s g)>=48)=true->(decide ((zc143a s g)<=57)=true->(0:Int)<=(g:Int)∧(g:Int) < (↑s.length:Int)∧(0:Int)<=(g:Int)∧(g:Int) < (↑s.length:Int)∧(true=false->false=true)∧AV.bool
  (decide ((zc143a s g)>=48))=AV.bool true∧AV.bool (decide ((zc143a s g)<=57))=AV.bool true∧AS.mk [(0,AV.str s),(3,AV.i (g:Int)),(4,AV.bool (isLetI (zc143a s g))),(5,AV.bool true)] [] 1=AS.mk (zc143c s g) [] 1)
  ∧ (decide ((zc143a s g)<=57)=false->(0:Int)<=(g:Int)∧(g:Int) < (↑s.length:Int)∧(0:Int)<=(g:Int)∧(g:Int) < (↑s.length:Int)∧(0:Int)<=(g:Int)∧(g:Int) < (↑s.length:Int)∧AV.bool (decide
  ((zc143a s g)>=48))=AV.bool true∧AV.bool (decide ((zc143a s g)<=57))=AV.bool false∧AS.mk [(0,AV.str s),(3,AV.i (g:Int)),(4,AV.bool (isLetI (zc143a s g))),(5,AV.bool ((zc143a s g) == 95))] [] 1=AS.mk (zc143c s
  g) [] 1))∧(decide ((zc143a s g)>=48)=false->(false=true->(0:Int)<=(g:Int)∧(g:Int) < (↑s.length:Int)∧zc143d∧(true=false->false=true)∧AV.bool (decide ((zc143a s g)>=48))=AV.bool false∧AV.bool
  false=AV.bool true∧AS.mk [(0,AV.str s),(3,AV.i (g:Int)),(4,AV.bool (isLetI (zc143a s g))),(5,AV.bool true)] [] 1=AS.mk (zc143c s g) [] 1)∧(false=false->(0:Int)<=(g:Int)∧(g:Int) < (↑s.length:Int) ∧
  zc143d∧(0:Int)<=(g:Int)∧(g:Int) < (↑s.length:Int)∧AV.bool (decide ((zc143a s g)>=48))=AV.bool false∧AV.bool false=AV.bool false∧AS.mk [(0,AV.str s),(3,AV.i (g:Int)),(4,AV.bool (isLetI (zc143a s
  g))),(5,AV.bool ((zc143a s g) == 95))] [] 1=AS.mk (zc143c s g) [] 1)))∧((!isLetI (zc143a s g))=true->(((g:Int) == 0)=true->(true=false->false=true)∧(AV.bool !isLetI (zc143a s g))=AV.bool true∧AV.bool ((↑g
  : Int) == 0)=AV.bool true∧(true=true->AV.bool false=AV.bool (sName s))∧(true=false->In64 ((g:Int)+1)∧∃ (g':Nat),(g'<=s.length∧allB s g'=true)∧s.length-g' < s.length-g∧AS.mk [(0,AV.str s),(3,
  AV.i ((g:Int)+1))] [] 1=AS.mk [(0,AV.str s),(3,AV.i (↑g':Int))] [] 1))∧(((g:Int) == 0)=false->(AV.bool !isLetI (zc143a s g))=AV.bool true∧AV.bool ((g:Int) == 0)=AV.bool false∧((!isDigU (zc143a s g)) =
  true->AV.bool false=AV.bool (sName s))∧((!isDigU (zc143a s g))=false->In64 ((g:Int)+1)∧∃ (g':Nat),(g'<=s.length∧allB s g'=true)∧s.length-g' < s.length-g∧AS.mk [(0,AV.str s),(3,AV.i ((g:Int) +
  1))] [] 1=AS.mk [(0,AV.str s),(3,AV.i (↑g':Int))] [] 1)))∧((!isLetI (zc143a s g))=false->zc143d∧(AV.bool !isLetI (zc143a s g))=AV.bool false∧(false=true->AV.bool false=AV.bool (sName s))∧(false=false →
  In64 ((g:Int)+1)∧∃ (g':Nat),(g'<=s.length∧allB s g'=true)∧s.length-g' < s.length-g∧AS.mk [(0,AV.str s),(3,AV.i ((g:Int)+1))] [] 1=AS.mk [(0,AV.str s),(3,AV.i (↑g':Int))] [] 1)))∧(decide ((↑g
  : Int) < (↑s.length:Int))=false->AV.bool true=AV.bool (sName s))):=by
   delta zc143a zc143b zc143c zc143d
   have hs0:(s.length == 0)=(s == []):=by cases s <;> rfl
   refine ⟨fun h=>h,fun h=>h,fun h=>by rw [h];rfl,fun h=>?_,fun h=>⟨⟨0,⟨by omega,rfl⟩,rfl⟩,fun g ⟨hg,ha⟩=>⟨fun hd=>?_,fun hd=>?_⟩⟩⟩
   · have:(!(s == []) && decide (s.length<=24))=false:=by
      rw [<- hs0]
      by_cases h0:s.length=0
      · simp [h0]
      · rw [beq_eq_false_iff_ne.2 (show (s.length:Int) ≠ 0 by omega)] at h
        simp at h
        simp only [Bool.and_eq_false_iff,decide_eq_false_iff_not]
        omega
     rw [sName,this,Bool.and_false]
   · have hlt:=lt_of_dec hd
     have hz:((g:Int) == 0)=(g == 0):=by
      by_cases h:g=0
      · simp [h]
      · rw [beq_eq_false_iff_ne.2 h,beq_eq_false_iff_ne.2 (by omega)]
     obtain ⟨n,hx⟩:∃ n,(s.getD g 0).toNat=n:=⟨_,rfl⟩
     rw [show (s.getD ((g:Int)).toNat 0).toNat=n from hx]
     have hF:okB (g == 0) (s.getD g 0).toNat=false->AV.bool false=AV.bool (sName s):=fun h=>by
      rw [all_fail hlt h]
     have hN:okB (g == 0) (s.getD g 0).toNat=true->In64 ((g:Int)+1)∧∃ (g':Nat),(g'<=s.length∧allB s g'=true)∧s.length-g' < s.length-g ∧
      AS.mk [(0,AV.str s),(3,AV.i ((g:Int)+1))] [] 1=AS.mk [(0,AV.str s),(3,AV.i g')] [] 1:=fun h =>
      ⟨by unfold In64;omega,g+1,⟨hlt,all_next ha h⟩,by omega,rfl⟩
     rw [okB_I] at hF hN
     have h1:(0:Int)<=g:=by omega
     have h2:(g:Int) < s.length:=by omega
     rw [hx] at hF hN
     rw [hz]
     generalize sName s=sn at hF ⊢
     clear hx ha
     repeat' (first | apply And.intro | intro _)
     all_goals try first
      | omega
      | contradiction
      | rfl
      | assumption
      | exact congrArg AV.bool (by assumption)
      | (rw [show isLetI (n:Int)=true by (simp only [decide_eq_true_eq,decide_eq_false_iff_not] at *;simp only [isLetI,Bool.or_eq_true,decide_eq_true_eq];omega)];done)
      | (rw [show isLetI (n:Int)=false by (simp only [decide_eq_true_eq,decide_eq_false_iff_not] at *;simp only [isLetI,Bool.or_eq_false_iff,decide_eq_false_iff_not];omega)];done)
      | (rw [show isLetI (n:Int)=decide ((n:Int)<=122) by (simp only [decide_eq_true_eq,decide_eq_false_iff_not] at *;simp only [isLetI];by_cases h90:(n:Int)<=122 <;> simp [h90] <;> omega)];done)
      | (rw [show isDigU (n:Int)=true by (simp only [decide_eq_true_eq,decide_eq_false_iff_not] at *;simp only [isDigU,Bool.or_eq_true,decide_eq_true_eq];omega)];done)
      | (rw [show isDigU (n:Int)=((n:Int) == 95) by (simp only [decide_eq_true_eq,decide_eq_false_iff_not] at *;unfold isDigU;rw [decide_eq_false (show ¬ (48<=(n:Int)∧(n:Int)<=57) by omega),Bool.false_or];rfl)];done)
      | (refine hF ?_;(clear hF hN;generalize isLetI (n:Int)=p at *;generalize isDigU (n:Int)=q at *;generalize (g == 0)=z at *;cases p <;> cases q <;> cases z <;> first | rfl | (exfalso;simp at *;done));done)
      | (refine (hN ?_).1;(clear hF hN;generalize isLetI (n:Int)=p at *;generalize isDigU (n:Int)=q at *;generalize (g == 0)=z at *;cases p <;> cases q <;> cases z <;> first | rfl | (exfalso;simp at *;done));done)
      | (refine (hN ?_).2;(clear hF hN;generalize isLetI (n:Int)=p at *;generalize isDigU (n:Int)=q at *;generalize (g == 0)=z at *;cases p <;> cases q <;> cases z <;> first | rfl | (exfalso;simp at *;done));done)
   · have hge:=ge_of_dec hd hg
     subst hge
     have h2:(!(s == []) && decide (s.length<=24))=true:=by
      rw [<- hs0]
      by_cases h0:s.length=0
      · simp [h0] at h
      · rw [beq_eq_false_iff_ne.2 (show (s.length:Int) ≠ 0 by omega)] at h
        simp at h
        simp only [Bool.and_eq_true,decide_eq_true_eq,Bool.not_eq_true',beq_eq_false_iff_ne]
        omega
     rw [sName,ha,h2]
     rfl
 exact c_of Tryz.f143 (B143 s) (by kernel_rfl) (by kernel_rfl) (by kernel_rfl) (by kernel_rfl) key (by kernel_rfl)
def spN:Nat->List AV->Option AV
 | 117,[.str s]=>some (.bool (sName s))
 | 143,[.str s]=>some (.bool (sName s))
 | 108,[.str s]=>some (.i (sWhen (!sName s) 8))
 | n,x=>spA n x
theorem c108 (s:List UInt8) (hs:s.length<=1000000):PCall Tryz.prog G0 108 [.str s] (.i (sWhen (!sName s) 8)):=by
 have key :
  PCall Tryz.prog G0 143 [AV.str s] (AV.bool (sName s))∧PCall Tryz.prog G0 109 [AV.bool !sName s,AV.i 8] (AV.i (sWhen (!sName s) (8:Int)))∧AV.i (sWhen (!sName s) (8:Int))=AV.i (sWhen (!sName s) (8:Int)):=by
   exact ⟨c143 s hs,c109 _ _,rfl⟩
 exact c_of Tryz.f108 (mkB spN 108 [] noLa) (by kernel_rfl) (by kernel_rfl) (by kernel_rfl) (by kernel_rfl) key (by kernel_rfl)
def cI (rows:List (List AV)) (i:Nat):Int:=match nth (nthR rows i) 0 with
 | .int _ n=>n
 | _=>0
def rdJ:List AV->Option AV
 | [.elt _ rows i _]=>some (.i (cI rows i))
 | _=>none
theorem cI_map (l:List Int) (i:Nat):cI (l.map encI) i=l.getD i default:=by
 unfold cI nthR
 rw [List.getD_eq_getElem?_getD,List.getD_eq_getElem?_getD,List.getElem?_map]
 cases l[i]? <;> rfl
theorem cI_at {l:List Int} {i:Nat} (h:i < l.length):nth (nthR (l.map encI) i) 0=.i (cI (l.map encI) i):=by
 rw [cI_map,row_at encI h]
 rfl
def modA (r k:Nat) (f:An->An) (B:BA):BA:={ B with ra:=fun i=>if i.beq r then { B.ra i with ans:=setA f k (B.ra i).ans } else B.ra i }
def fzB (B:BA):BA:={ B with gs:=fun i=>(B.ra i).fz.map GS.frzo++B.gs i }
def gsB (g:Nat->List GS) (B:BA):BA:={ B with gs:=fun i=>B.gs i++g i }
def rdF:List AV->Option AV:=fun _=>some (.bool false)
theorem getD_mem {α:Type} [Inhabited α] {l:List α} {i:Nat} (h:i < l.length):l.getD i default ∈ l:=by
 rw [List.getD_eq_getElem?_getD,List.getElem?_eq_getElem h]
 exact List.getElem_mem h
def fiN (p:Nat->Bool):Nat->Nat
 | 0=>0
 | n+1=>if fiN p n < n then fiN p n else if p n then n else n+1
theorem fi_none {p:Nat->Bool}:∀ {i:Nat},(∀ j,j < i->p j=false)->fiN p i=i
 | 0,_=>rfl
 | i+1,h=>by
  have h1:fiN p i=i:=fi_none fun j hj=>h j (by omega)
  simp only [fiN]
  rw [h1,if_neg (by omega),if_neg (by rw [h i (by omega)];exact Bool.false_ne_true)]
theorem fi_some {p:Nat->Bool} {i:Nat} (h:∀ j,j < i->p j=false) (hp:p i=true):∀ {m:Nat},i < m->fiN p m=i
 | 0,h0=>absurd h0 (by omega)
 | m+1,h0=>by
  simp only [fiN]
  by_cases e:i=m
  · subst e
    rw [fi_none h,if_neg (by omega),if_pos hp]
  · rw [fi_some h hp (m:=m) (by omega),if_pos (by omega)]
def fiI (p:Nat->Bool) (n:Nat):Int:=if fiN p n=n then -1 else fiN p n
theorem fi_congr {p q:Nat->Bool}:∀ {n:Nat},(∀ j,j < n->p j=q j)->fiN p n=fiN q n
 | 0,_=>rfl
 | n+1,h=>by
  simp only [fiN]
  rw [fi_congr (n:=n) (fun j hj=>h j (by omega)),h n (by omega)]
theorem fi_le {p:Nat->Bool}:∀ n,fiN p n<=n
 | 0=>Nat.le_refl _
 | n+1=>by
  have:=fi_le (p:=p) n
  simp only [fiN]
  split
  · omega
  · split <;> omega
theorem fi_hit {p:Nat->Bool}:∀ {n:Nat},fiN p n < n->p (fiN p n)=true
 | n+1,h=>by
  simp only [fiN] at h ⊢
  split
  · rename_i h1
    exact fi_hit h1
  · rename_i h1
    rw [if_neg h1] at h
    split
    · assumption
    · rename_i h2
      rw [if_neg h2] at h
      omega
theorem fi_all {p:Nat->Bool}:∀ {n:Nat},¬ fiN p n < n->∀ j,j < n->p j=false
 | n+1,h,j,hj=>by
  simp only [fiN] at h
  split at h
  · omega
  · rename_i h1
    split at h
    · omega
    · rename_i h2
      by_cases e:j=n
      · rw [e];simpa using h2
      · exact fi_all h1 j (by omega)
theorem fi_ex {p:Nat->Bool} {n j:Nat} (hj:j < n) (hp:p j=true):fiN p n < n:=by
 refine Classical.byContradiction fun h=>?_
 rw [fi_all h j hj] at hp
 cases hp
theorem fiI_dec {p:Nat->Bool} {n:Nat}:decide (fiI p n>=0)=decide (fiN p n < n):=by
 have:=fi_le (p:=p) n
 unfold fiI
 refine decide_eq_decide.2 ?_
 split <;> omega
theorem map_dec {α:Type} {enc:α->List AV} {dec:List AV->α} (h:∀ x,dec (enc x)=x) (l:List α):(l.map enc).map dec=l:=by
 rw [List.map_map]
 conv=>rhs;rw [<- List.map_id l]
 exact List.map_congr_left fun x _=>h x
def hasK (es:List (AV × AV)):AV->Bool
 | .str s=>es.any fun p=>match p.1 with
  | .str x=>x == s
  | _=>false
 | _=>false
def rdK:BL->List AV->Option AV:=fun bs ins=>match ins with
 | [.ref id,k]=>match blkOf bs id with
  | .map es=>some (.bool (hasK es k))
  | _=>none
 | _=>none
theorem beqL_comm (a b:List UInt8):(a == b)=(b == a):=by
 rw [Bool.eq_iff_iff,beq_iff_eq,beq_iff_eq]
 exact eq_comm
def keyE (s:List UInt8):AV × AV:=(.str s,.bool true)
theorem has_map {α:Type} (f:α->List UInt8) (s:List UInt8) (l:List α):hasK (l.map fun a=>keyE (f a)) (.str s)=l.any fun a=>f a == s:=by
 show ((l.map fun a=>keyE (f a)).any fun p=>match p.1 with
  | .str x=>x == s
  | _=>false)=_
 rw [List.any_map]
 rfl
theorem look_map {α:Type} (f:α->List UInt8) (s:List UInt8):∀ l:List α,mlook (.str s) (l.map fun a=>keyE (f a))=some (if (l.any fun a=>f a == s)=true then some (.bool true) else none)
 | []=>rfl
 | a::l=>by
  have ih:=look_map f s l
  simp only [List.map_cons,keyE,mlook,eqCell,List.any_cons] at ih ⊢
  rw [beqL_comm s (f a)]
  by_cases h:(f a == s)=true
  · simp only [h,Bool.true_or,if_true]
  · have h:=Bool.eq_false_iff.2 h
    simp only [h,Bool.false_or]
    exact ih
theorem put_map {α:Type} (f:α->List UInt8) (s:List UInt8):∀ l:List α,(l.any fun a=>f a == s)=false->mput (.str s) (.bool true) (l.map fun a=>keyE (f a))=some ((l.map fun a=>keyE (f a))++[keyE s])
 | [],_=>rfl
 | a::l,h=>by
  rw [List.any_cons,Bool.or_eq_false_iff] at h
  have ih:=put_map f s l h.2
  simp only [List.map_cons,keyE,mput,eqCell] at ih ⊢
  rw [beqL_comm s (f a),h.1]
  simp only [ih,List.cons_append]
theorem look_key {α:Type} (f:α->List UInt8) (s:List UInt8) (l:List α):lookV false (.bool false) (mlook (.str s) (l.map fun a=>keyE (f a)))=.bool (hasK (l.map fun a=>keyE (f a)) (.str s)):=by
 rw [look_map,has_map]
 cases l.any fun a=>f a == s <;> rfl
theorem look_some {α:Type} (f:α->List UInt8) (s:List UInt8) (l:List α):(mlook (.str s) (l.map fun a=>keyE (f a))).isSome=true:=by
 rw [look_map]
 rfl
end Go.Proofs.YtfoeefaamjknpaaGreatDoor
namespace Go.Proofs.YtfoeefaamjknpaaGreatDoor
open Go Go.Av Go.RowKit
structure En where
 inn:Bool
 hm:List UInt8
 am:Int
 deriving Inhabited
def knS (l:List (List UInt8)):List (AV × AV):=l.map fun s=>keyE s
theorem all_ext {p:Nat->Prop} {g:Nat} (h:∀ j,j < g->p j) (hg:p g):∀ j,j < g+1->p j:=fun j hj=>by
 by_cases e:j=g
 · rw [e];exact hg
 · exact h j (by omega)
end Go.Proofs.YtfoeefaamjknpaaGreatDoor
namespace Go.Proofs.YtfoeefaamjknpaaGreatDoor
open Go Go.Av Go.RowKit Go.ChangeShapes Go.WideShapes
theorem hA:PCall Tryz.prog G0 16 [] (.bool true):=awc40
theorem laidOut:laidOutB Tryz.prog=true:=by kernel_rfl
theorem own:ownKnob Tryz.prog.godebug=none:=by kernel_rfl
def laid7:List (String × DataW Unit):=Rows.homeFundsRow.laid
theorem door_met (os:Os) (args:Array Value):laidMetH Tryz.prog laid7 ((World.laidAll Tryz.prog os laid7).forCall (fun _ _=>0) ⟨#[],args,[]⟩).memory:=by
 rw [MakeChecks.laidMetH_plain _ _ _ (by kernel_rfl)]
 exact laidMet_laidAll _ (by kernel_rfl) (by kernel_rfl)
theorem globs {W:World} (h:laidMetH Tryz.prog laid7 W):∀ g cells,lk g G0=some cells->GlobOK NoX W g cells:=by
 rw [MakeChecks.laidMetH_plain _ _ _ (by kernel_rfl)] at h
 obtain ⟨ps,hl,_⟩:=h
 have m0 := laid_glob (T := T0) tok (n := 8) (name := "flyover/home.verdicts") (d := Rows.laid_flyover_home_verdicts) (g := 0) (t := 197) (cells := nthR (G0.map (·.2)) 0) (by kernel_rfl) (by kernel_rfl) (by kernel_rfl) (by kernel_rfl) (by kernel_rfl) (by simp [nthR, G0]) (laid := laid7) (ps := ps) (by simp [laid7, Rows.homeFundsRow]) hl
 have m1 := laid_glob (T := T0) tok (n := 8) (name := "flyover/sound.base") (d := Rows.laid_flyover_sound_base) (g := 1) (t := 300) (cells := nthR (G0.map (·.2)) 1) (by kernel_rfl) (by kernel_rfl) (by kernel_rfl) (by kernel_rfl) (by kernel_rfl) (by simp [nthR, G0]) (laid := laid7) (ps := ps) (by simp [laid7, Rows.homeFundsRow]) hl
 have m3 := laid_glob (T := T0) tok (n := 8) (name := "internal/strconv.uint64pow10") (d := Rows.laid_internal_strconv_uint64pow10) (g := 3) (t := 312) (cells := nthR (G0.map (·.2)) 2) (by kernel_rfl) (by kernel_rfl) (by kernel_rfl) (by kernel_rfl) (by kernel_rfl) (by simp [nthR, G0]) (laid := laid7) (ps := ps) (by simp [laid7, Rows.homeFundsRow]) hl
 intro g cells hg
 obtain ⟨u,hu,e1⟩:=lk_mem hg
 subst e1
 simp only [G0,List.mem_cons,List.not_mem_nil,or_false,Prod.mk.injEq] at hu
 rcases hu with ⟨rfl,rfl⟩ | ⟨rfl,rfl⟩ | ⟨rfl,rfl⟩
 · exact m0
 · exact m1
 · exact m3
end Go.Proofs.YtfoeefaamjknpaaGreatDoor
namespace Go.Proofs.YtfoeefaamjknpaaGreatDoor
open Go Go.Av Go.RowKit
def baseL:List Int:=[10,13,16,20,25,32,40,50,63,79]
def p10:Nat->Int
 | 0=>1
 | k+1=>10 * p10 k
def thr (k:Nat):Int:=p10 (k / 10) * baseL.getD (k % 10) 0
theorem thr_next:∀ k,k < 120->thr k<=thr (k+1):=by decide +kernel
theorem thr_mono {j:Nat}:∀ {k:Nat},j<=k->k<=120->thr j<=thr k
 | 0,h,_=>by have e:j=0:=by omega
             rw [e];exact Int.le_refl _
 | k+1,h,hk=>by
  by_cases e:j=k+1
  · rw [e];exact Int.le_refl _
  · exact Int.le_trans (thr_mono (j:=j) (k:=k) (by omega) (by omega)) (thr_next k (by omega))
def lvN (e:Int):Nat->Int
 | 0 => -1
 | k+1=>if decide (thr k<=e)=true then (k:Int) else lvN e k
def lvl (e:Int):Int:=lvN e 121
theorem lv_same {e:Int} {k:Nat} (h:e < thr k):∀ {m:Nat},k<=m->m<=121->lvN e m=lvN e k
 | 0,h1,_=>by have e:k=0:=by omega
              rw [e]
 | m+1,h1,h2=>by
  by_cases e1:k=m+1
  · rw [e1]
  · have:=thr_mono (j:=k) (k:=m) (by omega) (by omega)
    rw [lvN,if_neg (by rw [decide_eq_true_eq];omega)]
    exact lv_same h (by omega) (by omega)
theorem lv_all {e:Int} {k:Nat} (h:∀ j,j < k->thr j<=e):lvN e k=(k:Int)-1:=by
 cases k with
 | zero=>rfl
 | succ k =>
  rw [lvN,if_pos (by rw [decide_eq_true_eq];exact h k (by omega))]
  omega
theorem lvl_stop {e:Int} {k:Nat} (h:∀ j,j < k->thr j<=e) (hk:k<=121) (hs:k=121 ∨ e < thr k):lvl e=(k:Int)-1:=by
 unfold lvl
 rcases hs with rfl | hs
 · exact lv_all h
 · rw [lv_same hs hk (Nat.le_refl _),lv_all h]
def ivA (l:List AV) (k:Nat):Int:=match nth l k with
 | .int _ n=>n
 | _=>0
structure Wn where
 (o0 o1 o2 o3 o4 o5 o6 o7:Int)
 ar:Int
 (p0 p1 p2 p3 p4 p5 p6 p7 p8 p9 p10 p11 p12 p13 p14 p15:Int)
 deriving Inhabited
def Wn.o (x:Wn):Nat->Int
 | 0=>x.o0
 | 1=>x.o1
 | 2=>x.o2
 | 3=>x.o3
 | 4=>x.o4
 | 5=>x.o5
 | 6=>x.o6
 | 7=>x.o7
 | _=>0
def Wn.lo (x:Wn):Nat->Int
 | 0=>x.p0
 | 1=>x.p2
 | 2=>x.p4
 | 3=>x.p6
 | 4=>x.p8
 | 5=>x.p10
 | 6=>x.p12
 | 7=>x.p14
 | _=>0
def Wn.hi (x:Wn):Nat->Int
 | 0=>x.p1
 | 1=>x.p3
 | 2=>x.p5
 | 3=>x.p7
 | 4=>x.p9
 | 5=>x.p11
 | 6=>x.p13
 | 7=>x.p15
 | _=>0
def encWn (x:Wn):List AV:=[.i x.o0,.i x.o1,.i x.o2,.i x.o3,.i x.o4,.i x.o5,.i x.o6,.i x.o7,.i x.ar,.i x.p0,.i x.p1,.i x.p2,.i x.p3,.i x.p4,.i x.p5,.i x.p6,.i x.p7,.i x.p8,.i x.p9,.i x.p10,.i x.p11,.i x.p12,.i x.p13,.i x.p14,.i x.p15]
def decWn (l:List AV):Wn:=⟨ivA l 0,ivA l 1,ivA l 2,ivA l 3,ivA l 4,ivA l 5,ivA l 6,ivA l 7,ivA l 8,ivA l 9,ivA l 10,ivA l 11,ivA l 12,ivA l 13,ivA l 14,ivA l 15,ivA l 16,ivA l 17,ivA l 18,ivA l 19,ivA l 20,ivA l 21,ivA l 22,ivA l 23,ivA l 24⟩
theorem decWn_e (x:Wn):decWn (encWn x)=x:=rfl
structure Hm where
 nm:List UInt8
 pe:Int
 ws:List Wn
 deriving Inhabited
def encHm (x:Hm):List AV:=[.str x.nm,.i x.pe,.sl 25 (x.ws.map encWn)]
structure Ms where
 nm:List UInt8
 w:Int
 c:Int
 (p0 p1 p2 p3 p4 p5 p6 p7 p8 p9 p10 p11 p12 p13 p14 p15:Int)
 deriving Inhabited
def Ms.lo (x:Ms):Nat->Int
 | 0=>x.p0
 | 1=>x.p2
 | 2=>x.p4
 | 3=>x.p6
 | 4=>x.p8
 | 5=>x.p10
 | 6=>x.p12
 | 7=>x.p14
 | _=>0
def Ms.hi (x:Ms):Nat->Int
 | 0=>x.p1
 | 1=>x.p3
 | 2=>x.p5
 | 3=>x.p7
 | 4=>x.p9
 | 5=>x.p11
 | 6=>x.p13
 | 7=>x.p15
 | _=>0
def encMs (x:Ms):List AV:=[.str x.nm,.i x.w,.i x.c,.i x.p0,.i x.p1,.i x.p2,.i x.p3,.i x.p4,.i x.p5,.i x.p6,.i x.p7,.i x.p8,.i x.p9,.i x.p10,.i x.p11,.i x.p12,.i x.p13,.i x.p14,.i x.p15]
structure Iv where
 a:Int
 b:Int
 deriving Inhabited
def encIv (x:Iv):List AV:=[.i x.a,.i x.b]
def oL (o:Nat->Int):List Int:=[o 0,o 1,o 2,o 3,o 4,o 5,o 6,o 7]
def pL (lo hi:Nat->Int):List Iv:=[⟨lo 0,hi 0⟩,⟨lo 1,hi 1⟩,⟨lo 2,hi 2⟩,⟨lo 3,hi 3⟩,⟨lo 4,hi 4⟩,⟨lo 5,hi 5⟩,⟨lo 6,hi 6⟩,⟨lo 7,hi 7⟩]
def encPa (lo hi:Nat->Int):List AV:=[.i (lo 0),.i (hi 0),.i (lo 1),.i (hi 1),.i (lo 2),.i (hi 2),.i (lo 3),.i (hi 3),.i (lo 4),.i (hi 4),.i (lo 5),.i (hi 5),.i (lo 6),.i (hi 6),.i (lo 7),.i (hi 7)]
def encOu (o:Nat->Int):List AV:=[.i (o 0),.i (o 1),.i (o 2),.i (o 3),.i (o 4),.i (o 5),.i (o 6),.i (o 7)]
def clL (l:List Nat):Operand->Bool
 | .tmp t=>l.any fun x=>x.beq t
 | _=>false
theorem hd_encI:∀ l:List Int,(l.map encI).map hdI=l
 | []=>rfl
 | x::l=>by rw [List.map_cons,List.map_cons,hd_encI l];rfl
theorem scan_getG {α:Type} [Inhabited α] (f:α->Int) (l:List α):sScan (fun i=>f (l.getD i default)) l.length 0=sFirst (l.map f):=by
 unfold sScan
 rw [first_app0]
 congr 1
 refine List.ext_getElem (by simp) fun i h1 h2=>?_
 simp only [List.getElem_map,List.getElem_range]
 rw [List.getD_eq_getElem?_getD,List.getElem?_eq_getElem (by simpa using h1)]
 rfl
def fEnds (x y m:Int):Int:=sFirst [sWithin x 0 m,sWithin y 0 m,sWhen (decide (x > y)) 11]
def fPa (lo hi:Nat->Int):Int:=sScan (fun b=>fEnds (lo b) (hi b) 1000) 8 0
def fOu (o:Nat->Int):Int:=sScan (fun b=>sWithin (o b) 0 100000000) 8 0
def fWn (w:Wn):Int:=sFirst [fOu w.o,sWithin w.ar 1 100,fPa w.lo w.hi]
def fHd (h:Hm):Int:=sFirst [sWhen (!sName h.nm) 8,sWithin h.pe 0 1000,sWhen ((h.ws.length:Int) == 0) 12,sWhen (decide ((h.ws.length:Int) > 8)) 5]
def fHm (h:Hm):Int:=sLS (fHd h) (fun i=>fWn (h.ws.getD i default)) h.ws.length 0
def fO (n:Int):Int:=sWithin n 0 100000000
def fI (x:Iv):Int:=fEnds x.a x.b 1000
theorem fOu_e (o:Nat->Int):sFirst ((oL o).map fO)=fOu o:=(first_app0 _).symm
theorem fPa_e (lo hi:Nat->Int):sFirst ((pL lo hi).map fI)=fPa lo hi:=(first_app0 _).symm
theorem fOu_u (o:Nat->Int):fOu o=sFirst [fO (o 0),fO (o 1),fO (o 2),fO (o 3),fO (o 4),fO (o 5),fO (o 6),fO (o 7)]:=(fOu_e o).symm
theorem fPa_u (lo hi:Nat->Int):fPa lo hi=sFirst [fEnds (lo 0) (hi 0) 1000,fEnds (lo 1) (hi 1) 1000,fEnds (lo 2) (hi 2) 1000,fEnds (lo 3) (hi 3) 1000,fEnds (lo 4) (hi 4) 1000,fEnds (lo 5) (hi 5) 1000,fEnds (lo 6) (hi 6) 1000,fEnds (lo 7) (hi 7) 1000]:=(fPa_e lo hi).symm
structure WnOK (w:Wn):Prop where
 o0:∀ b,b < 8->0<=w.o b∧w.o b<=100000000
 a0:1<=w.ar∧w.ar<=100
 l0:∀ b,b < 8->0<=w.lo b∧w.lo b<=w.hi b∧w.hi b<=1000
theorem ends_z {x y m:Int} (h:fEnds x y m=0):0<=x∧x<=y∧y<=m:=by
 unfold fEnds at h
 rw [first_zero,first_zero,first_zero,within_zero,within_zero] at h
 have:=when_z (by decide) h.2.2.1
 have:=of_decide_eq_false this
 omega
theorem pa_z {lo hi:Nat->Int} (h:fPa lo hi=0):∀ b,b < 8->0<=lo b∧lo b<=hi b∧hi b<=1000:=fun b hb=>ends_z ((scan_zero h).1 b hb)
theorem wn_z {w:Wn} (h:fWn w=0):WnOK w:=by
 unfold fWn at h
 rw [first_zero,first_zero,first_zero,within_zero] at h
 exact ⟨fun b hb=>within_zero.1 ((scan_zero h.1).1 b hb),h.2.1,pa_z h.2.2.1⟩
theorem hm_z {h:Hm} (e:fHm h=0):fHd h=0∧1<=h.ws.length∧h.ws.length<=8∧(0<=h.pe∧h.pe<=1000)∧sName h.nm=true∧∀ i,i < h.ws.length->WnOK (h.ws.getD i default):=by
 obtain ⟨h1,h2⟩:=ls_zero e
 refine ⟨h1,?_⟩
 unfold fHd at h1
 rw [first_zero,first_zero,first_zero,first_zero,within_zero] at h1
 have a1:=when_z (by decide) h1.1
 have a2:=when_z (by decide) h1.2.2.1
 have a3:=of_decide_eq_false (when_z (by decide) h1.2.2.2.1)
 have a4:¬ (h.ws.length:Int)=0:=by simpa using a2
 exact ⟨by omega,by omega,h1.2.1,by simpa using a1,fun i hi=>wn_z (h2 i hi)⟩
def sumO (o:Nat->Int):Nat->Int
 | 0=>0
 | n+1=>sumO o n+o n
def sumP (o p:Nat->Int):Nat->Int
 | 0=>0
 | n+1=>sumP o p n+o n * p n
theorem sumO_bd {o:Nat->Int} {m:Nat} (h:∀ b,b < m->0<=o b∧o b<=100000000):∀ n,n<=m->0<=sumO o n∧sumO o n<=100000000 * n
 | 0,_=>by simp [sumO]
 | n+1,hn=>by
  have h1:=sumO_bd h n (by omega)
  have h2:=h n (by omega)
  rw [sumO]
  omega
theorem mul_bd {a b A B:Int} (h1:0<=a) (h2:a<=A) (h3:0<=b) (h4:b<=B):0<=a * b∧a * b<=A * B :=
 ⟨Int.mul_nonneg h1 h3,Int.mul_le_mul h2 h4 h3 (Int.le_trans h1 h2)⟩
theorem sumP_bd {o p:Nat->Int} {m:Nat} (h:∀ b,b < m->0<=o b∧o b<=100000000) (hp:∀ b,b < m->0<=p b∧p b<=1000):∀ n,n<=m->0<=sumP o p n∧sumP o p n<=100000000000 * n
 | 0,_=>by simp [sumP]
 | n+1,hn=>by
  have h1:=sumP_bd h hp n (by omega)
  have h2:=h n (by omega)
  have h3:=hp n (by omega)
  have h4:=mul_bd h2.1 h2.2 h3.1 h3.2
  rw [sumP]
  omega
def inLw (w:Wn):Int:=(sumP w.o w.lo 8 * w.ar).tdiv 100000
def inHw (w:Wn):Int:=(sumP w.o w.hi 8 * w.ar+99999).tdiv 100000
theorem WnOK.lo {w:Wn} (h:WnOK w):∀ b,b < 8->0<=w.lo b∧w.lo b<=1000:=fun b hb=>by have:=h.l0 b hb;omega
theorem WnOK.hi {w:Wn} (h:WnOK w):∀ b,b < 8->0<=w.hi b∧w.hi b<=1000:=fun b hb=>by have:=h.l0 b hb;omega
theorem inLw_bd {w:Wn} (h:WnOK w):(0<=sumP w.o w.lo 8 * w.ar∧sumP w.o w.lo 8 * w.ar<=80000000000000)∧0<=inLw w∧inLw w<=800000000:=by
 have h1:=sumP_bd h.o0 h.lo 8 (Nat.le_refl _)
 have h2:=mul_bd h1.1 h1.2 (show (0:Int)<=w.ar by have:=h.a0;omega) h.a0.2
 refine ⟨⟨h2.1,by omega⟩,?_⟩
 unfold inLw
 rw [Int.tdiv_eq_ediv_of_nonneg h2.1]
 omega
theorem inHw_bd {w:Wn} (h:WnOK w):(0<=sumP w.o w.hi 8 * w.ar∧sumP w.o w.hi 8 * w.ar<=80000000000000)∧0<=inHw w∧inHw w<=800000000:=by
 have h1:=sumP_bd h.o0 h.hi 8 (Nat.le_refl _)
 have h2:=mul_bd h1.1 h1.2 (show (0:Int)<=w.ar by have:=h.a0;omega) h.a0.2
 refine ⟨⟨h2.1,by omega⟩,?_⟩
 unfold inHw
 rw [Int.tdiv_eq_ediv_of_nonneg (by omega)]
 omega
def inL (l:List Wn):Nat->Int
 | 0=>0
 | n+1=>inL l n+inLw (l.getD n default)
def inH (l:List Wn):Nat->Int
 | 0=>0
 | n+1=>inH l n+inHw (l.getD n default)
theorem inL_bd {l:List Wn} {m:Nat} (h:∀ i,i < m->WnOK (l.getD i default)):∀ n,n<=m->0<=inL l n∧inL l n<=800000000 * n
 | 0,_=>by simp [inL]
 | n+1,hn=>by
  have h1:=inL_bd h n (by omega)
  have h2:=(inLw_bd (h n (by omega))).2
  rw [inL]
  omega
theorem inH_bd {l:List Wn} {m:Nat} (h:∀ i,i < m->WnOK (l.getD i default)):∀ n,n<=m->0<=inH l n∧inH l n<=800000000 * n
 | 0,_=>by simp [inH]
 | n+1,hn=>by
  have h1:=inH_bd h n (by omega)
  have h2:=(inHw_bd (h n (by omega))).2
  rw [inH]
  omega
def outM (l:List Wn):Nat->Int
 | 0=>0
 | n+1=>maxI (outM l n) (sumO (l.getD n default).o 8)
theorem outM_bd {l:List Wn} {m:Nat} (h:∀ i,i < m->WnOK (l.getD i default)):∀ n,n<=m->0<=outM l n∧outM l n<=800000000
 | 0,_=>by simp [outM]
 | n+1,hn=>by
  have h1:=outM_bd h n (by omega)
  have h2:=sumO_bd (h n (by omega)).o0 8 (Nat.le_refl _)
  rw [outM]
  unfold maxI
  split <;> omega
def fT (w:Wn):Int:=sumO w.o 8
def mxN (l:List Int):Nat->Int
 | 0=>l.getD 0 default
 | k+1=>maxI (mxN l k) (l.getD (k+1) default)
theorem map_at {α:Type} [Inhabited α] (f:α->Int) {l:List α} {i:Nat} (h:i < l.length):(l.map f).getD i default=f (l.getD i default):=by
 simp [List.getD_eq_getElem?_getD,h]
theorem mx_out {l:List Wn} (h:∀ i,i < l.length->WnOK (l.getD i default)):∀ k,k < l.length->mxN (l.map fT) k=outM l (k+1)
 | 0,hk=>by
  have h2:=sumO_bd (h 0 hk).o0 8 (Nat.le_refl _)
  rw [mxN,map_at fT hk,outM,outM]
  unfold maxI fT
  split <;> omega
 | k+1,hk=>by
  rw [mxN,mx_out h k (by omega),map_at fT hk,outM]
  rfl
theorem p10_bd:∀ k,k < 13->1<=p10 k∧p10 k<=1000000000000:=by decide +kernel
theorem base_bd:∀ k,k < 10->10<=baseL.getD k 0∧baseL.getD k 0<=79:=by decide +kernel
theorem in64_of {x:Int} (h:0<=x∧x<=80000000000000):In64 x:=by unfold In64;omega
def fEn (x:Int):Int:=sWithin x 0 10000000000000
end Go.Proofs.YtfoeefaamjknpaaGreatDoor
namespace Go.Proofs.YtfoeefaamjknpaaGreatDoor
open Go Go.Av Go.RowKit
structure Zn where
 nm:List UInt8
 fr:Int
 sh:Int
 tg:Int
 deriving Inhabited
def encZn (x:Zn):List AV:=[.str x.nm,.i x.fr,.i x.sh,.i x.tg]
def lastZ (l:List Zn):Nat->Int
 | 0 => -1
 | k+1=>(l.getD k default).fr
def fZn (l:List Zn) (i:Nat):Int:=sFirst [sWhen (!sName (l.getD i default).nm) 8,sWhen (hasK (knS ((l.take i).map Zn.nm)) (.str (l.getD i default).nm)) 9,sWithin (l.getD i default).fr 0 120,sWithin (l.getD i default).sh 0 100,sWithin (l.getD i default).tg 0 10000000000000,sWhen (decide ((l.getD i default).fr<=lastZ l i)) 11]
def fZh (l:List Zn):Int:=sFirst [sWhen ((l.length:Int) == 0) 12,sWhen (decide ((l.length:Int) > 6)) 5]
def fZs (l:List Zn):Int:=sLS (fZh l) (fZn l) l.length 0
structure ZnOK (l:List Zn) (i:Nat):Prop where
 fr:0<=(l.getD i default).fr∧(l.getD i default).fr<=120
 sh:0<=(l.getD i default).sh∧(l.getD i default).sh<=100
 tg:0<=(l.getD i default).tg∧(l.getD i default).tg<=10000000000000
 up:lastZ l i < (l.getD i default).fr
theorem zn_z {l:List Zn} {i:Nat} (h:fZn l i=0):ZnOK l i:=by
 unfold fZn at h
 rw [first_zero,first_zero,first_zero,first_zero,first_zero,first_zero,within_zero,within_zero,within_zero] at h
 obtain ⟨_,_,h1,h2,h3,h4,_⟩:=h
 have:=of_decide_eq_false (when_z (by decide) h4)
 exact ⟨h1,h2,h3,by omega⟩
theorem zs_z {l:List Zn} (e:fZs l=0):1<=l.length∧l.length<=6∧∀ i,i < l.length->fZn l i=0:=by
 obtain ⟨h1,h2⟩:=ls_zero e
 unfold fZh at h1
 rw [first_zero,first_zero] at h1
 have a2:=when_z (by decide) h1.1
 have a3:=of_decide_eq_false (when_z (by decide) h1.2.1)
 have a4:¬ (l.length:Int)=0:=by simpa using a2
 exact ⟨by omega,by omega,h2⟩
theorem zs_up {l:List Zn} (h:∀ i,i < l.length->fZn l i=0) {i:Nat}:∀ {j:Nat},i < j->j < l.length->(l.getD i default).fr < (l.getD j default).fr
 | 0,h1,_=>absurd h1 (by omega)
 | j+1,h1,h2=>by
  have h3:=(zn_z (h (j+1) h2)).up
  simp only [lastZ] at h3
  by_cases e:i=j
  · rw [e];exact h3
  · exact Int.lt_trans (zs_up h (i:=i) (j:=j) (by omega) (by omega)) h3
def zoN (l:List Zn) (v:Int):Nat->Int
 | 0 => -1
 | k+1=>if decide ((l.getD k default).fr<=v)=true then (k:Int) else zoN l v k
def zoI (l:List Zn) (v:Int):Int:=zoN l v l.length
theorem zo_bd (l:List Zn) (v:Int):∀ k, -1<=zoN l v k∧zoN l v k < k
 | 0=>⟨Int.le_refl _,show (-1:Int) < 0 by decide⟩
 | k+1=>by
  have:=zo_bd l v k
  rw [zoN]
  split <;> omega
theorem zo_same {l:List Zn} {v:Int} (hz:∀ i,i < l.length->fZn l i=0) {k:Nat} (h:v < (l.getD k default).fr):∀ {m:Nat},k<=m->m<=l.length->zoN l v m=zoN l v k
 | 0,h1,_=>by have e:k=0:=by omega
              rw [e]
 | m+1,h1,h2=>by
  by_cases e1:k=m+1
  · rw [e1]
  · have h3:(l.getD k default).fr<=(l.getD m default).fr:=by
     by_cases e2:k=m
     · rw [e2];exact Int.le_refl _
     · exact Int.le_of_lt (zs_up hz (i:=k) (j:=m) (by omega) (by omega))
    rw [zoN,if_neg (by rw [decide_eq_true_eq];omega)]
    exact zo_same hz h (by omega) (by omega)
theorem zo_all {l:List Zn} {v:Int} {k:Nat} (h:∀ j,j < k->(l.getD j default).fr<=v):zoN l v k=(k:Int)-1:=by
 cases k with
 | zero=>rfl
 | succ k =>
  rw [zoN,if_pos (by rw [decide_eq_true_eq];exact h k (by omega))]
  omega
theorem zo_stop {l:List Zn} {v:Int} (hz:∀ i,i < l.length->fZn l i=0) {k:Nat} (h:∀ j,j < k->(l.getD j default).fr<=v) (hk:k<=l.length) (hs:k=l.length ∨ v < (l.getD k default).fr):zoI l v=(k:Int)-1:=by
 unfold zoI
 rcases hs with e | hs
 · rw [<- e];exact zo_all h
 · rw [zo_same hz hs hk (Nat.le_refl _),zo_all h]
def badI (n:Int) (i:Int):Bool:=if decide (i < 0)=true then true else decide (i>=n)
def ordI (l:List Int) (j:Nat):Bool:=if j=0 then false else decide (l.getD j default<=l.getD (j-1) default)
def fIx (l:List Int) (n:Int):Int:=if decide (fiN (fun j=>badI n (l.getD j default)) l.length < l.length)=true then 10 else if decide (fiN (ordI l) l.length < l.length)=true then 11 else 0
theorem ix_z {l:List Int} {n:Int} (h:fIx l n=0):(∀ j,j < l.length->0<=l.getD j default∧l.getD j default < n)∧∀ j,j+1 < l.length->l.getD j default < l.getD (j+1) default:=by
 unfold fIx at h
 split at h
 · cases h
 · rename_i h1
   split at h
   · cases h
   · rename_i h2
     rw [decide_eq_true_eq] at h1 h2
     refine ⟨fun j hj=>?_,fun j hj=>?_⟩
     · have h3:=fi_all h1 j hj
       unfold badI at h3
       split at h3
       · cases h3
       · rename_i h4
         rw [decide_eq_true_eq] at h4
         have:=of_decide_eq_false h3
         omega
     · have h3:=fi_all h2 (j+1) hj
       unfold ordI at h3
       rw [if_neg (by omega)] at h3
       have:=of_decide_eq_false h3
       rw [Nat.add_sub_cancel] at this
       omega
def msI (l:List Ms) (i:Int):Ms:=l.getD i.toNat default
def cfI (l:List Ms) (g:List Int) (j:Nat):Bool:=(g.take j).any fun k=>(msI l k).w == (msI l (g.getD j default)).w
def fSet (l:List Ms) (g:List Int):Int:=if (fIx g l.length != 0)=true then fIx g l.length else if decide (fiN (cfI l g) g.length < g.length)=true then 24 else 0
theorem set_z {l:List Ms} {g:List Int} (h:fSet l g=0):fIx g l.length=0∧∀ j,j < g.length->cfI l g j=false:=by
 unfold fSet at h
 split at h
 · rename_i h1
   exact absurd h (bne_t h1)
 · rename_i h1
   split at h
   · cases h
   · rename_i h2
     exact ⟨bne_f (by simpa using h1),fi_all (by simpa using h2)⟩
def wiM (w:Wn) (m:Ms):Wn:={ w with p0:=m.p0,p1:=m.p1,p2:=m.p2,p3:=m.p3,p4:=m.p4,p5:=m.p5,p6:=m.p6,p7:=m.p7,p8:=m.p8,p9:=m.p9,p10:=m.p10,p11:=m.p11,p12:=m.p12,p13:=m.p13,p14:=m.p14,p15:=m.p15 }
def aftN (ws:List Wn) (l:List Ms) (g:List Int):Nat->List Wn
 | 0=>ws
 | k+1=>(aftN ws l g k).set (msI l (g.getD k default)).w.toNat (wiM ((aftN ws l g k).getD (msI l (g.getD k default)).w.toNat default) (msI l (g.getD k default)))
theorem aft_len (ws:List Wn) (l:List Ms) (g:List Int):∀ k,(aftN ws l g k).length=ws.length
 | 0=>rfl
 | k+1=>by rw [aftN,List.length_set,aft_len ws l g k]
def aft (ws:List Wn) (l:List Ms) (g:List Int):List Wn:=aftN ws l g g.length
def fM1 (n:Nat) (l:List Ms) (i:Nat):Int:=sFirst [sWhen (!sName (l.getD i default).nm) 8,sWhen (hasK (knS ((l.take i).map Ms.nm)) (.str (l.getD i default).nm)) 9,sWhen (if decide ((l.getD i default).w < 0)=true then true else decide ((l.getD i default).w>=n)) 10,sWithin (l.getD i default).c 0 1000000,fPa (l.getD i default).lo (l.getD i default).hi]
def fMh (h:Hm) (l:List Ms):Int:=sFirst [fHm h,sWhen (decide ((l.length:Int) > 8)) 5]
def fMs (h:Hm) (l:List Ms):Int:=sLS (fMh h l) (fM1 h.ws.length l) l.length 0
structure MsOK (n:Nat) (m:Ms):Prop where
 w0:0<=m.w∧m.w < n
 c0:0<=m.c∧m.c<=1000000
 l0:∀ b,b < 8->0<=m.lo b∧m.lo b<=m.hi b∧m.hi b<=1000
theorem m1_z {n:Nat} {l:List Ms} {i:Nat} (h:fM1 n l i=0):MsOK n (l.getD i default):=by
 unfold fM1 at h
 rw [first_zero,first_zero,first_zero,first_zero,first_zero,within_zero] at h
 obtain ⟨_,_,h1,h2,h3,_⟩:=h
 have h4:=when_z (by decide) h1
 refine ⟨?_,h2,pa_z h3⟩
 split at h4
 · cases h4
 · rename_i h5
   rw [decide_eq_true_eq] at h5
   have:=of_decide_eq_false h4
   omega
theorem ms_z {h:Hm} {l:List Ms} (e:fMs h l=0):fHm h=0∧l.length<=8∧∀ i,i < l.length->MsOK h.ws.length (l.getD i default):=by
 obtain ⟨h1,h2⟩:=ls_zero e
 unfold fMh at h1
 rw [first_zero,first_zero] at h1
 have a3:=of_decide_eq_false (when_z (by decide) h1.2.1)
 exact ⟨h1.1,by omega,fun i hi=>m1_z (h2 i hi)⟩
theorem wiM_ok {w:Wn} {n:Nat} {m:Ms} (h:WnOK w) (hm:MsOK n m):WnOK (wiM w m):=⟨h.o0,h.a0,hm.l0⟩
theorem aft_ok {ws:List Wn} {l:List Ms} {g:List Int} (h:∀ i,i < ws.length->WnOK (ws.getD i default)) (hl:∀ i,i < l.length->MsOK ws.length (l.getD i default)) (hg:∀ j,j < g.length->0<=g.getD j default∧g.getD j default < l.length):∀ k,k<=g.length->∀ i,i < ws.length->WnOK ((aftN ws l g k).getD i default)
 | 0,_,i,hi=>h i hi
 | k+1,hk,i,hi=>by
  have ih:=aft_ok h hl hg k (by omega)
  have hgk:=hg k (by omega)
  have hm:=hl (g.getD k default).toNat (by omega)
  rw [aftN]
  have hlen:=aft_len ws l g k
  have hw:(msI l (g.getD k default)).w.toNat < ws.length:=by
   have:=hm.w0
   unfold msI
   omega
  by_cases e:i=(msI l (g.getD k default)).w.toNat
  · subst e
    rw [List.getD_eq_getElem?_getD,List.getElem?_set_self (by omega)]
    exact wiM_ok (ih _ hw) hm
  · rw [List.getD_eq_getElem?_getD,List.getElem?_set_ne (fun q=>e q.symm),<- List.getD_eq_getElem?_getD]
    exact ih i hi
end Go.Proofs.YtfoeefaamjknpaaGreatDoor
namespace Go.Proofs.YtfoeefaamjknpaaGreatDoor
open Go Go.Av Go.RowKit Go.ChangeShapes Go.WideShapes
theorem wn_of {n:Nat} {r:List AV} (hn:shapeT T0 n 177=[.int .i64,.int .i64,.int .i64,.int .i64,.int .i64,.int .i64,.int .i64,.int .i64,.int .i64,.int .i64,.int .i64,.int .i64,.int .i64,.int .i64,.int .i64,.int .i64,.int .i64,.int .i64,.int .i64,.int .i64,.int .i64,.int .i64,.int .i64,.int .i64,.int .i64]) (hp:plainT T0 n 177=true) (h:ASh T0 n 177 r):∃ x:Wn,r=encWn x∧True:=by
 have:=ash_shape n 177 r hp h
 rw [hn] at this
 obtain ⟨_,_,rfl,⟨x0,rfl,_⟩,_,_,rfl,⟨x1,rfl,_⟩,_,_,rfl,⟨x2,rfl,_⟩,_,_,rfl,⟨x3,rfl,_⟩,_,_,rfl,⟨x4,rfl,_⟩,_,_,rfl,⟨x5,rfl,_⟩,_,_,rfl,⟨x6,rfl,_⟩,_,_,rfl,⟨x7,rfl,_⟩,_,_,rfl,⟨x8,rfl,_⟩,_,_,rfl,⟨x9,rfl,_⟩,_,_,rfl,⟨x10,rfl,_⟩,_,_,rfl,⟨x11,rfl,_⟩,_,_,rfl,⟨x12,rfl,_⟩,_,_,rfl,⟨x13,rfl,_⟩,_,_,rfl,⟨x14,rfl,_⟩,_,_,rfl,⟨x15,rfl,_⟩,_,_,rfl,⟨x16,rfl,_⟩,_,_,rfl,⟨x17,rfl,_⟩,_,_,rfl,⟨x18,rfl,_⟩,_,_,rfl,⟨x19,rfl,_⟩,_,_,rfl,⟨x20,rfl,_⟩,_,_,rfl,⟨x21,rfl,_⟩,_,_,rfl,⟨x22,rfl,_⟩,_,_,rfl,⟨x23,rfl,_⟩,_,_,rfl,⟨x24,rfl,_⟩,rfl⟩:=this
 exact ⟨⟨x0,x1,x2,x3,x4,x5,x6,x7,x8,x9,x10,x11,x12,x13,x14,x15,x16,x17,x18,x19,x20,x21,x22,x23,x24⟩,rfl,trivial⟩
theorem zn_of {n:Nat} {r:List AV} (hn:shapeT T0 n 162=[.str,.int .i64,.int .i64,.int .i64]) (hp:plainT T0 n 162=true) (h:ASh T0 n 162 r):∃ x:Zn,r=encZn x∧True:=by
 have:=ash_shape n 162 r hp h
 rw [hn] at this
 obtain ⟨_,_,rfl,⟨a,rfl,_⟩,_,_,rfl,⟨b,rfl,_⟩,_,_,rfl,⟨c,rfl,_⟩,_,_,rfl,⟨d,rfl,_⟩,rfl⟩:=this
 exact ⟨⟨a,b,c,d⟩,rfl,trivial⟩
theorem zns_arg {a:AV} (h:ASh1 T0 8 79 a):∃ l:List Zn,a=.sl 4 (l.map encZn)∧l.length<=maxLen:=by
 obtain ⟨rows,rfl,hl,hr⟩:=ash1_one (c:=.sl 7 162 4) (ti:=⟨(.slice 162 4 40),1,24,false,[.ex (.slice none 0 0)],false⟩) (by kernel_rfl) rfl (by kernel_rfl) (by kernel_rfl) h
 obtain ⟨l,rfl,_⟩:=rows_enc (enc:=encZn) (Q:=fun _=>True) (fun r hm=>zn_of (by kernel_rfl) (by kernel_rfl) (hr r hm))
 exact ⟨l,rfl,by simpa using hl⟩
theorem ms_of {n:Nat} {r:List AV} (hn:shapeT T0 n 155=[.str,.int .i64,.int .i64,.int .i64,.int .i64,.int .i64,.int .i64,.int .i64,.int .i64,.int .i64,.int .i64,.int .i64,.int .i64,.int .i64,.int .i64,.int .i64,.int .i64,.int .i64,.int .i64]) (hp:plainT T0 n 155=true) (h:ASh T0 n 155 r):∃ x:Ms,r=encMs x∧True:=by
 have:=ash_shape n 155 r hp h
 rw [hn] at this
 obtain ⟨_,_,rfl,⟨s,rfl,_⟩,_,_,rfl,⟨x0,rfl,_⟩,_,_,rfl,⟨x1,rfl,_⟩,_,_,rfl,⟨x2,rfl,_⟩,_,_,rfl,⟨x3,rfl,_⟩,_,_,rfl,⟨x4,rfl,_⟩,_,_,rfl,⟨x5,rfl,_⟩,_,_,rfl,⟨x6,rfl,_⟩,_,_,rfl,⟨x7,rfl,_⟩,_,_,rfl,⟨x8,rfl,_⟩,_,_,rfl,⟨x9,rfl,_⟩,_,_,rfl,⟨x10,rfl,_⟩,_,_,rfl,⟨x11,rfl,_⟩,_,_,rfl,⟨x12,rfl,_⟩,_,_,rfl,⟨x13,rfl,_⟩,_,_,rfl,⟨x14,rfl,_⟩,_,_,rfl,⟨x15,rfl,_⟩,_,_,rfl,⟨x16,rfl,_⟩,_,_,rfl,⟨x17,rfl,_⟩,rfl⟩:=this
 exact ⟨⟨s,x0,x1,x2,x3,x4,x5,x6,x7,x8,x9,x10,x11,x12,x13,x14,x15,x16,x17⟩,rfl,trivial⟩
end Go.Proofs.YtfoeefaamjknpaaGreatDoor
namespace Go.Proofs.YtfoeefaamjknpaaGreatDoor
open Go Go.Av Go.RowKit
def la0 (l:LA):Nat->Option LA:=fun i=>if i.beq 0 then some l else none
def spW:Nat->List AV->Option AV
 | 173,[.int _ x]=>some (.i (fO x))
 | 106,[.agg [.int _ x,.int _ y],.int _ m]=>some (.i (fEnds x y m))
 | 115,[.agg [.int _ x,.int _ y],.int _ m]=>some (.i (fEnds x y m))
 | 175,[.agg [.int _ x,.int _ y]]=>some (.i (fI ⟨x,y⟩))
 | 205,[.int _ x,.int _ lo,.int _ hi]=>some (.i (sWithin x lo hi))
 | 216,[.bool b,.int _ e]=>some (.i (sWhen b e))
 | 33,[.int _ x]=>some (.i (sWithin x 0 10000000000000))
 | 105,[.int _ x]=>some (.i (sWithin x 0 10000000000000))
 | 190,[.int _ x]=>some (.i (sWithin x 0 10000000000000))
 | n,x=>spN n x
theorem c173 (x:Int) :PCall Tryz.prog G0 173 [.i x] (.i (fO x)):=by
 have key :
  PCall Tryz.prog G0 118 [AV.i x,AV.i 0,AV.i 100000000] (AV.i (sWithin x (0:Int) (100000000:Int)))∧AV.i (sWithin x (0:Int) (100000000:Int))=AV.i (fO x):=by
   refine ⟨(c118 _ _ _),?_⟩
   · first | rfl | trivial
 exact c_of Tryz.f173 (mkB spW 173 [] noLa) (by kernel_rfl) (by kernel_rfl) (by kernel_rfl) (by kernel_rfl) key (by kernel_rfl)
def laMp (enc:Int->List AV) (F:AV) (f:Int->Int) (l:List Int):LA:={
 pre:=[.own 5 34 1,.reno 5 1,.keep [1,5,8,9,10] [1],.bound 2],post:=[.reno 5 1,.keep [1,5,8,9,10] [1],.bound 2]
 Gh:=Nat
 st:=fun i=>⟨[(1,F),(5,.own 1 (((l.take i).map f).map encI).length),(8,.sl 1 (l.map enc)),(9,.i (l.map enc).length),(10,.i i)],[(1,.buf 34 1 (((l.take i).map f).map encI))],2⟩
 ok:=fun i=>i<=l.length
 ms:=fun i=>l.length-i }
theorem c172 (l:List Int) (hl:l.length<=1000):PCall Tryz.prog G0 172 [.sl 1 (l.map encI),.fn (.func 173) [] []] (.fresh 34 1 ((l.map fO).map encI)):=by
 have key :
  (∃ (g:Nat),g<=l.length∧AS.mk [(1,AV.fn (Fn.func 173) [] []),(5,AV.own 1 0),(8,AV.sl 1 (List.map encI l)),(9,AV.i (↑(List.map encI l).length:Int)),(10,AV.i 0)] [(1,ABlk.buf 34 1 [])] 2=AS.mk [(1,AV.fn (Fn.func
  173) [] []),(5,AV.own 1 (List.map encI (List.map fO (List.take g l))).length),(8,AV.sl 1 (List.map encI l)),(9,AV.i (↑(List.map encI l).length:Int)),(10,AV.i (g:Int))] [(1,ABlk.buf 34 1 (List.map encI (List.map fO
  (List.take g l))))] 2)∧∀ (g:Nat),g<=l.length->(decide ((g:Int) < (↑(List.map encI l).length:Int))=true->(0:Int)<=(g:Int)∧(g:Int) < (↑(List.map encI l).length:Int)∧nth (nthR (List.map encI l) (↑g :
  Int).toNat) 0=AV.i (l.getD (g:Int).toNat default)∧(List.map encI (List.map fO (List.take g l))).length+1<=9223372036854775807∧((List.map encI (List.map fO (List.take g l))).length+1) * 8<=140737488355328∧PCall
  Tryz.prog G0 173 [AV.i (l.getD (g:Int).toNat default)] (AV.i (fO (l.getD (g:Int).toNat default)))∧In64 ((g:Int)+1)∧∃ (g':Nat),g'<=l.length∧l.length-g' < l.length-g∧AS.mk [(1,AV.fn (Fn.func 173) [] []),
  (5,AV.own 1 ((List.map encI (List.map fO (List.take g l))).length+1)),(8,AV.sl 1 (List.map encI l)),(9,AV.i (↑(List.map encI l).length:Int)),(10,AV.i ((g:Int)+1))] [(1,ABlk.buf 34 1 (List.map encI (List.map fO
  (List.take g l))++[[AV.i (fO (l.getD (g:Int).toNat default))]]))] 2=AS.mk [(1,AV.fn (Fn.func 173) [] []),(5,AV.own 1 (List.map encI (List.map fO (List.take g' l))).length),(8,AV.sl 1 (List.map encI l)),(9,AV.i
  (↑(List.map encI l).length:Int)),(10,AV.i (↑g':Int))] [(1,ABlk.buf 34 1 (List.map encI (List.map fO (List.take g' l))))] 2)∧(decide ((g:Int) < (↑(List.map encI l).length:Int))=false->AV.fresh 34 1 (List.map encI
  (List.map fO (List.take g l)))=AV.fresh 34 1 (List.map encI (List.map fO l))):=by
   have hlm:(List.map encI l).length=l.length:=List.length_map _
   have:(List.map encI l).length=l.length:=by simp only [List.length_map]
   refine ⟨⟨0,by omega,rfl⟩,fun g hg=>⟨fun hd=>?_,fun hd=>?_⟩⟩
   · have hlt:g < l.length:=by have h9:=of_decide_eq_true hd;have h8:=hg;(try simp only [List.length_map] at h8);(try simp only [List.length_map] at h9);omega
     have:(List.map encI (List.map fO (List.take g l))).length=g:=by simp only [List.length_map,List.length_take];omega
     try rw [show (g:Int).toNat=g from Int.toNat_natCast g]
     refine ⟨(by omega),(by omega),congrArg (fun r=>nth r 0) (row_at encI hlt),(by omega),(by omega),(c173 _),(by unfold In64;omega),⟨g+1,by omega,by omega,?_⟩⟩
     · first | (rw [<- take_succ_map _ _ hlt,List.length_append];rfl) | (rw [<- take_succ _ hlt,List.length_append];rfl)
   · have hge:g=l.length:=by have h9:=of_decide_eq_false hd;have h8:=hg;(try simp only [List.length_map] at h8);(try simp only [List.length_map] at h9);omega
     subst hge
     exact (by rw [List.take_length])
 exact c_of Tryz.f172 (fzB (mkB spW 172 [(4,1,rdL 1 encI l 1 false)] (la0 (laMp encI (.fn (.func 173) [] []) fO l)))) (by kernel_rfl) (by kernel_rfl) (by kernel_rfl) (by kernel_rfl) key (by kernel_rfl)
theorem c106 (x y m:Int) :PCall Tryz.prog G0 106 [.agg [.i x,.i y],.i m] (.i (fEnds x y m)):=by
 have key :
  PCall Tryz.prog G0 118 [AV.i x,AV.i 0,AV.i m] (AV.i (sWithin x (0:Int) m))∧PCall Tryz.prog G0 118 [AV.i y,AV.i 0,AV.i m] (AV.i (sWithin y (0:Int) m))∧PCall Tryz.prog G0 116 [AV.bool (decide (x > y)),AV.i 11] (AV.i
  (sWhen (decide (x > y)) (11:Int)))∧PCall Tryz.prog G0 104 [AV.sl 1 [[AV.i (sWithin x (0:Int) m)],[AV.i (sWithin y (0:Int) m)],[AV.i (sWhen (decide (x > y)) (11:Int))]]] (AV.i (sFirst [hdI [AV.i (sWithin x (0:Int) m)],
  hdI [AV.i (sWithin y (0:Int) m)],hdI [AV.i (sWhen (decide (x > y)) (11:Int))]]))∧AV.i (sFirst [hdI [AV.i (sWithin x (0:Int) m)],hdI [AV.i (sWithin y (0:Int) m)],hdI [AV.i (sWhen (decide (x > y)) (11:Int))]])=AV.i
  (fEnds x y m):=by
   refine ⟨(c118 _ _ _),(c118 _ _ _),(c116 _ _),(c104 [_,_,_] (by simp)),?_⟩
   · first | rfl | trivial
 exact c_of Tryz.f106 (mkB spW 106 [] noLa) (by kernel_rfl) (by kernel_rfl) (by kernel_rfl) (by kernel_rfl) key (by kernel_rfl)
theorem c115 (x y m:Int) :PCall Tryz.prog G0 115 [.agg [.i x,.i y],.i m] (.i (fEnds x y m)):=by
 have key :
  PCall Tryz.prog G0 81 [AV.i x,AV.i 0,AV.i m] (AV.i (sWithin x (0:Int) m))∧PCall Tryz.prog G0 81 [AV.i y,AV.i 0,AV.i m] (AV.i (sWithin y (0:Int) m))∧PCall Tryz.prog G0 109 [AV.bool (decide (x > y)),AV.i 11] (AV.i (sWhen
  (decide (x > y)) (11:Int)))∧PCall Tryz.prog G0 107 [AV.sl 1 [[AV.i (sWithin x (0:Int) m)],[AV.i (sWithin y (0:Int) m)],[AV.i (sWhen (decide (x > y)) (11:Int))]]] (AV.i (sFirst [hdI [AV.i (sWithin x (0:Int) m)],hdI
  [AV.i (sWithin y (0:Int) m)],hdI [AV.i (sWhen (decide (x > y)) (11:Int))]]))∧AV.i (sFirst [hdI [AV.i (sWithin x (0:Int) m)],hdI [AV.i (sWithin y (0:Int) m)],hdI [AV.i (sWhen (decide (x > y)) (11:Int))]])=AV.i
  (fEnds x y m):=by
   refine ⟨(c81 _ _ _),(c81 _ _ _),(c109 _ _),(c107 [_,_,_] (by simp)),?_⟩
   · first | rfl | trivial
 exact c_of Tryz.f115 (mkB spW 115 [] noLa) (by kernel_rfl) (by kernel_rfl) (by kernel_rfl) (by kernel_rfl) key (by kernel_rfl)
theorem c175 (x:Iv) :PCall Tryz.prog G0 175 [.agg (encIv x)] (.i (fI x)):=by
 have key :
  PCall Tryz.prog G0 106 [AV.agg (encIv x),AV.i 1000] (AV.i (fEnds x.a x.b (1000:Int)))∧AV.i (fEnds x.a x.b (1000:Int))=AV.i (fI x):=by
   refine ⟨(c106 _ _ _),?_⟩
   · first | rfl | trivial
 exact c_of Tryz.f175 (mkB spW 175 [] noLa) (by kernel_rfl) (by kernel_rfl) (by kernel_rfl) (by kernel_rfl) key (by kernel_rfl)
def la174 (l:List Iv):LA:={
 pre:=[.own 5 34 1,.reno 5 1,.keep [1,5,8,9,10] [1],.bound 2],post:=[.reno 5 1,.keep [1,5,8,9,10] [1],.bound 2]
 Gh:=Nat
 st:=fun i=>⟨[(1,.fn (.func 175) [] []),(5,.own 1 (((l.take i).map fI).map encI).length),(8,.sl 2 (l.map encIv)),(9,.i (l.map encIv).length),(10,.i i)],[(1,.buf 34 1 (((l.take i).map fI).map encI))],2⟩
 ok:=fun i=>i<=l.length
 ms:=fun i=>l.length-i }
theorem c174 (l:List Iv) (hl:l.length<=1000):PCall Tryz.prog G0 174 [.sl 2 (l.map encIv),.fn (.func 175) [] []] (.fresh 34 1 ((l.map fI).map encI)):=by
 have key :
  (∃ (g:Nat),g<=l.length∧AS.mk [(1,AV.fn (Fn.func 175) [] []),(5,AV.own 1 0),(8,AV.sl 2 (List.map encIv l)),(9,AV.i (↑(List.map encIv l).length:Int)),(10,AV.i 0)] [(1,ABlk.buf 34 1 [])] 2=AS.mk [(1,AV.fn (Fn.func
  175) [] []),(5,AV.own 1 (List.map encI (List.map fI (List.take g l))).length),(8,AV.sl 2 (List.map encIv l)),(9,AV.i (↑(List.map encIv l).length:Int)),(10,AV.i (g:Int))] [(1,ABlk.buf 34 1 (List.map encI (List.map fI
  (List.take g l))))] 2)∧∀ (g:Nat),g<=l.length->(decide ((g:Int) < (↑(List.map encIv l).length:Int))=true->(0:Int)<=(g:Int)∧(g:Int) < (↑(List.map encIv l).length:Int)∧AV.agg (nthR (List.map encIv l) (↑g
  : Int).toNat)=AV.agg (encIv (l.getD (g:Int).toNat default))∧(List.map encI (List.map fI (List.take g l))).length+1<=9223372036854775807∧((List.map encI (List.map fI (List.take g l))).length+1) * 8<=140737488355328 ∧
  PCall Tryz.prog G0 175 [AV.agg (encIv (l.getD (g:Int).toNat default))] (AV.i (fI (Iv.mk (l.getD (g:Int).toNat default).a (l.getD (g:Int).toNat default).b)))∧In64 ((g:Int)+1)∧∃ (g':Nat),g'<=l.length∧l.length
  - g' < l.length-g∧AS.mk [(1,AV.fn (Fn.func 175) [] []),(5,AV.own 1 ((List.map encI (List.map fI (List.take g l))).length+1)),(8,AV.sl 2 (List.map encIv l)),(9,AV.i (↑(List.map encIv l).length:Int)),(10,AV.i ((↑g :
  Int)+1))] [(1,ABlk.buf 34 1 (List.map encI (List.map fI (List.take g l))++[[AV.i (fI (Iv.mk (l.getD (g:Int).toNat default).a (l.getD (g:Int).toNat default).b))]]))] 2=AS.mk [(1,AV.fn (Fn.func 175) [] []),(5,AV.own 1
  (List.map encI (List.map fI (List.take g' l))).length),(8,AV.sl 2 (List.map encIv l)),(9,AV.i (↑(List.map encIv l).length:Int)),(10,AV.i (↑g':Int))] [(1,ABlk.buf 34 1 (List.map encI (List.map fI (List.take g' l))))] 2) ∧
  (decide ((g:Int) < (↑(List.map encIv l).length:Int))=false->AV.fresh 34 1 (List.map encI (List.map fI (List.take g l)))=AV.fresh 34 1 (List.map encI (List.map fI l))):=by
   have hlm:(List.map encIv l).length=l.length:=List.length_map _
   have:(List.map encIv l).length=l.length:=by simp only [List.length_map]
   refine ⟨⟨0,by omega,rfl⟩,fun g hg=>⟨fun hd=>?_,fun hd=>?_⟩⟩
   · have hlt:g < l.length:=by have h9:=of_decide_eq_true hd;have h8:=hg;(try simp only [List.length_map] at h8);(try simp only [List.length_map] at h9);omega
     have:(List.map encI (List.map fI (List.take g l))).length=g:=by simp only [List.length_map,List.length_take];omega
     try rw [show (g:Int).toNat=g from Int.toNat_natCast g]
     refine ⟨(by omega),(by omega),congrArg AV.agg (row_at encIv hlt),(by omega),(by omega),(c175 _),(by unfold In64;omega),⟨g+1,by omega,by omega,?_⟩⟩
     · first | (rw [<- take_succ_map _ _ hlt,List.length_append];rfl) | (rw [<- take_succ _ hlt,List.length_append];rfl)
   · have hge:g=l.length:=by have h9:=of_decide_eq_false hd;have h8:=hg;(try simp only [List.length_map] at h8);(try simp only [List.length_map] at h9);omega
     subst hge
     exact (by rw [List.take_length])
 exact c_of Tryz.f174 (fzB (mkB spW 174 [(4,1,rdL 2 encIv l 2 true)] (la0 (la174 l)))) (by kernel_rfl) (by kernel_rfl) (by kernel_rfl) (by kernel_rfl) key (by kernel_rfl)
def sp121 (lo hi:Nat->Int):Nat->List AV->Option AV
 | 174,_=>some (.fresh 34 1 (((pL lo hi).map fI).map encI))
 | n,x=>spW n x
abbrev zc121a (lo:Nat->Int) (hi:Nat->Int):=sFirst [hdI [AV.i (fI (Iv.mk (lo 0) (hi 0)))],hdI [AV.i (fI (Iv.mk (lo 1) (hi 1)))],hdI [AV.i (fI (Iv.mk (lo 2) (hi 2)))],hdI [AV.i (fI (Iv.mk (lo 3) (hi 3)))],hdI [AV.i (fI (Iv.mk (lo 4) (hi 4)))],hdI [AV.i (fI (Iv.mk (lo 5) (hi 5)))],hdI [AV.i (fI (Iv.mk (lo 6) (hi 6)))],hdI [AV.i (fI (Iv.mk (lo 7) (hi 7)))]]
abbrev zc121b (lo:Nat->Int) (hi:Nat->Int):=[[AV.i (fI (Iv.mk (lo 0) (hi 0)))],[AV.i (fI (Iv.mk (lo 1) (hi 1)))],[AV.i (fI (Iv.mk (lo 2) (hi 2)))],[AV.i (fI (Iv.mk (lo 3) (hi 3)))],[AV.i (fI (Iv.mk (lo 4) (hi 4)))],[AV.i (fI (Iv.mk (lo 5) (hi 5)))],[AV.i (fI (Iv.mk (lo 6) (hi 6)))],[AV.i (fI (Iv.mk (lo 7) (hi 7)))]]
theorem c121 (lo hi:Nat->Int) :PCall Tryz.prog G0 121 [.agg (encPa lo hi)] (.i (fPa lo hi)):=by
 have key :
  PCall Tryz.prog G0 174 [AV.sl 2 [[AV.i (lo 0),AV.i (hi 0)],[AV.i (lo 1),AV.i (hi 1)],[AV.i (lo 2),AV.i (hi 2)],[AV.i (lo 3),AV.i (hi 3)],[AV.i (lo 4),AV.i (hi 4)],[AV.i (lo 5),AV.i (hi 5)],[AV.i (lo 6),AV.i (hi 6)],
  [AV.i (lo 7),AV.i (hi 7)]],AV.fn (Fn.func 175) [] []] (AV.fresh 34 1 (zc121b lo hi))∧PCall Tryz.prog G0 104 [AV.sl 1 (zc121b lo hi)] (AV.i (zc121a lo hi))∧AV.i (zc121a lo hi)=AV.i (fPa lo hi):=by
   delta zc121a zc121b
   refine ⟨(c174 (pL lo hi) (Nat.le_of_ble_eq_true rfl)),(c104 [_,_,_,_,_,_,_,_] (by simp)),?_⟩
   · first | rfl | trivial
 exact c_of Tryz.f121 (fzB (mkB (sp121 lo hi) 121 [] noLa)) (by kernel_rfl) (by kernel_rfl) (by kernel_rfl) (by kernel_rfl) key (by kernel_rfl)
def sp120 (w:Wn):Nat->List AV->Option AV
 | 172,_=>some (.fresh 34 1 (((oL w.o).map fO).map encI))
 | 121,_=>some (.i (fPa w.lo w.hi))
 | n,x=>spW n x
abbrev zc120a (w:Wn):=sFirst [hdI [AV.i (fO (w.o 0))],hdI [AV.i (fO (w.o 1))],hdI [AV.i (fO (w.o 2))],hdI [AV.i (fO (w.o 3))],hdI [AV.i (fO (w.o 4))],hdI [AV.i (fO (w.o 5))],hdI [AV.i (fO (w.o 6))],hdI [AV.i (fO (w.o 7))]]
theorem c120 (w:Wn) :PCall Tryz.prog G0 120 [.agg (encWn w)] (.i (fWn w)):=by
 have key :
  PCall Tryz.prog G0 172 [AV.sl 1 [[AV.i w.o0],[AV.i w.o1],[AV.i w.o2],[AV.i w.o3],[AV.i w.o4],[AV.i w.o5],[AV.i w.o6],[AV.i w.o7]],AV.fn (Fn.func 173) [] []] (AV.fresh 34 1 [[AV.i (fO (w.o 0))],[AV.i (fO (w.o 1))],[AV.i
  (fO (w.o 2))],[AV.i (fO (w.o 3))],[AV.i (fO (w.o 4))],[AV.i (fO (w.o 5))],[AV.i (fO (w.o 6))],[AV.i (fO (w.o 7))]])∧PCall Tryz.prog G0 104 [AV.sl 1 [[AV.i (fO (w.o 0))],[AV.i (fO (w.o 1))],[AV.i (fO (w.o 2))],[AV.i (fO
  (w.o 3))],[AV.i (fO (w.o 4))],[AV.i (fO (w.o 5))],[AV.i (fO (w.o 6))],[AV.i (fO (w.o 7))]]] (AV.i (zc120a w))∧PCall Tryz.prog G0 118 [AV.i w.ar,AV.i 1,AV.i 100] (AV.i (sWithin w.ar (1:Int) (100:Int)))∧PCall Tryz.prog
  G0 121 [AV.agg [AV.i w.p0,AV.i w.p1,AV.i w.p2,AV.i w.p3,AV.i w.p4,AV.i w.p5,AV.i w.p6,AV.i w.p7,AV.i w.p8,AV.i w.p9,AV.i w.p10,AV.i w.p11,AV.i w.p12,AV.i w.p13,AV.i w.p14,AV.i w.p15]] (AV.i (fPa w.lo w.hi))∧PCall
  Tryz.prog G0 104 [AV.sl 1 [[AV.i (zc120a w)],[AV.i (sWithin w.ar (1:Int) (100:Int))],[AV.i (fPa w.lo w.hi)]]] (AV.i (sFirst [hdI [AV.i (zc120a w)],hdI [AV.i (sWithin w.ar (1:Int) (100:Int))],hdI [AV.i (fPa w.lo
  w.hi)]]))∧AV.i (sFirst [hdI [AV.i (zc120a w)],hdI [AV.i (sWithin w.ar (1:Int) (100:Int))],hdI [AV.i (fPa w.lo w.hi)]])=AV.i (fWn w):=by
   delta zc120a
   refine ⟨(c172 (oL w.o) (Nat.le_of_ble_eq_true rfl)),(c104 [_,_,_,_,_,_,_,_] (by simp)),(c118 _ _ _),(c121 w.lo w.hi),(c104 [_,_,_] (by simp)),?_⟩
   · first | rfl | trivial
 exact c_of Tryz.f120 (fzB (mkB (sp120 w) 120 [] noLa)) (by kernel_rfl) (by kernel_rfl) (by kernel_rfl) (by kernel_rfl) key (by kernel_rfl)
def la119 (l:List Wn):LA:={
 pre:=[.own 5 34 1,.reno 5 1,.keep [1,5,8,9,10] [1],.bound 2],post:=[.reno 5 1,.keep [1,5,8,9,10] [1],.bound 2]
 Gh:=Nat
 st:=fun i=>⟨[(1,.fn (.func 120) [] []),(5,.own 1 (((l.take i).map fWn).map encI).length),(8,.sl 25 (l.map encWn)),(9,.i (l.map encWn).length),(10,.i i)],[(1,.buf 34 1 (((l.take i).map fWn).map encI))],2⟩
 ok:=fun i=>i<=l.length
 ms:=fun i=>l.length-i }
def sp119 (_:List Wn):Nat->List AV->Option AV
 | 120,[.agg c]=>some (.i (fWn (decWn c)))
 | n,x=>spW n x
theorem c119 (l:List Wn) (hl:l.length<=1000):PCall Tryz.prog G0 119 [.sl 25 (l.map encWn),.fn (.func 120) [] []] (.fresh 34 1 ((l.map fWn).map encI)):=by
 have key :
  (∃ (g:Nat),g<=l.length∧AS.mk [(1,AV.fn (Fn.func 120) [] []),(5,AV.own 1 0),(8,AV.sl 25 (List.map encWn l)),(9,AV.i (↑(List.map encWn l).length:Int)),(10,AV.i 0)] [(1,ABlk.buf 34 1 [])] 2=AS.mk [(1,AV.fn
  (Fn.func 120) [] []),(5,AV.own 1 (List.map encI (List.map fWn (List.take g l))).length),(8,AV.sl 25 (List.map encWn l)),(9,AV.i (↑(List.map encWn l).length:Int)),(10,AV.i (g:Int))] [(1,ABlk.buf 34 1 (List.map encI
  (List.map fWn (List.take g l))))] 2)∧∀ (g:Nat),g<=l.length->(decide ((g:Int) < (↑(List.map encWn l).length:Int))=true->(0:Int)<=(g:Int)∧(g:Int) < (↑(List.map encWn l).length:Int)∧AV.agg (nthR (List.map
  encWn l) (g:Int).toNat)=AV.agg (encWn (l.getD (g:Int).toNat default))∧(List.map encI (List.map fWn (List.take g l))).length+1<=9223372036854775807∧((List.map encI (List.map fWn (List.take g l))).length+1) * 8 ≤
  140737488355328∧PCall Tryz.prog G0 120 [AV.agg (encWn (l.getD (g:Int).toNat default))] (AV.i (fWn (decWn (encWn (l.getD (g:Int).toNat default)))))∧In64 ((g:Int)+1)∧∃ (g':Nat),g'<=l.length∧l.length-g' <
  l.length-g∧AS.mk [(1,AV.fn (Fn.func 120) [] []),(5,AV.own 1 ((List.map encI (List.map fWn (List.take g l))).length+1)),(8,AV.sl 25 (List.map encWn l)),(9,AV.i (↑(List.map encWn l).length:Int)),(10,AV.i ((g:Int)
  + 1))] [(1,ABlk.buf 34 1 (List.map encI (List.map fWn (List.take g l))++[[AV.i (fWn (decWn (encWn (l.getD (g:Int).toNat default))))]]))] 2=AS.mk [(1,AV.fn (Fn.func 120) [] []),(5,AV.own 1 (List.map encI (List.map fWn
  (List.take g' l))).length),(8,AV.sl 25 (List.map encWn l)),(9,AV.i (↑(List.map encWn l).length:Int)),(10,AV.i (↑g':Int))] [(1,ABlk.buf 34 1 (List.map encI (List.map fWn (List.take g' l))))] 2)∧(decide ((g:Int) <
  (↑(List.map encWn l).length:Int))=false->AV.fresh 34 1 (List.map encI (List.map fWn (List.take g l)))=AV.fresh 34 1 (List.map encI (List.map fWn l))):=by
   have hlm:(List.map encWn l).length=l.length:=List.length_map _
   have:(List.map encWn l).length=l.length:=by simp only [List.length_map]
   refine ⟨⟨0,by omega,rfl⟩,fun g hg=>⟨fun hd=>?_,fun hd=>?_⟩⟩
   · have hlt:g < l.length:=by have h9:=of_decide_eq_true hd;have h8:=hg;(try simp only [List.length_map] at h8);(try simp only [List.length_map] at h9);omega
     have:(List.map encI (List.map fWn (List.take g l))).length=g:=by simp only [List.length_map,List.length_take];omega
     try rw [show (g:Int).toNat=g from Int.toNat_natCast g]
     refine ⟨(by omega),(by omega),congrArg AV.agg (row_at encWn hlt),(by omega),(by omega),(c120 _),(by unfold In64;omega),⟨g+1,by omega,by omega,?_⟩⟩
     · first | (rw [<- take_succ_map _ _ hlt,List.length_append];rfl) | (rw [<- take_succ _ hlt,List.length_append];rfl)
   · have hge:g=l.length:=by have h9:=of_decide_eq_false hd;have h8:=hg;(try simp only [List.length_map] at h8);(try simp only [List.length_map] at h9);omega
     subst hge
     exact (by rw [List.take_length])
 exact c_of Tryz.f119 (fzB (mkB (sp119 l) 119 [(4,1,rdL 25 encWn l 25 true)] (la0 (la119 l)))) (by kernel_rfl) (by kernel_rfl) (by kernel_rfl) (by kernel_rfl) key (by kernel_rfl)
theorem fHd_m (h:Hm):fHd h=sFirst [sWhen (!sName h.nm) 8,sWithin h.pe 0 1000,sWhen (((List.map encWn h.ws).length:Int) == 0) 12,sWhen (decide (((List.map encWn h.ws).length:Int) > 8)) 5]:=by
 unfold fHd
 rw [List.length_map]
def sp38 (h:Hm):Nat->List AV->Option AV
 | 119,_=>some (.fresh 34 1 ((h.ws.map fWn).map encI))
 | n,x=>spW n x
abbrev zc38b (h:Hm):=(↑(List.map encWn h.ws).length:Int)
abbrev zc38a (h:Hm):=[hdI [AV.i (sWhen (!sName h.nm) (8:Int))],hdI [AV.i (sWithin h.pe (0:Int) (1000:Int))],hdI [AV.i (sWhen ((zc38b h) == 0) (12:Int))],hdI [AV.i (sWhen (decide ((zc38b h) > 8)) (5:Int))]]
theorem c38 (h:Hm) (hn:h.nm.length<=1000000) (hl:h.ws.length<=1000):PCall Tryz.prog G0 38 [.agg (encHm h)] (.i (fHm h)):=by
 have key :
  PCall Tryz.prog G0 117 [AV.str h.nm] (AV.bool (sName h.nm))∧PCall Tryz.prog G0 116 [AV.bool !sName h.nm,AV.i 8] (AV.i (sWhen (!sName h.nm) (8:Int)))∧PCall Tryz.prog G0 118 [AV.i h.pe,AV.i 0,AV.i 1000] (AV.i (sWithin h.pe
  (0:Int) (1000:Int)))∧PCall Tryz.prog G0 116 [AV.bool ((zc38b h) == 0),AV.i 12] (AV.i (sWhen ((zc38b h) == 0) (12:Int)))∧PCall Tryz.prog G0 116 [AV.bool (decide ((zc38b h) > 8)),AV.i 5] (AV.i (sWhen (decide ((zc38b h) >
  8)) (5:Int)))∧PCall Tryz.prog G0 104 [AV.sl 1 [[AV.i (sWhen (!sName h.nm) (8:Int))],[AV.i (sWithin h.pe (0:Int) (1000:Int))],[AV.i (sWhen ((zc38b h) == 0) (12:Int))],[AV.i (sWhen (decide ((zc38b h) > 8)) (5 :
  Int))]]] (AV.i (sFirst (zc38a h)))∧((sFirst (zc38a h) != 0)=true->AV.i (sFirst (zc38a h))=AV.i (fHm h))∧((sFirst (zc38a h) != 0)=false->PCall Tryz.prog G0 119 [AV.sl 25 (List.map encWn h.ws),AV.fn (Fn.func 120) [] []]
  (AV.fresh 34 1 (List.map encI (List.map fWn h.ws)))∧PCall Tryz.prog G0 104 [AV.sl 1 (List.map encI (List.map fWn h.ws))] (AV.i (sFirst (List.map hdI (List.map encI (List.map fWn h.ws)))))∧AV.i (sFirst (List.map hdI (List.map
  encI (List.map fWn h.ws))))=AV.i (fHm h)):=by
   delta zc38a zc38b
   have hlm:(List.map encWn h.ws).length=h.ws.length:=List.length_map _
   have:(List.map encWn h.ws).length=h.ws.length:=by simp only [List.length_map]
   refine ⟨(c117 _ hn),(c116 _ _),(c118 _ _ _),(c116 _ _),(c116 _ _),(c104 [_,_,_,_] (by simp)),fun h1=>?_,fun h1=>⟨(c119 h.ws hl),((by rw [hd_encI];exact c104 _ (by simp;omega))),?_⟩⟩
   · have e:fHm h=fHd h:=ls_first (by rw [fHd_m];exact h1)
     rw [e,fHd_m]
     rfl
   · have h2:(fHd h != 0)=false:=by rw [fHd_m];exact h1
     rw [hd_encI,<- scan_getG]
     exact congrArg AV.i (if_neg (by rw [h2];decide)).symm
 exact c_of Tryz.f38 (fzB (mkB (sp38 h) 38 [] noLa)) (by kernel_rfl) (by kernel_rfl) (by kernel_rfl) (by kernel_rfl) key (by kernel_rfl)
theorem c112 (lo hi:Nat->Int) :PCall Tryz.prog G0 112 [.agg (encPa lo hi)] (.i (fPa lo hi)):=by
 have key :
  (0:Int)<=0∧(0:Int) < (8:Int)∧PCall Tryz.prog G0 115 [AV.agg [AV.i (lo 0),AV.i (hi 0)],AV.i 1000] (AV.i (fEnds (lo 0) (hi 0) (1000:Int)))∧((fEnds (lo 0) (hi 0) (1000:Int) != 0)=true->AV.i (fEnds (lo 0) (hi 0)
  (1000:Int))=AV.i (fPa lo hi))∧((fEnds (lo 0) (hi 0) (1000:Int) != 0)=false->In64 ((0:Int)+1)∧(0:Int)<=0+1∧(0:Int)+1 < (8:Int)∧PCall Tryz.prog G0 115 [AV.agg [AV.i (lo 1),AV.i (hi 1)],AV.i 1000]
  (AV.i (fEnds (lo 1) (hi 1) (1000:Int)))∧((fEnds (lo 1) (hi 1) (1000:Int) != 0)=true->AV.i (fEnds (lo 1) (hi 1) (1000:Int))=AV.i (fPa lo hi))∧((fEnds (lo 1) (hi 1) (1000:Int) != 0)=false->In64 ((0:Int)+1+1)
  ∧ (0:Int)<=0+1+1∧(0:Int)+1+1 < (8:Int)∧PCall Tryz.prog G0 115 [AV.agg [AV.i (lo 2),AV.i (hi 2)],AV.i 1000] (AV.i (fEnds (lo 2) (hi 2) (1000:Int)))∧((fEnds (lo 2) (hi 2) (1000:Int) != 0)=true->AV.i
  (fEnds (lo 2) (hi 2) (1000:Int))=AV.i (fPa lo hi))∧((fEnds (lo 2) (hi 2) (1000:Int) != 0)=false->In64 ((0:Int)+1+1+1)∧(0:Int)<=0+1+1+1∧(0:Int)+1+1+1 < (8:Int)∧PCall Tryz.prog G0 115
  [AV.agg [AV.i (lo 3),AV.i (hi 3)],AV.i 1000] (AV.i (fEnds (lo 3) (hi 3) (1000:Int)))∧((fEnds (lo 3) (hi 3) (1000:Int) != 0)=true->AV.i (fEnds (lo 3) (hi 3) (1000:Int))=AV.i (fPa lo hi))∧((fEnds (lo 3) (hi 3) (1000
  : Int) != 0)=false->In64 ((0:Int)+1+1+1+1)∧(0:Int)<=0+1+1+1+1∧(0:Int)+1+1+1+1 < (8:Int)∧PCall Tryz.prog G0 115 [AV.agg [AV.i (lo 4),AV.i (hi 4)],AV.i 1000] (AV.i (fEnds (lo 4) (hi 4)
  (1000:Int)))∧((fEnds (lo 4) (hi 4) (1000:Int) != 0)=true->AV.i (fEnds (lo 4) (hi 4) (1000:Int))=AV.i (fPa lo hi))∧((fEnds (lo 4) (hi 4) (1000:Int) != 0)=false->In64 ((0:Int)+1+1+1+1+1)∧(0:Int) ≤
  0+1+1+1+1+1∧(0:Int)+1+1+1+1+1 < (8:Int)∧PCall Tryz.prog G0 115 [AV.agg [AV.i (lo 5),AV.i (hi 5)],AV.i 1000] (AV.i (fEnds (lo 5) (hi 5) (1000:Int)))∧((fEnds (lo 5) (hi 5) (1000:Int) != 0)=true
  → AV.i (fEnds (lo 5) (hi 5) (1000:Int))=AV.i (fPa lo hi))∧((fEnds (lo 5) (hi 5) (1000:Int) != 0)=false->In64 ((0:Int)+1+1+1+1+1+1)∧(0:Int)<=0+1+1+1+1+1+1∧(0:Int)+1+1+1+1+1+1
  < (8:Int)∧PCall Tryz.prog G0 115 [AV.agg [AV.i (lo 6),AV.i (hi 6)],AV.i 1000] (AV.i (fEnds (lo 6) (hi 6) (1000:Int)))∧((fEnds (lo 6) (hi 6) (1000:Int) != 0)=true->AV.i (fEnds (lo 6) (hi 6) (1000:Int))=AV.i (fPa
  lo hi))∧((fEnds (lo 6) (hi 6) (1000:Int) != 0)=false->In64 ((0:Int)+1+1+1+1+1+1+1)∧(0:Int)<=0+1+1+1+1+1+1+1∧(0:Int)+1+1+1+1+1+1+1 < (8:Int)∧PCall Tryz.prog G0 115
  [AV.agg [AV.i (lo 7),AV.i (hi 7)],AV.i 1000] (AV.i (fEnds (lo 7) (hi 7) (1000:Int)))∧((fEnds (lo 7) (hi 7) (1000:Int) != 0)=true->AV.i (fEnds (lo 7) (hi 7) (1000:Int))=AV.i (fPa lo hi))∧((fEnds (lo 7) (hi 7) (1000
  : Int) != 0)=false->In64 ((0:Int)+1+1+1+1+1+1+1+1)∧AV.i 0=AV.i (fPa lo hi))))))))):=by
   refine ⟨(by omega),(by omega),(c115 _ _ _),fun h1=>?_,fun h1=>⟨(by unfold In64;omega),(by omega),(by omega),(c115 _ _ _),fun h2=>?_,fun h2=>⟨(by unfold In64;omega),(by omega),(by omega),(c115 _ _ _),fun h3=>?_,fun h3=>⟨(by unfold In64;omega),(by omega),(by omega),(c115 _ _ _),fun h4=>?_,fun h4=>⟨(by unfold In64;omega),(by omega),(by omega),(c115 _ _ _),fun h5=>?_,fun h5=>⟨(by unfold In64;omega),(by omega),(by omega),(c115 _ _ _),fun h6=>?_,fun h6=>⟨(by unfold In64;omega),(by omega),(by omega),(c115 _ _ _),fun h7=>?_,fun h7=>⟨(by unfold In64;omega),(by omega),(by omega),(c115 _ _ _),fun h8=>?_,fun h8=>⟨(by unfold In64;omega),?_⟩⟩⟩⟩⟩⟩⟩⟩⟩
   · simp_all [fPa_u,sFirst]
   · simp_all [fPa_u,sFirst]
   · simp_all [fPa_u,sFirst]
   · simp_all [fPa_u,sFirst]
   · simp_all [fPa_u,sFirst]
   · simp_all [fPa_u,sFirst]
   · simp_all [fPa_u,sFirst]
   · simp_all [fPa_u,sFirst]
   · simp_all [fPa_u,sFirst]
 exact c_of Tryz.f112 ({ fzB (mkB spW 112 [] noLa) with cl:=clL [6] }) (by kernel_rfl) (by kernel_rfl) (by kernel_rfl) (by kernel_rfl) key (by kernel_rfl)
theorem c110 (w:Wn) :PCall Tryz.prog G0 110 [.agg (encWn w)] (.i (fWn w)):=by
 have key :
  (0:Int)<=0∧(0:Int) < (8:Int)∧PCall Tryz.prog G0 81 [AV.i w.o0,AV.i 0,AV.i 100000000] (AV.i (sWithin w.o0 (0:Int) (100000000:Int)))∧((sWithin w.o0 (0:Int) (100000000:Int) != 0)=true->AV.i (sWithin w.o0 (0
  : Int) (100000000:Int))=AV.i (fWn w))∧((sWithin w.o0 (0:Int) (100000000:Int) != 0)=false->In64 ((0:Int)+1)∧(0:Int)<=0+1∧(0:Int)+1 < (8:Int)∧PCall Tryz.prog G0 81 [AV.i w.o1,AV.i 0,AV.i
  100000000] (AV.i (sWithin w.o1 (0:Int) (100000000:Int)))∧((sWithin w.o1 (0:Int) (100000000:Int) != 0)=true->AV.i (sWithin w.o1 (0:Int) (100000000:Int))=AV.i (fWn w))∧((sWithin w.o1 (0:Int) (100000000:Int)
  != 0)=false->In64 ((0:Int)+1+1)∧(0:Int)<=0+1+1∧(0:Int)+1+1 < (8:Int)∧PCall Tryz.prog G0 81 [AV.i w.o2,AV.i 0,AV.i 100000000] (AV.i (sWithin w.o2 (0:Int) (100000000:Int)))∧((sWithin w.o2 (0 :
  Int) (100000000:Int) != 0)=true->AV.i (sWithin w.o2 (0:Int) (100000000:Int))=AV.i (fWn w))∧((sWithin w.o2 (0:Int) (100000000:Int) != 0)=false->In64 ((0:Int)+1+1+1)∧(0:Int)<=0+1+1+1∧(0:Int)
  + 1+1+1 < (8:Int)∧PCall Tryz.prog G0 81 [AV.i w.o3,AV.i 0,AV.i 100000000] (AV.i (sWithin w.o3 (0:Int) (100000000:Int)))∧((sWithin w.o3 (0:Int) (100000000:Int) != 0)=true->AV.i (sWithin w.o3 (0:Int)
  (100000000:Int))=AV.i (fWn w))∧((sWithin w.o3 (0:Int) (100000000:Int) != 0)=false->In64 ((0:Int)+1+1+1+1)∧(0:Int)<=0+1+1+1+1∧(0:Int)+1+1+1+1 < (8:Int)∧PCall Tryz.prog G0 81 [AV.i
  w.o4,AV.i 0,AV.i 100000000] (AV.i (sWithin w.o4 (0:Int) (100000000:Int)))∧((sWithin w.o4 (0:Int) (100000000:Int) != 0)=true->AV.i (sWithin w.o4 (0:Int) (100000000:Int))=AV.i (fWn w))∧((sWithin w.o4 (0:Int)
  (100000000:Int) != 0)=false->In64 ((0:Int)+1+1+1+1+1)∧(0:Int)<=0+1+1+1+1+1∧(0:Int)+1+1+1+1+1 < (8:Int)∧PCall Tryz.prog G0 81 [AV.i w.o5,AV.i 0,AV.i 100000000] (AV.i (sWithin w.o5
  (0:Int) (100000000:Int)))∧((sWithin w.o5 (0:Int) (100000000:Int) != 0)=true->AV.i (sWithin w.o5 (0:Int) (100000000:Int))=AV.i (fWn w))∧((sWithin w.o5 (0:Int) (100000000:Int) != 0)=false->In64 ((0:Int)
  + 1+1+1+1+1+1)∧(0:Int)<=0+1+1+1+1+1+1∧(0:Int)+1+1+1+1+1+1 < (8:Int)∧PCall Tryz.prog G0 81 [AV.i w.o6,AV.i 0,AV.i 100000000] (AV.i (sWithin w.o6 (0:Int) (100000000:Int))) ∧
  ((sWithin w.o6 (0:Int) (100000000:Int) != 0)=true->AV.i (sWithin w.o6 (0:Int) (100000000:Int))=AV.i (fWn w))∧((sWithin w.o6 (0:Int) (100000000:Int) != 0)=false->In64 ((0:Int)+1+1+1+1+1+1+1) ∧
  (0:Int)<=0+1+1+1+1+1+1+1∧(0:Int)+1+1+1+1+1+1+1 < (8:Int)∧PCall Tryz.prog G0 81 [AV.i w.o7,AV.i 0,AV.i 100000000] (AV.i (sWithin w.o7 (0:Int) (100000000:Int)))∧((sWithin w.o7 (0:Int)
  (100000000:Int) != 0)=true->AV.i (sWithin w.o7 (0:Int) (100000000:Int))=AV.i (fWn w))∧((sWithin w.o7 (0:Int) (100000000:Int) != 0)=false->In64 ((0:Int)+1+1+1+1+1+1+1+1)∧PCall Tryz.prog G0 81
  [AV.i w.ar,AV.i 1,AV.i 100] (AV.i (sWithin w.ar (1:Int) (100:Int)))∧PCall Tryz.prog G0 112 [AV.agg [AV.i w.p0,AV.i w.p1,AV.i w.p2,AV.i w.p3,AV.i w.p4,AV.i w.p5,AV.i w.p6,AV.i w.p7,AV.i w.p8,AV.i w.p9,AV.i w.p10,
  AV.i w.p11,AV.i w.p12,AV.i w.p13,AV.i w.p14,AV.i w.p15]] (AV.i (fPa w.lo w.hi))∧PCall Tryz.prog G0 107 [AV.sl 1 [[AV.i (sWithin w.ar (1:Int) (100:Int))],[AV.i (fPa w.lo w.hi)]]] (AV.i (sFirst [hdI [AV.i (sWithin w.ar (1
  : Int) (100:Int))],hdI [AV.i (fPa w.lo w.hi)]]))∧AV.i (sFirst [hdI [AV.i (sWithin w.ar (1:Int) (100:Int))],hdI [AV.i (fPa w.lo w.hi)]])=AV.i (fWn w))))))))):=by
   refine ⟨(by omega),(by omega),(c81 _ _ _),fun h1=>?_,fun h1=>⟨(by unfold In64;omega),(by omega),(by omega),(c81 _ _ _),fun h2=>?_,fun h2=>⟨(by unfold In64;omega),(by omega),(by omega),(c81 _ _ _),fun h3=>?_,fun h3=>⟨(by unfold In64;omega),(by omega),(by omega),(c81 _ _ _),fun h4=>?_,fun h4=>⟨(by unfold In64;omega),(by omega),(by omega),(c81 _ _ _),fun h5=>?_,fun h5=>⟨(by unfold In64;omega),(by omega),(by omega),(c81 _ _ _),fun h6=>?_,fun h6=>⟨(by unfold In64;omega),(by omega),(by omega),(c81 _ _ _),fun h7=>?_,fun h7=>⟨(by unfold In64;omega),(by omega),(by omega),(c81 _ _ _),fun h8=>?_,fun h8=>⟨(by unfold In64;omega),(c81 _ _ _),(c112 w.lo w.hi),(c107 [_,_] (by simp)),?_⟩⟩⟩⟩⟩⟩⟩⟩⟩
   · simp_all [fWn,fOu_u,fO,Wn.o,sFirst]
   · simp_all [fWn,fOu_u,fO,Wn.o,sFirst]
   · simp_all [fWn,fOu_u,fO,Wn.o,sFirst]
   · simp_all [fWn,fOu_u,fO,Wn.o,sFirst]
   · simp_all [fWn,fOu_u,fO,Wn.o,sFirst]
   · simp_all [fWn,fOu_u,fO,Wn.o,sFirst]
   · simp_all [fWn,fOu_u,fO,Wn.o,sFirst]
   · simp_all [fWn,fOu_u,fO,Wn.o,sFirst]
   · have e:fOu w.o=0:=by simp_all [fOu_u,fO,Wn.o,sFirst]
     show AV.i (sFirst [sWithin w.ar 1 100,fPa w.lo w.hi])=_
     rw [fWn,e]
     rfl
 exact c_of Tryz.f110 ({ fzB (mkB (fun n x=>if n.beq 112 then some (.i (fPa w.lo w.hi)) else spW n x) 110 [] noLa) with cl:=clL [6] }) (by kernel_rfl) (by kernel_rfl) (by kernel_rfl) (by kernel_rfl) key (by kernel_rfl)
def la26 (h:Hm):LA:={
 pre:=[.keep [1,4] [],.bound 1],post:=[.keep [1,4] [],.bound 1]
 Gh:=Nat
 st:=fun i=>⟨[(1,.elt 3 [encHm h] 0 0),(4,.i i)],[],1⟩
 ok:=fun i=>i<=h.ws.length∧∀ j,j < i->fWn (h.ws.getD j default)=0
 ms:=fun i=>h.ws.length-i }
def sp26:Nat->List AV->Option AV
 | 110,[.agg c]=>some (.i (fWn (decWn c)))
 | n,x=>spW n x
abbrev zc26b (h:Hm):=(↑(List.map encWn h.ws).length:Int)
abbrev zc26a (h:Hm):=[hdI [AV.i (sWhen (!sName h.nm) (8:Int))],hdI [AV.i (sWithin h.pe (0:Int) (1000:Int))],hdI [AV.i (sWhen ((zc26b h) == 0) (12:Int))],hdI [AV.i (sWhen (decide ((zc26b h) > 8)) (5:Int))]]
abbrev zc26c (h:Hm) (g:Nat):=encWn (h.ws.getD (g:Int).toNat default)
theorem c26 (h:Hm) (hn:h.nm.length<=1000000) (hl:h.ws.length<=1000):PCall Tryz.prog G0 26 [.agg (encHm h)] (.i (fHm h)):=by
 have key :
  PCall Tryz.prog G0 108 [AV.str h.nm] (AV.i (sWhen (!sName h.nm) (8:Int)))∧PCall Tryz.prog G0 81 [AV.i h.pe,AV.i 0,AV.i 1000] (AV.i (sWithin h.pe (0:Int) (1000:Int)))∧PCall Tryz.prog G0 109 [AV.bool ((zc26b h) == 0),
  AV.i 12] (AV.i (sWhen ((zc26b h) == 0) (12:Int)))∧PCall Tryz.prog G0 109 [AV.bool (decide ((zc26b h) > 8)),AV.i 5] (AV.i (sWhen (decide ((zc26b h) > 8)) (5:Int)))∧PCall Tryz.prog G0 107 [AV.sl 1 [[AV.i (sWhen (!sName h.nm)
  (8:Int))],[AV.i (sWithin h.pe (0:Int) (1000:Int))],[AV.i (sWhen ((zc26b h) == 0) (12:Int))],[AV.i (sWhen (decide ((zc26b h) > 8)) (5:Int))]]] (AV.i (sFirst (zc26a h)))∧((sFirst (zc26a h) != 0)=true->AV.i (sFirst
  (zc26a h))=AV.i (fHm h))∧((sFirst (zc26a h) != 0)=false->(∃ (g:Nat),(g<=h.ws.length∧∀ (j:Nat),j < g->fWn (h.ws.getD j default)=(0:Int))∧AS.mk [(1,AV.elt 3 [(encHm h)] 0 0),(4,AV.i 0)] [] 1=AS.mk [(1,
  AV.elt 3 [(encHm h)] 0 0),(4,AV.i (g:Int))] [] 1)∧∀ (g:Nat),(g<=h.ws.length∧∀ (j:Nat),j < g->fWn (h.ws.getD j default)=(0:Int))->(decide ((g:Int) < (zc26b h))=true->(0:Int)<=(g:Int)∧(g:Int) <
  (zc26b h)∧AV.agg (nthR (List.map encWn h.ws) (g:Int).toNat)=AV.agg (zc26c h g)∧PCall Tryz.prog G0 110 [AV.agg (zc26c h g)] (AV.i (fWn (decWn (zc26c h g))))∧((fWn (decWn (zc26c h g)) != 0)=true->AV.i (fWn (decWn (zc26c
  h g)))=AV.i (fHm h))∧((fWn (decWn (zc26c h g)) != 0)=false->In64 ((g:Int)+1)∧∃ (g':Nat),(g'<=h.ws.length∧∀ (j:Nat),j < g'->fWn (h.ws.getD j default)=(0:Int))∧h.ws.length-g' < h.ws.length-g∧AS.mk
  [(1,AV.elt 3 [(encHm h)] 0 0),(4,AV.i ((g:Int)+1))] [] 1=AS.mk [(1,AV.elt 3 [(encHm h)] 0 0),(4,AV.i (↑g':Int))] [] 1))∧(decide ((g:Int) < (zc26b h))=false->AV.i 0=AV.i (fHm h))):=by
   delta zc26a zc26b zc26c
   have hlm:(List.map encWn h.ws).length=h.ws.length:=List.length_map _
   have:(List.map encWn h.ws).length=h.ws.length:=by simp only [List.length_map]
   refine ⟨(c108 _ hn),(c81 _ _ _),(c109 _ _),(c109 _ _),(c107 [_,_,_,_] (by simp)),fun h1=>?_,fun h1=>?_⟩
   · have e:fHm h=fHd h:=ls_first (by rw [fHd_m];exact h1)
     rw [e,fHd_m]
     rfl
   · have hz:(fHd h != 0)=false:=by rw [fHd_m];exact h1
     refine ⟨⟨0,⟨by omega,by intros;omega⟩,rfl⟩,fun g ⟨hg,ha⟩=>⟨fun hd=>?_,fun hd=>?_⟩⟩
     · have hlt:g < h.ws.length:=by have h9:=of_decide_eq_true hd;have h8:=hg;(try simp only [List.length_map] at h8);(try simp only [List.length_map] at h9);omega
       try rw [show (g:Int).toNat=g from Int.toNat_natCast g]
       refine ⟨(by omega),(by omega),congrArg AV.agg (row_at encWn hlt),(c110 _),fun h2=>?_,fun h2=>⟨(by unfold In64;omega),⟨g+1,⟨by omega,all_ext ha (bne_f h2)⟩,by omega,rfl⟩⟩⟩
       · exact congrArg AV.i (ls_hit (f:=fun i=>fWn (h.ws.getD i default)) hz (decide_eq_true (by omega)) ha h2).symm
     · have hge:g=h.ws.length:=by have h9:=of_decide_eq_false hd;have h8:=hg;(try simp only [List.length_map] at h8);(try simp only [List.length_map] at h9);omega
       subst hge
       exact congrArg AV.i (ls_end (f:=fun i=>fWn (h.ws.getD i default)) hz (decide_eq_false (Int.lt_irrefl _)) (Nat.le_refl _) ha).symm
 exact c_of Tryz.f26 (fzB (mkB sp26 26 [(7,4,rdL 25 encWn h.ws 25 true)] (la0 (la26 h)))) (by kernel_rfl) (by kernel_rfl) (by kernel_rfl) (by kernel_rfl) key (by kernel_rfl)
end Go.Proofs.YtfoeefaamjknpaaGreatDoor
namespace Go.Proofs.YtfoeefaamjknpaaGreatDoor
open Go Go.Av Go.RowKit
theorem c216 (b:Bool) (e:Int) :PCall Tryz.prog G0 216 [.bool b,.i e] (.i (sWhen b e)):=by
 have key :
  (b=true->AV.i e=AV.i (sWhen b e))∧(b=false->AV.i 0=AV.i (sWhen b e)):=by
   exact ⟨fun h=>by simp [sWhen,h],fun h=>by simp [sWhen,h]⟩
 exact c_of Tryz.f216 (mkB spW 216 [] noLa) (by kernel_rfl) (by kernel_rfl) (by kernel_rfl) (by kernel_rfl) key (by kernel_rfl)
theorem c205 (x lo hi:Int) :PCall Tryz.prog G0 205 [.i x,.i lo,.i hi] (.i (sWithin x lo hi)):=by
 have key :
  ((!decide (x < lo))=true->(!decide (x < lo))=true)∧((!decide (x < lo))=true->(!decide (x < lo))=true)∧(decide (x < lo)=false->(!decide (x < lo))=true)∧PCall Tryz.prog G0 216 [AV.bool (if decide (x < lo)=true
  then true else decide (x > hi)),AV.i 3] (AV.i (sWhen (if decide (x < lo)=true then true else decide (x > hi)) (3:Int)))∧AV.i (sWhen (if decide (x < lo)=true then true else decide (x > hi)) (3:Int))=AV.i (sWithin x lo
  hi):=by
   exact ⟨fun h=>h,fun h=>h,fun h=>by simp [h],c216 _ _,rfl⟩
 exact c_of Tryz.f205 (mkB spW 205 [] noLa) (by kernel_rfl) (by kernel_rfl) (by kernel_rfl) (by kernel_rfl) key (by kernel_rfl)
theorem c190 (x:Int) :PCall Tryz.prog G0 190 [.i x] (.i (fEn x)):=by
 have key :
  PCall Tryz.prog G0 205 [AV.i x,AV.i 0,AV.i 10000000000000] (AV.i (sWithin x (0:Int) (10000000000000:Int)))∧AV.i (sWithin x (0:Int) (10000000000000:Int))=AV.i (fEn x):=by
   refine ⟨(c205 _ _ _),?_⟩
   · first | rfl | trivial
 exact c_of Tryz.f190 (mkB spW 190 [] noLa) (by kernel_rfl) (by kernel_rfl) (by kernel_rfl) (by kernel_rfl) key (by kernel_rfl)
theorem c33 (x:Int) :PCall Tryz.prog G0 33 [.i x] (.i (fEn x)):=by
 have key :
  PCall Tryz.prog G0 81 [AV.i x,AV.i 0,AV.i 10000000000000] (AV.i (sWithin x (0:Int) (10000000000000:Int)))∧AV.i (sWithin x (0:Int) (10000000000000:Int))=AV.i (fEn x):=by
   refine ⟨(c81 _ _ _),?_⟩
   · first | rfl | trivial
 exact c_of Tryz.f33 (mkB spW 33 [] noLa) (by kernel_rfl) (by kernel_rfl) (by kernel_rfl) (by kernel_rfl) key (by kernel_rfl)
theorem c105 (x:Int) :PCall Tryz.prog G0 105 [.i x] (.i (fEn x)):=by
 have key :
  PCall Tryz.prog G0 118 [AV.i x,AV.i 0,AV.i 10000000000000] (AV.i (sWithin x (0:Int) (10000000000000:Int)))∧AV.i (sWithin x (0:Int) (10000000000000:Int))=AV.i (fEn x):=by
   refine ⟨(c118 _ _ _),?_⟩
   · first | rfl | trivial
 exact c_of Tryz.f105 (mkB spW 105 [] noLa) (by kernel_rfl) (by kernel_rfl) (by kernel_rfl) (by kernel_rfl) key (by kernel_rfl)
def bsK (k:Nat):Int:=baseL.getD (k % 10) 0
theorem bs_at {k:Nat}:nth (nthR [[AV.i 10],[.i 13],[.i 16],[.i 20],[.i 25],[.i 32],[.i 40],[.i 50],[.i 63],[.i 79]] ((k:Int).tmod 10).toNat) 0=.i (bsK k):=by
 have h:∀ j,j < 10->nth (nthR [[AV.i 10],[.i 13],[.i 16],[.i 20],[.i 25],[.i 32],[.i 40],[.i 50],[.i 63],[.i 79]] j) 0=.i (baseL.getD j 0):=fun j hj=>by
  match j,hj with
  | 0,_=>rfl
  | 1,_=>rfl
  | 2,_=>rfl
  | 3,_=>rfl
  | 4,_=>rfl
  | 5,_=>rfl
  | 6,_=>rfl
  | 7,_=>rfl
  | 8,_=>rfl
  | 9,_=>rfl
 have e:((k:Int).tmod 10).toNat=k % 10:=rfl
 rw [e]
 exact h _ (Nat.mod_lt _ (by decide))
theorem tm_bd (k:Nat):0<=(k:Int).tmod 10∧(k:Int).tmod 10 < 10:=by
 have e:(k:Int).tmod 10=((k % 10:Nat):Int):=rfl
 rw [e]
 omega
theorem td_e (k:Nat):(k:Int).tdiv 10=((k / 10:Nat):Int):=rfl
theorem pb_bd {k i:Nat} (hk:k < 121) (hi:i<=k / 10):0<=p10 i * bsK k∧p10 i * bsK k<=79000000000000:=by
 have h1:=p10_bd i (by omega)
 have h2:10<=bsK k∧bsK k<=79:=base_bd _ (Nat.mod_lt _ (by decide))
 have h3:=mul_bd (show 0<=p10 i by omega) h1.2 (show 0<=bsK k by omega) h2.2
 omega
def la206 (k:Nat):LA:={
 pre:=[.keep [3,9,10] [],.bound 1],post:=[.keep [3,9,10] [],.bound 1]
 Gh:=Nat
 st:=fun i=>⟨[(3,.i (p10 i * bsK k)),(9,.i (k / 10:Nat)),(10,.i i)],[],1⟩
 ok:=fun i=>i<=k / 10
 ms:=fun i=>k / 10-i }
def rdK10 (k:Nat):List AV->Option AV:=fun _=>some (.i (bsK k))
def litI (n:Int):List AV->Option AV:=fun _=>some (.i n)
theorem c206 (k:Nat) (hk:k < 121):PCall Tryz.prog G0 206 [.i k] (.i (thr k)):=by
 have key :
  ¬(10:Int)=(0:Int)∧(0:Int)<=(k:Int).tmod (10:Int)∧(k:Int).tmod (10:Int) < (10:Int)∧nth (nthR [[AV.i 10],[AV.i 13],[AV.i 16],[AV.i 20],[AV.i 25],[AV.i 32],[AV.i 40],[AV.i 50],[AV.i 63],[AV.i 79]]
  ((k:Int).tmod (10:Int)).toNat) 0=AV.i (bsK k)∧¬(10:Int)=(0:Int)∧In64 ((k:Int).tdiv 10)∧AV.i ((k:Int).tdiv 10)=AV.i (↑(k / 10):Int)∧(∃ (g:Nat),g<=k / 10∧AS.mk [(3,AV.i (bsK k)),(9,AV.i (↑(k /
  10):Int)),(10,AV.i 0)] [] 1=AS.mk [(3,AV.i (p10 g * bsK k)),(9,AV.i (↑(k / 10):Int)),(10,AV.i (g:Int))] [] 1)∧∀ (g:Nat),g<=k / 10->(decide ((g:Int) < (↑(k / 10):Int))=true->In64 (p10 g * bsK k * 10) ∧
  In64 ((g:Int)+1)∧∃ (g':Nat),g'<=k / 10∧k / 10-g' < k / 10-g∧AS.mk [(3,AV.i (p10 g * bsK k * 10)),(9,AV.i (↑(k / 10):Int)),(10,AV.i ((g:Int)+1))] [] 1=AS.mk [(3,AV.i (p10 g' * bsK k)),(9,AV.i (↑(k
  / 10):Int)),(10,AV.i (↑g':Int))] [] 1)∧(decide ((g:Int) < (↑(k / 10):Int))=false->AV.i (p10 g * bsK k)=AV.i (thr k)):=by
   have ht:=tm_bd k
   have hte:=td_e k
   refine ⟨by decide,ht.1,ht.2,bs_at,by decide,by rw [hte];unfold In64;omega,congrArg AV.i hte,⟨0,Nat.zero_le _,by rw [show p10 0 * bsK k=bsK k from Int.one_mul _];rfl⟩,fun g hg=>⟨fun hd=>?_,fun hd=>?_⟩⟩
   · have hlt:g < k / 10:=by have:=of_decide_eq_true hd;omega
     have hb:=pb_bd hk hg
     refine ⟨by unfold In64;omega,by unfold In64;omega,g+1,by omega,by omega,?_⟩
     rw [show p10 (g+1) * bsK k=p10 g * bsK k * 10 by rw [p10,Int.mul_assoc,Int.mul_comm 10]]
     rfl
   · have hge:g=k / 10:=by have:=of_decide_eq_false hd;omega
     subst hge
     rfl
 exact c_of Tryz.f206 (mkB spW 206 [(1,3,rdK10 k),(2,1,litI (k / 10:Nat))] (la0 (la206 k))) (by kernel_rfl) (by kernel_rfl) (by kernel_rfl) (by kernel_rfl) key (by kernel_rfl)
def la191 (e:Int):LA:={
 pre:=[.keep [0,3] [],.bound 1],post:=[.keep [0,3] [],.bound 1]
 Gh:=Nat
 st:=fun i=>⟨[(0,.i e),(3,.i ((i:Int)-1))],[],1⟩
 ok:=fun i=>i<=121∧∀ j,j < i->thr j<=e
 ms:=fun i=>121-i }
def spL:Nat->List AV->Option AV
 | 206,[.int _ x]=>some (.i (thr x.toNat))
 | 161,[.int _ x]=>some (.i (thr x.toNat))
 | n,x=>spW n x
theorem c191 (e:Int) :PCall Tryz.prog G0 191 [.i e] (.i (lvl e)):=by
 have key :
  (∃ (g:Nat),(g<=121∧∀ (j:Nat),j < g->thr j<=e)∧AS.mk [(0,AV.i e),(3,AV.i (-1))] [] 1=AS.mk [(0,AV.i e),(3,AV.i ((g:Int)-1))] [] 1)∧∀ (g:Nat),(g<=121∧∀ (j:Nat),j < g->thr j<=e)->(decide ((↑g :
  Int)-1 < 120)=true->decide ((g:Int)-1 < 120)=true)∧(decide ((g:Int)-1 < 120)=true->In64 ((g:Int)-1+1))∧(decide ((g:Int)-1 < 120)=true->decide ((g:Int)-1 < 120)=true)∧(decide ((↑g :
  Int)-1 < 120)=true->decide ((g:Int)-1 < 120)=true)∧(decide ((g:Int)-1 < 120)=true->decide ((g:Int)-1 < 120)=true)∧(decide ((g:Int)-1 < 120)=true->decide ((g:Int)-1 < 120)=true)∧impB
  (decide ((g:Int)-1 < 120)) (PCall Tryz.prog G0 206 [AV.i ((g:Int)-1+1)] (AV.i (thr ((g:Int)-1+1).toNat)))∧((if decide ((g:Int)-1 < 120)=true then decide (thr ((g:Int)-1+1).toNat<=e) else false) =
  true->In64 ((g:Int)-1+1)∧∃ (g':Nat),(g'<=121∧∀ (j:Nat),j < g'->thr j<=e)∧121-g' < 121-g∧AS.mk [(0,AV.i e),(3,AV.i ((g:Int)-1+1))] [] 1=AS.mk [(0,AV.i e),(3,AV.i ((↑g':Int)-1))] [] 1)
  ∧ ((if decide ((g:Int)-1 < 120)=true then decide (thr ((g:Int)-1+1).toNat<=e) else false)=false->AV.i ((g:Int)-1)=AV.i (lvl e)):=by
   refine ⟨⟨0,⟨by omega,by intros;omega⟩,rfl⟩,fun g ⟨hg,ha⟩=>⟨fun h=>h,fun _=>by unfold In64;omega,fun h=>h,fun h=>h,fun h=>h,fun h=>h,impB_iff.2 fun hb=>?_,fun h1=>?_,fun h1=>?_⟩⟩
   · have:=of_decide_eq_true hb
     rw [show ((g:Int)-1+1)=(g:Int) by omega,Int.toNat_natCast]
     exact c206 g (by omega)
   · have h2:(g:Int)-1 < 120:=by
      refine Classical.byContradiction fun h=>?_
      rw [if_neg (by rw [decide_eq_true_eq];exact h)] at h1
      cases h1
     rw [if_pos (decide_eq_true h2),show ((g:Int)-1+1).toNat=g by omega] at h1
     have h3:=of_decide_eq_true h1
     refine ⟨by unfold In64;omega,g+1,⟨by omega,all_ext ha h3⟩,by omega,?_⟩
     rw [show (((g+1:Nat):Int)-1)=(g:Int)-1+1 by omega]
   · refine congrArg AV.i (lvl_stop ha hg ?_).symm
     by_cases h2:(g:Int)-1 < 120
     · rw [if_pos (decide_eq_true h2),show ((g:Int)-1+1).toNat=g by omega] at h1
       have:=of_decide_eq_false h1
       exact .inr (by omega)
     · exact .inl (by omega)
 exact c_of Tryz.f191 (mkB spL 191 [] (la0 (la191 e))) (by kernel_rfl) (by kernel_rfl) (by kernel_rfl) (by kernel_rfl) key (by kernel_rfl)
def sp168 (e:Int):Nat->List AV->Option AV
 | 190,_=>some (.i (fEn e))
 | 191,_=>some (.i (lvl e))
 | n,x=>spL n x
theorem c168 (e:Int) (he:fEn e=0):PCall Tryz.prog G0 168 [.i e] (.tup [.i (lvl e),.i 0]):=by
 have key :
  PCall Tryz.prog G0 190 [AV.i e] (AV.i (fEn e))∧((fEn e != 0)=true->AV.tup [AV.i 0,AV.i (fEn e)]=AV.tup [AV.i (lvl e),AV.i 0])∧((fEn e != 0)=false->PCall Tryz.prog G0 191 [AV.i e] (AV.i (lvl e))∧AV.tup [AV.i (lvl e),
  AV.i 0]=AV.tup [AV.i (lvl e),AV.i 0]):=by
   refine ⟨(c190 e),fun h1=>?_,fun h1=>⟨(c191 e),rfl⟩⟩
   · exact absurd he (bne_t h1)
 exact c_of Tryz.f168 (mkB (sp168 e) 168 [] noLa) (by kernel_rfl) (by kernel_rfl) (by kernel_rfl) (by kernel_rfl) key (by kernel_rfl)
theorem c101 (e:Int) (he:fEn e=0):PCall Tryz.prog G0 101 [.i e] (.i (lvl e)):=by
 have key :
  PCall Tryz.prog G0 168 [AV.i e] (AV.tup [AV.i (lvl e),AV.i 0])∧AV.i (lvl e)=AV.i (lvl e):=by
   exact ⟨(c168 e he),rfl⟩
 exact c_of Tryz.f101 (mkB (fun n x=>if n.beq 168 then some (.tup [.i (lvl e),.i 0]) else spL n x) 101 [] noLa) (by kernel_rfl) (by kernel_rfl) (by kernel_rfl) (by kernel_rfl) key (by kernel_rfl)
end Go.Proofs.YtfoeefaamjknpaaGreatDoor
namespace Go.Proofs.YtfoeefaamjknpaaGreatDoor
open Go Go.Av Go.RowKit
def WsOK (l:List Wn):Prop:=∀ i,i < l.length->WnOK (l.getD i default)
abbrev zc167a (w:Wn):=w.o 0 == 0 && true && (w.o 1 == 0 && true && (w.o 2 == 0 && true && (w.o 3 == 0 && true && (w.o 4 == 0 && true && (w.o 5 == 0 && true && (w.o 6 == 0 && true && (w.o 7 == 0 && true && true)))))))
theorem c167 (w:Wn) (hw:WnOK w):PCall Tryz.prog G0 167 [.agg (encOu w.o)] (.i (fT w)):=by
 have key :
  ((zc167a w)=true->AV.i 0=AV.i (fT w))∧((zc167a w)=false->(0:Int)<=0∧(0:Int) < (8:Int)∧In64 ((0:Int)+w.o 0)∧In64 ((0:Int)+1)∧(0:Int)<=0+1∧(0:Int)+1 < (8:Int)∧In64 ((0:Int)+w.o 0
  + w.o 1)∧In64 ((0:Int)+1+1)∧(0:Int)<=0+1+1∧(0:Int)+1+1 < (8:Int)∧In64 ((0:Int)+w.o 0+w.o 1+w.o 2)∧In64 ((0:Int)+1+1+1)∧(0:Int)<=0+1+1+1∧(0:Int)+1+1+1 < (8:Int)
  ∧ In64 ((0:Int)+w.o 0+w.o 1+w.o 2+w.o 3)∧In64 ((0:Int)+1+1+1+1)∧(0:Int)<=0+1+1+1+1∧(0:Int)+1+1+1+1 < (8:Int)∧In64 ((0:Int)+w.o 0+w.o 1+w.o 2+w.o 3+w.o 4)∧In64 ((0 :
  Int)+1+1+1+1+1)∧(0:Int)<=0+1+1+1+1+1∧(0:Int)+1+1+1+1+1 < (8:Int)∧In64 ((0:Int)+w.o 0+w.o 1+w.o 2+w.o 3+w.o 4+w.o 5)∧In64 ((0:Int)+1+1+1+1+1+1)∧(0:Int) ≤
  0+1+1+1+1+1+1∧(0:Int)+1+1+1+1+1+1 < (8:Int)∧In64 ((0:Int)+w.o 0+w.o 1+w.o 2+w.o 3+w.o 4+w.o 5+w.o 6)∧In64 ((0:Int)+1+1+1+1+1+1+1)∧(0:Int)<=0+1+1+1+1 +
  1+1+1∧(0:Int)+1+1+1+1+1+1+1 < (8:Int)∧In64 ((0:Int)+w.o 0+w.o 1+w.o 2+w.o 3+w.o 4+w.o 5+w.o 6+w.o 7)∧In64 ((0:Int)+1+1+1+1+1+1+1+1)∧AV.i ((0:Int)+w.o 0+w.o 1
  + w.o 2+w.o 3+w.o 4+w.o 5+w.o 6+w.o 7)=AV.i (fT w)):=by
   delta zc167a
   have b0:=hw.o0 0 (by decide)
   have b1:=hw.o0 1 (by decide)
   have b2:=hw.o0 2 (by decide)
   have b3:=hw.o0 3 (by decide)
   have b4:=hw.o0 4 (by decide)
   have b5:=hw.o0 5 (by decide)
   have b6:=hw.o0 6 (by decide)
   have b7:=hw.o0 7 (by decide)
   refine ⟨fun h1=>?_,fun h1=>⟨(by omega),(by omega),(by unfold In64;omega),(by unfold In64;omega),(by omega),(by omega),(by unfold In64;omega),(by unfold In64;omega),(by omega),(by omega),(by unfold In64;omega),(by unfold In64;omega),(by omega),(by omega),(by unfold In64;omega),(by unfold In64;omega),(by omega),(by omega),(by unfold In64;omega),(by unfold In64;omega),(by omega),(by omega),(by unfold In64;omega),(by unfold In64;omega),(by omega),(by omega),(by unfold In64;omega),(by unfold In64;omega),(by omega),(by omega),(by unfold In64;omega),(by unfold In64;omega),?_⟩⟩
   · have h2:w.o 0=0∧w.o 1=0∧w.o 2=0∧w.o 3=0∧w.o 4=0∧w.o 5=0∧w.o 6=0∧w.o 7=0:=by simpa using h1
     unfold fT
     simp [sumO,h2]
   · first | rfl | trivial
 exact c_of Tryz.f167 ({ mkB spW 167 [] noLa with cl:=clL [9] }) (by kernel_rfl) (by kernel_rfl) (by kernel_rfl) (by kernel_rfl) key (by kernel_rfl)
def sp166 (w:Wn):Nat->List AV->Option AV
 | 167,_=>some (.i (fT w))
 | n,x=>spW n x
theorem c166 (w:Wn) (hw:WnOK w):PCall Tryz.prog G0 166 [.agg (encWn w)] (.i (fT w)):=by
 have key :
  PCall Tryz.prog G0 167 [AV.agg [AV.i w.o0,AV.i w.o1,AV.i w.o2,AV.i w.o3,AV.i w.o4,AV.i w.o5,AV.i w.o6,AV.i w.o7]] (AV.i (fT w))∧AV.i (fT w)=AV.i (fT w):=by
   exact ⟨(c167 w hw),rfl⟩
 exact c_of Tryz.f166 (fzB (mkB (sp166 w) 166 [] noLa)) (by kernel_rfl) (by kernel_rfl) (by kernel_rfl) (by kernel_rfl) key (by kernel_rfl)
def la165 (l:List Wn):LA:={
 pre:=[.own 5 3 1,.reno 5 1,.keep [1,5,8,9,10] [1],.bound 2],post:=[.reno 5 1,.keep [1,5,8,9,10] [1],.bound 2]
 Gh:=Nat
 st:=fun i=>⟨[(1,.fn (.func 166) [] []),(5,.own 1 (((l.take i).map fT).map encI).length),(8,.sl 25 (l.map encWn)),(9,.i (l.map encWn).length),(10,.i i)],[(1,.buf 3 1 (((l.take i).map fT).map encI))],2⟩
 ok:=fun i=>i<=l.length
 ms:=fun i=>l.length-i }
def sp165:Nat->List AV->Option AV
 | 166,[.agg c]=>some (.i (fT (decWn c)))
 | n,x=>spW n x
theorem c165 (l:List Wn) (hl:l.length<=1000) (hw:WsOK l):PCall Tryz.prog G0 165 [.sl 25 (l.map encWn),.fn (.func 166) [] []] (.fresh 3 1 ((l.map fT).map encI)):=by
 have key :
  (∃ (g:Nat),g<=l.length∧AS.mk [(1,AV.fn (Fn.func 166) [] []),(5,AV.own 1 0),(8,AV.sl 25 (List.map encWn l)),(9,AV.i (↑(List.map encWn l).length:Int)),(10,AV.i 0)] [(1,ABlk.buf 3 1 [])] 2=AS.mk [(1,AV.fn (Fn.func
  166) [] []),(5,AV.own 1 (List.map encI (List.map fT (List.take g l))).length),(8,AV.sl 25 (List.map encWn l)),(9,AV.i (↑(List.map encWn l).length:Int)),(10,AV.i (g:Int))] [(1,ABlk.buf 3 1 (List.map encI (List.map fT
  (List.take g l))))] 2)∧∀ (g:Nat),g<=l.length->(decide ((g:Int) < (↑(List.map encWn l).length:Int))=true->(0:Int)<=(g:Int)∧(g:Int) < (↑(List.map encWn l).length:Int)∧AV.agg (nthR (List.map encWn l) (↑g
  : Int).toNat)=AV.agg (encWn (l.getD (g:Int).toNat default))∧(List.map encI (List.map fT (List.take g l))).length+1<=9223372036854775807∧((List.map encI (List.map fT (List.take g l))).length+1) * 8<=140737488355328 ∧
  PCall Tryz.prog G0 166 [AV.agg (encWn (l.getD (g:Int).toNat default))] (AV.i (fT (decWn (encWn (l.getD (g:Int).toNat default)))))∧In64 ((g:Int)+1)∧∃ (g':Nat),g'<=l.length∧l.length-g' < l.length-g∧AS.mk
  [(1,AV.fn (Fn.func 166) [] []),(5,AV.own 1 ((List.map encI (List.map fT (List.take g l))).length+1)),(8,AV.sl 25 (List.map encWn l)),(9,AV.i (↑(List.map encWn l).length:Int)),(10,AV.i ((g:Int)+1))] [(1,ABlk.buf 3
  1 (List.map encI (List.map fT (List.take g l))++[[AV.i (fT (decWn (encWn (l.getD (g:Int).toNat default))))]]))] 2=AS.mk [(1,AV.fn (Fn.func 166) [] []),(5,AV.own 1 (List.map encI (List.map fT (List.take g' l))).length),
  (8,AV.sl 25 (List.map encWn l)),(9,AV.i (↑(List.map encWn l).length:Int)),(10,AV.i (↑g':Int))] [(1,ABlk.buf 3 1 (List.map encI (List.map fT (List.take g' l))))] 2)∧(decide ((g:Int) < (↑(List.map encWn l).length :
  Int))=false->AV.fresh 3 1 (List.map encI (List.map fT (List.take g l)))=AV.fresh 3 1 (List.map encI (List.map fT l))):=by
   have hlm:(List.map encWn l).length=l.length:=List.length_map _
   have:(List.map encWn l).length=l.length:=by simp only [List.length_map]
   refine ⟨⟨0,by omega,rfl⟩,fun g hg=>⟨fun hd=>?_,fun hd=>?_⟩⟩
   · have hlt:g < l.length:=by have h9:=of_decide_eq_true hd;have h8:=hg;(try simp only [List.length_map] at h8);(try simp only [List.length_map] at h9);omega
     have:(List.map encI (List.map fT (List.take g l))).length=g:=by simp only [List.length_map,List.length_take];omega
     try rw [show (g:Int).toNat=g from Int.toNat_natCast g]
     refine ⟨(by omega),(by omega),congrArg AV.agg (row_at encWn hlt),(by omega),(by omega),(c166 _ (hw _ hlt)),(by unfold In64;omega),⟨g+1,by omega,by omega,?_⟩⟩
     · first | (rw [<- take_succ_map _ _ hlt,List.length_append];rfl) | (rw [<- take_succ _ hlt,List.length_append];rfl)
   · have hge:g=l.length:=by have h9:=of_decide_eq_false hd;have h8:=hg;(try simp only [List.length_map] at h8);(try simp only [List.length_map] at h9);omega
     subst hge
     exact (by rw [List.take_length])
 exact c_of Tryz.f165 (fzB (mkB sp165 165 [(4,1,rdL 25 encWn l 25 true)] (la0 (la165 l)))) (by kernel_rfl) (by kernel_rfl) (by kernel_rfl) (by kernel_rfl) key (by kernel_rfl)
def la164 (l:List Int):LA:={
 pre:=[.keep [0,3,4] [],.bound 1],post:=[.keep [0,3,4] [],.bound 1]
 Gh:=Nat
 st:=fun i=>⟨[(0,.sl 1 (l.map encI)),(3,.i (mxN l i)),(4,.i ((i:Nat)+1:Int))],[],1⟩
 ok:=fun i=>i < l.length
 ms:=fun i=>l.length-i }
theorem c164 (l:List Int) (hl:l.length<=1000) (h1l:1<=l.length):PCall Tryz.prog G0 164 [.sl 1 (l.map encI)] (.i (mxN l (l.length-1))):=by
 have key :
  AV.bool (decide ((↑(List.map encI l).length:Int) < 1))=AV.bool false∧(0:Int)<=0∧(0:Int) < (↑(List.map encI l).length:Int)∧nth (nthR (List.map encI l) 0) 0=AV.i (l.getD 0 default)∧(∃ (g:Nat),g < l.length ∧
  AS.mk [(0,AV.sl 1 (List.map encI l)),(3,AV.i (l.getD 0 default)),(4,AV.i 1)] [] 1=AS.mk [(0,AV.sl 1 (List.map encI l)),(3,AV.i (mxN l g)),(4,AV.i ((g:Int)+1))] [] 1)∧∀ (g:Nat),g < l.length->(decide ((↑g :
  Int)+1 < (↑(List.map encI l).length:Int))=true->(0:Int)<=(g:Int)+1∧(g:Int)+1 < (↑(List.map encI l).length:Int)∧nth (nthR (List.map encI l) ((g:Int)+1).toNat) 0=AV.i (l.getD ((g:Int)+1).toNat
  default)∧In64 ((g:Int)+1+1)∧∃ (g':Nat),g' < l.length∧l.length-g' < l.length-g∧AS.mk [(0,AV.sl 1 (List.map encI l)),(3,AV.i (maxI (mxN l g) (l.getD ((g:Int)+1).toNat default))),(4,AV.i ((g:Int)+1
  + 1))] [] 1=AS.mk [(0,AV.sl 1 (List.map encI l)),(3,AV.i (mxN l g')),(4,AV.i ((↑g':Int)+1))] [] 1)∧(decide ((g:Int)+1 < (↑(List.map encI l).length:Int))=false->AV.i (mxN l g)=AV.i (mxN l (l.length-1))) :=
  by
   have hlm:(List.map encI l).length=l.length:=List.length_map _
   refine ⟨congrArg AV.bool (decide_eq_false (by omega)),by omega,by omega,congrArg (fun r=>nth r 0) (row_at encI (by omega)),⟨0,by omega,rfl⟩,fun g hg=>⟨fun hd=>?_,fun hd=>?_⟩⟩
   · have hlt:=of_decide_eq_true hd
     rw [show ((g:Int)+1).toNat=g+1 by omega]
     exact ⟨by omega,by omega,congrArg (fun r=>nth r 0) (row_at encI (by omega)),by unfold In64;omega,g+1,by omega,by omega,rfl⟩
   · have hge:=of_decide_eq_false hd
     rw [show l.length-1=g by omega]
 exact c_of Tryz.f164 ({ mkB spW 164 [(1,2,rdF),(3,2,rdL 1 encI l 1 false),(7,4,rdL 1 encI l 1 false)] (la0 (la164 l)) with cl:=clL [7] }) (by kernel_rfl) (by kernel_rfl) (by kernel_rfl) (by kernel_rfl) key (by kernel_rfl)
def sp99 (h:Hm):Nat->List AV->Option AV
 | 165,_=>some (.fresh 3 1 ((h.ws.map fT).map encI))
 | 164,_=>some (.i (mxN (h.ws.map fT) (h.ws.length-1)))
 | n,x=>spW n x
theorem c99 (h:Hm) (hl:h.ws.length<=8) (h1l:1<=h.ws.length) (hw:WsOK h.ws):PCall Tryz.prog G0 99 [.agg (encHm h)] (.i (outM h.ws h.ws.length)):=by
 have key :
  PCall Tryz.prog G0 165 [AV.sl 25 (List.map encWn h.ws),AV.fn (Fn.func 166) [] []] (AV.fresh 3 1 (List.map encI (List.map fT h.ws)))∧PCall Tryz.prog G0 164 [AV.sl 1 (List.map encI (List.map fT h.ws))] (AV.i (mxN (List.map fT
  h.ws) (h.ws.length-1)))∧AV.i (mxN (List.map fT h.ws) (h.ws.length-1))=AV.i (outM h.ws h.ws.length):=by
   have e:mxN (h.ws.map fT) (h.ws.length-1)=outM h.ws h.ws.length:=by rw [mx_out hw _ (by omega),show h.ws.length-1+1=h.ws.length by omega]
   have hml:(List.map fT h.ws).length=h.ws.length:=List.length_map _
   refine ⟨(c165 h.ws (by omega) hw),((by rw [<- hml];exact c164 _ (by omega) (by omega))),?_⟩
   · rw [e]
 exact c_of Tryz.f99 (fzB (mkB (sp99 h) 99 [] noLa)) (by kernel_rfl) (by kernel_rfl) (by kernel_rfl) (by kernel_rfl) key (by kernel_rfl)
def ouV (h:Hm):Int:=if (fHm h != 0)=true then 0 else outM h.ws h.ws.length
def sp17 (h:Hm):Nat->List AV->Option AV
 | 38,_=>some (.i (fHm h))
 | 99,_=>some (.i (outM h.ws h.ws.length))
 | 100,_=>some (.agg [.i (inL h.ws h.ws.length),.i (inH h.ws h.ws.length)])
 | 101,[.int _ x]=>some (.i (lvl x))
 | n,x=>spW n x
theorem c17 (h:Hm) (hn:h.nm.length<=1000000) (hl:h.ws.length<=1000):PCall Tryz.prog G0 17 [.agg (encHm h)] (.tup [.i (ouV h),.i (fHm h)]):=by
 have key :
  PCall Tryz.prog G0 38 [AV.agg (encHm h)] (AV.i (fHm h))∧((fHm h != 0)=true->AV.tup [AV.i 0,AV.i (fHm h)]=AV.tup [AV.i (ouV h),AV.i (fHm h)])∧((fHm h != 0)=false->PCall Tryz.prog G0 99 [AV.agg (encHm h)] (AV.i (outM
  h.ws h.ws.length))∧AV.tup [AV.i (outM h.ws h.ws.length),AV.i 0]=AV.tup [AV.i (ouV h),AV.i (fHm h)]):=by
   refine ⟨(c38 h hn hl),fun h1=>?_,fun h1=>?_⟩
   · rw [show ouV h=0 from if_pos h1]
   · have hz:fHm h=0:=bne_f h1
     obtain ⟨z1,z2,z3,z4,z5,z6⟩:=hm_z hz
     refine ⟨(c99 h z3 z2 z6),?_⟩
     · rw [show ouV h=outM h.ws h.ws.length from if_neg (by rw [hz];decide),hz]
 exact c_of Tryz.f17 (fzB (mkB (sp17 h) 17 [] noLa)) (by kernel_rfl) (by kernel_rfl) (by kernel_rfl) (by kernel_rfl) key (by kernel_rfl)
end Go.Proofs.YtfoeefaamjknpaaGreatDoor
namespace Go.Proofs.YtfoeefaamjknpaaGreatDoor
open Go Go.Av Go.RowKit
theorem pr_bd {w:Wn} (hw:WnOK w) (b:Nat) (hb:b < 8):(0<=w.o b * w.lo b∧w.o b * w.lo b<=100000000000)∧(0<=w.o b * w.hi b∧w.o b * w.hi b<=100000000000):=by
 have h1:=hw.o0 b hb
 have h2:=hw.lo b hb
 have h3:=hw.hi b hb
 have h4:=mul_bd h1.1 h1.2 h2.1 h2.2
 have h5:=mul_bd h1.1 h1.2 h3.1 h3.2
 omega
abbrev zc123a (w:Wn):=(0:Int)+w.o0 * w.p1+w.o1 * w.p3+w.o2 * w.p5+w.o3 * w.p7+w.o4 * w.p9+w.o5 * w.p11+w.o6 * w.p13+w.o7 * w.p15
abbrev zc123b (w:Wn):=(0:Int)+w.o0 * w.p0+w.o1 * w.p2+w.o2 * w.p4+w.o3 * w.p6+w.o4 * w.p8+w.o5 * w.p10+w.o6 * w.p12+w.o7 * w.p14
theorem c123 (w:Wn) (hw:WnOK w):PCall Tryz.prog G0 123 [.agg (encWn w)] (.agg [.i (inLw w),.i (inHw w)]):=by
 have key :
  (0:Int)<=0∧(0:Int) < (8:Int)∧(0:Int)<=0∧(0:Int) < (8:Int)∧In64 (w.o0 * w.p0)∧In64 ((0:Int)+w.o0 * w.p0)∧(0:Int)<=0∧(0:Int) < (8:Int)∧In64 (w.o0 * w.p1)∧In64 ((0:Int)+w.o0 * w.p1) ∧
  In64 ((0:Int)+1)∧(0:Int)<=0+1∧(0:Int)+1 < (8:Int)∧(0:Int)<=0+1∧(0:Int)+1 < (8:Int)∧In64 (w.o1 * w.p2)∧In64 ((0:Int)+w.o0 * w.p0+w.o1 * w.p2)∧(0:Int)<=0+1∧(0:Int)+1 < (↑8 :
  Int)∧In64 (w.o1 * w.p3)∧In64 ((0:Int)+w.o0 * w.p1+w.o1 * w.p3)∧In64 ((0:Int)+1+1)∧(0:Int)<=0+1+1∧(0:Int)+1+1 < (8:Int)∧(0:Int)<=0+1+1∧(0:Int)+1+1 < (8:Int)∧In64 (w.o2 *
  w.p4)∧In64 ((0:Int)+w.o0 * w.p0+w.o1 * w.p2+w.o2 * w.p4)∧(0:Int)<=0+1+1∧(0:Int)+1+1 < (8:Int)∧In64 (w.o2 * w.p5)∧In64 ((0:Int)+w.o0 * w.p1+w.o1 * w.p3+w.o2 * w.p5)∧In64 ((0:Int)+1+1
  + 1)∧(0:Int)<=0+1+1+1∧(0:Int)+1+1+1 < (8:Int)∧(0:Int)<=0+1+1+1∧(0:Int)+1+1+1 < (8:Int)∧In64 (w.o3 * w.p6)∧In64 ((0:Int)+w.o0 * w.p0+w.o1 * w.p2+w.o2 * w.p4+w.o3 * w.p6)
  ∧ (0:Int)<=0+1+1+1∧(0:Int)+1+1+1 < (8:Int)∧In64 (w.o3 * w.p7)∧In64 ((0:Int)+w.o0 * w.p1+w.o1 * w.p3+w.o2 * w.p5+w.o3 * w.p7)∧In64 ((0:Int)+1+1+1+1)∧(0:Int)<=0+1+1+1+1 ∧
  (0:Int)+1+1+1+1 < (8:Int)∧(0:Int)<=0+1+1+1+1∧(0:Int)+1+1+1+1 < (8:Int)∧In64 (w.o4 * w.p8)∧In64 ((0:Int)+w.o0 * w.p0+w.o1 * w.p2+w.o2 * w.p4+w.o3 * w.p6+w.o4 * w.p8)∧(0 :
  Int)<=0+1+1+1+1∧(0:Int)+1+1+1+1 < (8:Int)∧In64 (w.o4 * w.p9)∧In64 ((0:Int)+w.o0 * w.p1+w.o1 * w.p3+w.o2 * w.p5+w.o3 * w.p7+w.o4 * w.p9)∧In64 ((0:Int)+1+1+1+1+1)∧(0:Int)<=0
  + 1+1+1+1+1∧(0:Int)+1+1+1+1+1 < (8:Int)∧(0:Int)<=0+1+1+1+1+1∧(0:Int)+1+1+1+1+1 < (8:Int)∧In64 (w.o5 * w.p10)∧In64 ((0:Int)+w.o0 * w.p0+w.o1 * w.p2+w.o2 * w.p4 +
  w.o3 * w.p6+w.o4 * w.p8+w.o5 * w.p10)∧(0:Int)<=0+1+1+1+1+1∧(0:Int)+1+1+1+1+1 < (8:Int)∧In64 (w.o5 * w.p11)∧In64 ((0:Int)+w.o0 * w.p1+w.o1 * w.p3+w.o2 * w.p5+w.o3 * w.p7+w.o4 *
  w.p9+w.o5 * w.p11)∧In64 ((0:Int)+1+1+1+1+1+1)∧(0:Int)<=0+1+1+1+1+1+1∧(0:Int)+1+1+1+1+1+1 < (8:Int)∧(0:Int)<=0+1+1+1+1+1+1∧(0:Int)+1+1+1+1+1+1 <
  (8:Int)∧In64 (w.o6 * w.p12)∧In64 ((0:Int)+w.o0 * w.p0+w.o1 * w.p2+w.o2 * w.p4+w.o3 * w.p6+w.o4 * w.p8+w.o5 * w.p10+w.o6 * w.p12)∧(0:Int)<=0+1+1+1+1+1+1∧(0:Int)+1+1+1+1+1+1 <
  (8:Int)∧In64 (w.o6 * w.p13)∧In64 ((0:Int)+w.o0 * w.p1+w.o1 * w.p3+w.o2 * w.p5+w.o3 * w.p7+w.o4 * w.p9+w.o5 * w.p11+w.o6 * w.p13)∧In64 ((0:Int)+1+1+1+1+1+1+1)∧(0:Int)<=0+1+1+1+1
  + 1+1+1∧(0:Int)+1+1+1+1+1+1+1 < (8:Int)∧(0:Int)<=0+1+1+1+1+1+1+1∧(0:Int)+1+1+1+1+1+1+1 < (8:Int)∧In64 (w.o7 * w.p14)∧In64 (zc123b w)∧(0:Int)<=0+1+1+1 +
  1+1+1+1∧(0:Int)+1+1+1+1+1+1+1 < (8:Int)∧In64 (w.o7 * w.p15)∧In64 (zc123a w)∧In64 ((0:Int)+1+1+1+1+1+1+1+1)∧In64 ((zc123b w) * w.ar)∧¬(100000:Int)=(0:Int)∧In64 (((zc123b
  w) * w.ar).tdiv 100000)∧In64 ((zc123a w) * w.ar)∧In64 ((zc123a w) * w.ar+100000)∧In64 ((zc123a w) * w.ar+100000-1)∧¬(100000:Int)=(0:Int)∧In64 (((zc123a w) * w.ar+100000-1).tdiv 100000)∧AV.agg [AV.i
  (((zc123b w) * w.ar).tdiv 100000),AV.i (((zc123a w) * w.ar+100000-1).tdiv 100000)]=AV.agg [AV.i (inLw w),AV.i (inHw w)]:=by
   delta zc123a zc123b
   have q0:(0<=w.o0 * w.p0∧w.o0 * w.p0<=100000000000)∧(0<=w.o0 * w.p1∧w.o0 * w.p1<=100000000000):=pr_bd hw 0 (by decide)
   have q1:(0<=w.o1 * w.p2∧w.o1 * w.p2<=100000000000)∧(0<=w.o1 * w.p3∧w.o1 * w.p3<=100000000000):=pr_bd hw 1 (by decide)
   have q2:(0<=w.o2 * w.p4∧w.o2 * w.p4<=100000000000)∧(0<=w.o2 * w.p5∧w.o2 * w.p5<=100000000000):=pr_bd hw 2 (by decide)
   have q3:(0<=w.o3 * w.p6∧w.o3 * w.p6<=100000000000)∧(0<=w.o3 * w.p7∧w.o3 * w.p7<=100000000000):=pr_bd hw 3 (by decide)
   have q4:(0<=w.o4 * w.p8∧w.o4 * w.p8<=100000000000)∧(0<=w.o4 * w.p9∧w.o4 * w.p9<=100000000000):=pr_bd hw 4 (by decide)
   have q5:(0<=w.o5 * w.p10∧w.o5 * w.p10<=100000000000)∧(0<=w.o5 * w.p11∧w.o5 * w.p11<=100000000000):=pr_bd hw 5 (by decide)
   have q6:(0<=w.o6 * w.p12∧w.o6 * w.p12<=100000000000)∧(0<=w.o6 * w.p13∧w.o6 * w.p13<=100000000000):=pr_bd hw 6 (by decide)
   have q7:(0<=w.o7 * w.p14∧w.o7 * w.p14<=100000000000)∧(0<=w.o7 * w.p15∧w.o7 * w.p15<=100000000000):=pr_bd hw 7 (by decide)
   have hL:0<=(0+w.o0 * w.p0+w.o1 * w.p2+w.o2 * w.p4+w.o3 * w.p6+w.o4 * w.p8+w.o5 * w.p10+w.o6 * w.p12+w.o7 * w.p14) * w.ar∧(0+w.o0 * w.p0+w.o1 * w.p2+w.o2 * w.p4+w.o3 * w.p6+w.o4 * w.p8+w.o5 * w.p10+w.o6 * w.p12+w.o7 * w.p14) * w.ar<=80000000000000:=(inLw_bd hw).1
   have hH:0<=(0+w.o0 * w.p1+w.o1 * w.p3+w.o2 * w.p5+w.o3 * w.p7+w.o4 * w.p9+w.o5 * w.p11+w.o6 * w.p13+w.o7 * w.p15) * w.ar∧(0+w.o0 * w.p1+w.o1 * w.p3+w.o2 * w.p5+w.o3 * w.p7+w.o4 * w.p9+w.o5 * w.p11+w.o6 * w.p13+w.o7 * w.p15) * w.ar<=80000000000000:=(inHw_bd hw).1
   have eH:(sumP w.o w.hi 8 * w.ar+100000-1).tdiv 100000=inHw w:=by
    rw [show sumP w.o w.hi 8 * w.ar+100000-1=sumP w.o w.hi 8 * w.ar+99999 by omega]
    rfl
   have t1:In64 ((sumP w.o w.lo 8 * w.ar).tdiv 100000):=in64_of (x:=inLw w) ⟨(inLw_bd hw).2.1,by have:=(inLw_bd hw).2.2;omega⟩
   have t2:In64 ((sumP w.o w.hi 8 * w.ar+100000-1).tdiv 100000):=by
    rw [eH]
    exact in64_of ⟨(inHw_bd hw).2.1,by have:=(inHw_bd hw).2.2;omega⟩
   refine ⟨(by omega),(by omega),(by omega),(by omega),(by unfold In64;omega),(by unfold In64;omega),(by omega),(by omega),(by unfold In64;omega),(by unfold In64;omega),(by unfold In64;omega),(by omega),(by omega),(by omega),(by omega),(by unfold In64;omega),(by unfold In64;omega),(by omega),(by omega),(by unfold In64;omega),(by unfold In64;omega),(by unfold In64;omega),(by omega),(by omega),(by omega),(by omega),(by unfold In64;omega),(by unfold In64;omega),(by omega),(by omega),(by unfold In64;omega),(by unfold In64;omega),(by unfold In64;omega),(by omega),(by omega),(by omega),(by omega),(by unfold In64;omega),(by unfold In64;omega),(by omega),(by omega),(by unfold In64;omega),(by unfold In64;omega),(by unfold In64;omega),(by omega),(by omega),(by omega),(by omega),(by unfold In64;omega),(by unfold In64;omega),(by omega),(by omega),(by unfold In64;omega),(by unfold In64;omega),(by unfold In64;omega),(by omega),(by omega),(by omega),(by omega),(by unfold In64;omega),(by unfold In64;omega),(by omega),(by omega),(by unfold In64;omega),(by unfold In64;omega),(by unfold In64;omega),(by omega),(by omega),(by omega),(by omega),(by unfold In64;omega),(by unfold In64;omega),(by omega),(by omega),(by unfold In64;omega),(by unfold In64;omega),(by unfold In64;omega),(by omega),(by omega),(by omega),(by omega),(by unfold In64;omega),(by unfold In64;omega),(by omega),(by omega),(by unfold In64;omega),(by unfold In64;omega),(by unfold In64;omega),(by unfold In64;omega),?_,?_,(by unfold In64;omega),(by unfold In64;omega),(by unfold In64;omega),?_,?_,?_⟩
   · first | rfl | trivial
   · first
      | exact t1
      | exact t2
   · first | rfl | trivial
   · first
      | exact t1
      | exact t2
   · exact congrArg (fun x=>AV.agg [AV.i (inLw w),AV.i x]) eH
 exact c_of Tryz.f123 ({ fzB (mkB spW 123 [] noLa) with cl:=clL [10] }) (by kernel_rfl) (by kernel_rfl) (by kernel_rfl) (by kernel_rfl) key (by kernel_rfl)
end Go.Proofs.YtfoeefaamjknpaaGreatDoor
namespace Go.Proofs.YtfoeefaamjknpaaGreatDoor
open Go Go.Av Go.RowKit
def spI2:Nat->List AV->Option AV
 | 123,[.agg c]=>some (.agg [.i (inLw (decWn c)),.i (inHw (decWn c))])
 | 113,[.agg c]=>some (.agg [.i (inLw (decWn c)),.i (inHw (decWn c))])
 | n,x=>spW n x
def la100 (l:List Wn):LA:={
 pre:=[.keep [2,3,8,9,10] [2,3],.bound 4],post:=[.keep [2,3,8,9,10] [2,3],.bound 4]
 Gh:=Nat
 st:=fun i=>⟨[(2,.ptr 2 0),(3,.ptr 3 0),(8,.sl 25 (l.map encWn)),(9,.i (l.map encWn).length),(10,.i i)],[(2,.box [.i 0,.i 0]),(3,.box [.i (inL l i),.i (inH l i)])],4⟩
 ok:=fun i=>i<=l.length
 ms:=fun i=>l.length-i }
abbrev zc100a (h:Hm) (g:Nat):=encWn (h.ws.getD (g:Int).toNat default)
abbrev zc100b (h:Hm):=(↑(List.map encWn h.ws).length:Int)
theorem c100 (h:Hm) (hl:h.ws.length<=8) (hw:WsOK h.ws):PCall Tryz.prog G0 100 [.agg (encHm h)] (.agg [.i (inL h.ws h.ws.length),.i (inH h.ws h.ws.length)]):=by
 have key :
  (∃ (g:Nat),g<=h.ws.length∧AS.mk [(2,AV.ptr 2 0),(3,AV.ptr 3 0),(8,AV.sl 25 (List.map encWn h.ws)),(9,AV.i (zc100b h)),(10,AV.i 0)] [(2,ABlk.box [AV.i 0,AV.i 0]),(3,ABlk.box [AV.i 0,AV.i 0])] 4=AS.mk [(2,
  AV.ptr 2 0),(3,AV.ptr 3 0),(8,AV.sl 25 (List.map encWn h.ws)),(9,AV.i (zc100b h)),(10,AV.i (g:Int))] [(2,ABlk.box [AV.i 0,AV.i 0]),(3,ABlk.box [AV.i (inL h.ws g),AV.i (inH h.ws g)])] 4)∧∀ (g:Nat),g ≤
  h.ws.length->(decide ((g:Int) < (zc100b h))=true->(0:Int)<=(g:Int)∧(g:Int) < (zc100b h)∧AV.agg (nthR (List.map encWn h.ws) (g:Int).toNat)=AV.agg (zc100a h g)∧PCall Tryz.prog G0 123 [AV.agg (zc100a h g)]
  (AV.agg [AV.i (inLw (decWn (zc100a h g))),AV.i (inHw (decWn (zc100a h g)))])∧In64 (inL h.ws g+inLw (decWn (zc100a h g)))∧In64 (inH h.ws g+inHw (decWn (zc100a h g)))∧In64 ((g:Int)+1)∧∃ (g':Nat),g'<=h.ws.length
  ∧ h.ws.length-g' < h.ws.length-g∧AS.mk [(2,AV.ptr 2 0),(3,AV.ptr 3 0),(8,AV.sl 25 (List.map encWn h.ws)),(9,AV.i (zc100b h)),(10,AV.i ((g:Int)+1))] [(2,ABlk.box [AV.i 0,AV.i 0]),(3,ABlk.box [AV.i (inL h.ws g
  + inLw (decWn (zc100a h g))),AV.i (inH h.ws g+inHw (decWn (zc100a h g)))])] 4=AS.mk [(2,AV.ptr 2 0),(3,AV.ptr 3 0),(8,AV.sl 25 (List.map encWn h.ws)),(9,AV.i (zc100b h)),(10,AV.i (↑g':Int))] [(2,ABlk.box [AV.i 0,
  AV.i 0]),(3,ABlk.box [AV.i (inL h.ws g'),AV.i (inH h.ws g')])] 4)∧(decide ((g:Int) < (zc100b h))=false->AV.agg [AV.i (inL h.ws g),AV.i (inH h.ws g)]=AV.agg [AV.i (inL h.ws h.ws.length),AV.i (inH h.ws h.ws.length)]):=by
   delta zc100a zc100b
   have hlm:(List.map encWn h.ws).length=h.ws.length:=List.length_map _
   have:(List.map encWn h.ws).length=h.ws.length:=by simp only [List.length_map]
   refine ⟨⟨0,by omega,rfl⟩,fun g hg=>⟨fun hd=>?_,fun hd=>?_⟩⟩
   · have hlt:g < h.ws.length:=by have h9:=of_decide_eq_true hd;have h8:=hg;(try simp only [List.length_map] at h8);(try simp only [List.length_map] at h9);omega
     have hb1:=inL_bd hw g (by omega)
     have hb2:=inH_bd hw g (by omega)
     have hb3:=inLw_bd (hw g hlt)
     have hb4:=inHw_bd (hw g hlt)
     rw [decWn_e]
     try rw [show (g:Int).toNat=g from Int.toNat_natCast g]
     exact ⟨(by omega),(by omega),congrArg AV.agg (row_at encWn hlt),(c123 _ (hw _ hlt)),(by unfold In64;omega),(by unfold In64;omega),(by unfold In64;omega),⟨g+1,by omega,by omega,rfl⟩⟩
   · have hge:g=h.ws.length:=by have h9:=of_decide_eq_false hd;have h8:=hg;(try simp only [List.length_map] at h8);(try simp only [List.length_map] at h9);omega
     subst hge
     first | rfl | trivial
 exact c_of Tryz.f100 (fzB (mkB spI2 100 [(4,1,rdL 25 encWn h.ws 25 true)] (la0 (la100 h.ws)))) (by kernel_rfl) (by kernel_rfl) (by kernel_rfl) (by kernel_rfl) key (by kernel_rfl)
theorem fEn_z {x:Int} (h:0<=x∧x<=10000000000000):fEn x=0:=within_zero.2 h
end Go.Proofs.YtfoeefaamjknpaaGreatDoor
