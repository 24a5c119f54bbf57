/-
  Abstract values and what they say of the model's values: the ground of the proofs of this folder. The abstract step: what an operation makes of abstract values. How an abstract state stands to a frame and a world. No condition but the theorems' own.
-/
import Derived.WalkKit
import Derived.KernelRfl
import Derived.Lib.ConvBytes
import Derived.CallsIn
import Derived.OrdersIn
namespace Go.Av
open Go Go.RowKit
theorem Ka:type_of% @List.getD_eq_getElem?_getD:=@List.getD_eq_getElem?_getD
theorem Kb:type_of% @List.length_map:=@List.length_map
theorem Kc:type_of% @Nat.eq_of_beq_eq_true:=@Nat.eq_of_beq_eq_true
theorem Kd:type_of% @Bool.and_eq_true:=@Bool.and_eq_true
theorem Ke:type_of% @Result.andThen_ok:=@Result.andThen_ok
theorem Kf:type_of% @List.length_append:=@List.length_append
theorem Kg:type_of% @List.length_take:=@List.length_take
theorem Kh:type_of% @List.length_drop:=@List.length_drop
theorem Ki:type_of% @Sem.run_bind:=@Sem.run_bind
theorem Kj:type_of% @List.getElem?_eq_getElem:=@List.getElem?_eq_getElem
theorem Kk:type_of% @List.getElem?_map:=@List.getElem?_map
theorem Kl:type_of% @Nat.le_of_ble_eq_true:=@Nat.le_of_ble_eq_true
theorem Km:type_of% @Int.toNat_natCast:=@Int.toNat_natCast
theorem Kn:type_of% @List.mem_flatMap:=@List.mem_flatMap
theorem Ko:type_of% @decide_eq_true_eq:=@decide_eq_true_eq
theorem Kp:type_of% @List.mem_append:=@List.mem_append
theorem Kq:type_of% @List.mem_cons:=@List.mem_cons
theorem Kr:type_of% @Nat.le_refl:=@Nat.le_refl
theorem Ks:type_of% @Bool.not_eq_true':=@Bool.not_eq_true'
theorem Kt:type_of% @List.length_replicate:=@List.length_replicate
theorem Ku:type_of% @List.take_of_length_le:=@List.take_of_length_le
theorem Kv:type_of% @Array.getD_eq_getD_getElem?:=@Array.getD_eq_getD_getElem?
theorem Kw:type_of% @List.take_length:=@List.take_length
theorem Kx:type_of% @beq_self_eq_true:=@beq_self_eq_true
theorem Ky:type_of% @of_decide_eq_true:=@of_decide_eq_true
theorem Kz:type_of% @of_decide_eq_false:=@of_decide_eq_false
theorem K0:type_of% @Nat.lt_of_lt_of_le:=@Nat.lt_of_lt_of_le
theorem K1:type_of% @Nat.mul_le_mul_right:=@Nat.mul_le_mul_right
theorem K2:type_of% @List.length_set:=@List.length_set
theorem K3:type_of% @List.getElem?_append_left:=@List.getElem?_append_left
theorem K4:type_of% @List.getElem?_append_right:=@List.getElem?_append_right
theorem K6:type_of% @Nat.not_lt_zero:=@Nat.not_lt_zero
theorem K7:type_of% @Nat.le_of_lt:=@Nat.le_of_lt
theorem K8:type_of% @List.map_append:=@List.map_append
theorem K9:type_of% @List.map_map:=@List.map_map
inductive AV where
 | int(k:IntKind)(n:Int)
 | bool(b:Bool)
 | str(l:List UInt8)
 | ex(v:Value)
 | any
 | agg(l:List AV)
 | tup(l:List AV)
 | sl(k:Nat)(rows:List (List AV))
 | elt(k:Nat)(rows:List (List AV))(i j:Nat)
 | fn(f:Fn)(first cap:List AV)
 | ptr(id off:Nat)
 | optr(id i j:Nat)
 | own(id n:Nat)
 | ref(id:Nat)
 | yld(l:Nat)
 | yb(l k:Nat)(neg:Bool)
 | fresh(e k:Nat)(rows:List (List AV))
 | gv(g:Bool)(a:AV)
 | fbox(f:Nat)(cells:List AV)
 | bsl(id n:Nat)
 | ax(l:List AV)
 | osl(id lo n:Nat)
 deriving Inhabited
abbrev AV.i(n:Int):AV:=.int .i64 n
def nth(l:List AV)(i:Nat):AV:=l.getD i .any
def Ji(l:List (List AV))(i:Nat):List AV:=l.getD i []
theorem JV{l:List AV}{i:Nat}{a:AV}(h:l[i]?=some a):nth l i=a:=by simp[nth,List.getD_eq_getElem?_getD,h]
inductive Rep (X:Nat->Prop) (w:World):Value->AV->Prop
 | int(k:IntKind)(n:Int):Rep X w (.int k n) (.int k n)
 | bool(b:Bool):Rep X w (.bool b) (.bool b)
 | str(l:List UInt8):Rep X w (.string ⟨l.toArray⟩) (.str l)
 | ex(v:Value)(h:v.oneCell'=true):Rep X w v (.ex v)
 | any(v:Value)(h:v.oneCell'=true):Rep X w v .any
 | agg(cs:Nat->Value)(l:List AV)(hr:∀ i,i < l.length->Rep X w (cs i) (nth l i))(h1:∀ i,i < l.length->(cs i).oneCell'=true) :
  Rep X w (.agg ((List.range l.length).map cs).toArray) (.agg l)
 | tup(cs:Nat->Value)(l:List AV)(hr:∀ i,i < l.length->Rep X w (cs i) (nth l i)):Rep X w (.tuple ((List.range l.length).map cs).toArray) (.tup l)
 | slE(a:Option Addr)(cap k:Nat):Rep X w (.slice a 0 cap) (.sl k [])
 | sl(b o cap k:Nat)(rows:List (List AV))(cv:Nat->Nat->Value)(hb:b < w.heap.size)(hX:¬ X b)(hcap:rows.length<=cap)(hmax:rows.length<=maxLen)
  (hk:∀ i,i < rows.length->(Ji rows i).length=k)
  (hc:∀ i,i < rows.length->∀ j,j < k->w.cell? ⟨b,o+i * k+j,none⟩=some (cv i j))
  (hr:∀ i,i < rows.length->∀ j,j < k->Rep X w (cv i j) (nth (Ji rows i) j))
  (h1:∀ i,i < rows.length->∀ j,j < k->(cv i j).oneCell'=true) :
  Rep X w (.slice (some ⟨b,o,none⟩) rows.length cap) (.sl k rows)
 | elt(b o k:Nat)(rows:List (List AV))(i0 j0:Nat)(cv:Nat->Nat->Value)(hb:b < w.heap.size)(hX:¬ X b)(hi:i0 < rows.length)
  (hk:∀ i,i < rows.length->(Ji rows i).length=k)
  (hc:∀ i,i < rows.length->∀ j,j < k->w.cell? ⟨b,o+i * k+j,none⟩=some (cv i j))
  (hr:∀ i,i < rows.length->∀ j,j < k->Rep X w (cv i j) (nth (Ji rows i) j))
  (h1:∀ i,i < rows.length->∀ j,j < k->(cv i j).oneCell'=true) :
  Rep X w (.pointer (some ⟨b,o+i0 * k+j0,none⟩)) (.elt k rows i0 j0)
 | fn(f:Fn)(fs cs:Nat->Value)(first cap:List AV)(hf:∀ i,i < first.length->Rep X w (fs i) (nth first i))(hc:∀ i,i < cap.length->Rep X w (cs i) (nth cap i)) :
  Rep X w (.func f ((List.range first.length).map fs).toArray ((List.range cap.length).map cs).toArray) (.fn f first cap)
theorem Rep.mono{X X':Nat->Prop}{w w':World}(hs:w.heap.size<=w'.heap.size)(hb:∀ b,b < w.heap.size->¬ X b->w'.heap[b]?=w.heap[b]?)
 (hX:∀ b,b < w.heap.size->¬ X b->¬ X' b){v:Value}{a:AV}(h:Rep X w v a):Rep X' w' v a:=by
 have hcell:∀ b o,b < w.heap.size->¬ X b->w'.cell? ⟨b,o,none⟩=w.cell? ⟨b,o,none⟩:=fun b o h1 h2=>World.cell?_of_block (hb b h1 h2)
 induction h with
 | int k n=>exact .int k n
 | bool b=>exact .bool b
 | str l=>exact .str l
 | ex v h=>exact .ex v h
 | any v h=>exact .any v h
 | agg cs l hr h1 ih=>exact .agg cs l ih h1
 | tup cs l hr ih=>exact .tup cs l ih
 | slE a cap k=>exact .slE a cap k
 | sl b o cap k rows cv hb1 hX1 hcap hmax hk hc hr h1 ih =>
  exact .sl b o cap k rows cv (by omega) (hX b hb1 hX1) hcap hmax hk (fun i hi j hj=>(hcell b _ hb1 hX1).trans (hc i hi j hj)) ih h1
 | elt b o k rows i0 j0 cv hb1 hX1 hi hk hc hr h1 ih =>
  exact .elt b o k rows i0 j0 cv (by omega) (hX b hb1 hX1) hi hk (fun i hi j hj=>(hcell b _ hb1 hX1).trans (hc i hi j hj)) ih h1
 | fn f fs cs first cap hf hc ih1 ih2=>exact .fn f fs cs first cap ih1 ih2
inductive TK where
 | int(k:IntKind) | bool | str
 | slice(e es eb:Nat)
 | arr(n e es:Nat)
 | struct(fs:List (Nat × Nat × Nat))
 | map(k e:Nat)
 | other
structure TI where
 k:TK
 size:Nat
 bytes:Nat
 agg:Bool
 zero:List AV
 eqd:Bool
abbrev TT:=List (Nat × TI)
def lk{α:Type}(t:Nat):List (Nat × α)->Option α
 | []=>none
 | (u,x)::l=>if u.beq t then some x else lk t l
def ofV:Value->AV
 | .int k n=>.int k n
 | .bool b=>.bool b
 | .string s=>.str s.data.toList
 | v=>.ex v
def JcN:Value->Bool
 | .agg _=>true
 | _=>false
def Jk3(agg:Bool)(z:Value):Bool:=match agg with
 | true=>JcN z
 | false=>!JcN z
def mkTI(P:Program)(t:Nat):Option TI :=
 match P.underlying t,P.info? t with
 | some d,some i =>
  match i.zero with
  | none=>none
  | some z =>
   let mk (k:TK) (agg:Bool):Option TI:=if z.cells.toList.all Value.oneCell' && z.cells.size.beq i.size && Jk3 agg z then some { k,size:=i.size,bytes:=i.bytes,agg,zero:=z.cells.toList.map ofV,eqd:=agg && !(P.stoodInHeld t) && !(P.eqGuardType P.depth t) }else none
   match d with
   | .int k=>mk (.int k) false
   | .bool=>mk .bool false
   | .string=>mk .str false
   | .slice e=>match P.info? e with
    | some ei=>mk (.slice e ei.size ei.bytes) false
    | none=>none
   | .array n e=>match P.info? e with
    | some ei=>mk (.arr n e ei.size) true
    | none=>none
   | .struct fs =>
    if fs.toList.any (fun f => f.name == "_") then none else
    match fs.toList.mapM fun f=>(P.info? f.type).map fun fi=>(f.offset,f.type,fi.size)with
    | some l=>mk (.struct l) true
    | none=>none
   | .map k e=>mk (.map k e) false
   | _=>mk .other false
 | _,_=>none
inductive ABlk where
 | dead
 | box(cells:List AV)
 | buf(e k:Nat)(rows:List (List AV))
 | map(es:List (AV × AV))
 | iter(l:List UInt8)(pos:Nat)
 | ready(l:Nat)(rows:List (List AV))
 | trace(l:Nat)(rows:List (List AV))
 | stop(l:Nat)
 | pins(n:Nat)
 deriving Inhabited
def ABlk.alive:ABlk->Prop
 | .box _ | .buf _ _ _ | .map _ | .iter _ _ | .pins _=>True
 | _=>False
def ABlk.tracey:ABlk->Prop
 | .ready _ _ | .trace _ _ | .stop _=>True
 | _=>False
abbrev BL:=List (Nat × ABlk)
def Jr(bs:BL)(id:Nat):ABlk:=(lk id bs).getD .dead
def mids0:AV->List Nat
 | .ptr id _ | .optr id _ _ | .own id _ | .ref id | .bsl id _ | .osl id _ _=>[id]
 | .yld _ | .yb _ _ _=>[0]
 | _=>[]
def mids1:AV->List Nat
 | .fn _ a b=>(a++b).flatMap mids0
 | a=>mids0 a
def Qn:AV->List Nat
 | .gv _ a=>mids1 a
 | .ax l=>l.flatMap mids1
 | a=>mids1 a
def JK:ABlk->List Nat
 | .box cells=>cells.flatMap mids1
 | .pins n=>List.range n
 | _=>[]
def addN(x:Nat)(l:List Nat):List Nat:=if l.any (fun y=>y.beq x)then l else l++[x]
def QU:List Nat->List Nat->List Nat
 | [],l=>l
 | x::xs,l=>QU xs (addN x l)
def US(bs:BL):Nat->List Nat->List Nat
 | 0,l=>l
 | n+1,l=>US bs n (QU (l.flatMap fun id=>JK (Jr bs id)) l)
def JaY(op:Op)(bs:BL)(l:List Nat):List Nat:=match op with
 | .call _=>US bs 2 (QU l [])
 | _=>l
theorem Jkl{x y:Nat}{l:List Nat}:y ∈ addN x l ↔ y=x ∨ y ∈ l:=by
 unfold addN
 split
 . rename_i h
   obtain⟨z,hz,e⟩:=List.any_eq_true.1 h
   have e:=Kc e
   subst e
   exact⟨.inr,fun h=>h.elim (fun h=>h ▸ hz) id⟩
 simp[or_comm]
theorem mem_addAll{y:Nat}:∀ {xs l:List Nat},y ∈ QU xs l ↔ y ∈ xs ∨ y ∈ l
 | [],l=>by simp[QU]
 | x::xs,l=>by
  simp only[QU,mem_addAll,Jkl,Kq]
  exact⟨fun h=>h.elim (fun h=>.inl (.inr h)) (fun h=>h.elim (fun h=>.inl (.inl h)) .inr),fun h=>h.elim (fun h=>h.elim (fun h=>.inr (.inl h)) .inl) (fun h=>.inr (.inr h))⟩
theorem Jaf{bs:BL}{y:Nat}:∀ {n:Nat} {l:List Nat},y ∈ l->y ∈ US bs n l
 | 0,_,h=>h
 | n+1,_,h=>Jaf (n:=n) (mem_addAll.2 (.inr h))
theorem Jba{bs:BL}{y:Nat}:∀ {n:Nat} {l m:List Nat},(∀ x,x ∈ l->x ∈ m)->y ∈ US bs n l->y ∈ US bs n m
 | 0,_,_,h,hy=>h y hy
 | n+1,_,_,h,hy=>Jba (n:=n) (fun x hx=>by
  rcases mem_addAll.1 hx with hx | hx
  . obtain⟨z,hz,hq⟩:=List.mem_flatMap.1 hx
    exact mem_addAll.2 (.inl (List.mem_flatMap.2 ⟨z,h z hz,hq⟩))
  . exact mem_addAll.2 (.inr (h x hx))) hy
theorem JfY{op:Op}{bs:BL}{l:List Nat}{y:Nat}(h:y ∈ l):y ∈ JaY op bs l:=by
 cases op <;> first | exact h | exact Jaf (mem_addAll.2 (.inl h))
theorem JdV{op:Op}{bs:BL}{l m:List Nat}{y:Nat}(h:∀ x,x ∈ l->x ∈ m)(hy:y ∈ JaY op bs l):y ∈ JaY op bs m:=by
 cases op <;> first | exact h y hy | exact Jba (fun x hx=>mem_addAll.2 ((mem_addAll.1 hx).imp (h x) _root_.id)) hy
def Jf6(bs:BL)(id:Nat):Bool:=match Jr bs id with
 | .box _=>true
 | _=>false
def Jf5(bs:BL)(id:Nat):Bool:=match Jr bs id with
 | .buf _ _ _=>true
 | _=>false
def Jc(n:Int):Prop := -9223372036854775808<=n/\n<=9223372036854775807
structure Cd where
 p:Prop
 d:Decidable p
instance {p : Prop} [d : Decidable p] : CoeDep Prop p Cd := ⟨⟨p, d⟩⟩
instance {n : Int} : Decidable (Jc n) := inferInstanceAs (Decidable (_ /\ _))
inductive Obl where
 | call(f:Nat)(args:List AV)(r:AV)
 | next(rows:List (List AV))(x:List AV)
 | same(a b:AV)
 | hand(f:Nat)(args:List AV)(bs:List ABlk)(r:AV)(fin:List ABlk)
structure Out where
 v:AV
 wr:BL
 cond:List Cd
 obl:List Obl
def out(v:AV)(cond:List Cd:=[]):Option Out:=some ⟨v,[],cond,[]⟩
def QK:Value->Bool
 | .slice none 0 0=>true
 | _=>false
def XM:AV->Bool
 | .ptr _ _ | .optr _ _ _ | .own _ _ | .ref _ | .yld _ | .yb _ _ _ | .fresh _ _ _ | .gv _ _ | .fbox _ _ | .bsl _ _ | .ax _ | .osl _ _ _ | .fn _ _ _=>false
 | _=>true
def JJ:AV->Bool
 | .ptr _ _ | .optr _ _ _ | .own _ _ | .ref _ | .yld _ | .yb _ _ _ | .fresh _ _ _ | .gv _ _ | .fbox _ _ | .bsl _ _ | .ax _ | .osl _ _ _=>false
 | .fn _ a b=>a.all XM && b.all XM
 | _=>true
def Jc2:AV->Bool
 | .gv _ _ | .ax _=>false
 | .fn f a b=>JJ (.fn f a b)
 | _=>true
def one:AV->Bool
 | .agg _ | .tup _ | .gv _ _ | .ax _=>false
 | _=>true
def JbU:AV->Bool
 | .int _ _ | .bool _ | .str _ | .ex _ | .any=>true
 | _=>false
def JpA:AV->Bool
 | .agg l | .tup l=>l.all JbU
 | a=>JbU a
def QT(n:Nat)(agg:Bool):AV->Option (List AV)
 | .agg l=>if agg && l.length.beq n then some l else none
 | .ax l=>if agg && l.length.beq n then some l else none
 | a=>if !agg && one a && n.beq 1 then some [a]else none
def splice(l:List AV)(off:Nat)(xs:List AV):List AV:=l.take off++xs++l.drop (off+xs.length)
def JT(l:List AV)(off n:Nat)(agg:Bool):AV:=if agg then .agg ((l.drop off).take n)else nth l off
def shlI(a b:Int):Int:=a * 2 ^ b.toNat
def shrI(a b:Int):Int:=a.fdiv (2 ^ b.toNat)
def andI(a b:Int):Int:=((a.toNat &&& b.toNat:Nat):Int)
def Jf7(op:BinOp)(k:IntKind)(a b:Int)(nw:Bool):Option Out :=
 let arith (r:Int):Option Out:=if nw && decide (k=.i64)then out (.int .i64 r) [Jc r]else out (.int k (k.wrap r))
 match op with
 | .add=>arith (a+b)
 | .sub=>arith (a-b)
 | .mul=>arith (a * b)
 | .quo=>if nw && decide (k=.i64)then out (.int .i64 (a.tdiv b)) [¬ b=0,Jc (a.tdiv b)]else out (.int k (k.wrap (a.tdiv b))) [¬ b=0]
 | .rem=>out (.int k (a.tmod b)) [¬ b=0]
 | .eql=>out (.bool (a == b))
 | .neq=>out (.bool (a != b))
 | .lss=>out (.bool (decide (a < b)))
 | .leq=>out (.bool (decide (a<=b)))
 | .gtr=>out (.bool (decide (a > b)))
 | .geq=>out (.bool (decide (a>=b)))
 | .shl=>if decide (k=.i64)then out (.int .i64 (shlI a b)) [0<=b,b<=64,Jc (shlI a b)]else none
 | .shr=>if decide (k=.i64)then out (.int .i64 (shrI a b)) [0<=b,b<=64]else none
 | .and=>if decide (k=.i64)then out (.int .i64 (andI a b)) [0<=a,0<=b,Jc a,Jc b]else if decide (k=.u16)then out (.int .u16 (andI a b)) [0<=a,a<=65535,0<=b,b<=65535]else none
 | _=>none
def shrU(op:BinOp)(k k':IntKind)(a b:Int):Option Out :=
 match op,k,k' with
 | .shr,.u16,.i64=>out (.int .u16 (shrI a b)) [0<=b,b<=16]
 | _,_,_=>none
def Jm1(op:BinOp)(a b:List UInt8):Option Out :=
 match op with
 | .add=>out (.str (a++b)) [a.length+b.length<=9223372036854775807]
 | .eql=>out (.bool (a == b))
 | .neq=>out (.bool (!(a == b)))
 | _=>none
def Qw:AV->AV->Option Bool
 | .int k a,.int k' b=>if k=k' then some (a == b)else none
 | .bool a,.bool b=>some (a == b)
 | .str a,.str b=>some (a == b)
 | _,_=>none
def VZ:List AV->List AV->Option Bool
 | [],[]=>some true
 | a::l,b::m=>match Qw a b,VZ l m with
  | some x,some y=>some (x && y)
  | _,_=>none
 | _,_=>none
def Xb:TK->AV->Bool
 | .int _,.int _ _=>true
 | .bool,.bool _=>true
 | .str,.str _=>true
 | _,_=>false
def JbY(f:Nat->List AV->List AV->Option Bool):List (Nat × Nat × Nat)->List AV->List AV->Option Bool
 | [],_,_=>some true
 | (off,t,size)::fs,l,m=>if !((off+size).ble l.length && (off+size).ble m.length)then none else match f t ((l.drop off).take size) ((m.drop off).take size),JbY f fs l m with
  | some x,some y=>some (x && y)
  | _,_=>none
def JbX(T:TT):Nat->Nat->List AV->List AV->Option Bool
 | 0,_,_,_=>none
 | d+1,t,l,m=>match lk t T with
  | some ti=>if !(l.length.beq ti.size && m.length.beq ti.size)then none else match ti.k with
   | .int _=>if ti.size.beq 1 && l.all (Xb ti.k)then VZ l m else none
   | .bool=>if ti.size.beq 1 && l.all (Xb ti.k)then VZ l m else none
   | .str=>if ti.size.beq 1 && l.all (Xb ti.k)then VZ l m else none
   | .struct fs=>if ti.eqd then JbY (JbX T d) fs l m else none
   | .arr n e es=>if ti.eqd then JbY (JbX T d) ((List.range n).map fun i=>(i * es,e,es)) l m else none
   | _=>none
  | none=>none
def Jb7(bs:BL)(k:TK):AV->Option Int
 | .sl _ rows=>match k with
  | .slice _ _ _=>some rows.length
  | _=>none
 | .own id n=>match k,Jr bs id with
  | .slice _ _ _,.buf _ _ _=>some n
  | _,_=>none
 | .bsl id n=>match k,Jr bs id with
  | .slice _ _ _,.box _=>some n
  | _,_=>none
 | .str l=>match k with
  | .str=>some l.length
  | _=>none
 | .ex v=>match k with
  | .slice _ _ _=>if QK v then some 0 else none
  | _=>none
 | _=>none
def Jdj(a b:Int):Int:=if b < a then b else a
def QN(a b:Int):Int:=if b > a then b else a
def JcU(f:Int->Int->Int)(k:IntKind):Int->List AV->Option Int
 | x,[]=>some x
 | x,.int k' y::l=>if k=k' then JcU f k (f x y) l else none
 | _,_=>none
def VS(bs:BL)(k:Nat):AV->Option (List (List AV))
 | .sl k' rows=>if k.beq k' then some rows else none
 | .own id _=>match Jr bs id with
  | .buf _ k' rows=>if k.beq k' then some rows else none
  | _=>none
 | .ex v=>if QK v then some []else none
 | _=>none
def JF(cells:List AV):List (Option (Nat × Nat) × AV)->Option (List AV)
 | []=>some cells
 | (some (off,size),v)::rest =>
  match v with
  | .agg l=>if l.length.beq size && (off+size).ble cells.length then JF (splice cells off l) rest else none
  | a=>if one a && JJ a && size.beq 1 && (off+1).ble cells.length then JF (splice cells off [a]) rest else none
 | (none,_)::_=>none
def Xt(cells:List AV):List (Option (Nat × Nat) × AV)->Option (List AV)
 | []=>some cells
 | (some (off,size),v)::rest =>
  match v with
  | .agg l=>if l.length.beq size && (off+size).ble cells.length then Xt (splice cells off l) rest else none
  | .ax l=>if l.length.beq size && (off+size).ble cells.length then Xt (splice cells off l) rest else none
  | a=>if one a && size.beq 1 && (off+1).ble cells.length then Xt (splice cells off [a]) rest else none
 | (none,_)::_=>none
def UV(ti:TI)(parts:List (Nat × AV)):Option (List AV) :=
 match ti.k with
 | .struct fs=>JF ti.zero (parts.map fun p=>((fs[p.1]?).map fun f=>(f.1,f.2.2),p.2))
 | .arr _ _ es=>JF ti.zero (parts.map fun p=>(some (p.1 * es,es),p.2))
 | _=>none
def JiM(ti:TI)(parts:List (Nat × AV)):Option (List AV) :=
 match ti.k with
 | .struct fs=>Xt ti.zero (parts.map fun p=>((fs[p.1]?).map fun f=>(f.1,f.2.2),p.2))
 | _=>none
def Qc(k:Nat):Nat->List AV->List (List AV)
 | 0,_=>[]
 | n+1,l=>l.take k::Qc k n (l.drop k)
def QI(rows:List (List AV))(i j:Nat)(xs:List AV):List (List AV):=rows.set i (splice (Ji rows i) j xs)
def XZ(bs:BL):AV->Option AV
 | .own id _=>match Jr bs id with
  | .buf _ k rows=>some (.sl k rows)
  | _=>none
 | .ptr id off=>match Jr bs id with
  | .box cells=>if cells.all XM && off.ble cells.length then some (.elt cells.length [cells] 0 off)else none
  | _=>none
 | a=>if JJ a then some a else none
def Xp(bs:BL):List AV->Option (List AV)
 | []=>some []
 | a::l=>match XZ bs a,Xp bs l with
  | some x,some y=>some (x::y)
  | _,_=>none
def JiJ(bs:BL)(nid:Nat)(f:Nat)(args:List AV)(r:AV):Option Out :=
 if args.all JJ then match r with
  | .fresh e k rows=>some ⟨.own nid rows.length,[(nid,.buf e k rows)],[],[.call f args r]⟩
  | .fbox g cells=>some ⟨.fn (.func g) [] [.ptr nid 0],[(nid,.box cells)],[],[.call f args r]⟩
  | r=>if JJ r then some ⟨r,[],[],[.call f args r]⟩else none
 else match Xp bs args with
  | some args'=>match r with
   | .fresh e k rows=>if rows.all (fun l=>l.all JbU)then some ⟨.own nid rows.length,[(nid,.buf e k rows)],[],[.call f args' r]⟩else none
   | r=>if JpA r then some ⟨r,[],[],[.call f args' r]⟩else none
  | none=>none
def QP:Op->Option (List Operand)
 | .move x | .assign x | .box _ x | .load _ x | .nilCheck x | .unOp _ _ x | .convert _ _ x | .fieldAddr _ x _ | .field _ x _ | .extract x _=>some [x]
 | .pick c a b=>some [c,a,b]
 | .alloc _=>some []
 | .build _ ps | .buildSlice _ _ ps=>some (ps.toList.map (·.2))
 | .store _ a x | .binOp _ _ a x _ | .makeSlice _ a x | .indexAddr _ a x | .index _ a x=>some [a,x]
 | .makeFunc _ f c=>some (f.toList++c.toList)
 | .slice _ x l h m=>some (x::(l.toList++h.toList++m.toList))
 | .makeMap _ none=>some []
 | .mapUpdate _ m k v=>some [m,k,v]
 | .lookup _ x i _=>some [x,i]
 | .range _ x=>some [x]
 | .next i true=>some [i]
 | .call c=>match c.callee with
  | .value f=>some (f::c.args.toList)
  | .builtin _=>some c.args.toList
  | .invoke _ _=>none
 | _=>none
def UO(id:Nat):List Nat->Option Nat
 | []=>none
 | x::l=>if x.beq id then some 0 else match UO id l with
  | some i=>some (i+1)
  | none=>none
def JaG(σ:List Nat)(id:Nat):Nat:=match UO id σ with
 | some i=>i+1
 | none=>0
def unN(σ:List Nat)(nid:Nat):Nat->Nat
 | 0=>0
 | c+1=>σ.getD c nid
def Jf3(g:Nat->Nat):AV->AV
 | .ptr id o=>.ptr (g id) o
 | .optr id i j=>.optr (g id) i j
 | .own id n=>.own (g id) n
 | .ref id=>.ref (g id)
 | .bsl id n=>.bsl (g id) n
 | .osl id lo n=>.osl (g id) lo n
 | a=>a
def VW(g:Nat->Nat):AV->AV
 | .fn f a b=>.fn f (a.map (Jf3 g)) (b.map (Jf3 g))
 | a=>Jf3 g a
def JM(g:Nat->Nat):ABlk->ABlk
 | .box cells=>.box (cells.map (VW g))
 | b=>b
def Jpz:Nat->List ABlk->BL
 | _,[]=>[]
 | i,b::l=>(i,b)::Jpz (i+1) l
def Jn2(bs:List ABlk):BL:=(0,.pins (bs.length+1))::Jpz 1 bs
def VK:List AV->List (AV × AV)
 | k::v::l=>(k,v)::VK l
 | _=>[]
def decB:AV->ABlk
 | .agg cells=>.box cells
 | .fresh e k rows=>.buf e k rows
 | .tup l=>.map (VK l)
 | _=>.dead
def mkC:ABlk->ABlk->Option (List Cd)
 | .dead,.dead=>some []
 | .box _,.box _=>some []
 | .buf e k r,.buf e' k' r'=>if e.beq e' && k.beq k' then some [r.length=r'.length]else none
 | .buf _ _ _,.dead=>some []
 | .map _,.map _=>some []
 | .map _,.dead=>some []
 | _,_=>none
def Jkh:ABlk->Bool
 | .box _ | .buf _ _ _ | .map _=>true
 | _=>false
def JbF:List ABlk->List ABlk->Option (List Cd)
 | [],[]=>some []
 | [],[b]=>if Jkh b then some []else none
 | x::l,y::m=>match mkC x y,JbF l m with
  | some c,some d=>some (c++d)
  | _,_=>none
 | _,_=>none
def U4(g:Nat->Nat)(nid:Nat):List Nat->List ABlk->BL
 | id::σ,b::fin=>(id,JM g b)::U4 g nid σ fin
 | [],b::_=>[(nid,JM g b)]
 | _,[]=>[]
def Ug:List Nat->Bool
 | []=>true
 | x::l=>!l.any (fun y=>y.beq x) && Ug l
def inN(n:Nat)(id:Nat):Bool:=!id.beq 0 && id.ble n
def isG:AV->Bool
 | .gv _ _ | .ax _=>true
 | _=>false
def JlY:AV->Bool
 | .gv _ _=>true
 | _=>false
def mapX(g:Nat->Nat):AV->AV
 | .ax l=>.ax (l.map (VW g))
 | a=>VW g a
def Jd7(bs:BL)(nid f:Nat)(σ:List Nat)(args:List AV)(r:AV)(fin:List ABlk):Option Out :=
 match JbF (σ.map fun id=>JM (JaG σ) (Jr bs id)) fin with
 | some cs =>
  if Ug σ && (!σ.any (fun i=>i.beq 0) && (!σ.any (fun i=>i.beq nid) && (args.all (fun x=>!isG x) && (!JlY r && ((Qn r).all (inN fin.length) && ((fin.flatMap JK).all (inN fin.length) && (σ.flatMap fun id=>JK (Jr bs id)).all (fun i=>!i.beq 0)))))))then
   some ⟨mapX (unN σ nid) r,U4 (unN σ nid) nid σ fin,cs,[.hand f (args.map (VW (JaG σ))) (σ.map fun id=>JM (JaG σ) (Jr bs id)) r fin]⟩
  else none
 | none=>none
def Vb:Op->List AV->List Nat
 | .load _ _,ins | .convert _ _ _,ins | .binOp _ _ _ _ _,ins | .store _ _ _,ins | .call _,ins | .mapUpdate _ _ _ _,ins | .lookup _ _ _ _,ins | .next _ _,ins | .nilCheck _,ins | .fieldAddr _ _ _,ins | .indexAddr _ _ _,ins | .slice _ _ _ _ _,ins=>ins.flatMap mids1
 | _,_=>[]
def two:List Nat->TT->Option TI
 | [t,u],T=>if t.beq u then lk t T else none
 | _,_=>none
def Jeu(T:TT)(nid:Nat)(fr:Bool)(ty:Nat):List AV->Option Out
 | [a] =>
  if fr then match a with
   | .ex v=>if QK v then match lk ty T with
    | some ti=>match ti.k with
     | .slice e es _=>some ⟨.own nid 0,[(nid,.buf e es [])],[],[]⟩
     | _=>none
    | none=>none
   else none
   | _=>none
  else out a
 | _=>none
def aMove:List AV->Option Out
 | [a]=>out a
 | _=>none
def Jox:List AV->Option Out
 | [.bool c,.bool a,.bool b]=>out (.bool (if c then a else b))
 | [.bool c,.gv g (.bool a),.bool b]=>out (.bool (if c then a else b)) [c=true->g=true]
 | [.bool c,.bool a,.gv g (.bool b)]=>out (.bool (if c then a else b)) [c=false->g=true]
 | [.bool true,.yb l k n,.bool _]=>out (.yb l k n)
 | _=>none
def JiW(T:TT)(nid:Nat)(fr:Bool)(t:Nat):Option Out :=
 match lk t T with
 | some ti=>if fr then out (.elt ti.zero.length [ti.zero] 0 0)else some ⟨.ptr nid 0,[(nid,.box ti.zero)],[],[]⟩
 | none=>none
def aBox(T:TT)(nid:Nat)(fr:Bool)(t:Nat):List AV->Option Out
 | [a]=>match lk t T with
  | some ti=>match QT ti.size ti.agg a with
   | some l=>if fr then(if l.all JJ then out (.elt l.length [l] 0 0)else none)else some ⟨.ptr nid 0,[(nid,.box l)],[],[]⟩
   | none=>none
  | none=>none
 | _=>none
def JiV(T:TT)(t:Nat)(ids:List Nat)(ins:List AV):Option Out :=
 match lk t T with
 | some ti=>match UV ti (ids.zip ins)with
  | some l=>out (.agg l)
  | none=>match JiM ti (ids.zip ins)with
   | some l=>out (.ax l)
   | none=>none
 | none=>none
def V2(T:TT)(nid:Nat)(fr:Bool)(t n:Nat)(ids:List Nat)(ins:List AV):Option Out :=
 match lk t T with
 | some ti=>match ti.k with
  | .slice e es _=>match lk e T with
   | some te =>
    if(n * es).ble 16777216 && te.zero.length.beq es && !es.beq 0 then
     match JF ((List.replicate n te.zero).flatten) ((ids.zip ins).map fun p=>(some (p.1 * es,es),p.2))with
     | some l=>if fr then out (.sl es (Qc es n l))else some ⟨.own nid n,[(nid,.buf e es (Qc es n l))],[],[]⟩
     | none=>if fr then none else match Xt ((List.replicate n te.zero).flatten) ((ids.zip ins).map fun p=>(some (p.1 * es,es),p.2))with
      | some l=>some ⟨.bsl nid n,[(nid,.box l)],[],[]⟩
      | none=>none
    else none
   | none=>none
  | _=>none
 | none=>none
def U0(T:TT)(nid:Nat)(fr:Bool)(t:Nat):List AV->Option Out
 | [.int _ n,.int _ c]=>match lk t T with
  | some ti=>match ti.k with
   | .slice e es eb=>match lk e T with
    | some te=>if te.zero.length.beq es && !es.beq 0 then
     (if fr then out (.sl es (List.replicate n.toNat te.zero)) [0<=n,n<=c,c<=9223372036854775807,c * eb<=140737488355328]
     else some ⟨.own nid n.toNat,[(nid,.buf e es (List.replicate n.toNat te.zero))],[0<=n,n<=c,c<=9223372036854775807,c * eb<=140737488355328],[]⟩)else none
    | none=>none
   | _=>none
  | none=>none
 | _=>none
def Jk4(T:TT)(t:Nat)(bs:BL):List AV->Option Out
 | [a]=>match lk t T with
  | some ti=>match a with
   | .elt k rows i j=>if(j+ti.size).ble k && (ti.agg || ti.size.beq 1)then
    (if ti.agg && j.beq 0 && ti.size.beq k then out (.agg (Ji rows i))else out (JT (Ji rows i) j ti.size ti.agg))else none
   | .ptr id off=>match Jr bs id with
    | .box cells=>if(off+ti.size).ble cells.length && (ti.agg || ti.size.beq 1) && (!ti.agg || ((cells.drop off).take ti.size).all XM)then
     out (JT cells off ti.size ti.agg)else if(off+ti.size).ble cells.length && ti.agg then out (.ax ((cells.drop off).take ti.size))else none
    | _=>none
   | .optr id i j=>match Jr bs id with
    | .buf _ k rows=>if(j+ti.size).ble k && (ti.agg || ti.size.beq 1)then
     (if ti.agg && j.beq 0 && ti.size.beq k then out (.agg (Ji rows i)) [i < rows.length]else out (JT (Ji rows i) j ti.size ti.agg) [i < rows.length])else none
    | _=>none
   | _=>none
  | none=>none
 | _=>none
def Jfu(T:TT)(t:Nat)(bs:BL):List AV->Option Out
 | [a,x]=>match lk t T with
  | some ti=>match QT ti.size ti.agg x with
   | some l=>match a with
    | .ptr id off=>match Jr bs id with
     | .box cells=>if(off+ti.size).ble cells.length then some ⟨.tup [],[(id,.box (splice cells off l))],[],[]⟩else none
     | _=>none
    | .optr id i j=>match Jr bs id with
     | .buf e k rows=>if(j+ti.size).ble k && l.all JJ then some ⟨.tup [],[(id,.buf e k (QI rows i j l))],[i < rows.length],[]⟩else none
     | _=>none
    | _=>none
   | none=>none
  | none=>none
 | _=>none
def Jfw(T:TT)(t:Nat)(bs:BL):List AV->Option Out
 | [a]=>match lk t T with
  | some ti=>match a with
   | .ptr id off=>match Jr bs id with
    | .box cells=>if !ti.agg && ti.size.beq 1 then out (nth cells off) [off+1<=cells.length]else none
    | _=>none
   | _=>none
  | none=>none
 | _=>none
def Jpy(off j:Nat)(c x:AV):AV × List Cd:=match c,x with
 | .int k n,.int k' m=>if k=k' then(.int k (if off=j then m else n),[])else(.int k n,[¬ off=j])
 | .bool n,.bool m=>(.bool (if off=j then m else n),[])
 | .str n,.str m=>(.str (if off=j then m else n),[])
 | c,_=>(c,[¬ off=j])
def Jj9(off:Nat)(x:AV):Nat->List AV->List AV × List Cd
 | _,[]=>([],[])
 | j,c::l=>((Jpy off j c x).1::(Jj9 off x (j+1) l).1,(Jpy off j c x).2++(Jj9 off x (j+1) l).2)
def Jb8(T:TT)(t:Nat)(bs:BL):List AV->Option Out
 | [a,x]=>match lk t T with
  | some ti=>match QT ti.size ti.agg x with
   | some [y]=>match a with
    | .ptr id off=>match Jr bs id with
     | .box cells=>some ⟨.tup [],[(id,.box (Jj9 off y 0 cells).1)],(off+ti.size<=cells.length:Prop)::(Jj9 off y 0 cells).2,[]⟩
     | _=>none
    | _=>none
   | _=>none
  | none=>none
 | _=>none
def isY:AV->Bool
 | .bool b=>b
 | _=>false
def Jax(bs:BL):List AV->Option Out
 | [a]=>match a with
  | .ptr id _=>if Jf6 bs id then out a else none
  | .optr id _ _=>if Jf5 bs id then out a else none
  | .elt _ _ _ _=>out a
  | .fn (.func _) _ _=>out a
  | _=>none
 | _=>none
def aBin(T:TT)(nw:Bool)(op:BinOp)(t:Nat)(bs:BL):List AV->Option Out
 | [.int k a,.int k' b]=>if k=k' then Jf7 op k a b nw else shrU op k k' a b
 | [.str a,.str b]=>Jm1 op a b
 | [.bool a,.bool b]=>match lk t T with
  | some ti=>match ti.k,op with
   | .bool,.eql=>out (.bool (a == b))
   | .bool,.neq=>out (.bool (!(a == b)))
   | _,_=>none
  | none=>none
 | [.agg l,.agg m]=>match lk t T with
  | some ti=>if ti.eqd then match op with
   | .eql=>match JbX T 9 t l m with
    | some x=>out (.bool x)
    | none=>none
   | .neq=>match JbX T 9 t l m with
    | some x=>out (.bool (!x))
    | none=>none
   | _=>none
   else none
  | none=>none
 | [.sl _ (_::_),.ex v]=>if QK v then match lk t T with
  | some ti=>match ti.k,op with
   | .slice _ _ _,.eql=>out (.bool false)
   | _,_=>none
  | none=>none
  else none
 | [.own id (_+1),.ex v]=>if QK v && Jf5 bs id then match lk t T with
  | some ti=>match ti.k,op with
   | .slice _ _ _,.eql=>out (.bool false)
   | _,_=>none
  | none=>none
  else none
 | _=>none
def aUn(nw:Bool)(op:UnOp):List AV->Option Out
 | [.int k a]=>match op with
  | .neg=>Jf7 .sub k 0 a nw
  | _=>none
 | [.bool a]=>match op with
  | .not=>out (.bool (!a))
  | _=>none
 | [.yb l k n]=>match op with
  | .not=>out (.yb l k (!n))
  | _=>none
 | _=>none
def Jc4:List (List AV)->Option (List Int)
 | []=>some []
 | [.int .u8 n]::l=>match Jc4 l with
  | some m=>some (n::m)
  | none=>none
 | _=>none
def Jcb(T:TT)(nid:Nat)(bs:BL)(s d:Nat):List AV->Option Out
 | [.int _ n]=>match lk d T,lk s T with
  | some ti,some _=>match ti.k with
   | .int k=>out (.int k (k.wrap n))
   | _=>none
  | _,_=>none
 | [.str l]=>match lk d T,lk s T with
  | some ti,some ts=>match ti.k,ts.k with
   | .str,.str=>out (.str l)
   | .slice e _ _,.str=>match lk e T with
    | some te=>match te.k with
     | .int .u8=>out (.sl 1 (l.map fun b=>[.int .u8 b.toNat])) [l.length<=9223372036854775807]
     | _=>none
    | none=>none
   | _,_=>none
  | _,_=>none
 | [.own id (n+1)]=>if s.beq d then match lk d T with
  | some ti=>match ti.k with
   | .slice e _ _=>match lk e T with
    | some te=>match te.k with
     | .int .u8=>match Jr bs id with
      | .buf _ k rows=>if rows.length.beq (n+1)then some ⟨.sl k rows,[(nid,.dead),(id,.dead)],[],[]⟩else none
      | _=>none
     | _=>none
    | none=>none
   | _=>none
  | none=>none
  else none
 | [.sl 1 (r::rows)]=>match lk d T,lk s T with
  | some ti,some ts=>match ti.k,ts.k with
   | .str,.slice e _ _=>match lk e T with
    | some te=>match te.k with
     | .int .u8=>match Jc4 (r::rows)with
      | some ns=>out (.str (ns.map fun n=>UInt8.ofNat n.toNat))
      | none=>none
     | _=>none
    | none=>none
   | _,_=>none
  | _,_=>none
 | _=>none
def Jay(f:Fn)(n m:Nat)(ins:List AV):Option Out :=
 if(ins.take n).length.beq n && (ins.drop n).length.beq m && (ins.take n).all Jc2 && (ins.drop n).all Jc2 then out (.fn f (ins.take n) (ins.drop n))else none
def U2(T:TT)(t f:Nat)(bs:BL):List AV->Option Out
 | [a]=>match lk t T with
  | some ti=>match ti.k with
   | .struct fs=>match fs[f]? with
    | some (off,_,size)=>if size.beq 0 then none else match a with
     | .ptr id o=>if Jf6 bs id then out (.ptr id (o+off))else none
     | .optr id i j=>if Jf5 bs id then out (.optr id i (j+off))else none
     | .elt k rows i j=>out (.elt k rows i (j+off))
     | _=>none
    | none=>none
   | _=>none
  | none=>none
 | _=>none
def JiT(T:TT)(t f:Nat):List AV->Option Out
 | [.agg l]=>match lk t T with
  | some ti=>match ti.k with
   | .struct fs=>match fs[f]? with
    | some (off,ft,size)=>match lk ft T with
     | some tf=>if(off+size).ble l.length && tf.size.beq size && (tf.agg || size.beq 1)then out (JT l off size tf.agg)else none
     | none=>none
    | none=>none
   | _=>none
  | none=>none
 | _=>none
def U1(T:TT)(t:Nat)(bs:BL):List AV->Option Out
 | [a,.int _ n]=>match lk t T with
  | some ti=>match ti.k with
   | .slice _ es _=>match a with
    | .sl k rows=>if k.beq es then out (.elt k rows n.toNat 0) [0<=n,n < rows.length]else none
    | .own id m=>match Jr bs id with
     | .buf _ k _=>if k.beq es then out (.optr id n.toNat 0) [0<=n,n < m]else none
     | _=>none
    | .bsl id m=>if Jf6 bs id then out (.ptr id (n.toNat * es)) [0<=n,n < m]else none
    | _=>none
   | .arr m _ es=>if m.ble 1 then none else match a with
    | .ptr id o=>if Jf6 bs id then out (.ptr id (o+n.toNat * es)) [0<=n,n < m]else none
    | .optr id i j=>if Jf5 bs id then out (.optr id i (j+n.toNat * es)) [0<=n,n < m]else none
    | .elt k rows i j=>if(j+m * es).ble k && !es.beq 0 then out (.elt es (Qc es m ((Ji rows i).drop j)) n.toNat 0) [0<=n,n < m]else out (.elt k rows i (j+n.toNat * es)) [0<=n,n < m]
    | _=>none
   | _=>none
  | none=>none
 | _=>none
def JiS(T:TT)(t:Nat):List AV->Option Out
 | [.str l,.int _ n]=>match lk t T with
  | some ti=>match ti.k with
   | .str=>out (.int .u8 ((l.getD n.toNat 0).toNat:Int)) [0<=n,n < l.length]
   | _=>none
  | none=>none
 | [.agg l,.int _ n]=>match lk t T with
  | some ti=>match ti.k with
   | .arr m e es=>match lk e T with
    | some te=>if l.length.beq (m * es) && te.size.beq es && (te.agg || es.beq 1)then out (JT l (n.toNat * es) es te.agg) [0<=n,n < m]else none
    | none=>none
   | _=>none
  | none=>none
 | _=>none
def Jca(i:Nat):List AV->Option Out
 | [.tup l]=>if i.blt l.length then out (nth l i)else none
 | _=>none
def Jar(len:Nat):Bool->Bool->List AV->Option (Int × Int)
 | false,false,[]=>some (0,len)
 | true,false,[.int _ l]=>some (l,len)
 | false,true,[.int _ h]=>some (0,h)
 | true,true,[.int _ l,.int _ h]=>some (l,h)
 | _,_,_=>none
def Jfv(T:TT)(t:Nat)(lo hi mx:Bool):List AV->Option Out
 | a::rest=>if mx then none else match lk t T with
  | some ti=>match ti.k,a with
   | .slice _ es _,.sl k rows=>match Jar rows.length lo hi rest with
    | some (l,h)=>if k.beq es then out (.sl k ((rows.drop l.toNat).take (h-l).toNat)) [0<=l,l<=h,h<=rows.length]else none
    | none=>none
   | .str,.str s=>match Jar s.length lo hi rest with
    | some (l,h)=>out (.str ((s.drop l.toNat).take (h-l).toNat)) [0<=l,l<=h,h<=s.length]
    | none=>none
   | .arr n _ es,.elt k rows i j =>
    if !lo && !hi && (j+n * es).ble k && !es.beq 0 && n.ble 9223372036854775807 then out (.sl es (Qc es n ((Ji rows i).drop j)))else none
   | _,_=>none
  | none=>none
 | _=>none
def Jaw(T:TT)(nid t:Nat)(lo hi mx:Bool)(bs:BL):List AV->Option Out
 | [a,.int _ h]=>if lo || mx || !hi then none else match lk t T with
  | some ti=>match ti.k with
   | .slice _ es _=>match a with
    | .own id n=>match Jr bs id with
     | .buf e k rows=>if k.beq es then some ⟨.own nid h.toNat,[(nid,.buf e k (rows.take h.toNat)),(id,.dead)],[0<=h,h<=n],[]⟩else none
     | _=>none
    | .ex v=>if QK v then out (.ex v) [0<=h,h<=0]else none
    | _=>none
   | _=>none
  | none=>none
 | _=>none
def UY(T:TT)(t:Nat)(lo hi mx:Bool)(bs:BL):List AV->Option Out
 | [.own id n,.int _ l]=>if mx || hi || !lo then none else match lk t T with
  | some ti=>match ti.k with
   | .slice _ es _=>match Jr bs id with
    | .buf _ k _=>if k.beq es then out (.osl id l.toNat n) [0<=l,l<=n]else none
    | _=>none
   | _=>none
  | none=>none
 | _=>none
def JiU(T:TT)(ts:List Nat)(bs:BL):List AV->Option Out
 | [.osl id lo n]=>match ts with
  | [t]=>match lk t T with
   | some ti=>match ti.k with
    | .slice e es _=>match lk e T with
     | some te=>match Jr bs id with
      | .buf e' k rows=>if e.beq e' && k.beq es && te.zero.length.beq es && !es.beq 0 then
       some ⟨.tup [],[(id,.buf e' k (rows.take lo++List.replicate (n-lo) te.zero))],[],[]⟩else none
      | _=>none
     | none=>none
    | _=>none
   | none=>none
  | _=>none
 | _=>none
def aCap(T:TT)(t:Option Nat):List AV->Option Out
 | [.ex v]=>match t with
  | some t=>match lk t T with
   | some ti=>match ti.k with
    | .slice _ _ _=>if QK v then out (.i 0)else none
    | _=>none
   | none=>none
  | none=>none
 | _=>none
def aLen(T:TT)(t:Option Nat)(bs:BL):List AV->Option Out
 | [a]=>match t with
  | some t=>match lk t T with
   | some ti=>match Jb7 bs ti.k a with
    | some n=>out (.int .i64 n)
    | none=>none
   | none=>none
  | none=>none
 | _=>none
def Jk5(f:Int->Int->Int):List AV->Option Out
 | .int k a::l=>match JcU f k a l with
  | some r=>out (.int k r)
  | none=>none
 | _=>none
def JoA(T:TT)(ts:List Nat)(bs:BL):List AV->Option Out
 | [.own id n,x]=>match two ts T with
  | some ti=>match ti.k with
   | .slice _ es _=>match VS bs es x with
    | some xs=>match Jr bs id with
     | .buf e' k rows=>if k.beq es && !es.beq 0 then
      some ⟨.i (min xs.length n:Nat),[(id,.buf e' k (xs.take n++rows.drop xs.length))],[],[]⟩else none
     | _=>none
    | none=>none
   | _=>none
  | none=>none
 | _=>none
def Jev(T:TT)(nid:Nat)(ts:List Nat)(bs:BL):List AV->Option Out
 | [s,x]=>match two ts T with
  | some ti=>match ti.k with
   | .slice e es eb=>match lk e T with
    | some _=>match VS bs es x with
     | some xs=>match s with
      | .own id n=>match Jr bs id with
       | .buf e' k rows=>if e.beq e' && k.beq es && !es.beq 0 then
        some ⟨.own nid (n+xs.length),[(nid,.buf e k (rows++xs)),(id,.dead)],[n+xs.length<=9223372036854775807,(n+xs.length) * eb<=140737488355328],[]⟩else none
       | _=>none
      | .ex v=>if QK v && !es.beq 0 then
       some ⟨.own nid xs.length,[(nid,.buf e es xs)],[xs.length<=9223372036854775807,xs.length * eb<=140737488355328],[]⟩else none
      | _=>none
     | none=>none
    | none=>none
   | _=>none
  | none=>none
 | _=>none
def Joz(T:TT)(nid:Nat)(ts:List Nat):List AV->Option Out
 | [.ex v,.int _ n]=>match ts with
  | [t,u]=>match lk t T,lk u T with
   | some ti,some tu=>match ti.k,tu.k with
    | .slice e es eb,.int _=>match lk e T with
     | some te=>if QK v && te.zero.length.beq es then
      some ⟨.own nid n.toNat,[(nid,.buf e es (List.replicate n.toNat te.zero))],[1<=n,n<=9223372036854775807,n * eb<=140737488355328],[]⟩else none
     | none=>none
    | _,_=>none
   | _,_=>none
  | _=>none
 | _=>none
def JoB(nid:Nat)(bs:BL)(res:AV):List AV->Option Out
 | .fn (.func f) fst cap::args=>match res with
  | .gv _ (.tup (r::fin))=>Jd7 bs nid f (US bs 2 (QU ((AV.fn (.func f) fst cap::args).flatMap mids1) [])) (fst++args++cap) r (fin.map decB)
  | res=>JiJ bs nid f (fst++args++cap) res
 | .yld l::args=>if args.all JJ then match Jr bs 0 with
  | .ready l' rows=>some ⟨.yb l' (rows.length+1) false,[(0,.trace l' (rows++[args]))],[l=l'],[.next rows args]⟩
  | _=>none
  else none
 | _=>none
def J7(k:AV):List (AV × AV)->Option (Option AV)
 | []=>some none
 | (k',v)::es=>match Qw k k' with
  | some true=>some (some v)
  | some false=>J7 k es
  | none=>none
def Q6(k v:AV):List (AV × AV)->Option (List (AV × AV))
 | []=>some [(k,v)]
 | (k',v')::es=>match Qw k k' with
  | some true=>some ((k,v)::es)
  | some false=>match Q6 k v es with
   | some es'=>some ((k',v')::es')
   | none=>none
  | none=>none
def Jb9(nid:Nat):List AV->Option Out
 | []=>some ⟨.ref nid,[(nid,.map [])],[],[]⟩
 | _=>none
def W9(T:TT)(kt:Nat)(k:AV):Bool:=match lk kt T with
 | some tk=>match tk.k with
  | .int _=>Xb tk.k k
  | .str=>Xb tk.k k
  | _=>false
 | none=>false
def JlW:Value->Bool
 | .map none=>true
 | _=>false
def JnM(bs:BL):AV->Option (List (AV × AV))
 | .ref id=>match Jr bs id with
  | .map es=>some es
  | _=>none
 | .ex v=>if JlW v then some []else none
 | _=>none
def JeC(ti:TI):Option AV:=if ti.agg then some (.agg ti.zero)else match ti.zero with
 | [z]=>some z
 | _=>none
def Um(ok:Bool)(z:AV):Option (Option AV)->AV
 | some (some v)=>if ok then .tup [v,.bool true]else v
 | _=>if ok then .tup [z,.bool false]else z
def Jet(T:TT)(t:Nat)(ok:Bool)(bs:BL):List AV->Option Out
 | [m,k]=>match lk t T with
  | some ti=>match ti.k with
   | .map kt et=>match JnM bs m with
    | some es=>if W9 T kt k then match lk et T with
     | some te=>match JeC te with
      | some z=>out (Um ok z (J7 k es)) [(J7 k es).isSome=true]
      | none=>none
     | none=>none
     else none
    | none=>none
   | _=>none
  | none=>none
 | _=>none
def UZ(T:TT)(t:Nat)(bs:BL):List AV->Option Out
 | [.ref id,k,v]=>match lk t T with
  | some ti=>match ti.k with
   | .map kt _=>match Jr bs id with
    | .map es=>if W9 T kt k && JJ v then some ⟨.tup [],[(id,.map ((Q6 k v es).getD []))],[(Q6 k v es).isSome=true],[]⟩
      else none
    | _=>none
   | _=>none
  | none=>none
 | _=>none
def JiR(T:TT)(nid t:Nat):List AV->Option Out
 | [.str l]=>match lk t T with
  | some ti=>match ti.k with
   | .str=>some ⟨.ref nid,[(nid,.iter l 0)],[],[]⟩
   | _=>none
  | none=>none
 | _=>none
def dec(l:List UInt8):Nat × Nat:=Utf8.decode ⟨l.toArray⟩ 0
def Joy(bs:BL):List AV->Option Out
 | [.ref id]=>match Jr bs id with
  | .iter l pos=>match l with
   | []=>out (.tup [.bool false])
   | c::r=>some ⟨.tup [.bool true,.i (pos:Nat),.int .i32 ((dec (c::r)).1:Nat)],[(id,.iter ((c::r).drop (dec (c::r)).2) (pos+(dec (c::r)).2))],[],[]⟩
  | _=>none
 | _=>none
def Jda(T:TT)(nid:Nat)(fr nw:Bool)(res:AV)(op:Op)(ty:Nat)(ins:List AV)(bs:BL):Option Out :=
 match op with
 | .move _=>aMove ins
 | .assign _=>Jeu T nid fr ty ins
 | .pick _ _ _=>Jox ins
 | .alloc t=>JiW T nid fr t
 | .box t _=>aBox T nid fr t ins
 | .build t parts=>JiV T t (parts.toList.map (·.1)) ins
 | .buildSlice t n parts=>V2 T nid fr t n (parts.toList.map (·.1)) ins
 | .makeSlice t _ _=>U0 T nid fr t ins
 | .load t _=>if isY res then Jfw T t bs ins else Jk4 T t bs ins
 | .store t _ _=>if isY res then Jb8 T t bs ins else Jfu T t bs ins
 | .nilCheck _=>Jax bs ins
 | .binOp op t _ _ _=>aBin T nw op t bs ins
 | .unOp op _ _=>aUn nw op ins
 | .convert s d _=>Jcb T nid bs s d ins
 | .makeFunc f first cap=>Jay f first.size cap.size ins
 | .fieldAddr t _ f=>U2 T t f bs ins
 | .field t _ f=>JiT T t f ins
 | .indexAddr t _ _=>U1 T t bs ins
 | .index t _ _=>JiS T t ins
 | .extract _ i=>Jca i ins
 | .slice t _ lo hi m=>match Jfv T t lo.isSome hi.isSome m.isSome ins with
  | some x=>some x
  | none=>match Jaw T nid t lo.isSome hi.isSome m.isSome bs ins with
   | some x=>some x
   | none=>UY T t lo.isSome hi.isSome m.isSome bs ins
 | .makeMap _ _=>Jb9 nid ins
 | .mapUpdate t _ _ _=>UZ T t bs ins
 | .lookup t _ _ ok=>Jet T t ok bs ins
 | .range t _=>JiR T nid t ins
 | .next _ _=>Joy bs ins
 | .call c=>match c.callee with
  | .builtin .len=>aLen T (c.argTypes[0]?) bs ins
  | .builtin .cap=>aCap T (c.argTypes[0]?) ins
  | .builtin .min=>Jk5 Jdj ins
  | .builtin .max=>Jk5 QN ins
  | .builtin .copy=>JoA T c.argTypes.toList bs ins
  | .builtin .clear=>JiU T c.argTypes.toList bs ins
  | .builtin .append=>match Jev T nid c.argTypes.toList bs ins with
   | some x=>some x
   | none=>Joz T nid c.argTypes.toList ins
  | .value _=>JoB nid bs res ins
  | _=>none
 | _=>none
structure Keeps(F:Nat->Prop)(B:Nat)(w w':World):Prop where
 os:w'.os=w.os
 tape:w'.tape=w.tape
 output:w'.output=w.output
 size:w.heap.size<=w'.heap.size
 block:∀ k,k < B->¬ F k->w'.heap[k]?=w.heap[k]?
theorem Keeps.refl(F:Nat->Prop)(B:Nat)(w:World):Keeps F B w w:=⟨rfl,rfl,rfl,Kr _,fun _ _ _=>rfl⟩
theorem Keeps.trans{F:Nat->Prop}{B:Nat}{a b c:World}(h:Keeps F B a b)(k:Keeps F B b c):Keeps F B a c :=
 ⟨k.os.trans h.os,k.tape.trans h.tape,k.output.trans h.output,Nat.le_trans h.size k.size,fun i hi hF=>(k.block i hi hF).trans (h.block i hi hF)⟩
theorem Keeps.of_below{F:Nat->Prop}{B B':Nat}{w w':World}(h:Below B' w w')(hB:B<=B'):Keeps F B w w' :=
 ⟨h.os,h.tape,h.output,h.size,fun i hi _=>h.block i (by omega)⟩
theorem Keeps.to_below{B:Nat}{w w':World}(h:Keeps (fun _=>False) B w w'):Below B w w':=⟨h.os,h.tape,h.output,h.size,fun i hi=>h.block i hi (fun h=>h)⟩
def rdy(w:World)(l:Nat):Bool:=match w.heap[l]? with
 | some (.loop r)=>r.state == .ready
 | _=>false
abbrev Pl:=Nat->Option Nat
def Yb(B:Nat->ABlk)(w:World)(l k:Nat)(n bv:Bool):Prop :=
 (∀ rows,B 0=.trace l rows->rows.length=k->bv=(rdy w l != n))/\(∀ l' rows,B 0=.ready l' rows->k<=rows.length)/\(∀ l' rows,B 0=.trace l' rows->k<=rows.length)
def SRep0(ρ:Pl)(B:Nat->ABlk)(X:Nat->Prop)(w:World)(v:Value):AV->Prop
 | .ptr id off=>v.oneCell'=true/\∀ cells,B id=.box cells->∃ b,ρ id=some b/\v=.pointer (some ⟨b,off,none⟩)
 | .optr id i j=>v.oneCell'=true/\∀ e k rows,B id=.buf e k rows->∃ b,ρ id=some b/\v=.pointer (some ⟨b,i * k+j,none⟩)
 | .own id n=>v.oneCell'=true/\∀ e k rows,B id=.buf e k rows->rows.length=n /\
  ((ρ id=none/\v=.slice none 0 0) ∨ (∃ b cap cur,ρ id=some b/\v=.slice (some ⟨b,0,none⟩) n cap/\w.heap[b]?=some (.cells cur e (0,0))/\n<=cap/\cap<=maxLen/\cur.size=cap * k))
 | .ref id=>v.oneCell'=true/\(∀ es,B id=.map es->∃ b,ρ id=some b/\v=.map (some b))/\(∀ l p,B id=.iter l p->∃ b,ρ id=some b/\v=.pointer (some ⟨b,0,none⟩))
 | .bsl id n=>v.oneCell'=true/\∀ cells,B id=.box cells->∃ b cap,ρ id=some b/\v=.slice (some ⟨b,0,none⟩) n cap/\n<=cap/\cap<=maxLen
 | .osl id lo n=>v.oneCell'=true/\∀ e k rows,B id=.buf e k rows->rows.length=n/\(n<=lo->∃ ad cap,v=.slice ad 0 cap)/\(lo < n->∃ b cap,ρ id=some b/\v=.slice (some ⟨b,lo * k,none⟩) (n-lo) cap)
 | .yld l=>v=.func (.yield l) #[] #[]
 | .yb l k n=>∃ bv,v=.bool bv/\Yb B w l k n bv
 | .gv _ _=>False
 | a=>Rep X w v a
def SRep1(ρ:Pl)(B:Nat->ABlk)(X:Nat->Prop)(w:World)(v:Value):AV->Prop
 | .fn f first cap=>∃ fs cs:Nat->Value,v=.func f ((List.range first.length).map fs).toArray ((List.range cap.length).map cs).toArray /\
  (∀ i,i < first.length->SRep0 ρ B X w (fs i) (nth first i))/\(∀ i,i < cap.length->SRep0 ρ B X w (cs i) (nth cap i))
 | a=>SRep0 ρ B X w v a
def Z(R:Value->AV->Prop)(cs:List Value)(l:List AV):Prop:=cs.length=l.length/\∀ (i:Nat) (v:Value) (a:AV),cs[i]?=some v->l[i]?=some a->R v a
def SRep(ρ:Pl)(B:Nat->ABlk)(X:Nat->Prop)(w:World)(v:Value):AV->Prop
 | .gv g a=>(g=true->SRep1 ρ B X w v a)/\(g=false->v=undef)
 | .ax l=>∃ arr:Array Value,v=.agg arr/\Z (fun v a=>v.oneCell'=true/\SRep1 ρ B X w v a) arr.toList l
 | a=>SRep1 ρ B X w v a
def JnU:AV->Bool
 | .int _ _ | .bool _ | .str _=>true
 | _=>false
def MapR(X:Nat->Prop)(w:World):List MapEntry->List (AV × AV)->Prop
 | [],[]=>True
 | e::l,(k,v)::m=>JnU k=true/\Rep X w e.key k/\Rep X w e.val v/\MapR X w l m
 | _,_=>False
def BlkOK(ρ:Pl)(B:Nat->ABlk)(X:Nat->Prop)(w:World)(id:Nat):Prop :=
 match B id with
 | .dead=>True
 | .box cells=>∃ b cs T,ρ id=some b/\w.heap[b]?=some (.cells cs T (0,0))/\cs.size=cells.length /\
  ∀ j,j < cells.length->(cs.getD j undef).oneCell'=true/\SRep1 ρ B X w (cs.getD j undef) (nth cells j)
 | .buf e k rows=>(∀ i,i < rows.length->(Ji rows i).length=k)/\rows.length<=maxLen /\
  ((ρ id=none/\rows=[]) ∨ ∃ b cur,ρ id=some b/\w.heap[b]?=some (.cells cur e (0,0))/\rows.length * k<=cur.size /\
    ∀ i,i < rows.length->∀ j,j < k->(cur.getD (i * k+j) undef).oneCell'=true/\Rep X w (cur.getD (i * k+j) undef) (nth (Ji rows i) j))
 | .map es=>∃ b arr clock,ρ id=some b/\w.heap[b]?=some (.map arr clock)/\MapR X w arr.toList es
 | .iter l pos=>∃ b s,ρ id=some b/\w.heap[b]?=some (.stringIter s pos)/\s.data.toList.drop pos=l
 | .pins _=>ρ id=none
 | .ready _ _ | .trace _ _ | .stop _=>True
structure Ctx where
 P:Program
 T:TT
 G:List (Nat × List AV)
 w0:World
 X0:Nat->Prop
 F:Nat->Prop
 nt:Nat
 J:Nat->List (List AV)->(Nat->Prop)->(Nat->Prop)->World->Prop
 D:Nat->(Nat->Prop)->(Nat->Prop)->World->Prop
 L:List (List AV)
 A:List Nat
 ρ0:Pl
 nr:Bool
def Ctx.withX(K:Ctx)(X:Nat->Prop):Ctx:={ K with X0:=X }
def XX(X0:Nat->Prop)(ρ:Pl)(B:Nat->ABlk)(b:Nat):Prop:=X0 b ∨ ∃ id,(B id).alive/\ρ id=some b
def own(ρ:Pl)(B:Nat->ABlk)(b:Nat):Prop:=∃ id,(B id).alive/\ρ id=some b
def XG(K:Ctx)(b:Nat):Prop:=K.X0 b ∨ K.F b ∨ K.w0.heap.size<=b
def GlobOK(X:Nat->Prop)(w:World)(g:Nat)(cells:List AV):Prop :=
 Rep X w (.pointer (some ⟨g,0,none⟩)) (.elt cells.length [cells] 0 0)/\∃ cs T z,w.heap[g]?=some (.cells cs T z)/\cs.size=cells.length
theorem GlobOK.mono{X X':Nat->Prop}{w w':World}(hs:w.heap.size<=w'.heap.size)(hb:∀ b,b < w.heap.size->¬ X b->w'.heap[b]?=w.heap[b]?)
 (hX:∀ b,b < w.heap.size->¬ X b->¬ X' b){g:Nat}{cells:List AV}(h:GlobOK X w g cells):GlobOK X' w' g cells:=by
 obtain⟨h1,cs,T,z,h2,h3⟩:=h
 refine⟨Rep.mono hs hb hX h1,cs,T,z,?_,h3⟩
 have hx:¬ X g:=by
  generalize hv:Value.pointer (some ⟨g,0,none⟩)=v at h1
  generalize ha:AV.elt cells.length [cells] 0 0=av at h1
  cases h1 with
  | elt b o k rows i0 j0 cv hb1 hX1 =>
   simp only[Value.pointer.injEq,Option.some.injEq,Addr.mk.injEq]at hv
   rw[hv.1]
   exact hX1
  | _=>first | cases ha | cases hv
 rw[hb g (Array.getElem?_eq_some_iff.1 h2).1 hx]
 exact h2
structure WStep(Y Y':Nat->Prop)(W W':World):Prop where
 os:W'.os=W.os
 tape:W'.tape=W.tape
 output:W'.output=W.output
 size:W.heap.size<=W'.heap.size
 block:∀ b,b < W.heap.size->¬ Y b->W'.heap[b]?=W.heap[b]?
 own:∀ b,Y' b->Y b ∨ W.heap.size<=b
structure Stab(J:Nat->List (List AV)->(Nat->Prop)->(Nat->Prop)->World->Prop)(D:Nat->(Nat->Prop)->(Nat->Prop)->World->Prop):Prop where
 j:∀ l rows X Y Y' W W',J l rows X Y W->WStep Y Y' W W'->J l rows X Y' W'
 d:∀ l X Y Y' W W',D l X Y W->WStep Y Y' W W'->D l X Y' W'
def YOK(P:Program)(L:List (List AV))(J:Nat->List (List AV)->(Nat->Prop)->(Nat->Prop)->World->Prop)(D:Nat->(Nat->Prop)->(Nat->Prop)->World->Prop):Prop :=
 ∀ l rows X Y W (args:List Value) x post,L=rows++x::post->J l rows X Y W->(∀ b,X b->b < W.heap.size)->(∀ b,Y b->b < W.heap.size/\¬ X b)->Z (Rep (fun b=>X b ∨ Y b) W) args x →
  ∃ f tmps assign body,(Instr.yield l args.toArray).run P W=.ok (.round l f tmps assign body) W /\
   ∀ n,RoundIn Fence.wide n P l f tmps assign body W fun e W'=>∃ X':Nat->Prop,e=.returned (.bool (rdy W' l))/\W'.os=W.os/\W'.tape=W.tape/\W'.output=W.output/\W.heap.size<=W'.heap.size /\
    (∀ b,X b->X' b)/\(∀ b,X' b->X b ∨ W.heap.size<=b)/\(∀ b,X' b->b < W'.heap.size)/\(∀ b,b < W.heap.size->¬ X b->W'.heap[b]?=W.heap[b]?) /\
    (rdy W' l=true->J l (rows++[x]) X' Y W')/\(rdy W' l=false->D l X' Y W')
structure Tr(K:Ctx)(ρ:Pl)(B:Nat->ABlk)(w:World):Prop where
 stab:Stab K.J K.D
 yok:YOK K.P K.L K.J K.D
 fx:(B 0).tracey->∀ b,K.X0 b->b < K.w0.heap.size->K.F b
 rd:∀ l rows,B 0=.ready l rows->K.X0 l/\K.J l rows K.X0 (own ρ B) w
 tr:∀ l rows,B 0=.trace l rows->K.X0 l/\(rdy w l=true->K.J l rows K.X0 (own ρ B) w)/\(rdy w l=false->K.D l K.X0 (own ρ B) w)
 st:∀ l,B 0=.stop l->K.D l K.X0 (own ρ B) w
def Je9(D:Nat):Deferred:={ target:=.collected D,args:=#[] }
def Marks(K:Ctx)(w:World)(l:List Deferred):Prop:=∃ Ds:List Nat,l=Ds.map Je9/\Ds.Nodup/\(∀ D,D ∈ Ds->w.heap[D]?=some (.deferred (some []))/\K.w0.heap.size<=D/\K.X0 D)/\(K.nr=false->l=[])
def sameSize(w w':World)(b:Nat):Prop:=∀ cur e,w.heap[b]?=some (.cells cur e (0,0))->∃ cur',w'.heap[b]?=some (.cells cur' e (0,0))/\cur'.size=cur.size
theorem sameSize.refl(w:World)(b:Nat):sameSize w w b:=fun cur _ hh=>⟨cur,hh,rfl⟩
theorem sameSize.trans{w w' w'':World}{b:Nat}(h:sameSize w w' b)(k:sameSize w' w'' b):sameSize w w'' b:=fun cur e hh =>
 let ⟨cur',h1,h2⟩:=h cur e hh
 let ⟨cur'',h3,h4⟩:=k cur' e h1
 ⟨cur'',h3,h4.trans h2⟩
theorem sameSize.of_eq{w w':World}{b:Nat}(h:w'.heap[b]?=w.heap[b]?):sameSize w w' b:=fun cur _ hh=>⟨cur,h.trans hh,rfl⟩
def Pins(K:Ctx)(ρ:Pl)(B:Nat->ABlk)(w:World):Prop :=
 ∀ n,B 0=.pins n->∀ id,id ≠ 0->id < n->(B id).alive->ρ id=K.ρ0 id/\∀ b,ρ id=some b->sameSize K.w0 w b
structure RelW(K:Ctx)(ρ:Pl)(slot:Nat->Option AV)(B:Nat->ABlk)(a:Act)(w:World):Prop where
 defers:Marks K w a.defers
 size:a.tmps.size=K.nt
 keeps:Keeps K.F K.w0.heap.size K.w0 w
 x0:∀ b,K.X0 b->b < w.heap.size
 glob:∀ g cells,lk g K.G=some cells->GlobOK (XG K) w g cells
 live:∀ id b,(B id).alive->ρ id=some b->(K.F b ∨ K.w0.heap.size<=b)/\¬ K.X0 b/\b < w.heap.size
 inj:∀ id id' b,(B id).alive->(B id').alive->ρ id=some b->ρ id'=some b->id=id'
 blks:∀ id,BlkOK ρ B (XX K.X0 ρ B) w id
 slots:∀ t av,slot t=some av->t < K.nt/\SRep ρ B (XX K.X0 ρ B) w (a.tmps.getD t undef) av
 trc:Tr K ρ B w
 dt:(B 0).tracey->a.defers=[]
 anc:∀ id,id ∈ K.A->(∃ cells,B id=.box cells)/\ρ id=K.ρ0 id
 pin:Pins K ρ B w
section
variable {ρ ρ' : Pl} {B B' : Nat → ABlk} {X X' : Nat → Prop} {w w' : World} {v : Value} {a : AV}
theorem SRep0.of_rep(h:Rep X w v a):SRep0 ρ B X w v a:=by
 cases a with
 | ptr _ _ | optr _ _ _ | own _ _ | ref _ | yld _ | yb _ _ _ | gv _ _ | bsl _ _ | osl _ _ _=>cases h
 | _=>exact h
theorem SRep1.of_rep(h:Rep X w v a):SRep1 ρ B X w v a:=by
 cases a with
 | fn f first cap =>
  cases h with
  | fn _ fs cs _ _ hf hc=>exact⟨fs,cs,rfl,fun i hi=>SRep0.of_rep (hf i hi),fun i hi=>SRep0.of_rep (hc i hi)⟩
 | _=>exact SRep0.of_rep (ρ:=ρ) (B:=B) h
theorem SRep.of_rep(h:Rep X w v a):SRep ρ B X w v a:=by
 cases a with
 | gv g a=>cases h
 | ax l=>cases h
 | _=>exact SRep1.of_rep (ρ:=ρ) (B:=B) h
theorem SRep.of1(h:SRep1 ρ B X w v a):SRep ρ B X w v a:=by
 cases a with
 | gv g a=>exact absurd h (by simp[SRep1,SRep0])
 | ax l=>exact absurd (show Rep X w v (.ax l)from h) (fun h=>by cases h)
 | _=>exact h
theorem SRep0.rep(hp:XM a=true)(h:SRep0 ρ B X w v a):Rep X w v a:=by
 cases a <;> simp[XM]at hp <;> exact h
theorem SRep1.rep(hp:JJ a=true)(h:SRep1 ρ B X w v a):Rep X w v a:=by
 cases a with
 | fn f first cap =>
  obtain⟨fs,cs,rfl,hf,hc⟩:=h
  simp only[JJ,Kd,List.all_eq_true]at hp
  refine .fn f fs cs first cap (fun i hi=>SRep0.rep ?_ (hf i hi)) (fun i hi=>SRep0.rep ?_ (hc i hi))
  . refine hp.1 _ ?_
    simp[nth,List.getD_eq_getElem?_getD,List.getElem?_eq_getElem hi]
  refine hp.2 _ ?_
  simp[nth,List.getD_eq_getElem?_getD,List.getElem?_eq_getElem hi]
 | ptr _ _ | optr _ _ _ | own _ _ | ref _ | yld _ | yb _ _ _ | gv _ _ | bsl _ _ | ax _ | osl _ _ _=>simp[JJ]at hp
 | _=>exact h
theorem SRep.one1(hp:JJ a=true)(h:SRep ρ B X w v a):Rep X w v a:=by
 cases a with
 | gv g a=>simp[JJ]at hp
 | ax l=>simp[JJ]at hp
 | _=>exact SRep1.rep (ρ:=ρ) (B:=B) hp h
def sameMake:ABlk->ABlk->Prop
 | .box _,.box _=>True
 | .buf e k r,.buf e' k' r'=>e=e'/\k=k'/\r.length=r'.length
 | .map _,.map _=>True
 | .iter _ _,.iter _ _=>True
 | .pins n,.pins m=>n=m
 | _,_=>False
theorem sameMake.refl{b:ABlk}(h:b.alive):sameMake b b:=by
 cases b <;> simp_all [sameMake,ABlk.alive]
theorem SRep0.mono(hs:w.heap.size<=w'.heap.size)(hb:∀ b,b < w.heap.size->¬ X b->w'.heap[b]?=w.heap[b]?)(hX:∀ b,b < w.heap.size->¬ X b->¬ X' b)
 (hB:∀ id,id ∈ mids0 a->(B' id).alive->sameMake (B id) (B' id)/\ρ' id=ρ id/\∀ b,ρ id=some b->sameSize w w' b)
 (hR:∀ l k n bv,Yb B w l k n bv->Yb B' w' l k n bv)
 (h:SRep0 ρ B X w v a):SRep0 ρ' B' X' w' v a:=by
 cases a with
 | ptr id off =>
  refine⟨h.1,fun cells hc=>?_⟩
  obtain⟨h1,h2,_⟩:=hB id (by simp[mids0]) (by rw[hc];trivial)
  rw[h2]
  rw[hc]at h1
  cases hBi:B id <;> rw[hBi]at h1 <;> simp[sameMake]at h1
  exact h.2 _ hBi
 | optr id i j =>
  refine⟨h.1,fun e k rows hc=>?_⟩
  obtain⟨h1,h2,_⟩:=hB id (by simp[mids0]) (by rw[hc];trivial)
  rw[h2]
  rw[hc]at h1
  cases hBi:B id <;> rw[hBi]at h1 <;> simp[sameMake]at h1
  obtain⟨rfl,rfl,_⟩:=h1
  exact h.2 _ _ _ hBi
 | own id n =>
  refine⟨h.1,fun e k rows hc=>?_⟩
  obtain⟨h1,h2,h3⟩:=hB id (by simp[mids0]) (by rw[hc];trivial)
  rw[h2]
  rw[hc]at h1
  cases hBi:B id <;> rw[hBi]at h1 <;> simp[sameMake]at h1
  obtain⟨rfl,rfl,hl⟩:=h1
  obtain⟨hn,h4⟩:=h.2 _ _ _ hBi
  refine⟨hl.symm.trans hn,?_⟩
  rcases h4 with h4 | ⟨b,cap,cur,hb1,hv,hh,hcap,hm,hcs⟩
  . exact .inl h4
  obtain⟨cur',hh',hs'⟩:=h3 b hb1 cur _ hh
  exact .inr ⟨b,cap,cur',hb1,hv,hh',hcap,hm,by rw[hs',hcs]⟩
 | ref id =>
  refine⟨h.1,fun es hc=>?_,fun l p hc=>?_⟩
  . obtain⟨h1,h2,_⟩:=hB id (by simp[mids0]) (by rw[hc];trivial)
    rw[h2]
    rw[hc]at h1
    cases hBi:B id <;> rw[hBi]at h1 <;> simp[sameMake]at h1
    exact h.2.1 _ hBi
  obtain⟨h1,h2,_⟩:=hB id (by simp[mids0]) (by rw[hc];trivial)
  rw[h2]
  rw[hc]at h1
  cases hBi:B id <;> rw[hBi]at h1 <;> simp[sameMake]at h1
  exact h.2.2 _ _ hBi
 | bsl id n =>
  refine⟨h.1,fun cells hc=>?_⟩
  obtain⟨h1,h2,_⟩:=hB id (by simp[mids0]) (by rw[hc];trivial)
  rw[h2]
  rw[hc]at h1
  cases hBi:B id <;> rw[hBi]at h1 <;> simp[sameMake]at h1
  exact h.2 _ hBi
 | osl id lo n =>
  refine⟨h.1,fun e k rows hc=>?_⟩
  obtain⟨h1,h2,h3⟩:=hB id (by simp[mids0]) (by rw[hc];trivial)
  rw[h2]
  rw[hc]at h1
  cases hBi:B id <;> rw[hBi]at h1 <;> simp[sameMake]at h1
  obtain⟨rfl,rfl,hl⟩:=h1
  obtain⟨hn,h4⟩:=h.2 _ _ _ hBi
  exact⟨hl.symm.trans hn,h4⟩
 | yld l=>exact h
 | yb l k n =>
  obtain⟨bv,hv,hb⟩:=h
  exact⟨bv,hv,hR l k n bv hb⟩
 | gv g a=>exact h
 | _=>exact Rep.mono hs hb hX h
theorem SRep0.ax{l:List AV}(h:SRep0 ρ B X w v (.ax l)):False:=by
 cases (show Rep X w v (.ax l)from h)
theorem Qe{l:List AV}{i:Nat}(h:i < l.length):nth l i ∈ l:=by
 simp[nth,List.getD_eq_getElem?_getD,List.getElem?_eq_getElem h]
theorem SRep1.mono(hs:w.heap.size<=w'.heap.size)(hb:∀ b,b < w.heap.size->¬ X b->w'.heap[b]?=w.heap[b]?)(hX:∀ b,b < w.heap.size->¬ X b->¬ X' b)
 (hB:∀ id,id ∈ mids1 a->(B' id).alive->sameMake (B id) (B' id)/\ρ' id=ρ id/\∀ b,ρ id=some b->sameSize w w' b)
 (hR:∀ l k n bv,Yb B w l k n bv->Yb B' w' l k n bv)
 (h:SRep1 ρ B X w v a):SRep1 ρ' B' X' w' v a:=by
 cases a with
 | fn f first cap =>
  obtain⟨fs,cs,rfl,hf,hc⟩:=h
  exact⟨fs,cs,rfl,fun i hi=>SRep0.mono hs hb hX (fun id hid=>hB id (by simp only[mids1,Kn];exact⟨_,List.mem_append_left _ (Qe hi),hid⟩)) hR (hf i hi),
   fun i hi=>SRep0.mono hs hb hX (fun id hid=>hB id (by simp only[mids1,Kn];exact⟨_,List.mem_append_right _ (Qe hi),hid⟩)) hR (hc i hi)⟩
 | _=>unfold SRep1 at h ⊢;exact SRep0.mono hs hb hX hB hR h
theorem SRep.mono(hs:w.heap.size<=w'.heap.size)(hb:∀ b,b < w.heap.size->¬ X b->w'.heap[b]?=w.heap[b]?)(hX:∀ b,b < w.heap.size->¬ X b->¬ X' b)
 (hB:∀ id,id ∈ Qn a->(B' id).alive->sameMake (B id) (B' id)/\ρ' id=ρ id/\∀ b,ρ id=some b->sameSize w w' b)
 (hR:∀ l k n bv,Yb B w l k n bv->Yb B' w' l k n bv)
 (h:SRep ρ B X w v a):SRep ρ' B' X' w' v a:=by
 cases a with
 | gv g a=>exact⟨fun hg=>SRep1.mono hs hb hX hB hR (h.1 hg),h.2⟩
 | ax l =>
  obtain⟨arr,rfl,hz⟩:=h
  exact⟨arr,rfl,hz.1,fun i v a hv ha=>⟨(hz.2 i v a hv ha).1,SRep1.mono hs hb hX (fun id hid=>hB id (List.mem_flatMap.2 ⟨a,List.mem_of_getElem? ha,hid⟩)) hR (hz.2 i v a hv ha).2⟩⟩
 | _=>unfold SRep at h ⊢;exact SRep1.mono hs hb hX hB hR h
theorem Z.nil{R:Value->AV->Prop}:Z R [] []:=⟨rfl,fun i v a h=>by simp at h⟩
theorem Z.cons{R:Value->AV->Prop}{v:Value}{a:AV}{cs:List Value}{l:List AV}(h:R v a)(t:Z R cs l):Z R (v::cs) (a::l):=by
 refine⟨by simp[t.1],fun i u b hu hb=>?_⟩
 cases i with
 | zero=>simp at hu hb;subst hu;subst hb;exact h
 | succ i=>simp at hu hb;exact t.2 i u b hu hb
theorem Z.uncons{R:Value->AV->Prop}{v:Value}{a:AV}{cs:List Value}{l:List AV}(h:Z R (v::cs) (a::l)):R v a/\Z R cs l :=
 ⟨h.2 0 v a rfl rfl,by simpa using h.1,fun i u b hu hb=>h.2 (i+1) u b (by simpa using hu) (by simpa using hb)⟩
theorem Z.append{R:Value->AV->Prop}{cs ds:List Value}{l m:List AV}(h:Z R cs l)(t:Z R ds m):Z R (cs++ds) (l++m):=by
 refine⟨by simp[h.1,t.1],fun i v a hv ha=>?_⟩
 rw[List.getElem?_append]at hv ha
 rw[h.1]at hv
 by_cases hi:i < l.length
 . rw[if_pos hi]at hv ha;exact h.2 i v a hv ha
 rw[if_neg hi]at hv ha;exact t.2 _ v a hv ha
theorem Z.take{R:Value->AV->Prop}{cs:List Value}{l:List AV}(h:Z R cs l)(n:Nat):Z R (cs.take n) (l.take n):=by
 refine⟨by simp[h.1],fun i v a hv ha=>?_⟩
 rw[List.getElem?_take]at hv ha
 by_cases hi:i < n
 . rw[if_pos hi]at hv ha;exact h.2 i v a hv ha
 rw[if_neg hi]at hv;cases hv
theorem Z.drop{R:Value->AV->Prop}{cs:List Value}{l:List AV}(h:Z R cs l)(n:Nat):Z R (cs.drop n) (l.drop n):=by
 refine⟨by simp[h.1],fun i v a hv ha=>?_⟩
 rw[List.getElem?_drop]at hv ha
 exact h.2 _ v a hv ha
theorem Z.mono{R R':Value->AV->Prop}{cs:List Value}{l:List AV}(h:Z R cs l)(hr:∀ v a,R v a->R' v a):Z R' cs l:=⟨h.1,fun i v a hv ha=>hr v a (h.2 i v a hv ha)⟩
theorem Z.mono_mem{R R':Value->AV->Prop}{cs:List Value}{l:List AV}(h:Z R cs l)(hr:∀ v a,a ∈ l->R v a->R' v a):Z R' cs l :=
 ⟨h.1,fun i v a hv ha=>hr v a (List.mem_of_getElem? ha) (h.2 i v a hv ha)⟩
theorem Z.at{R:Value->AV->Prop}{cs:List Value}{l:List AV}(h:Z R cs l){i:Nat}(hi:i < l.length):∃ v,cs[i]?=some v/\R v (nth l i):=by
 have hc:i < cs.length:=by rw[h.1];exact hi
 exact⟨cs[i],Kj hc,h.2 i _ _ (Kj hc) (by simp[nth,List.getD_eq_getElem?_getD,List.getElem?_eq_getElem hi])⟩
theorem Z.splice{R:Value->AV->Prop}{cs ds:List Value}{l m:List AV}(h:Z R cs l)(t:Z R ds m)(off:Nat):Z R (cs.take off++ds++cs.drop (off+ds.length)) (Av.splice l off m):=by
 unfold Av.splice
 rw[t.1]
 exact((h.take off).append t).append (h.drop _)
theorem Z.of_getD{R:Value->AV->Prop}{cs:Array Value}{l:List AV}(hs:cs.size=l.length)(h:∀ j,j < l.length->R (cs.getD j undef) (nth l j)):Z R cs.toList l:=by
 refine⟨by simpa using hs,fun i v a hv ha=>?_⟩
 have hi:i < l.length:=(List.getElem?_eq_some_iff.1 ha).1
 have:=h i hi
 have e1:cs.getD i undef=v:=by
  have hv':cs[i]?=some v:=by simpa using hv
  simp[Array.getD_eq_getD_getElem?,hv']
 have e2:nth l i=a:=by simp[nth,List.getD_eq_getElem?_getD,ha]
 rw[e1,e2]at this
 exact this
theorem Z.getD{R:Value->AV->Prop}{cs:Array Value}{l:List AV}(h:Z R cs.toList l):cs.size=l.length/\∀ j,j < l.length->R (cs.getD j undef) (nth l j):=by
 refine⟨by simpa using h.1,fun j hj=>?_⟩
 obtain⟨v,hv,hr⟩:=h.at hj
 have hv':cs[j]?=some v:=by simpa using hv
 rw[show cs.getD j undef=v by simp[Array.getD_eq_getD_getElem?,hv']]
 exact hr
def CP(X:Nat->Prop)(w:World)(v:Value)(a:AV):Prop:=v.oneCell'=true/\Rep X w v a
def CR(ρ:Pl)(B:Nat->ABlk)(X:Nat->Prop)(w:World)(v:Value)(a:AV):Prop:=v.oneCell'=true/\SRep1 ρ B X w v a
theorem Xs(arr:Array Value)(n:Nat)(h:arr.size=n):((List.range n).map (fun i=>arr.getD i undef)).toArray=arr:=by
 subst h
 apply Array.ext
 . simp
 intro i h1 h2
 simp[Array.getD,h2]
theorem Rep.agg_mk{X:Nat->Prop}{w:World}{arr:Array Value}{l:List AV}(h:Z (CP X w) arr.toList l):Rep X w (.agg arr) (.agg l):=by
 obtain⟨hs,hc⟩:=h.getD
 have:=Rep.agg (X:=X) (w:=w) (fun i=>arr.getD i undef) l (fun i hi=>(hc i hi).2) (fun i hi=>(hc i hi).1)
 rw[Xs arr l.length hs]at this
 exact this
theorem Rep.agg_inv{X:Nat->Prop}{w:World}{v:Value}{l:List AV}(h:Rep X w v (.agg l)):∃ arr:Array Value,v=.agg arr/\Z (CP X w) arr.toList l:=by
 cases h with
 | agg cs _ hr h1 =>
  refine⟨_,rfl,Z.of_getD (by simp) (fun j hj=>?_)⟩
  simp only[Kv,List.getElem?_toArray,Kk,List.getElem?_range hj,Option.map_some,Option.getD_some]
  exact⟨h1 j hj,hr j hj⟩
theorem Rep.tup_mk{X:Nat->Prop}{w:World}{arr:Array Value}{l:List AV}(h:Z (Rep X w) arr.toList l):Rep X w (.tuple arr) (.tup l):=by
 obtain⟨hs,hc⟩:=h.getD
 have:=Rep.tup (X:=X) (w:=w) (fun i=>arr.getD i undef) l (fun i hi=>hc i hi)
 rw[Xs arr l.length hs]at this
 exact this
theorem Rep.tup_inv{X:Nat->Prop}{w:World}{v:Value}{l:List AV}(h:Rep X w v (.tup l)):∃ arr:Array Value,v=.tuple arr/\Z (Rep X w) arr.toList l:=by
 cases h with
 | tup cs _ hr =>
  refine⟨_,rfl,Z.of_getD (by simp) (fun j hj=>?_)⟩
  simp only[Kv,List.getElem?_toArray,Kk,List.getElem?_range hj,Option.map_some,Option.getD_some]
  exact hr j hj
end
def upd{α:Type}(f:Nat->α)(k:Nat)(v:α):Nat->α:=fun i=>if i=k then v else f i
theorem Jb{α:Type}(f:Nat->α)(k:Nat)(v:α):upd f k v k=v:=by simp[upd]
theorem Jf{α:Type}(f:Nat->α){k i:Nat}(v:α)(h:i ≠ k):upd f k v i=f i:=by simp[upd,h]
section
variable {ρ ρ' : Pl} {B B' : Nat → ABlk} {X X' : Nat → Prop} {w w' : World}
theorem MapR.mono(hs:w.heap.size<=w'.heap.size)(hb:∀ b,b < w.heap.size->¬ X b->w'.heap[b]?=w.heap[b]?)(hX:∀ b,b < w.heap.size->¬ X b->¬ X' b) :
 ∀ {l:List MapEntry} {m:List (AV × AV)},MapR X w l m->MapR X' w' l m
 | [],[],_=>trivial
 | [],_::_,h=>h.elim
 | _::_,[],h=>h.elim
 | _::_,(_,_)::_,h=>⟨h.1,Rep.mono hs hb hX h.2.1,Rep.mono hs hb hX h.2.2.1,MapR.mono hs hb hX h.2.2.2⟩
theorem BlkOK.mono{id:Nat}(hs:w.heap.size<=w'.heap.size)(hb:∀ b,b < w.heap.size->¬ X b->w'.heap[b]?=w.heap[b]?)(hX:∀ b,b < w.heap.size->¬ X b->¬ X' b)
 (hBid:B' id=B id)(hρ:ρ' id=ρ id)(hself:∀ b,ρ id=some b->w'.heap[b]?=w.heap[b]?)
 (hB:∀ i,i ∈ JK (B id)->(B' i).alive->sameMake (B i) (B' i)/\ρ' i=ρ i/\∀ b,ρ i=some b->sameSize w w' b)
 (hR:∀ l k n bv,Yb B w l k n bv->Yb B' w' l k n bv)
 (h:BlkOK ρ B X w id):BlkOK ρ' B' X' w' id:=by
 unfold BlkOK at h ⊢
 rw[hBid]
 cases hBi:B id with
 | dead=>trivial
 | box cells =>
  rw[hBi]at h hB
  obtain⟨b,cs,T,hr,hh,hsz,hc⟩:=h
  refine⟨b,cs,T,by rw[hρ,hr],by rw[hself b hr,hh],hsz,fun j hj=>⟨(hc j hj).1,?_⟩⟩
  refine SRep1.mono hs hb hX (fun i hi=>hB i ?_) hR (hc j hj).2
  simp only[JK,Kn]
  exact⟨_,Qe hj,hi⟩
 | buf e k rows =>
  rw[hBi]at h
  obtain⟨hk,hm,h⟩:=h
  refine⟨hk,hm,?_⟩
  rcases h with⟨h1,h2⟩ | ⟨b,cur,hr,hh,hsz,hc⟩
  . exact .inl ⟨by rw[hρ,h1],h2⟩
  exact .inr ⟨b,cur,by rw[hρ,hr],by rw[hself b hr,hh],hsz,fun i hi j hj=>⟨(hc i hi j hj).1,Rep.mono hs hb hX (hc i hi j hj).2⟩⟩
 | map es =>
  rw[hBi]at h
  obtain⟨b,arr,clock,hr,hh,hm⟩:=h
  exact⟨b,arr,clock,by rw[hρ,hr],by rw[hself b hr,hh],hm.mono hs hb hX⟩
 | iter l pos =>
  rw[hBi]at h
  obtain⟨b,s,hr,hh,hm⟩:=h
  exact⟨b,s,by rw[hρ,hr],by rw[hself b hr,hh],hm⟩
 | pins n =>
  rw[hBi]at h
  exact hρ.trans h
 | _=>trivial
theorem Jy{id:Nat}(h:¬ (B id).alive):BlkOK ρ B X w id:=by
 unfold BlkOK
 cases hd:B id <;> simp_all [ABlk.alive]
end
section
variable {K : Ctx} {ρ ρ' : Pl} {slot slot' : Nat → Option AV} {B B' : Nat → ABlk} {a a' : Act} {w w' : World}
theorem Marks.mono{l:List Deferred}(h:Marks K w l)(hb:∀ D:Nat,w.heap[D]?=some (.deferred (some []))->w'.heap[D]?=w.heap[D]?):Marks K w' l :=
 let ⟨Ds,h1,h2,h3,h4⟩:=h
 ⟨Ds,h1,h2,fun D hD=>⟨(hb D (h3 D hD).1).trans (h3 D hD).1,(h3 D hD).2⟩,h4⟩
theorem WStep.refl{Y Y':Nat->Prop}{w:World}(h:∀ b,Y' b->Y b):WStep Y Y' w w:=⟨rfl,rfl,rfl,Kr _,fun _ _ _=>rfl,fun b hb=>.inl (h b hb)⟩
theorem WStep.of_keeps{F:Nat->Prop}{n:Nat}{Y Y':Nat->Prop}(hk:Keeps F n w w')(hb:∀ b,b < w.heap.size->¬ Y b->w'.heap[b]?=w.heap[b]?)(ho:∀ b,Y' b->Y b ∨ w.heap.size<=b):WStep Y Y' w w' :=
 ⟨hk.os,hk.tape,hk.output,hk.size,hb,ho⟩
theorem RelW.own_x0(h:RelW K ρ slot B a w){b:Nat}(hb:own ρ B b):¬ K.X0 b:=fun hx=>let ⟨id,ha,hr⟩:=hb;(h.live id b ha hr).2.1 hx
theorem RelW.rdy_same(h:RelW K ρ slot B a w){Y':Nat->Prop}(hs:WStep (own ρ B) Y' w w'){l:Nat}(hl:K.X0 l):rdy w' l=rdy w l:=by
 unfold rdy
 rw[hs.block l (h.x0 l hl) (fun ho=>h.own_x0 ho hl)]
theorem RelW.trc_mono(h:RelW K ρ slot B a w)(hB:∀ x,B' 0=x->x.tracey->B 0=x)(hs:WStep (own ρ B) (own ρ' B') w w'):Tr K ρ' B' w':=by
 refine⟨h.trc.stab,h.trc.yok,fun ht=>h.trc.fx (by rw[hB _ rfl ht];exact ht),fun l rows e=>?_,fun l rows e=>?_,fun l e=>?_⟩
 . obtain⟨h1,h2⟩:=h.trc.rd l rows (hB _ e trivial)
   exact⟨h1,h.trc.stab.j _ _ _ _ _ _ _ h2 hs⟩
 . obtain⟨h1,h2,h3⟩:=h.trc.tr l rows (hB _ e trivial)
   rw[h.rdy_same hs h1]
   exact⟨h1,fun e=>h.trc.stab.j _ _ _ _ _ _ _ (h2 e) hs,fun e=>h.trc.stab.d _ _ _ _ _ _ (h3 e) hs⟩
 exact h.trc.stab.d _ _ _ _ _ _ (h.trc.st l (hB _ e trivial)) hs
theorem RelW.hR(h:RelW K ρ slot B a w)(hB:∀ x,B' 0=x->x.tracey->B 0=x){Y':Nat->Prop}(hs:WStep (own ρ B) Y' w w'):∀ l k n bv,Yb B w l k n bv->Yb B' w' l k n bv:=fun l k n bv hy =>
 ⟨fun rows e hk=>by
  have h0:=hB _ e trivial
  rw[h.rdy_same hs (h.trc.tr l rows h0).1]
  exact hy.1 rows h0 hk,fun l' rows e=>hy.2.1 l' rows (hB _ e trivial),fun l' rows e=>hy.2.2 l' rows (hB _ e trivial)⟩
theorem RelW.own_obj(h:RelW K ρ slot B a w){id b:Nat}(ha:(B id).alive)(hr:ρ id=some b){x:Option (List Deferred)}:w.heap[b]? ≠ some (.deferred x):=by
 intro hd
 have hbl:=h.blks id
 unfold BlkOK at hbl
 cases hB:B id with
 | box cells =>
  rw[hB]at hbl
  obtain⟨b',cs,T,hr',hh,_⟩:=hbl
  rw[hr]at hr';cases hr'
  rw[hd]at hh;cases hh
 | buf e k rows =>
  rw[hB]at hbl
  obtain⟨_,_,hbl⟩:=hbl
  rcases hbl with⟨h1,_⟩ | ⟨b',cur,hr',hh,_⟩
  . rw[hr]at h1;cases h1
  rw[hr]at hr';cases hr'
  rw[hd]at hh;cases hh
 | map es =>
  rw[hB]at hbl
  obtain⟨b',arr,clock,hr',hh,_⟩:=hbl
  rw[hr]at hr';cases hr'
  rw[hd]at hh;cases hh
 | iter l pos =>
  rw[hB]at hbl
  obtain⟨b',s,hr',hh,_⟩:=hbl
  rw[hr]at hr';cases hr'
  rw[hd]at hh;cases hh
 | pins n =>
  rw[hB]at hbl
  have hbl:ρ id=none:=hbl
  rw[hr]at hbl;cases hbl
 | _=>rw[hB]at ha;exact ha.elim
theorem RelW.le_size(h:RelW K ρ slot B a w):K.w0.heap.size<=w.heap.size:=h.keeps.size
theorem RelW.xx_lt(h:RelW K ρ slot B a w){b:Nat}(hb:XX K.X0 ρ B b):b < w.heap.size:=by
 rcases hb with hb | ⟨id,ha,hr⟩
 . exact h.x0 b hb
 exact(h.live id b ha hr).2.2
theorem RelW.xg(h:RelW K ρ slot B a w){b:Nat}(hn:¬ XG K b):¬ XX K.X0 ρ B b:=by
 simp only[XG,not_or,Nat.not_le]at hn
 rintro(hx | ⟨id,ha,hr⟩)
 . exact hn.1 hx
 rcases(h.live id b ha hr).1 with hF | hge
 . exact hn.2.1 hF
 omega
theorem RelW.glob'(h:RelW K ρ slot B a w){g:Nat}{cells:List AV}(hg:lk g K.G=some cells):GlobOK (XX K.X0 ρ B) w g cells :=
 GlobOK.mono (Kr _) (fun _ _ _=>rfl) (fun _ _ hn=>h.xg hn) (h.glob g cells hg)
theorem RelW.globs(h:RelW K ρ slot B a w)(hk:Keeps K.F K.w0.heap.size w w') :
 ∀ g cells,lk g K.G=some cells->GlobOK (XG K) w' g cells:=fun g cells hg =>
 GlobOK.mono hk.size (fun b _ hn=>by
  simp only[XG,not_or,Nat.not_le]at hn
  exact hk.block b hn.2.2 hn.2.1) (fun _ _ hn=>hn) (h.glob g cells hg)
theorem RelW.world(h:RelW K ρ slot B a w)(hb:Below w.heap.size w w'):RelW K ρ slot B a w':=by
 have hk:Keeps K.F K.w0.heap.size w w':=Keeps.of_below hb h.le_size
 have hB:∀ i,(B i).alive->sameMake (B i) (B i)/\ρ i=ρ i/\∀ b,ρ i=some b->sameSize w w' b:=fun i hi =>
  ⟨sameMake.refl hi,rfl,fun b hr cur e hh=>⟨cur,by rw[hb.block b (h.live i b hi hr).2.2];exact hh,rfl⟩⟩
 have hs:WStep (own ρ B) (own ρ B) w w':=.of_keeps hk (fun b hlt _=>hb.block b hlt) (fun b hb=>.inl hb)
 have hR:=h.hR (B':=B) (fun x e _=>e) hs
 refine⟨Marks.mono h.defers (fun D hD=>hb.block D (Array.getElem?_eq_some_iff.1 hD).1),h.size,h.keeps.trans hk,fun b hx=>K0 (h.x0 b hx) hb.size,h.globs hk,fun id b ha hr=>⟨(h.live id b ha hr).1,(h.live id b ha hr).2.1,K0 (h.live id b ha hr).2.2 hb.size⟩,h.inj,fun id=>?_,fun t av ht=>⟨(h.slots t av ht).1,?_⟩,h.trc_mono (fun x e _=>e) hs,h.dt,h.anc,fun n e id h0 hlt ha=>⟨(h.pin n e id h0 hlt ha).1,fun b hr=>((h.pin n e id h0 hlt ha).2 b hr).trans (.of_eq (hb.block b (h.live id b ha hr).2.2))⟩⟩
 . by_cases ha:(B id).alive
   . exact BlkOK.mono hb.size (fun b hlt _=>hb.block b hlt) (fun _ _ hn=>hn) rfl rfl (fun b hr=>hb.block b (h.live id b ha hr).2.2) (fun i _ hi=>hB i hi) hR (h.blks id)
   exact Jy ha
 exact SRep.mono hb.size (fun b hlt _=>hb.block b hlt) (fun _ _ hn=>hn) (fun i _ hi=>hB i hi) hR (h.slots t av ht).2
theorem JkF{a:Act}{d t:Nat}{v:Value}(hd:d < a.tmps.size):(a.put (some d) v).tmps.getD t undef=if t=d then v else a.tmps.getD t undef:=by
 simp only[Act.put]
 by_cases h:t=d
 . subst h;simp[Array.getD_eq_getD_getElem?,hd]
 simp[Array.getD_eq_getD_getElem?,h,Ne.symm h]
theorem RelW.put(h:RelW K ρ slot B a w){d:Nat}{v:Value}{av:AV}(hd:d < K.nt)(hv:SRep ρ B (XX K.X0 ρ B) w v av) :
 RelW K ρ (upd slot d (some av)) B (a.put (some d) v) w:=by
 refine⟨h.defers,by simp[Act.put,h.size],h.keeps,h.x0,h.glob,h.live,h.inj,h.blks,fun t av' ht=>?_,h.trc,h.dt,h.anc,h.pin⟩
 rw[JkF (by rw[h.size];exact hd)]
 by_cases e:t=d
 . subst e
   rw[Jb]at ht
   cases ht
   exact⟨hd,by simpa using hv⟩
 . rw[Jf _ _ e]at ht
   rw[if_neg e]
   exact h.slots t av' ht
theorem RelW.put_none(h:RelW K ρ slot B a w){d:Nat}{v:Value}:RelW K ρ (upd slot d none) B (a.put (some d) v) w:=by
 refine⟨h.defers,by simp[Act.put,h.size],h.keeps,h.x0,h.glob,h.live,h.inj,h.blks,fun t av' ht=>?_,h.trc,h.dt,h.anc,h.pin⟩
 by_cases e:t=d
 . subst e
   rw[Jb]at ht
   cases ht
 rw[Jf _ _ e]at ht
 have:=(h.slots t av' ht)
 rw[show(a.put (some d) v).tmps.getD t undef=a.tmps.getD t undef by
  simp[Act.put,Array.getD_eq_getD_getElem?,Ne.symm e]]
 exact this
theorem RelW.weaken(h:RelW K ρ slot B a w)(hs:∀ t av,slot' t=some av->slot t=some av)(hB:∀ id,(B' id).alive->B' id=B id)(hT:∀ x,B' 0=x->x.tracey->B 0=x)(hA:∀ id,id ∈ K.A->B' id=B id):RelW K ρ slot' B' a w:=by
 have hX:∀ b,¬ XX K.X0 ρ B b->¬ XX K.X0 ρ B' b:=by
  rintro b hn (hx | ⟨id,ha,hr⟩)
  . exact hn (.inl hx)
  exact hn (.inr ⟨id,hB id ha ▸ ha,hr⟩)
 have hB':∀ i,(B' i).alive->sameMake (B i) (B' i)/\ρ i=ρ i/\∀ b,ρ i=some b->sameSize w w b:=fun i hi =>
  ⟨hB i hi ▸ sameMake.refl hi,rfl,fun b _ cur e hh=>⟨cur,hh,rfl⟩⟩
 have hst:WStep (own ρ B) (own ρ B') w w:=.refl fun b ⟨id,ha,hr⟩=>⟨id,hB id ha ▸ ha,hr⟩
 have hR:=h.hR hT hst
 refine⟨h.defers,h.size,h.keeps,h.x0,h.glob,fun id b ha hr=>h.live id b (hB id ha ▸ ha) hr,fun id id' b ha ha' hr hr'=>h.inj id id' b (hB id ha ▸ ha) (hB id' ha' ▸ ha') hr hr',fun id=>?_,fun t av ht=>?_,h.trc_mono hT hst,fun ht=>h.dt (by rw[hT _ rfl ht];exact ht),fun id hid=>by rw[hA id hid];exact h.anc id hid,fun n e id h0 hlt ha=>h.pin n ((hB 0 (by rw[e];trivial)).symm.trans e) id h0 hlt (hB id ha ▸ ha)⟩
 . by_cases ha:(B' id).alive
   . exact BlkOK.mono (Kr _) (fun _ _ _=>rfl) (fun b _ hn=>hX b hn) (hB id ha) rfl (fun _ _=>rfl) (fun i _ hi=>hB' i hi) hR (h.blks id)
   exact Jy ha
 obtain⟨h1,h2⟩:=h.slots t av (hs t av ht)
 exact⟨h1,SRep.mono (Kr _) (fun _ _ _=>rfl) (fun b _ hn=>hX b hn) (fun i _ hi=>hB' i hi) hR h2⟩
theorem RelW.fresh_xx(h:RelW K ρ slot B a w):¬ XX K.X0 ρ B w.heap.size:=fun hx=>Nat.lt_irrefl _ (h.xx_lt hx)
theorem RelW.replace(h:RelW K ρ slot B a w)(id nid:Nat)(blk:ABlk)(place:Option Nat)
 (hk:Keeps K.F K.w0.heap.size w w')
 (hnid:¬ (B nid).alive)(hnt:(B 0).tracey->nid ≠ 0)(hbt:¬ blk.tracey)(hbp:∀ n,blk ≠ .pins n)(hnb:∀ cells,B id ≠ .box cells)(hms:∀ t av,slot t=some av->nid ∉ Qn av)(hmb:∀ i,(B i).alive->nid ∉ JK (B i))
 (hout:∀ b,b < w.heap.size->¬ ((B id).alive/\ρ id=some b)->w'.heap[b]?=w.heap[b]?)
 (hplace:∀ b,place=some b->((B id).alive/\ρ id=some b) ∨ (w.heap.size<=b/\b < w'.heap.size))
 (hblk:(∀ v av,SRep1 ρ B (XX K.X0 ρ B) w v av->nid ∉ mids1 av->SRep1 (upd ρ nid place) (upd (upd B id .dead) nid blk) (XX K.X0 (upd ρ nid place) (upd (upd B id .dead) nid blk)) w' v av) →
  (∀ v av,Rep (XX K.X0 ρ B) w v av->Rep (XX K.X0 (upd ρ nid place) (upd (upd B id .dead) nid blk)) w' v av)->blk.alive->BlkOK (upd ρ nid place) (upd (upd B id .dead) nid blk) (XX K.X0 (upd ρ nid place) (upd (upd B id .dead) nid blk)) w' nid) :
 RelW K (upd ρ nid place) slot (upd (upd B id .dead) nid blk) a w' /\
  (∀ v av,SRep ρ B (XX K.X0 ρ B) w v av->nid ∉ Qn av->SRep (upd ρ nid place) (upd (upd B id .dead) nid blk) (XX K.X0 (upd ρ nid place) (upd (upd B id .dead) nid blk)) w' v av) /\
  (∀ v av,Rep (XX K.X0 ρ B) w v av->Rep (XX K.X0 (upd ρ nid place) (upd (upd B id .dead) nid blk)) w' v av):=by
 have hBo:∀ i,i ≠ nid->((upd (upd B id .dead) nid blk) i).alive->i ≠ id/\(upd (upd B id .dead) nid blk) i=B i/\(B i).alive:=by
  intro i hi ha
  rw[Jf _ _ hi]at ha ⊢
  by_cases e:i=id
  . subst e;rw[Jb]at ha;exact ha.elim
  rw[Jf _ _ e]at ha ⊢;exact⟨e,rfl,ha⟩
 have hle:K.w0.heap.size<=w.heap.size:=h.le_size
 have hown:∀ i b,i ≠ id->(B i).alive->ρ i=some b->w'.heap[b]?=w.heap[b]?:=by
  intro i b hi ha hr
  refine hout b (h.live i b ha hr).2.2 ?_
  rintro⟨ha',hr'⟩
  exact hi (h.inj i id b ha ha' hr hr')
 have hX:∀ b,b < w.heap.size->¬ XX K.X0 ρ B b->¬ XX K.X0 (upd ρ nid place) (upd (upd B id .dead) nid blk) b:=by
  rintro b hb hn (hx | ⟨i,ha,hr⟩)
  . exact hn (.inl hx)
  by_cases e:i=nid
  . subst e
    rw[Jb]at hr
    rcases hplace b hr with⟨h1,h2⟩ | ⟨h1,_⟩
    . exact hn (.inr ⟨id,h1,h2⟩)
    omega
  obtain⟨_,h2,h3⟩:=hBo i e ha
  rw[Jf _ _ e]at hr
  exact hn (.inr ⟨i,h3,hr⟩)
 have hread:∀ b,b < w.heap.size->¬ XX K.X0 ρ B b->w'.heap[b]?=w.heap[b]?:=fun b hb hn=>hout b hb (fun hx=>hn (.inr ⟨id,hx.1,hx.2⟩))
 have hB':∀ i,i ≠ nid->((upd (upd B id .dead) nid blk) i).alive->sameMake (B i) ((upd (upd B id .dead) nid blk) i)/\(upd ρ nid place) i=ρ i/\∀ b,ρ i=some b->sameSize w w' b:=by
  intro i e ha
  obtain⟨h1,h2,h3⟩:=hBo i e ha
  rw[h2,Jf _ _ e]
  exact⟨sameMake.refl h3,rfl,fun b hr cur e' hh=>⟨cur,by rw[hown i b h1 h3 hr];exact hh,rfl⟩⟩
 have hT:∀ x,(upd (upd B id .dead) nid blk) 0=x->x.tracey->B 0=x:=by
  intro x e ht
  by_cases e0:0=nid
  . rw[e0,Jb]at e;rw[<- e]at ht;exact absurd ht hbt
  rw[Jf _ _ e0]at e
  by_cases e1:0=id
  . rw[e1,Jb]at e;rw[<- e]at ht;exact ht.elim
  rw[Jf _ _ e1]at e;exact e
 have hst:WStep (own ρ B) (own (upd ρ nid place) (upd (upd B id .dead) nid blk)) w w':=by
  refine .of_keeps hk (fun b hb hn=>hout b hb (fun hx=>hn ⟨id,hx.1,hx.2⟩)) (fun b ⟨i,ha,hr⟩=>?_)
  by_cases e:i=nid
  . subst e
    rw[Jb]at hr
    rcases hplace b hr with⟨h1,h2⟩ | ⟨h1,_⟩
    . exact .inl ⟨id,h1,h2⟩
    exact .inr h1
  obtain⟨_,h2,h3⟩:=hBo i e ha
  rw[Jf _ _ e]at hr
  exact .inl ⟨i,h3,hr⟩
 have hR:=h.hR hT hst
 have hm1:∀ v av,SRep1 ρ B (XX K.X0 ρ B) w v av->nid ∉ mids1 av->SRep1 (upd ρ nid place) (upd (upd B id .dead) nid blk) (XX K.X0 (upd ρ nid place) (upd (upd B id .dead) nid blk)) w' v av:=fun v av hv hn =>
  SRep1.mono hk.size hread hX (fun i hi=>hB' i (fun e=>hn (e ▸ hi))) hR hv
 have hm:∀ v av,SRep ρ B (XX K.X0 ρ B) w v av->nid ∉ Qn av->SRep (upd ρ nid place) (upd (upd B id .dead) nid blk) (XX K.X0 (upd ρ nid place) (upd (upd B id .dead) nid blk)) w' v av:=fun v av hv hn =>
  SRep.mono hk.size hread hX (fun i hi=>hB' i (fun e=>hn (e ▸ hi))) hR hv
 have hrp:∀ v av,Rep (XX K.X0 ρ B) w v av->Rep (XX K.X0 (upd ρ nid place) (upd (upd B id .dead) nid blk)) w' v av:=fun v av hv=>Rep.mono hk.size hread hX hv
 refine⟨⟨Marks.mono h.defers (fun D hD=>hout D (Array.getElem?_eq_some_iff.1 hD).1 (fun hx=>h.own_obj hx.1 hx.2 hD)),h.size,h.keeps.trans hk,fun b hx=>K0 (h.x0 b hx) hk.size,h.globs hk,?_,?_,?_,fun t av ht=>⟨(h.slots t av ht).1,hm _ _ (h.slots t av ht).2 (hms t av ht)⟩,h.trc_mono hT hst,fun ht=>h.dt (by rw[hT _ rfl ht];exact ht),fun i hi=>?_,?_⟩,hm,hrp⟩
 . intro i b ha hr
   by_cases e:i=nid
   . subst e
     rw[Jb]at hr
     rcases hplace b hr with⟨h1,h2⟩ | ⟨h1,h2⟩
     . exact⟨(h.live id b h1 h2).1,(h.live id b h1 h2).2.1,K0 (h.live id b h1 h2).2.2 hk.size⟩
     exact⟨.inr (by omega),fun hx=>by have:=h.x0 b hx;omega,h2⟩
   obtain⟨_,h2,h3⟩:=hBo i e ha
   rw[Jf _ _ e]at hr
   exact⟨(h.live i b h3 hr).1,(h.live i b h3 hr).2.1,K0 (h.live i b h3 hr).2.2 hk.size⟩
 . intro i i' b ha ha' hr hr'
   have key:∀ j b,j ≠ nid->((upd (upd B id .dead) nid blk) j).alive->ρ j=some b->place=some b->False:=by
    intro j b e ha hr hp
    obtain⟨h1,_,h3⟩:=hBo j e ha
    rcases hplace b hp with⟨h4,h5⟩ | ⟨h4,_⟩
    . exact h1 (h.inj j id b h3 h4 hr h5)
    have:=(h.live j b h3 hr).2.2;omega
   by_cases e:i=nid
   . by_cases e':i'=nid
     . rw[e,e']
     subst e
     rw[Jb]at hr
     rw[Jf _ _ e']at hr'
     exact(key i' b e' ha' hr' hr).elim
   by_cases e':i'=nid
   . subst e'
     rw[Jb]at hr'
     rw[Jf _ _ e]at hr
     exact(key i b e ha hr hr').elim
   rw[Jf _ _ e]at hr
   rw[Jf _ _ e']at hr'
   exact h.inj i i' b (hBo i e ha).2.2 (hBo i' e' ha').2.2 hr hr'
 . intro i
   by_cases ha:((upd (upd B id .dead) nid blk) i).alive
   . by_cases e:i=nid
     . subst e
       rw[Jb]at ha
       exact hblk hm1 hrp ha
     obtain⟨h1,h2,h3⟩:=hBo i e ha
     exact BlkOK.mono hk.size hread hX h2 (Jf _ _ e) (fun b hr=>hown i b h1 h3 hr) (fun j hj=>hB' j (fun ej=>hmb i h3 (ej ▸ hj))) hR (h.blks i)
   exact Jy ha
 . obtain⟨⟨cells,hc⟩,hr⟩:=h.anc i hi
   have e1:i ≠ nid:=fun e=>hnid (by rw[<- e,hc];trivial)
   have e2:i ≠ id:=fun e=>hnb cells (by rw[<- e];exact hc)
   exact⟨⟨cells,by rw[Jf _ _ e1,Jf _ _ e2];exact hc⟩,by rw[Jf _ _ e1];exact hr⟩
 . intro n e i h0 hlt ha
   have e0:0 ≠ nid:=fun e0=>by rw[e0,Jb]at e;exact hbp n e
   have hB0:=(hBo 0 e0 (by rw[e];trivial)).2.1.symm.trans e
   have hnn:nid ∉ List.range n:=by
    have:=hmb 0 (by rw[hB0];trivial)
    rw[hB0]at this
    exact this
   have en:i ≠ nid:=fun en=>hnn (List.mem_range.2 (by omega))
   obtain⟨h1,h2,h3⟩:=hBo i en ha
   obtain⟨h4,h5⟩:=h.pin n hB0 i h0 hlt h3
   rw[Jf _ _ en]
   exact⟨h4,fun b hr=>(h5 b hr).trans (.of_eq (hown i b h1 h3 hr))⟩
theorem RelW.modify(h:RelW K ρ slot B a w)(id:Nat)(blk:ABlk)
 (hk:Keeps K.F K.w0.heap.size w w')
 (hmake:sameMake (B id) blk)(hal:(B id).alive)(hsz:∀ b,ρ id=some b->sameSize w w' b)
 (hout:∀ b,b < w.heap.size->ρ id ≠ some b->w'.heap[b]?=w.heap[b]?)
 (hblk:(∀ v av,SRep1 ρ B (XX K.X0 ρ B) w v av->SRep1 ρ (upd B id blk) (XX K.X0 ρ (upd B id blk)) w' v av) →
  (∀ v av,Rep (XX K.X0 ρ B) w v av->Rep (XX K.X0 ρ (upd B id blk)) w' v av)->BlkOK ρ (upd B id blk) (XX K.X0 ρ (upd B id blk)) w' id) :
 RelW K ρ slot (upd B id blk) a w':=by
 have hba:blk.alive:=by
  cases hb:B id <;> cases blk <;> simp_all [sameMake,ABlk.alive]
 have hal':∀ i,((upd B id blk) i).alive->(B i).alive:=by
  intro i ha
  by_cases e:i=id
  . subst e;exact hal
  rw[Jf _ _ e]at ha;exact ha
 have hown:∀ i b,i ≠ id->(B i).alive->ρ i=some b->w'.heap[b]?=w.heap[b]?:=by
  intro i b hi ha hr
  refine hout b (h.live i b ha hr).2.2 ?_
  intro hr'
  exact hi (h.inj i id b ha hal hr hr')
 have hT:∀ x,(upd B id blk) 0=x->x.tracey->B 0=x:=by
  intro x e ht
  by_cases e0:0=id
  . rw[e0,Jb]at e
    rw[<- e]at ht
    cases blk <;> simp_all [ABlk.alive,ABlk.tracey]
  rw[Jf _ _ e0]at e;exact e
 have hst:WStep (own ρ B) (own ρ (upd B id blk)) w w' :=
  .of_keeps hk (fun b hb hn=>hout b hb (fun hx=>hn ⟨id,hal,hx⟩)) (fun b ⟨i,ha,hr⟩=>.inl ⟨i,hal' i ha,hr⟩)
 have hR:=h.hR hT hst
 have hX:∀ b,b < w.heap.size->¬ XX K.X0 ρ B b->¬ XX K.X0 ρ (upd B id blk) b:=by
  rintro b hb hn (hx | ⟨i,ha,hr⟩)
  . exact hn (.inl hx)
  exact hn (.inr ⟨i,hal' i ha,hr⟩)
 have hread:∀ b,b < w.heap.size->¬ XX K.X0 ρ B b->w'.heap[b]?=w.heap[b]?:=fun b hb hn=>hout b hb (fun hx=>hn (.inr ⟨id,hal,hx⟩))
 have hB':∀ i,((upd B id blk) i).alive->sameMake (B i) ((upd B id blk) i)/\ρ i=ρ i/\∀ b,ρ i=some b->sameSize w w' b:=by
  intro i ha
  by_cases e:i=id
  . subst e
    rw[Jb]
    exact⟨hmake,rfl,hsz⟩
  rw[Jf _ _ e]at ha ⊢
  exact⟨sameMake.refl ha,rfl,fun b hr cur e' hh=>⟨cur,by rw[hown i b e ha hr];exact hh,rfl⟩⟩
 refine⟨Marks.mono h.defers (fun D hD=>hout D (Array.getElem?_eq_some_iff.1 hD).1 (fun hx=>h.own_obj hal hx hD)),h.size,h.keeps.trans hk,fun b hx=>K0 (h.x0 b hx) hk.size,h.globs hk,?_,?_,?_,fun t av ht=>⟨(h.slots t av ht).1,SRep.mono hk.size hread hX (fun i _=>hB' i) hR (h.slots t av ht).2⟩,h.trc_mono hT hst,fun ht=>h.dt (by rw[hT _ rfl ht];exact ht),fun i hi=>?_,?_⟩
 . intro i b ha hr
   exact⟨(h.live i b (hal' i ha) hr).1,(h.live i b (hal' i ha) hr).2.1,K0 (h.live i b (hal' i ha) hr).2.2 hk.size⟩
 . intro i i' b ha ha' hr hr'
   exact h.inj i i' b (hal' i ha) (hal' i' ha') hr hr'
 . intro i
   by_cases ha:((upd B id blk) i).alive
   . by_cases e:i=id
     . subst e
       exact hblk (fun v av hv=>SRep1.mono hk.size hread hX (fun i _=>hB' i) hR hv) (fun v av hv=>Rep.mono hk.size hread hX hv)
     have ha2:=ha
     rw[Jf _ _ e]at ha2
     exact BlkOK.mono hk.size hread hX (Jf _ _ e) rfl (fun b hr=>hown i b e ha2 hr) (fun j _=>hB' j) hR (h.blks i)
   exact Jy ha
 . obtain⟨⟨cells,hc⟩,hr⟩:=h.anc i hi
   by_cases e:i=id
   . subst e
     rw[Jb]
     rw[hc]at hmake
     cases blk <;> first | exact hmake.elim | exact⟨⟨_,rfl⟩,hr⟩
   exact⟨⟨cells,by rw[Jf _ _ e];exact hc⟩,hr⟩
 . intro n e i h0 hlt ha
   have hB0:B 0=.pins n:=by
    by_cases e0:0=id
    . subst e0
      rw[Jb]at e
      rw[e]at hmake
      cases hb:B 0 <;> rw[hb]at hmake <;> first | exact hmake.elim | exact congrArg _ hmake
    rw[Jf _ _ e0]at e;exact e
   obtain⟨h4,h5⟩:=h.pin n hB0 i h0 hlt (hal' i ha)
   refine⟨h4,fun b hr=>(h5 b hr).trans ?_⟩
   by_cases ei:i=id
   . subst ei;exact hsz b hr
   exact .of_eq (hown i b ei (hal' i ha) hr)
end
def TOK(P:Program)(T:TT):Prop:=∀ t ti,lk t T=some ti->mkTI P t=some ti
theorem TOK.of_map{P:Program}{T:TT}(h:T.map (fun p=>mkTI P p.1)=T.map (fun p=>some p.2)):TOK P T:=by
 induction T with
 | nil=>intro t ti h;simp[lk]at h
 | cons p T ih =>
  obtain⟨u,x⟩:=p
  simp only[List.map_cons,List.cons.injEq]at h
  intro t ti ht
  simp only[lk]at ht
  by_cases e:u.beq t
  . rw[if_pos e]at ht
    cases ht
    rw[<- Kc e]
    exact h.1
  rw[if_neg e]at ht
  exact ih h.2 t ti ht
def JQ(P:Program)(d:TypeDesc)(k:TK)(agg:Bool):Prop :=
 match d with
 | .int q=>k=.int q/\agg=false
 | .bool=>k=.bool/\agg=false
 | .string=>k=.str/\agg=false
 | .slice e=>agg=false/\∃ ei,P.info? e=some ei/\k=.slice e ei.size ei.bytes
 | .array n e=>agg=true/\∃ ei,P.info? e=some ei/\k=.arr n e ei.size
 | .struct fs => agg = true /\ fs.toList.any (fun f => f.name == "_") = false /\ ∃ l, fs.toList.mapM (fun f => (P.info? f.type).map fun fi => (f.offset, f.type, fi.size)) = some l /\ k = .struct l
 | .map q e=>k=.map q e/\agg=false
 | _=>k=.other/\agg=false
structure TIOK(P:Program)(t:Nat)(ti:TI)(d:TypeDesc)(i:TypeInfo)(z:Value):Prop where
 und:P.underlying t=some d
 info:P.info? t=some i
 zero:i.zero=some z
 size:ti.size=i.size
 bytes:ti.bytes=i.bytes
 cells:ti.zero=z.cells.toList.map ofV
 zsize:z.cells.size=i.size
 one:∀ c ∈ z.cells.toList,c.oneCell'=true
 kind:JQ P d ti.k ti.agg
 zagg:JcN z=ti.agg
 eqd:ti.eqd=true->ti.agg=true/\P.stoodInHeld t=false/\P.eqGuardType P.depth t=false
theorem Jk{P:Program}{t:Nat}{ti:TI}(h:mkTI P t=some ti):∃ d i z,TIOK P t ti d i z:=by
 unfold mkTI at h
 cases hu:P.underlying t with
 | none=>rw[hu]at h;simp at h
 | some d =>
  cases hi:P.info? t with
  | none=>rw[hu,hi]at h;simp at h
  | some i =>
   rw[hu,hi]at h
   cases hz:i.zero with
   | none=>simp[hz]at h
   | some z =>
    simp only[hz]at h
    refine⟨d,i,z,?_⟩
    have key:∀ (k:TK) (agg:Bool),(if(z.cells.toList.all Value.oneCell' && z.cells.size.beq i.size && Jk3 agg z)=true then some { k,size:=i.size,bytes:=i.bytes,agg,zero:=z.cells.toList.map ofV,eqd:=agg && !(P.stoodInHeld t) && !(P.eqGuardType P.depth t) }else none)=some ti->JQ P d k agg->TIOK P t ti d i z:=by
     intro k agg hk hkind
     by_cases hc:(z.cells.toList.all Value.oneCell' && z.cells.size.beq i.size && Jk3 agg z)=true
     · rw[if_pos hc]at hk
       cases hk
       simp only[Kd,List.all_eq_true]at hc
       exact⟨hu,hi,hz,rfl,rfl,rfl,Kc hc.1.2,hc.1.1,hkind,by
        have h2:=hc.2
        cases agg <;> simpa[Jk3]using h2,fun he=>by
        have h1:(agg && !(P.stoodInHeld t) && !(P.eqGuardType P.depth t))=true:=he
        simp only[Kd,Ks]at h1
        exact⟨h1.1.1,h1.1.2,h1.2⟩⟩
     rw[if_neg hc]at hk;cases hk
    cases d with
    | slice e =>
     cases he:P.info? e with
     | none=>simp[he]at h
     | some ei=>simp only[he]at h;exact key _ _ h ⟨rfl,ei,he,rfl⟩
    | array n e =>
     cases he:P.info? e with
     | none=>simp[he]at h
     | some ei=>simp only[he]at h;exact key _ _ h ⟨rfl,ei,he,rfl⟩
    | struct fs =>
     cases hn : fs.toList.any (fun f => f.name == "_") with
     | true=>simp only[hn,if_true]at h;cases h
     | false =>
     simp only[hn,Bool.false_eq_true,if_false]at h
     cases he:(fs.toList.mapM fun f=>(P.info? f.type).map fun fi=>(f.offset,f.type,fi.size))with
     | none=>simp[he]at h
     | some l=>simp only[he]at h;exact key _ _ h ⟨rfl,hn,l,he,rfl⟩
    | _=>exact key _ _ h ⟨rfl,rfl⟩
def fen(r:Option Nat):Fence:={ Fence.wide with round:=r }
theorem callsIn_fen{r:Option Nat}{n:Nat}{P:Program}{f:FuncId}{args:Array Value}{w:World}{R:Ending->World->Prop}:CallsIn (fen r) n P f args w R ↔ Calls P f args w R :=
 (show CallsIn Fence.wide n P f args w R ↔ Calls P f args w R from callsIn_wide)
def Does(P:Program)(o:Oper)(a:Act)(w:World)(post:Value->World->Prop):Prop :=
 ∀ (r:Option Nat) (n:Nat) (next:Act->World->Prop) (Q:Exit->Act->World->Prop),(∀ v w',post v w'->next (a.put o.dst v) w')->o.wpIn (fen r) n P a w next Q
theorem Does.mono{P:Program}{o:Oper}{a:Act}{w:World}{post post':Value->World->Prop}(h:Does P o a w post)(hp:∀ v w',post v w'->post' v w'):Does P o a w post' :=
 fun r n next Q hn=>h r n next Q fun v w' hv=>hn v w' (hp v w' hv)
def Jkv:Next->Bool
 | .defer _=>true
 | _=>false
theorem X7{P:Program}{o:Oper}{a:Act}{w w':World}{x:Next}(r:Option Nat)(h:(execOp a.eval o).run P w=.ok x w')(hx:Jkv x=false):(o.semAt r a.eval).run P w=.ok x w':=by
 rw[Oper.semAt_eq r a.eval o ?_]
 . exact h
 intro c hc
 unfold execOp at h
 rw[hc]at h
 simp only[Ki]at h
 cases hres:(resolve a.eval c o.type).run P w with
 | ok d w1 =>
  rw[hres]at h
  simp only[Ke,Sem.run_pure,Result.ok.injEq]at h
  rw[<- h.1]at hx
  cases hx
 | halt y w1=>rw[hres]at h;simp[Result.andThen]at h
theorem Does.of_run{P:Program}{o:Oper}{a:Act}{w:World}{post:Value->World->Prop}{v:Value}{w':World}
 (h:(execOp a.eval o).run P w=.ok (.value v) w')(hp:post v w'):Does P o a w post:=by
 intro r n next Q hn
 refine⟨fun _ _=>trivial,?_⟩
 rw[show(fen r).round=r from rfl,X7 r h rfl]
 exact hn v w' hp
theorem Does.of_skip{P:Program}{o:Oper}{a:Act}{w:World}{post:Value->World->Prop}{w':World}
 (h:(execOp a.eval o).run P w=.ok .skip w')(hp:post undef w'):Does P o a w post:=by
 intro r n next Q hn
 refine⟨fun _ _=>trivial,?_⟩
 rw[show(fen r).round=r from rfl,X7 r h rfl]
 exact hn undef w' hp
def wrB(B:Nat->ABlk):BL->Nat->ABlk
 | []=>B
 | (id,blk)::l=>upd (wrB B l) id blk
def Post(K:Ctx)(slot:Nat->Option AV)(B:Nat->ABlk)(a:Act)(wr:BL)(av:AV)(v:Value)(w':World):Prop :=
 ∃ ρ',RelW K ρ' slot (wrB B wr) a w'/\SRep ρ' (wrB B wr) (XX K.X0 ρ' (wrB B wr)) w' v av
def Xe(ρ:Pl)(B:Nat->ABlk)(X:Nat->Prop)(w:World)(a:Act):List Operand->List AV->Prop
 | [],[]=>True
 | x::xs,av::ins=>SRep ρ B X w (a.eval x) av/\Xe ρ B X w a xs ins
 | _,_=>False
section
variable {K : Ctx} {ρ : Pl} {slot : Nat → Option AV} {B : Nat → ABlk} {a : Act} {w : World}
theorem Does.pureV(h:RelW K ρ slot B a w){o:Oper}{v:Value}{av:AV}(hr:(execOp a.eval o).run K.P w=.ok (.value v) w)(hv:SRep ρ B (XX K.X0 ρ B) w v av) :
 Does K.P o a w (Post K slot B a [] av):=Does.of_run hr ⟨ρ,h,hv⟩
theorem SRep.int_inv{X:Nat->Prop}{v:Value}{k:IntKind}{n:Int}(h:SRep ρ B X w v (.int k n)):v=.int k n:=by
 cases (show Rep X w v (.int k n)from h);rfl
theorem SRep.bool_inv{X:Nat->Prop}{v:Value}{b:Bool}(h:SRep ρ B X w v (.bool b)):v=.bool b:=by
 cases (show Rep X w v (.bool b)from h);rfl
theorem SRep.str_inv{X:Nat->Prop}{v:Value}{l:List UInt8}(h:SRep ρ B X w v (.str l)):v=.string ⟨l.toArray⟩:=by
 cases (show Rep X w v (.str l)from h);rfl
theorem SRep.ex_inv{X:Nat->Prop}{v u:Value}(h:SRep ρ B X w v (.ex u)):v=u:=by
 cases (show Rep X w v (.ex u)from h);rfl
theorem SRep.mk_int{X:Nat->Prop}(k:IntKind)(n:Int):SRep ρ B X w (.int k n) (.int k n):=SRep.of_rep (.int k n)
theorem SRep.mk_bool{X:Nat->Prop}(b:Bool):SRep ρ B X w (.bool b) (.bool b):=SRep.of_rep (.bool b)
theorem SRep.mk_str{X:Nat->Prop}(l:List UInt8):SRep ρ B X w (.string ⟨l.toArray⟩) (.str l):=SRep.of_rep (.str l)
theorem Qs{n:Int}(h:Jc n):IntKind.i64.wrap n=n:=IntWalk.i64_in n ⟨h.1,h.2⟩
def All:List Cd->Prop
 | []=>True
 | ⟨p,_⟩::l=>p/\All l
theorem JhO{x:Int}(h0:0<=x)(h:Jc x):(BitVec.ofInt 64 x).toNat=x.toNat:=by
 have h1:=h.2
 rw[BitVec.toNat_ofInt]
 rw[Int.emod_eq_of_lt h0 (by simp;omega)]
theorem JhP{x:Int}(h0:0<=x)(h:x<=65535):(BitVec.ofInt 16 x).toNat=x.toNat:=by
 rw[BitVec.toNat_ofInt]
 rw[Int.emod_eq_of_lt h0 (by simp;omega)]
theorem JjK{n:Int}(h0:0<=n)(h:n<=65535):IntKind.u16.wrap n=n:=by
 have h1:n % ((2:Int) ^ IntKind.u16.bits)=n:=Int.emod_eq_of_lt h0 (show n < (2:Int) ^ 16 by omega)
 unfold IntKind.wrap
 dsimp only
 rw[h1]
 rfl
theorem JjQ(h:RelW K ρ slot B a w){o:Oper}{op:BinOp}{t u:Nat}{x y:Operand}{k k':IntKind}{n m:Int}{ou:Out}(ho:o.op=.binOp op t x y u)
 (hx:a.eval x=.int k n)(hy:a.eval y=.int k' m)(hout:shrU op k k' n m=some ou)(hc:All ou.cond) :
 ou.wr=[]/\ou.obl=[]/\Does K.P o a w (Post K slot B a [] ou.v):=by
 unfold shrU at hout
 split at hout
 . cases hout
   have h1:=hc.1
   have h2:=hc.2.1
   have hexec:∀ v,(do eqGuard .shr t x y (.int .u16 n) (.int .i64 m);binOp .shr t (.int .u16 n) (.int .i64 m):Sem Value).run K.P w=.ok v w->(execOp a.eval o).run K.P w=.ok (.value v) w:=by
    intro v hv
    unfold execOp
    rw[ho]
    simp only[hx,hy]
    simp only[Ki]at hv ⊢
    rw[hv];rfl
   have hg:(eqGuard .shr t x y (.int .u16 n) (.int .i64 m)).run K.P w=.ok () w:=rfl
   refine⟨rfl,rfl,Does.pureV h (hexec _ ?_) (SRep.mk_int _ _)⟩
   simp only[Ki,hg,Ke]
   simp only[binOp,Op.shift]
   rw[if_neg (by omega),show min m.toNat (IntKind.bits .u16)=m.toNat from Nat.min_eq_left (by show m.toNat<=16;omega)]
   rfl
 . cases hout
theorem JnW(h:RelW K ρ slot B a w){o:Oper}{op:BinOp}{t u:Nat}{x y:Operand}{k:IntKind}{n m:Int}{nw:Bool}{ou:Out}(ho:o.op=.binOp op t x y u)
 (hx:a.eval x=.int k n)(hy:a.eval y=.int k m)(hout:Jf7 op k n m nw=some ou)(hc:All ou.cond) :
 ou.wr=[]/\ou.obl=[]/\Does K.P o a w (Post K slot B a [] ou.v):=by
 have hexec:∀ v,(do eqGuard op t x y (.int k n) (.int k m);binOp op t (.int k n) (.int k m):Sem Value).run K.P w=.ok v w->(execOp a.eval o).run K.P w=.ok (.value v) w:=by
  intro v hv
  unfold execOp
  rw[ho]
  simp only[hx,hy]
  simp only[Ki]at hv ⊢
  rw[hv];rfl
 have hg:(eqGuard op t x y (.int k n) (.int k m)).run K.P w=.ok () w:=by
  unfold eqGuard;cases op <;> rfl
 cases op <;> simp only[Jf7,out,reduceCtorEq]at hout
 case add | sub | mul =>
  by_cases hb:(nw && decide (k=.i64))=true
  . rw[if_pos hb]at hout
    cases hout
    simp only[Kd,Ko]at hb
    obtain⟨_,rfl⟩:=hb
    refine⟨rfl,rfl,Does.pureV h (hexec _ ?_) (SRep.mk_int _ _)⟩
    simp only[Ki,hg,Ke]
    have:=Qs hc.1
    simp[binOp,Op.intArith,this]
  rw[if_neg hb]at hout
  cases hout
  refine⟨rfl,rfl,Does.pureV h (hexec _ ?_) (SRep.mk_int _ _)⟩
  simp only[Ki,hg,Ke]
  simp[binOp,Op.intArith]
 case quo =>
  by_cases hb:(nw && decide (k=.i64))=true
  . rw[if_pos hb]at hout
    cases hout
    simp only[Kd,Ko]at hb
    obtain⟨_,rfl⟩:=hb
    refine⟨rfl,rfl,Does.pureV h (hexec _ ?_) (SRep.mk_int _ _)⟩
    simp only[Ki,hg,Ke]
    have h1:=hc.1
    have:=Qs hc.2.1
    simp[binOp,Op.intDiv,this,h1]
  rw[if_neg hb]at hout
  cases hout
  refine⟨rfl,rfl,Does.pureV h (hexec _ ?_) (SRep.mk_int _ _)⟩
  simp only[Ki,hg,Ke]
  have h1:=hc.1
  simp[binOp,Op.intDiv,h1]
 case rem =>
  cases hout
  refine⟨rfl,rfl,Does.pureV h (hexec _ ?_) (SRep.mk_int _ _)⟩
  simp only[Ki,hg,Ke]
  have h1:=hc.1
  simp[binOp,Op.intDiv,h1]
 case shl =>
  split at hout
  . rename_i hk
    cases hout
    obtain rfl:=Ky hk
    have h1:=hc.1
    have h2:=hc.2.1
    have h3:=Qs hc.2.2.1
    refine⟨rfl,rfl,Does.pureV h (hexec _ ?_) (SRep.mk_int _ _)⟩
    simp only[Ki,hg,Ke]
    unfold shlI at h3 ⊢
    rw[<- h3]
    simp only[binOp,Op.shift]
    rw[if_neg (by omega),show min m.toNat (IntKind.bits .i64)=m.toNat from Nat.min_eq_left (by show m.toNat<=64;omega),h3]
    rfl
  cases hout
 case shr =>
  split at hout
  . rename_i hk
    cases hout
    obtain rfl:=Ky hk
    have h1:=hc.1
    have h2:=hc.2.1
    refine⟨rfl,rfl,Does.pureV h (hexec _ ?_) (SRep.mk_int _ _)⟩
    simp only[Ki,hg,Ke]
    simp only[binOp,Op.shift]
    rw[if_neg (by omega),show min m.toNat (IntKind.bits .i64)=m.toNat from Nat.min_eq_left (by show m.toNat<=64;omega)]
    rfl
  cases hout
 case and =>
  split at hout
  . rename_i hk
    cases hout
    obtain rfl:=Ky hk
    have h1:=JhO hc.1 hc.2.2.1
    have h2:=JhO hc.2.1 hc.2.2.2.1
    have h3:IntKind.i64.wrap (((n.toNat &&& m.toNat:Nat)):Int)=((n.toNat &&& m.toNat:Nat):Int):=Qs (by
     have h5:n.toNat &&& m.toNat<=n.toNat:=Nat.and_le_left
     have h6:=hc.2.2.1.2
     have h7:=hc.1
     unfold Jc
     omega)
    refine⟨rfl,rfl,Does.pureV h (hexec _ ?_) (SRep.mk_int _ _)⟩
    simp only[Ki,hg,Ke]
    unfold andI
    rw[<- h3]
    have e:(BitVec.ofInt 64 n &&& BitVec.ofInt 64 m).toNat=n.toNat &&& m.toNat:=by rw[BitVec.toNat_and,h1,h2]
    rw[h3,<- h3,<- e]
    rfl
  split at hout
  . rename_i _ hk
    cases hout
    obtain rfl:=Ky hk
    have h1:=JhP hc.1 hc.2.1
    have h2:=JhP hc.2.2.1 hc.2.2.2.1
    have h3:IntKind.u16.wrap (((n.toNat &&& m.toNat:Nat)):Int)=((n.toNat &&& m.toNat:Nat):Int):=by
     have h5:n.toNat &&& m.toNat<=n.toNat:=Nat.and_le_left
     have h6:=hc.2.1
     have h7:=hc.1
     exact JjK (by omega) (by omega)
    refine⟨rfl,rfl,Does.pureV h (hexec _ ?_) (SRep.mk_int _ _)⟩
    simp only[Ki,hg,Ke]
    unfold andI
    rw[<- h3]
    have e:(BitVec.ofInt 16 n &&& BitVec.ofInt 16 m).toNat=n.toNat &&& m.toNat:=by rw[BitVec.toNat_and,h1,h2]
    rw[h3,<- h3,<- e]
    rfl
  cases hout
 all_goals
  cases hout
  refine⟨rfl,rfl,Does.pureV h (hexec _ ?_) (SRep.mk_bool _)⟩
  simp only[Ki,hg,Ke]
  simp[binOp,Op.intCmp]
theorem SRep.one_cell{X:Nat->Prop}{v:Value}{av:AV}(ho:one av=true)(h:SRep ρ B X w v av):v.oneCell'=true:=by
 cases av with
 | agg _ | tup _ | gv _ _ | ax _=>simp[one]at ho
 | ptr _ _ | optr _ _ _ | own _ _ | ref _ | bsl _ _ | osl _ _ _=>exact h.1
 | yld l=>obtain rfl:v=_:=h;rfl
 | yb l k n=>obtain⟨bv,rfl,_⟩:=h;rfl
 | fn f first cap=>obtain⟨fs,cs,rfl,_⟩:=h;rfl
 | ex u =>
  have h':Rep X w v (.ex u):=h
  cases h' with
  | ex _ h1=>exact h1
 | any =>
  have h':Rep X w v .any:=h
  cases h' with
  | any _ h1=>exact h1
 | _ =>
  have h':Rep X w v _:=h
  cases h' <;> rfl
theorem SRep.to1{X:Nat->Prop}{v:Value}{av:AV}(ho:one av=true)(h:SRep ρ B X w v av):SRep1 ρ B X w v av:=by
 cases av with
 | agg _ | tup _ | gv _ _ | ax _=>simp[one]at ho
 | _=>exact h
theorem Jam{v:Value}(h:v.oneCell'=true):v.cells=#[v]:=by
 cases v <;> simp_all [Value.oneCell',Value.cells]
theorem Jao{X:Nat->Prop}{v:Value}{av:AV}{n:Nat}{agg:Bool}{l:List AV}(hc:QT n agg av=some l)(h:SRep ρ B X w v av) :
 Z (CR ρ B X w) v.cells.toList l/\l.length=n:=by
 cases av with
 | agg m =>
  simp only[QT]at hc
  by_cases hb:(agg && m.length.beq n)=true
  . rw[if_pos hb]at hc
    cases hc
    simp only[Kd]at hb
    obtain⟨arr,rfl,hz⟩:=Rep.agg_inv (show Rep X w v (.agg l)from h)
    exact⟨hz.mono fun v a hv=>⟨hv.1,SRep1.of_rep hv.2⟩,Kc hb.2⟩
  rw[if_neg hb]at hc;cases hc
 | ax m =>
  simp only[QT]at hc
  by_cases hb:(agg && m.length.beq n)=true
  . rw[if_pos hb]at hc
    cases hc
    simp only[Kd]at hb
    obtain⟨arr,rfl,hz⟩:=(show ∃ arr:Array Value,v=.agg arr/\Z (CR ρ B X w) arr.toList l from h)
    exact⟨hz,Kc hb.2⟩
  rw[if_neg hb]at hc;cases hc
 | _ =>
  simp only[QT]at hc
  split at hc
  . rename_i hb
    cases hc
    simp only[Kd]at hb
    have h1:=SRep.one_cell hb.1.2 h
    rw[Jam h1]
    exact⟨Z.cons ⟨h1,SRep.to1 hb.1.2 h⟩ Z.nil,(Kc hb.2).symm⟩
  cases hc
theorem TIOK.isAgg{P:Program}{t:Nat}{ti:TI}{d:TypeDesc}{i:TypeInfo}{z:Value}(k:TIOK P t ti d i z)(w:World):(isAgg t).run P w=.ok ti.agg w:=by
 unfold Go.isAgg
 simp only[Ki,run_underlying k.und,Ke]
 have hk:=k.kind
 cases d <;> simp only[JQ]at hk <;> simp[hk]
theorem TIOK.sizeOf{P:Program}{t:Nat}{ti:TI}{d:TypeDesc}{i:TypeInfo}{z:Value}(k:TIOK P t ti d i z)(w:World):(sizeOf t).run P w=.ok ti.size w:=by
 simp[Go.sizeOf,typeInfo,k.info,k.size]
theorem TIOK.zeroValue{P:Program}{t:Nat}{ti:TI}{d:TypeDesc}{i:TypeInfo}{z:Value}(k:TIOK P t ti d i z)(w:World):(zeroValue t).run P w=.ok z w:=by
 simp[Go.zeroValue,typeInfo,k.info,k.zero]
theorem Qh(b o n:Nat):(⟨b,o,none⟩:Addr).add n=⟨b,o+n,none⟩:=by
 unfold Addr.add;split <;> simp_all
theorem Uc{P:Program}{t:Nat}{ti:TI}{d:TypeDesc}{i:TypeInfo}{z:Value}(k:TIOK P t ti d i z)(w:World)(b off:Nat)(cs:List Value)(hl:cs.length=ti.size)
 (h:∀ j v,cs[j]?=some v->w.cell? ⟨b,off+j,none⟩=some v)(ha:ti.agg=true ∨ ti.size=1) :
 (Instr.loadAt t (.pointer (some ⟨b,off,none⟩))).run P w=.ok (if ti.agg then .agg cs.toArray else cs.headD undef) w:=by
 have h':∀ j v,cs[j]?=some v->w.cell? ((⟨b,off,none⟩:Addr).add j)=some v:=fun j v hj=>by rw[Qh];exact h j v hj
 unfold Instr.loadAt Instr.sureAddr loadVar
 simp only[Ki,Sem.run_pure,Ke,k.isAgg w]
 by_cases hg:ti.agg=true
 . simp only[hg,if_true,Ki,k.sizeOf w,Ke]
   have:=run_loadCells_list (P:=P) (w:=w) ⟨b,off,none⟩ cs h'
   rw[<- hl,this]
   rfl
 . have h1:ti.size=1:=ha.resolve_left hg
   simp only[hg,Bool.false_eq_true,if_false]
   match cs,hl with
   | [v],_ =>
    have:=h 0 v rfl
    simp only[Nat.add_zero]at this
    simp[this]
   | [],hl=>simp[h1]at hl
   | _::_::_,hl=>simp[h1]at hl
theorem JaV{P:Program}{t:Nat}{ti:TI}{d:TypeDesc}{i:TypeInfo}{z:Value}(k:TIOK P t ti d i z)(w:World)(b off:Nat)(v:Value)(cur:Array Value)(T:TypeId)
 (hb:w.heap[b]?=some (.cells cur T (0,0)))(hl:v.cells.size=ti.size)(hfit:off+ti.size<=cur.size)(h1:∀ u ∈ v.cells.toList,u.oneCell'=true) :
 (Instr.storeAt t (.pointer (some ⟨b,off,none⟩)) v).run P w=.ok () (w.setRow b (cur.toList.take off++v.cells.toList++cur.toList.drop (off+v.cells.size)).toArray):=by
 unfold Instr.storeAt Instr.sureAddr storeVar
 simp only[Ki,Sem.run_pure,Ke,k.sizeOf w,hl]
 have:=run_storeCells_at P b off T v.cells.toList 0 cur w hb (by simpa[hl]using hfit) h1
 simp only[Nat.add_zero]at this
 simp[this,hl]
end
section
variable {K : Ctx} {ρ : Pl} {slot : Nat → Option AV} {B : Nat → ABlk} {a : Act} {w : World}
theorem Rep.elt_inv{X:Nat->Prop}{v:Value}{k i j:Nat}{rows:List (List AV)}(h:Rep X w v (.elt k rows i j)) :
 ∃ b o cs,v=.pointer (some ⟨b,o+j,none⟩)/\b < w.heap.size/\¬ X b/\i < rows.length/\(Ji rows i).length=k/\Z (CP X w) cs (Ji rows i) /\
  (∀ q u,cs[q]?=some u->w.cell? ⟨b,o+q,none⟩=some u):=by
 cases h with
 | elt b o _ _ _ _ cv hb hX hi hk hc hr h1 =>
  refine⟨b,o+i * k,(List.range k).map (cv i),rfl,hb,hX,hi,hk i hi,⟨by rw[hk i hi];simp,fun q v a hv ha=>?_⟩,fun q u hu=>?_⟩
  . have hq:q < k:=by
     have:=(List.getElem?_eq_some_iff.1 hv).1
     simpa using this
    rw[Kk,List.getElem?_range hq]at hv
    simp at hv
    subst hv
    have:=hr i hi q hq
    rw[JV ha]at this
    exact⟨h1 i hi q hq,this⟩
  have hq:q < k:=by
   have:=(List.getElem?_eq_some_iff.1 hu).1
   simpa using this
  rw[Kk,List.getElem?_range hq]at hu
  simp at hu
  subst hu
  exact hc i hi q hq
theorem Xg{R:Value->AV->Prop}{P:Program}{t:Nat}{ti:TI}{d:TypeDesc}{i:TypeInfo}{z:Value}(k:TIOK P t ti d i z){b o j:Nat}{cs:List Value}{row:List AV}
 (hz:Z R cs row)(hc:∀ q u,cs[q]?=some u->w.cell? ⟨b,o+q,none⟩=some u)(hj:j+ti.size<=row.length)(ha:ti.agg=true ∨ ti.size=1) :
 ∃ v,(Instr.loadAt t (.pointer (some ⟨b,o+j,none⟩))).run P w=.ok v w /\
  (ti.agg=true->∃ ds:List Value,v=.agg ds.toArray/\Z R ds ((row.drop j).take ti.size))/\(ti.agg=false->R v (nth row j)):=by
 have hz':=(hz.drop j).take ti.size
 have hlen:((cs.drop j).take ti.size).length=ti.size:=by rw[hz'.1,Kg,Kh];omega
 have hrun:=Uc k w b (o+j) ((cs.drop j).take ti.size) hlen (fun q u hu=>by
  rw[List.getElem?_take]at hu
  split at hu
  . rw[List.getElem?_drop]at hu
    have:=hc (j+q) u hu
    rwa [<- Nat.add_assoc]at this
  . cases hu) ha
 refine⟨_,hrun,fun hg=>⟨_,by simp[hg],hz'⟩,fun hg=>?_⟩
 have h1:ti.size=1:=ha.resolve_left (by simp[hg])
 have hjl:j < row.length:=by omega
 obtain⟨u,hu,hr⟩:=hz.at hjl
 have:((cs.drop j).take ti.size).headD undef=u:=by
  rw[h1]
  cases hd:cs.drop j with
  | nil =>
   have:(cs.drop j)[0]?=some u:=by rw[List.getElem?_drop];simpa using hu
   rw[hd]at this;cases this
  | cons x xs =>
   have:(cs.drop j)[0]?=some u:=by rw[List.getElem?_drop];simpa using hu
   rw[hd]at this
   simp at this
   simp[this]
 simp only[hg,Bool.false_eq_true,if_false,this]
 exact hr
theorem Uq{o:Oper}{t:Nat}{x:Operand}(ho:o.op=.load t x){P:Program}{v:Value}(h:(Instr.loadAt t (a.eval x)).run P w=.ok v w) :
 (execOp a.eval o).run P w=.ok (.value v) w:=by
 unfold execOp
 rw[ho]
 simp only[Ki,h,Ke]
 rfl
theorem JiD{X:Nat->Prop}{v:Value}{row:List AV}{j n:Nat}{agg:Bool}(hA:agg=true->∃ ds:List Value,v=.agg ds.toArray/\Z (CP X w) ds ((row.drop j).take n))(hS:agg=false->CP X w v (nth row j)) :
 Rep X w v (JT row j n agg):=by
 cases agg with
 | true =>
  obtain⟨ds,rfl,hz⟩:=hA rfl
  exact Rep.agg_mk (by simpa using hz)
 | false=>exact(hS rfl).2
theorem JcX{row:List AV}{n:Nat}(h:row.length=n):JT row 0 n true=.agg row:=by
 simp[JT,<- h]
theorem Jko(hT:TOK K.P K.T)(h:RelW K ρ slot B a w){o:Oper}{t:Nat}{x:Operand}(ho:o.op=.load t x){k i j:Nat}{rows:List (List AV)}{ti:TI}(hti:lk t K.T=some ti)
 (hx:SRep ρ B (XX K.X0 ρ B) w (a.eval x) (.elt k rows i j))(hj:j+ti.size<=k)(ha:ti.agg=true ∨ ti.size=1) :
 Does K.P o a w (Post K slot B a [] (JT (Ji rows i) j ti.size ti.agg)):=by
 obtain⟨d,inf,z,kk⟩:=Jk (hT t ti hti)
 obtain⟨b,off,cs,hv,_,_,_,hk,hz,hc⟩:=Rep.elt_inv (show Rep _ w (a.eval x) (.elt k rows i j)from hx)
 obtain⟨v,hr,hA,hS⟩:=Xg (w:=w) kk hz hc (by rw[hk];exact hj) ha
 exact Does.pureV h (Uq ho (by rw[hv];exact hr)) (SRep.of_rep (JiD hA hS))
theorem Je2(hT:TOK K.P K.T)(h:RelW K ρ slot B a w){o:Oper}{t:Nat}{x:Operand}(ho:o.op=.load t x){id off:Nat}{cells:List AV}{ti:TI}(hti:lk t K.T=some ti)
 (hx:SRep ρ B (XX K.X0 ρ B) w (a.eval x) (.ptr id off))(hb:B id=.box cells)(hj:off+ti.size<=cells.length)(ha:ti.agg=true ∨ ti.size=1)
 (hp:ti.agg=true->((cells.drop off).take ti.size).all XM=true) :
 Does K.P o a w (Post K slot B a [] (JT cells off ti.size ti.agg)):=by
 obtain⟨d,inf,z,kk⟩:=Jk (hT t ti hti)
 obtain⟨b,hr,hv⟩:=(show SRep0 ρ B (XX K.X0 ρ B) w (a.eval x) (.ptr id off)from hx).2 cells hb
 have hbl:=h.blks id
 unfold BlkOK at hbl
 rw[hb]at hbl
 obtain⟨b',cs,T,hr',hh,hsz,hcl⟩:=hbl
 rw[hr]at hr'
 cases hr'
 have hz:Z (CR ρ B (XX K.X0 ρ B) w) cs.toList cells:=Z.of_getD hsz hcl
 obtain⟨v,hrun,hA,hS⟩:=Xg (w:=w) (b:=b) (o:=0) (j:=off) kk hz (fun q u hu=>by
  rw[Nat.zero_add,cell_of_row w b q cs T (0,0) hh];simpa using hu) hj ha
 rw[Nat.zero_add]at hrun
 refine Does.pureV h (Uq ho (by rw[hv];exact hrun)) ?_
 cases hg:ti.agg with
 | true =>
  obtain⟨ds,rfl,hz⟩:=hA hg
  refine SRep.of_rep (Rep.agg_mk (l:=(cells.drop off).take ti.size) ?_)
  refine hz.mono_mem fun v a hm hc=>⟨hc.1,SRep1.rep ?_ hc.2⟩
  have:=List.all_eq_true.1 (hp hg) a hm
  cases a <;> simp_all [XM,JJ]
 | false =>
  exact SRep.of1 (hS hg).2
theorem Jh0(hT:TOK K.P K.T)(h:RelW K ρ slot B a w){o:Oper}{t:Nat}{x:Operand}(ho:o.op=.load t x){id off:Nat}{cells:List AV}{ti:TI}(hti:lk t K.T=some ti)
 (hx:SRep ρ B (XX K.X0 ρ B) w (a.eval x) (.ptr id off))(hb:B id=.box cells)(hj:off+ti.size<=cells.length)(ha:ti.agg=true) :
 Does K.P o a w (Post K slot B a [] (.ax ((cells.drop off).take ti.size))):=by
 obtain⟨d,inf,z,kk⟩:=Jk (hT t ti hti)
 obtain⟨b,hr,hv⟩:=(show SRep0 ρ B (XX K.X0 ρ B) w (a.eval x) (.ptr id off)from hx).2 cells hb
 have hbl:=h.blks id
 unfold BlkOK at hbl
 rw[hb]at hbl
 obtain⟨b',cs,T,hr',hh,hsz,hcl⟩:=hbl
 rw[hr]at hr'
 cases hr'
 have hz:Z (CR ρ B (XX K.X0 ρ B) w) cs.toList cells:=Z.of_getD hsz hcl
 obtain⟨v,hrun,hA,hS⟩:=Xg (w:=w) (b:=b) (o:=0) (j:=off) kk hz (fun q u hu=>by
  rw[Nat.zero_add,cell_of_row w b q cs T (0,0) hh];simpa using hu) hj (.inl ha)
 rw[Nat.zero_add]at hrun
 obtain⟨ds,rfl,hz⟩:=hA ha
 exact Does.pureV h (Uq ho (by rw[hv];exact hrun)) ⟨ds.toArray,rfl,hz⟩
theorem JcI(hT:TOK K.P K.T)(h:RelW K ρ slot B a w){o:Oper}{t:Nat}{x:Operand}(ho:o.op=.load t x){id i j e k:Nat}{rows:List (List AV)}{ti:TI}(hti:lk t K.T=some ti)
 (hx:SRep ρ B (XX K.X0 ρ B) w (a.eval x) (.optr id i j))(hb:B id=.buf e k rows)(hi:i < rows.length)(hj:j+ti.size<=k)(ha:ti.agg=true ∨ ti.size=1) :
 Does K.P o a w (Post K slot B a [] (JT (Ji rows i) j ti.size ti.agg)):=by
 obtain⟨d,inf,z,kk⟩:=Jk (hT t ti hti)
 obtain⟨b,hr,hv⟩:=(show SRep0 ρ B (XX K.X0 ρ B) w (a.eval x) (.optr id i j)from hx).2 e k rows hb
 have hbl:=h.blks id
 unfold BlkOK at hbl
 rw[hb]at hbl
 obtain⟨hk,_,hbl⟩:=hbl
 rcases hbl with⟨h1,_⟩ | ⟨b',cur,hr',hh,hsz,hcl⟩
 . rw[hr]at h1;cases h1
 rw[hr]at hr'
 cases hr'
 have hki:=hk i hi
 have hfit:i * k+k<=cur.size:=by
  have:(i+1) * k<=rows.length * k:=K1 _ hi
  rw[Nat.add_mul,Nat.one_mul]at this
  omega
 have hz:Z (CP (XX K.X0 ρ B) w) ((cur.toList.drop (i * k)).take k) (Ji rows i):=by
  refine⟨by rw[hki];simp;omega,fun q v a hv ha=>?_⟩
  have hq:q < k:=by have:=(List.getElem?_eq_some_iff.1 ha).1;omega
  rw[List.getElem?_take,if_pos hq,List.getElem?_drop]at hv
  have:=hcl i hi q hq
  have e1:cur.getD (i * k+q) undef=v:=by
   have hv':cur[i * k+q]?=some v:=by simpa using hv
   simp[Array.getD_eq_getD_getElem?,hv']
  rw[e1,JV ha]at this
  exact this
 obtain⟨v,hrun,hA,hS⟩:=Xg (w:=w) (b:=b) (o:=i * k) (j:=j) kk hz (fun q u hu=>by
  rw[cell_of_row w b _ cur e (0,0) hh]
  rw[List.getElem?_take]at hu
  split at hu
  . rw[List.getElem?_drop]at hu;simpa using hu
  . cases hu) (by rw[hki];exact hj) ha
 exact Does.pureV h (Uq ho (by rw[hv];exact hrun)) (SRep.of_rep (JiD hA hS))
structure Fresh(slot:Nat->Option AV)(B:Nat->ABlk)(nid:Nat):Prop where
 dead:¬ (B nid).alive
 zero:(B 0).tracey->nid ≠ 0
 slots:∀ t av,slot t=some av->nid ∉ Qn av
 blks:∀ i,(B i).alive->nid ∉ JK (B i)
theorem Xq{α:Type}(f:Nat->α)(k:Nat)(x y:α):upd (upd f k x) k y=upd f k y:=by
 funext i;unfold upd;split <;> rfl
theorem QF(w:World)(o:Obj):Below w.heap.size w (w.alloc o):=(Below.refl _ w).alloc (Kr _) o
theorem RelW.newBox(h:RelW K ρ slot B a w){nid:Nat}(hf:Fresh slot B nid){cs:Array Value}{l:List AV}(T:TypeId)(hz:Z (CR ρ B (XX K.X0 ρ B) w) cs.toList l)(hl:∀ x ∈ l,nid ∉ mids1 x) :
 Post K slot B a [(nid,.box l)] (.ptr nid 0) (.pointer (some ⟨w.heap.size,0,none⟩)) (w.alloc (.cells cs T)):=by
 have hb:=QF w (.cells cs T)
 have hr:=h.replace nid nid (.box l) (some w.heap.size) (Keeps.of_below hb h.le_size) hf.dead hf.zero (fun h=>h) (fun n h=>by cases h) (fun cells e=>hf.dead (by rw[e];trivial)) hf.slots hf.blks (fun b hlt _=>hb.block b hlt)
  (fun b hp=>by cases hp;exact .inr ⟨Kr _,by simp⟩) (fun hm _ _=>by
   unfold BlkOK
   rw[Jb]
   refine⟨w.heap.size,cs,T,Jb _ _ _,heap_alloc_new w _,hz.getD.1,fun j hj=>?_⟩
   obtain⟨h1,h2⟩:=hz.getD.2 j hj
   exact⟨h1,hm _ _ h2 (hl _ (Qe hj))⟩)
 rw[Xq]at hr
 refine⟨_,hr.1,?_⟩
 exact⟨rfl,fun cells _=>⟨w.heap.size,Jb _ _ _,rfl⟩⟩
theorem Rep.elt_new{X:Nat->Prop}{cs:Array Value}{l:List AV}(T:TypeId)(hX:¬ X w.heap.size)(hz:Z (CP X w) cs.toList l) :
 Rep X (w.alloc (.cells cs T)) (.pointer (some ⟨w.heap.size,0,none⟩)) (.elt l.length [l] 0 0):=by
 have hg:=hz.getD
 have hm:∀ v av,Rep X w v av->Rep X (w.alloc (.cells cs T)) v av:=fun v av hv =>
  Rep.mono (by simp) (fun b hlt _=>Below.heap_alloc w _ b hlt) (fun _ _ hn=>hn) hv
 have:=Rep.elt (X:=X) (w:=w.alloc (.cells cs T)) w.heap.size 0 l.length [l] 0 0 (fun _ j=>cs.getD j undef) (by simp) hX (by simp)
  (fun i hi=>by
   have:i=0:=by simpa using hi
   subst this;rfl)
  (fun i hi j hj=>by
   have:i=0:=by simpa using hi
   subst this
   simp only[Nat.zero_mul,Nat.zero_add]
   have hj':j < cs.size:=by rw[hg.1];exact hj
   simp[Array.getD,hj'])
  (fun i hi j hj=>by
   have:i=0:=by simpa using hi
   subst this
   exact hm _ _ (hg.2 j hj).2)
  (fun i _ j hj=>(hg.2 j hj).1)
 simpa using this
theorem CR.pure{X:Nat->Prop}{v:Value}{x:AV}(hp:JJ x=true)(h:CR ρ B X w v x):CP X w v x:=⟨h.1,SRep1.rep hp h.2⟩
theorem Does.newVar(h:RelW K ρ slot B a w){nid:Nat}(hf:Fresh slot B nid){o:Oper}{cs:Array Value}{l:List AV}{T:TypeId}{fr:Bool}{ou:Out}
 (hrun:(execOp a.eval o).run K.P w=.ok (.value (.pointer (some ⟨w.heap.size,0,none⟩))) (w.alloc (.cells cs T)))
 (hz:Z (CR ρ B (XX K.X0 ρ B) w) cs.toList l)(hl:∀ x ∈ l,nid ∉ mids1 x)
 (hout:(if fr then(if l.all JJ then out (.elt l.length [l] 0 0)else none)else some ⟨.ptr nid 0,[(nid,.box l)],[],[]⟩)=some ou) :
 ou.obl=[]/\Does K.P o a w (Post K slot B a ou.wr ou.v):=by
 cases fr with
 | true =>
  simp only[if_true]at hout
  by_cases hp:l.all JJ=true
  . rw[if_pos hp]at hout
    cases hout
    refine⟨rfl,Does.of_run hrun ⟨ρ,h.world (QF w _),SRep.of_rep ?_⟩⟩
    exact Rep.elt_new T h.fresh_xx (hz.mono_mem fun v x hx hc=>CR.pure (List.all_eq_true.1 hp x hx) hc)
  rw[if_neg hp]at hout;cases hout
 | false =>
  simp only[Bool.false_eq_true,if_false]at hout
  cases hout
  exact⟨rfl,Does.of_run hrun (h.newBox hf T hz hl)⟩
theorem Jnx{X:Nat->Prop}{v:Value}(h:v.oneCell'=true):Rep X w v (ofV v):=by
 cases v with
 | int k n=>exact .int k n
 | bool b=>exact .bool b
 | string s =>
  have:=Rep.str (X:=X) (w:=w) s.data.toList
  simpa[ofV]using this
 | agg _ | tuple _=>simp[Value.oneCell']at h
 | _=>exact .ex _ h
theorem JhW(v:Value):mids1 (ofV v)=[]:=by cases v <;> rfl
theorem JhD(v:Value):JJ (ofV v)=true:=by cases v <;> rfl
theorem J8{P:Program}{t:Nat}{ti:TI}{d:TypeDesc}{i:TypeInfo}{z:Value}(k:TIOK P t ti d i z)(X:Nat->Prop):Z (CP X w) z.cells.toList ti.zero:=by
 rw[k.cells]
 refine⟨by simp,fun i v x hv hx=>?_⟩
 rw[Kk,hv]at hx
 cases hx
 have h1:=k.one v (List.mem_of_getElem? hv)
 exact⟨h1,Jnx h1⟩
theorem WC{P:Program}{t:Nat}{ti:TI}{d:TypeDesc}{i:TypeInfo}{z:Value}(k:TIOK P t ti d i z):∀ x ∈ ti.zero,mids1 x=[]/\JJ x=true:=by
 rw[k.cells]
 intro x hx
 obtain⟨v,_,rfl⟩:=List.mem_map.1 hx
 exact⟨JhW v,JhD v⟩
theorem Jk1(hT:TOK K.P K.T)(h:RelW K ρ slot B a w){nid:Nat}(hf:Fresh slot B nid){o:Oper}{t:Nat}(ho:o.op=.alloc t){ti:TI}(hti:lk t K.T=some ti){fr:Bool}{ou:Out}
 (hout:(if fr then out (.elt ti.zero.length [ti.zero] 0 0)else some ⟨.ptr nid 0,[(nid,.box ti.zero)],[],[]⟩)=some ou) :
 ou.obl=[]/\Does K.P o a w (Post K slot B a ou.wr ou.v):=by
 obtain⟨d,inf,z,kk⟩:=Jk (hT t ti hti)
 refine Does.newVar (cs:=z.cells) (l:=ti.zero) (T:=t) (fr:=fr) h hf ?_ ((J8 kk _).mono fun v x hv=>⟨hv.1,SRep1.of_rep hv.2⟩) (fun x hx=>by rw[(WC kk x hx).1];simp) ?_
 . unfold execOp
   rw[ho]
   simp[Instr.alloc,kk.zeroValue w,newVar,newRow]
 . cases fr with
   | true =>
    simp only[if_true]at hout ⊢
    rw[if_pos (List.all_eq_true.2 fun x hx=>(WC kk x hx).2)]
    exact hout
   | false=>exact hout
theorem Rep.mids0{X:Nat->Prop}{v:Value}{x:AV}(h:Rep X w v x):Av.mids0 x=[]:=by cases h <;> rfl
theorem Rep.mids1{X:Nat->Prop}{v:Value}{x:AV}(h:Rep X w v x):Av.mids1 x=[]:=by
 cases h with
 | fn f fs cs first cap hf hc =>
  unfold Av.mids1
  rw[List.flatMap_eq_nil_iff]
  intro y hy
  rcases List.mem_append.1 hy with hy | hy
  . obtain⟨i,hi,rfl⟩:=List.mem_iff_getElem.1 hy
    have:=hf i hi
    rw[JV (Kj hi)]at this
    exact this.mids0
  obtain⟨i,hi,rfl⟩:=List.mem_iff_getElem.1 hy
  have:=hc i hi
  rw[JV (Kj hi)]at this
  exact this.mids0
 | _=>rfl
theorem Jek{X:Nat->Prop}{v:Value}{av:AV}{n:Nat}{agg:Bool}{l:List AV}{q:Nat}(hc:QT n agg av=some l)(h:SRep ρ B X w v av)(hq:q ∉ Qn av) :
 ∀ x ∈ l,q ∉ Av.mids1 x:=by
 cases av with
 | agg m =>
  simp only[QT]at hc
  split at hc
  . cases hc
    obtain⟨arr,rfl,hz⟩:=Rep.agg_inv (show Rep X w v (.agg l)from h)
    intro x hx
    obtain⟨i,hi,rfl⟩:=List.mem_iff_getElem.1 hx
    obtain⟨u,_,hu⟩:=hz.at hi
    rw[JV (Kj hi)]at hu
    rw[hu.2.mids1]
    simp
  cases hc
 | gv g b =>
  simp[QT,one]at hc
 | ax m =>
  simp only[QT]at hc
  split at hc
  . cases hc
    exact fun x hx hq2=>hq (List.mem_flatMap.2 ⟨x,hx,hq2⟩)
  cases hc
 | _ =>
  simp only[QT]at hc
  split at hc
  . cases hc
    intro x hx
    simp only[List.mem_singleton]at hx
    subst hx
    exact hq
  cases hc
theorem box_ok(h:RelW K ρ slot B a w){nid:Nat}(hf:Fresh slot B nid){o:Oper}{t:Nat}{x:Operand}(ho:o.op=.box t x){av:AV}(hx:SRep ρ B (XX K.X0 ρ B) w (a.eval x) av){n:Nat}{agg:Bool}{l:List AV}
 (hc:QT n agg av=some l)(hm:nid ∉ Qn av){fr:Bool}{ou:Out}
 (hout:(if fr then(if l.all JJ then out (.elt l.length [l] 0 0)else none)else some ⟨.ptr nid 0,[(nid,.box l)],[],[]⟩)=some ou) :
 ou.obl=[]/\Does K.P o a w (Post K slot B a ou.wr ou.v):=by
 have hz:=(Jao hc hx).1
 refine Does.newVar (cs:=(a.eval x).cells) (l:=l) (T:=t) h hf ?_ hz (fun y hy=>?_) hout
 . unfold execOp
   rw[ho]
   simp[Instr.box,newVar,newRow]
 . exact Jek hc hx hm y hy
end
theorem JbR(off:Nat):∀ (l:List Value) (k:Nat) (cells:Array Value),off+k+l.length<=cells.size →
 (l.zipIdx k).foldl (fun cs (p:Value × Nat)=>cs.setIfInBounds (off+p.2) p.1) cells=(cells.toList.take (off+k)++l++cells.toList.drop (off+k+l.length)).toArray
 | [],k,cells,_=>by simp
 | v::l,k,cells,h=>by
  simp only[List.zipIdx_cons,List.foldl_cons]
  rw[JbR off l (k+1) _ (by simp at h ⊢;omega)]
  congr 1
  have e:=list_seg_step cells.toList (off+k) v l (by simp at h ⊢;omega)
  simpa[Array.toList_setIfInBounds,Nat.add_assoc]using e
section
variable {K : Ctx} {ρ : Pl} {slot : Nat → Option AV} {B : Nat → ABlk} {a : Act} {w : World}
def JaA(ρ:Pl)(B:Nat->ABlk)(X:Nat->Prop)(w:World)(place:Nat->Option (Nat × Nat)):List (Nat × Value)->List (Option (Nat × Nat) × AV)->Prop
 | [],[]=>True
 | (i,v)::ps,(pl,av)::qs=>pl=place i/\SRep ρ B X w v av/\JaA ρ B X w place ps qs
 | _,_=>False
theorem Jcp{X:Nat->Prop}{cells xs:Array Value}{acells axs:List AV}{off:Nat}(hz:Z (CP X w) cells.toList acells)(hx:Z (CP X w) xs.toList axs)(hf:off+axs.length<=acells.length) :
 Z (CP X w) ((xs.zipIdx.foldl (fun cs (p:Value × Nat)=>cs.setIfInBounds (off+p.2) p.1) cells)).toList (Av.splice acells off axs):=by
 have h1:xs.size=axs.length:=by have:=hx.1;simpa using this
 have h2:cells.size=acells.length:=by have:=hz.1;simpa using this
 have:=JbR off xs.toList 0 cells (by simp;omega)
 rw[<- Array.foldl_toList,Array.toList_zipIdx,this]
 simp only[Nat.add_zero]
 exact hz.splice hx off
theorem Jbu{R:Value->AV->Prop}{cells xs:Array Value}{acells axs:List AV}{off:Nat}(hz:Z R cells.toList acells)(hx:Z R xs.toList axs)(hf:off+axs.length<=acells.length) :
 Z R ((xs.zipIdx.foldl (fun cs (p:Value × Nat)=>cs.setIfInBounds (off+p.2) p.1) cells)).toList (Av.splice acells off axs):=by
 have h1:xs.size=axs.length:=by have:=hx.1;simpa using this
 have h2:cells.size=acells.length:=by have:=hz.1;simpa using this
 have:=JbR off xs.toList 0 cells (by simp;omega)
 rw[<- Array.foldl_toList,Array.toList_zipIdx,this]
 simp only[Nat.add_zero]
 exact hz.splice hx off
theorem JbW{X:Nat->Prop}{place:Nat->Option (Nat × Nat)}:∀ {ps:List (Nat × Value)} {qs:List (Option (Nat × Nat) × AV)} {cells:Array Value} {acells l:List AV},
 Z (CR ρ B X w) cells.toList acells->JaA ρ B X w place ps qs->Xt acells qs=some l->∃ arr,Instr.fill place cells ps=some arr/\Z (CR ρ B X w) arr.toList l
 | [],[],cells,acells,l,hz,_,hl=>by
  simp only[Xt]at hl
  cases hl
  exact⟨cells,rfl,hz⟩
 | (i,v)::ps,(pl,av)::qs,cells,acells,l,hz,hp,hl=>by
  obtain⟨rfl,hv,hps⟩:=hp
  cases hpl:place i with
  | none=>rw[hpl]at hl;simp[Xt]at hl
  | some os =>
   obtain⟨off,size⟩:=os
   rw[hpl]at hl
   have hsz:cells.size=acells.length:=by have:=hz.1;simpa using this
   have go:∀ (axs:List AV),Z (CR ρ B X w) v.cells.toList axs->axs.length=size->off+size<=acells.length->Xt (Av.splice acells off axs) qs=some l →
    ∃ arr,Instr.fill place cells ((i,v)::ps)=some arr/\Z (CR ρ B X w) arr.toList l:=by
    intro axs hx hs hf hl'
    have hvs:v.cells.size=size:=by have:=hx.1;rw[hs]at this;simpa using this
    have hz':=Jbu (off:=off) hz hx (by omega)
    obtain⟨arr,ha,hza⟩:=JbW hz' hps hl'
    refine⟨arr,?_,hza⟩
    unfold Instr.fill
    rw[hpl]
    simp only[hvs]
    rw[if_neg (by simp;omega)]
    exact ha
   cases av with
   | agg m =>
    simp only[Xt]at hl
    split at hl
    . rename_i hb
      simp only[Kd]at hb
      obtain⟨arr,rfl,hz2⟩:=Rep.agg_inv (show Rep X w v (.agg m)from hv)
      exact go m (hz2.mono fun v a hv=>⟨hv.1,SRep1.of_rep hv.2⟩) (Kc hb.1) (Kl hb.2) hl
    cases hl
   | ax m =>
    simp only[Xt]at hl
    split at hl
    . rename_i hb
      simp only[Kd]at hb
      obtain⟨arr,rfl,hz2⟩:=(show ∃ arr:Array Value,v=.agg arr/\Z (CR ρ B X w) arr.toList m from hv)
      exact go m hz2 (Kc hb.1) (Kl hb.2) hl
    cases hl
   | _ =>
    simp only[Xt]at hl
    split at hl
    . rename_i hb
      simp only[Kd]at hb
      have h1:=SRep.one_cell hb.1.1 hv
      have hs:=Kc hb.1.2
      refine go [_] ?_ (by simpa using hs.symm) (by have:=Kl hb.2;omega) hl
      rw[Jam h1]
      exact Z.cons ⟨h1,SRep.to1 hb.1.1 hv⟩ Z.nil
    cases hl
 | [],_::_,_,_,_,_,hp,_=>hp.elim
 | _::_,[],_,_,_,_,hp,_=>hp.elim
theorem Jf1{l xs:List AV}{off:Nat}{y:AV}(h:y ∈ Av.splice l off xs):y ∈ l ∨ y ∈ xs:=by
 unfold Av.splice at h
 rcases List.mem_append.1 h with h | h
 . rcases List.mem_append.1 h with h | h
   . exact .inl (List.mem_of_mem_take h)
   exact .inr h
 exact .inl (List.mem_of_mem_drop h)
theorem Ja4{X:Nat->Prop}{place:Nat->Option (Nat × Nat)}{q:Nat}:∀ {ps:List (Nat × Value)} {qs:List (Option (Nat × Nat) × AV)} {acells l:List AV},
 (∀ y,y ∈ acells->q ∉ mids1 y)->JaA ρ B X w place ps qs->(∀ p,p ∈ qs->q ∉ Qn p.2)->Xt acells qs=some l->∀ y,y ∈ l->q ∉ mids1 y
 | [],[],acells,l,hz,_,_,hl=>by
  simp only[Xt]at hl
  cases hl
  exact hz
 | (i,v)::ps,(pl,av)::qs,acells,l,hz,hp,hq,hl=>by
  obtain⟨rfl,hv,hps⟩:=hp
  have hq1:=hq _ (List.mem_cons_self ..)
  have hq2:∀ p,p ∈ qs->q ∉ Qn p.2:=fun p hp=>hq p (List.mem_cons_of_mem _ hp)
  cases hpl:place i with
  | none=>rw[hpl]at hl;simp[Xt]at hl
  | some os =>
   obtain⟨off,size⟩:=os
   rw[hpl]at hl
   have go:∀ (axs:List AV),(∀ y,y ∈ axs->q ∉ mids1 y)->Xt (Av.splice acells off axs) qs=some l->∀ y,y ∈ l->q ∉ mids1 y:=fun axs hx hl' =>
    Ja4 (fun y hy=>(Jf1 hy).elim (hz y) (hx y)) hps hq2 hl'
   cases av with
   | agg m =>
    simp only[Xt]at hl
    split at hl
    . obtain⟨arr,rfl,hz2⟩:=Rep.agg_inv (show Rep X w v (.agg m)from hv)
      refine go m (fun y hy=>?_) hl
      obtain⟨i,hi,rfl⟩:=List.mem_iff_getElem.1 hy
      obtain⟨u,_,hu⟩:=hz2.at hi
      rw[JV (Kj hi)]at hu
      rw[hu.2.mids1]
      simp
    cases hl
   | ax m =>
    simp only[Xt]at hl
    split at hl
    . exact go m (fun y hy hn=>hq1 (List.mem_flatMap.2 ⟨y,hy,hn⟩)) hl
    cases hl
   | gv g b=>simp[Xt,one]at hl
   | _ =>
    simp only[Xt]at hl
    split at hl
    . refine go [_] (fun y hy=>?_) hl
      rw[List.mem_singleton]at hy
      subst hy
      exact hq1
    cases hl
 | [],_::_,_,_,_,hp,_,_=>hp.elim
 | _::_,[],_,_,_,hp,_,_=>hp.elim
theorem JbV{X:Nat->Prop}{place:Nat->Option (Nat × Nat)}:∀ {ps:List (Nat × Value)} {qs:List (Option (Nat × Nat) × AV)} {cells:Array Value} {acells l:List AV},
 Z (CP X w) cells.toList acells->JaA ρ B X w place ps qs->JF acells qs=some l->∃ arr,Instr.fill place cells ps=some arr/\Z (CP X w) arr.toList l
 | [],[],cells,acells,l,hz,_,hl=>by
  simp only[JF]at hl
  cases hl
  exact⟨cells,rfl,hz⟩
 | (i,v)::ps,(pl,av)::qs,cells,acells,l,hz,hp,hl=>by
  obtain⟨rfl,hv,hps⟩:=hp
  cases hpl:place i with
  | none=>rw[hpl]at hl;simp[JF]at hl
  | some os =>
   obtain⟨off,size⟩:=os
   rw[hpl]at hl
   have hsz:cells.size=acells.length:=by have:=hz.1;simpa using this
   have go:∀ (axs:List AV),Z (CP X w) v.cells.toList axs->axs.length=size->off+size<=acells.length->JF (Av.splice acells off axs) qs=some l →
    ∃ arr,Instr.fill place cells ((i,v)::ps)=some arr/\Z (CP X w) arr.toList l:=by
    intro axs hx hs hf hl'
    have hvs:v.cells.size=size:=by have:=hx.1;rw[hs]at this;simpa using this
    have hz':=Jcp (off:=off) hz hx (by omega)
    obtain⟨arr,ha,hza⟩:=JbV hz' hps hl'
    refine⟨arr,?_,hza⟩
    unfold Instr.fill
    rw[hpl]
    simp only[hvs]
    rw[if_neg (by simp;omega)]
    exact ha
   cases av with
   | agg m =>
    simp only[JF]at hl
    split at hl
    . rename_i hb
      simp only[Kd]at hb
      obtain⟨arr,rfl,hz2⟩:=Rep.agg_inv (show Rep X w v (.agg m)from hv)
      exact go m hz2 (Kc hb.1) (Kl hb.2) hl
    cases hl
   | _ =>
    simp only[JF]at hl
    split at hl
    . rename_i hb
      simp only[Kd]at hb
      have h1:=SRep.one_cell hb.1.1.1 hv
      have hs:=Kc hb.1.2
      refine go [_] ?_ (by simpa using hs.symm) (by have:=Kl hb.2;omega) hl
      rw[Jam h1]
      exact Z.cons ⟨h1,SRep.one1 hb.1.1.2 hv⟩ Z.nil
    cases hl
 | [],_::_,_,_,_,_,hp,_=>hp.elim
 | _::_,[],_,_,_,_,hp,_=>hp.elim
theorem Vs{X:Nat->Prop}(place:Nat->Option (Nat × Nat)):∀ (ps:List (Nat × Operand)) (ins:List AV),Xe ρ B X w a (ps.map (·.2)) ins →
 JaA ρ B X w place (ps.map fun p=>(p.1,a.eval p.2)) (((ps.map (·.1)).zip ins).map fun p=>(place p.1,p.2))
 | [],[],_=>trivial
 | _::ps,_::ins,h=>⟨rfl,h.1,Vs place ps ins h.2⟩
 | [],_::_,h=>h.elim
 | _::_,[],h=>h.elim
theorem Ja8{o:Oper}{t:Nat}{parts:Array (Nat × Operand)}(ho:o.op=.build t parts){P:Program}{cells:Array Value}(h:P.built t (parts.toList.map fun p=>(p.1,a.eval p.2))=some cells) :
 (execOp a.eval o).run P w=.ok (.value (.agg cells)) w:=by
 unfold execOp
 rw[ho]
 have e:(parts.map fun(i,x)=>(i,a.eval x)).toList=parts.toList.map fun p=>(p.1,a.eval p.2):=by simp
 have:=run_build (P:=P) w t (parts.map fun(i,x)=>(i,a.eval x)) cells (by rw[e];exact h)
 simp only[Ki,this,Ke]
 rfl
theorem W8{α β γ:Type}{f:α->Option β}{g:β->γ}:∀ {l:List α} {m:List β},l.mapM f=some m->l.mapM (fun x=>(f x).map g)=some (m.map g)
 | [],m,h=>by simp at h;subst h;rfl
 | x::l,m,h=>by
  simp only[List.mapM_cons,Option.bind_eq_bind,Option.pure_def]at h ⊢
  cases hx:f x with
  | none=>simp[hx]at h
  | some y =>
   cases hl:l.mapM f with
   | none=>simp[hx,hl]at h
   | some ys =>
    simp[hx,hl]at h
    subst h
    simp[W8 hl]
theorem JkY(hT:TOK K.P K.T)(h:RelW K ρ slot B a w){o:Oper}{t:Nat}{parts:Array (Nat × Operand)}(ho:o.op=.build t parts){ti:TI}(hti:lk t K.T=some ti){ins:List AV}
 (hi:Xe ρ B (XX K.X0 ρ B) w a (parts.toList.map (·.2)) ins){l:List AV}(hb:UV ti ((parts.toList.map (·.1)).zip ins)=some l) :
 Does K.P o a w (Post K slot B a [] (.agg l)):=by
 obtain⟨d,inf,z,kk⟩:=Jk (hT t ti hti)
 have hz:=J8 (w:=w) kk (XX K.X0 ρ B)
 have hk:=kk.kind
 suffices hs:∃ cells,K.P.built t (parts.toList.map fun p=>(p.1,a.eval p.2))=some cells/\Z (CP (XX K.X0 ρ B) w) cells.toList l by
  obtain⟨cells,h1,h2⟩:=hs
  exact Does.pureV h (Ja8 ho h1) (SRep.of_rep (Rep.agg_mk h2))
 unfold UV at hb
 cases d <;> simp only[JQ]at hk
 case struct fs =>
  obtain⟨_,_,fl,hfl,hkk⟩:=hk
  rw[hkk]at hb
  simp only at hb
  have hpl:fs.toList.mapM (fun f=>(K.P.info? f.type).map fun i=>(f.offset,i.size))=some (fl.map fun f=>(f.1,f.2.2)):=by
   have:=W8 (g:=fun(p:Nat × Nat × Nat)=>(p.1,p.2.2)) hfl
   simpa[Function.comp_def]using this
  have hp:=Vs (fun i=>(fl.map fun f=>(f.1,f.2.2)).toArray[i]?) parts.toList ins hi
  obtain⟨arr,h1,h2⟩:=JbV (l:=l) hz hp (by
   rw[<- hb];congr 1
   apply List.map_congr_left
   intro p _
   simp)
  refine⟨arr,?_,h2⟩
  unfold Program.built
  simp only[kk.info,kk.und,kk.zero,hpl]
  exact h1
 case array n e =>
  obtain⟨_,ei,hei,hkk⟩:=hk
  rw[hkk]at hb
  simp only at hb
  have hp:=Vs (fun i=>some (i * ei.size,ei.size)) parts.toList ins hi
  obtain⟨arr,h1,h2⟩:=JbV (l:=l) hz hp hb
  refine⟨arr,?_,h2⟩
  unfold Program.built
  simp only[kk.info,kk.und,kk.zero,hei]
  exact h1
 case slice e =>
  obtain⟨_,ei,_,hkk⟩:=hk
  rw[hkk]at hb;simp at hb
 all_goals (rw[hk.1]at hb;simp at hb)
theorem JiL(hT:TOK K.P K.T)(h:RelW K ρ slot B a w){o:Oper}{t:Nat}{parts:Array (Nat × Operand)}(ho:o.op=.build t parts){ti:TI}(hti:lk t K.T=some ti){ins:List AV}
 (hi:Xe ρ B (XX K.X0 ρ B) w a (parts.toList.map (·.2)) ins){l:List AV}(hb:JiM ti ((parts.toList.map (·.1)).zip ins)=some l) :
 Does K.P o a w (Post K slot B a [] (.ax l)):=by
 obtain⟨d,inf,z,kk⟩:=Jk (hT t ti hti)
 have hz:Z (CR ρ B (XX K.X0 ρ B) w) z.cells.toList ti.zero:=(J8 (w:=w) kk (XX K.X0 ρ B)).mono fun v a hv=>⟨hv.1,SRep1.of_rep hv.2⟩
 have hk:=kk.kind
 suffices hs:∃ cells,K.P.built t (parts.toList.map fun p=>(p.1,a.eval p.2))=some cells/\Z (CR ρ B (XX K.X0 ρ B) w) cells.toList l by
  obtain⟨cells,h1,h2⟩:=hs
  exact Does.pureV h (Ja8 ho h1) ⟨cells,rfl,h2⟩
 unfold JiM at hb
 cases d <;> simp only[JQ]at hk
 case struct fs =>
  obtain⟨_,_,fl,hfl,hkk⟩:=hk
  rw[hkk]at hb
  simp only at hb
  have hpl:fs.toList.mapM (fun f=>(K.P.info? f.type).map fun i=>(f.offset,i.size))=some (fl.map fun f=>(f.1,f.2.2)):=by
   have:=W8 (g:=fun(p:Nat × Nat × Nat)=>(p.1,p.2.2)) hfl
   simpa[Function.comp_def]using this
  have hp:=Vs (fun i=>(fl.map fun f=>(f.1,f.2.2)).toArray[i]?) parts.toList ins hi
  obtain⟨arr,h1,h2⟩:=JbW (l:=l) hz hp (by
   rw[<- hb];congr 1
   apply List.map_congr_left
   intro p _
   simp)
  refine⟨arr,?_,h2⟩
  unfold Program.built
  simp only[kk.info,kk.und,kk.zero,hpl]
  exact h1
 case array n e =>
  obtain⟨_,ei,hei,hkk⟩:=hk
  rw[hkk]at hb
  simp at hb
 case slice e =>
  obtain⟨_,ei,_,hkk⟩:=hk
  rw[hkk]at hb;simp at hb
 all_goals (rw[hk.1]at hb;simp at hb)
end
theorem QW(k:Nat):∀ (n:Nat) (l:List AV),(Qc k n l).length=n
 | 0,_=>rfl
 | n+1,l=>by simp[Qc,QW k n]
theorem XL(k:Nat):∀ (n:Nat) (l:List AV) (i:Nat),i < n->Ji (Qc k n l) i=(l.drop (i * k)).take k
 | 0,_,_,h=>by omega
 | n+1,l,0,_=>by simp[Qc,Ji]
 | n+1,l,i+1,h=>by
  have:=XL k n (l.drop k) i (by omega)
  simp only[Qc]
  have e:Ji (l.take k::Qc k n (l.drop k)) (i+1)=Ji (Qc k n (l.drop k)) i:=by simp[Ji]
  rw[e,this,List.drop_drop]
  congr 2
  rw[Nat.add_mul];omega
theorem Vq(l:List AV)(off:Nat)(xs:List AV)(h:off+xs.length<=l.length):(Av.splice l off xs).length=l.length:=by
 simp[Av.splice];omega
theorem XR:∀ (ps:List (Option (Nat × Nat) × AV)) (cells l:List AV),JF cells ps=some l->l.length=cells.length
 | [],cells,l,h=>by simp only[JF]at h;cases h;rfl
 | (none,_)::_,cells,l,h=>by simp[JF]at h
 | (some (off,size),v)::rest,cells,l,h=>by
  cases v with
  | agg m =>
   simp only[JF]at h
   split at h
   . rename_i hb
     simp only[Kd]at hb
     have h1:=Kc hb.1
     have h2:=Kl hb.2
     rw[XR rest _ l h,Vq _ _ _ (by omega)]
   cases h
  | _ =>
   simp only[JF]at h
   split at h
   . rename_i hb
     simp only[Kd]at hb
     have h2:=Kl hb.2
     rw[XR rest _ l h,Vq _ _ _ (by simp;omega)]
   cases h
section
variable {K : Ctx} {ρ : Pl} {slot : Nat → Option AV} {B : Nat → ABlk} {a : Act} {w : World}
def RowsAt(R:Value->AV->Prop)(cur:Array Value)(k:Nat)(rows:List (List AV)):Prop :=
 (∀ i,i < rows.length->(Ji rows i).length=k)/\rows.length * k<=cur.size/\∀ i,i < rows.length->∀ j,j < k->R (cur.getD (i * k+j) undef) (nth (Ji rows i) j)
theorem J2{i n j k:Nat}(hi:i < n)(hj:j < k):i * k+j < n * k:=by
 have:(i+1) * k<=n * k:=K1 _ hi
 rw[Nat.add_mul,Nat.one_mul]at this
 omega
theorem RowsAt.of_list{R:Value->AV->Prop}{cur:Array Value}{k n:Nat}{l:List AV}(hl:l.length=n * k)(hz:Z R cur.toList l):RowsAt R cur k (Qc k n l):=by
 have hs:cur.size=l.length:=by have:=hz.1;simpa using this
 refine⟨fun i hi=>?_,by rw[QW,hs,hl];exact Kr _,fun i hi j hj=>?_⟩
 . rw[QW]at hi
   rw[XL k n l i hi,Kg,Kh,hl]
   have:(i+1) * k<=n * k:=K1 _ hi
   rw[Nat.add_mul,Nat.one_mul]at this
   omega
 rw[QW]at hi
 have hlt:=J2 hi hj
 have:=hz.getD.2 (i * k+j) (by omega)
 rw[XL k n l i hi]
 have e:nth ((l.drop (i * k)).take k) j=nth l (i * k+j):=by
  simp[nth,List.getD_eq_getElem?_getD,hj]
 rw[e]
 exact this
theorem RowsAt.mono{R R':Value->AV->Prop}{cur:Array Value}{k:Nat}{rows:List (List AV)}(h:RowsAt R cur k rows)(hr:∀ v x,R v x->R' v x):RowsAt R' cur k rows :=
 ⟨h.1,h.2.1,fun i hi j hj=>hr _ _ (h.2.2 i hi j hj)⟩
theorem RelW.newBuf(h:RelW K ρ slot B a w){nid:Nat}(hf:Fresh slot B nid){cur:Array Value}{e k cap:Nat}{rows:List (List AV)}(hR:RowsAt (CP (XX K.X0 ρ B) w) cur k rows)
 (hcap:rows.length<=cap)(hmax:cap<=maxLen)(hsz:cur.size=cap * k) :
 Post K slot B a [(nid,.buf e k rows)] (.own nid rows.length) (.slice (some ⟨w.heap.size,0,none⟩) rows.length cap) (w.alloc (.cells cur e)):=by
 have hb:=QF w (.cells cur e)
 have hr:=h.replace nid nid (.buf e k rows) (some w.heap.size) (Keeps.of_below hb h.le_size) hf.dead hf.zero (fun h=>h) (fun n h=>by cases h) (fun cells e=>hf.dead (by rw[e];trivial)) hf.slots hf.blks (fun b hlt _=>hb.block b hlt)
  (fun b hp=>by cases hp;exact .inr ⟨Kr _,by simp⟩) (fun _ hm _=>by
   unfold BlkOK
   rw[Jb]
   exact⟨hR.1,Nat.le_trans hcap hmax,.inr ⟨w.heap.size,cur,Jb _ _ _,heap_alloc_new w _,hR.2.1,fun i hi j hj=>⟨(hR.2.2 i hi j hj).1,hm _ _ (hR.2.2 i hi j hj).2⟩⟩⟩)
 rw[Xq]at hr
 refine⟨_,hr.1,rfl,fun e' k' rows' hB=>?_⟩
 simp only[wrB,Jb]at hB
 cases hB
 exact⟨rfl,.inr ⟨w.heap.size,cap,cur,Jb _ _ _,rfl,heap_alloc_new w _,hcap,hmax,hsz⟩⟩
theorem Rep.sl_new{X:Nat->Prop}{cur:Array Value}{k cap:Nat}{rows:List (List AV)}(T:TypeId)(hX:¬ X w.heap.size)(hR:RowsAt (CP X w) cur k rows)(hcap:rows.length<=cap)(hmax:cap<=maxLen) :
 Rep X (w.alloc (.cells cur T)) (.slice (some ⟨w.heap.size,0,none⟩) rows.length cap) (.sl k rows):=by
 have hm:∀ v av,Rep X w v av->Rep X (w.alloc (.cells cur T)) v av:=fun v av hv =>
  Rep.mono (by simp) (fun b hlt _=>Below.heap_alloc w _ b hlt) (fun _ _ hn=>hn) hv
 refine Rep.sl w.heap.size 0 cap k rows (fun i j=>cur.getD (i * k+j) undef) (by simp) hX hcap (Nat.le_trans hcap hmax) hR.1 (fun i hi j hj=>?_) (fun i hi j hj=>hm _ _ (hR.2.2 i hi j hj).2) (fun i hi j hj=>(hR.2.2 i hi j hj).1)
 have hlt:=J2 hi hj
 have:i * k+j < cur.size:=K0 hlt hR.2.1
 rw[Nat.zero_add]
 simp[Array.getD,this]
theorem Does.newSlice(h:RelW K ρ slot B a w){nid:Nat}(hf:Fresh slot B nid){o:Oper}{cur:Array Value}{e k cap:Nat}{rows:List (List AV)}{fr:Bool}{conds:List Cd}{ou:Out}
 (hrun:(execOp a.eval o).run K.P w=.ok (.value (.slice (some ⟨w.heap.size,0,none⟩) rows.length cap)) (w.alloc (.cells cur e)))
 (hR:RowsAt (CP (XX K.X0 ρ B) w) cur k rows)(hcap:rows.length<=cap)(hmax:cap<=maxLen)(hsz:cur.size=cap * k)
 (hout:(if fr then out (.sl k rows) conds else some ⟨.own nid rows.length,[(nid,.buf e k rows)],conds,[]⟩)=some ou) :
 ou.obl=[]/\Does K.P o a w (Post K slot B a ou.wr ou.v):=by
 cases fr with
 | true =>
  cases hout
  exact⟨rfl,Does.of_run hrun ⟨ρ,h.world (QF w _),SRep.of_rep (Rep.sl_new e h.fresh_xx hR hcap hmax)⟩⟩
 | false =>
  cases hout
  exact⟨rfl,Does.of_run hrun (h.newBuf hf hR hcap hmax hsz)⟩
theorem JE(l:List AV):∀ (n q:Nat),((List.replicate n l).flatten)[q]?=if q < n * l.length then l[q % l.length]? else none
 | 0,q=>by simp
 | n+1,q=>by
  rw[List.replicate_succ,List.flatten_cons,List.getElem?_append]
  by_cases hq:q < l.length
  . rw[if_pos hq,if_pos (by rw[Nat.add_mul];omega),Nat.mod_eq_of_lt hq]
  rw[if_neg hq,JE l n (q-l.length)]
  have h2:(q-l.length < n * l.length) ↔ (q < (n+1) * l.length):=by rw[Nat.add_mul];omega
  by_cases h3:q < (n+1) * l.length
  . rw[if_pos (h2.2 h3),if_pos h3]
    congr 1
    rw[<- Nat.mod_eq_sub_mod (by omega)]
  rw[if_neg (fun x=>h3 (h2.1 x)),if_neg h3]
theorem XA{R:Value->AV->Prop}{z:Array Value}{l:List AV}(hz:Z R z.toList l)(n:Nat):Z R (madeCells z (n * z.size)).toList ((List.replicate n l).flatten):=by
 have hs:z.size=l.length:=by have:=hz.1;simpa using this
 refine⟨?_,fun q v x hv hx=>?_⟩
 . simp[madeCells,hs,List.length_flatten]
 rw[JE]at hx
 by_cases hq:q < n * l.length
 . rw[if_pos hq]at hx
   have hq':q < n * z.size:=by rw[hs];exact hq
   have hv':v=z[q % z.size]!:=by
    simp only[madeCells,Array.toList_map,Kk,Array.toList_range,List.getElem?_range hq']at hv
    simpa using hv.symm
   have hm:q % z.size < z.size:=Nat.mod_lt _ (by
    rcases Nat.eq_zero_or_pos z.size with h0 | h0
    . rw[h0]at hq';simp at hq'
    . exact h0)
   refine hz.2 (q % z.size) v x ?_ (by rw[hs];exact hx)
   rw[hv']
   simp[hm]
 rw[if_neg hq]at hx;cases hx
theorem JcH(hT:TOK K.P K.T)(h:RelW K ρ slot B a w){nid:Nat}(hf:Fresh slot B nid){o:Oper}{t e es eb:Nat}{x y:Operand}(ho:o.op=.makeSlice t x y){ti te:TI}(hti:lk t K.T=some ti)(hk:ti.k=.slice e es eb)(hte:lk e K.T=some te)
 {kx ky:IntKind}{n c:Int}(hx:a.eval x=.int kx n)(hy:a.eval y=.int ky c)(hz:te.zero.length=es)(h0:0<=n)(hnc:n<=c)(hc:c<=9223372036854775807)(hb:c * eb<=140737488355328){fr:Bool}{conds:List Cd}{ou:Out}
 (hout:(if fr then out (.sl es (List.replicate n.toNat te.zero)) conds else some ⟨.own nid n.toNat,[(nid,.buf e es (List.replicate n.toNat te.zero))],conds,[]⟩)=some ou) :
 ou.obl=[]/\Does K.P o a w (Post K slot B a ou.wr ou.v):=by
 obtain⟨d,inf,z,kk⟩:=Jk (hT t ti hti)
 obtain⟨d2,inf2,z2,kk2⟩:=Jk (hT e te hte)
 have hkk:=kk.kind
 rw[hk]at hkk
 cases d <;> simp only[JQ,reduceCtorEq,false_and,and_false,exists_false]at hkk
 case slice e' =>
  obtain⟨_,ei,hei,hkk⟩:=hkk
  simp only[TK.slice.injEq]at hkk
  obtain⟨rfl,rfl,rfl⟩:=hkk
  have hinf:ei=inf2:=by have:=kk2.info;rw[hei]at this;exact Option.some.inj this
  subst hinf
  have hzc:=J8 (w:=w) kk2 (XX K.X0 ρ B)
  have hz2:z2.cells.size=ei.size:=kk2.zsize
  have hrun:=run_make (P:=K.P) w t e ei z2 kk.und kk2.info kk2.zero kx ky n c h0 hnc (by rw[Int.mul_comm];omega) hc
  have hmade:=XA hzc c.toNat
  rw[hz2]at hmade
  have hrows:RowsAt (CP (XX K.X0 ρ B) w) (madeCells z2.cells (c.toNat * ei.size)) ei.size (List.replicate n.toNat te.zero):=by
   refine⟨fun i hi=>?_,?_,fun i hi j hj=>?_⟩
   . simp at hi;simp[Ji,hi,hz]
   . rw[size_madeCells,Kt];exact K1 _ (by omega)
   simp only[Kt]at hi
   have hlt:i * ei.size+j < c.toNat * ei.size:=J2 (by omega) hj
   have:=hmade.getD.2 (i * ei.size+j) (by rw[List.length_flatten];simp[hz];exact hlt)
   have e2:nth (Ji (List.replicate n.toNat te.zero) i) j=nth ((List.replicate c.toNat te.zero).flatten) (i * ei.size+j):=by
    unfold nth
    rw[Ka,Ka,JE,hz,if_pos hlt]
    have:(i * ei.size+j) % ei.size=j:=by rw[Nat.add_comm,Nat.add_mul_mod_self_right,Nat.mod_eq_of_lt hj]
    rw[this]
    simp[Ji,hi]
   rw[e2]
   exact this
  refine Does.newSlice (cap:=c.toNat) (e:=e) (rows:=List.replicate n.toNat te.zero) h hf (cur:=madeCells z2.cells (c.toNat * ei.size)) ?_ hrows (by simp;omega) (by unfold maxLen;omega) (by rw[size_madeCells]) (by rw[Kt];exact hout)
  unfold execOp
  rw[ho]
  simp only[hx,hy,Ki,hrun,Ke,Kt]
  rfl
theorem Jb5(hT:TOK K.P K.T)(h:RelW K ρ slot B a w){nid:Nat}(hf:Fresh slot B nid){o:Oper}{t n e es eb:Nat}{parts:Array (Nat × Operand)}(ho:o.op=.buildSlice t n parts){ti te:TI}(hti:lk t K.T=some ti)(hk:ti.k=.slice e es eb)
 (hte:lk e K.T=some te)(hz:te.zero.length=es)(hes:es ≠ 0)(hsmall:n * es<=16777216){ins:List AV}(hi:Xe ρ B (XX K.X0 ρ B) w a (parts.toList.map (·.2)) ins){l:List AV}
 (hfill:JF ((List.replicate n te.zero).flatten) (((parts.toList.map (·.1)).zip ins).map fun p=>(some (p.1 * es,es),p.2))=some l){fr:Bool}{ou:Out}
 (hout:(if fr then out (.sl es (Qc es n l))else some ⟨.own nid n,[(nid,.buf e es (Qc es n l))],[],[]⟩)=some ou) :
 ou.obl=[]/\Does K.P o a w (Post K slot B a ou.wr ou.v):=by
 obtain⟨d,inf,z,kk⟩:=Jk (hT t ti hti)
 obtain⟨d2,inf2,z2,kk2⟩:=Jk (hT e te hte)
 have hkk:=kk.kind
 rw[hk]at hkk
 cases d <;> simp only[JQ,reduceCtorEq,false_and,and_false,exists_false]at hkk
 case slice e' =>
  obtain⟨_,ei,hei,hkk⟩:=hkk
  simp only[TK.slice.injEq]at hkk
  obtain⟨rfl,rfl,rfl⟩:=hkk
  have hinf:ei=inf2:=by have:=kk2.info;rw[hei]at this;exact Option.some.inj this
  subst hinf
  have hzc:=J8 (w:=w) kk2 (XX K.X0 ρ B)
  have hz2:z2.cells.size=ei.size:=kk2.zsize
  have hmade:=XA hzc n
  rw[hz2]at hmade
  have hp:=Vs (fun i=>some (i * ei.size,ei.size)) parts.toList ins hi
  obtain⟨arr,h1,h2⟩:=JbV (l:=l) hmade hp hfill
  have hll:l.length=n * ei.size:=by rw[XR _ _ _ hfill,<- hmade.1];simp[size_madeCells]
  have hl:arr.size=n * ei.size:=by have:=h2.1;rw[hll]at this;simpa using this
  have hn0:n * ei.size=0 ↔ n=0:=by
   rw[Nat.mul_eq_zero];constructor
   . rintro(h | h)
     . exact h
     exact absurd h hes
   exact .inl
  refine Does.newSlice (cap:=n) (e:=e) (rows:=Qc ei.size n l) h hf (cur:=arr) ?_ (RowsAt.of_list hll h2) (by rw[QW];exact Kr _) (by
   have:n * 1<=n * ei.size:=Nat.mul_le_mul_left _ (by omega)
   unfold maxLen;omega) hl (by rw[QW];exact hout)
  unfold execOp
  rw[ho]
  have hbs:(Instr.buildSlice t n (parts.map fun(i,x)=>(i,a.eval x))).run K.P w=.ok (.slice (some ⟨w.heap.size,0,none⟩) n n) (w.alloc (.cells arr e)):=by
   unfold Instr.buildSlice
   simp only[Ki,run_underlying kk.und,Ke,kk2.sizeOf w,kk2.size]
   rw[if_neg (by omega)]
   by_cases hn:n * ei.size=0
   . have:n=0:=hn0.1 hn
     subst this
     have h1':Instr.fill (fun i=>some (i * ei.size,ei.size)) #[] (parts.toList.map fun p=>(p.1,a.eval p.2))=some arr:=by
      have e0:madeCells z2.cells (0 * ei.size)=#[]:=by simp[madeCells]
      rw[e0]at h1;exact h1
     simp[Array.range_zero',h1',newRow]
   have h1':Instr.fill (fun i=>some (i * ei.size,ei.size)) ((Array.range (n * ei.size)).map (z2.cells[· % z2.cells.size]!)) (parts.toList.map fun p=>(p.1,a.eval p.2))=some arr:=h1
   simp[hn,kk2.zeroValue w,h1',newRow]
  simp only[Ki,hbs,Ke,QW]
  rfl
theorem JaI(hT:TOK K.P K.T)(h:RelW K ρ slot B a w){nid:Nat}(hf:Fresh slot B nid){o:Oper}{t n e es eb:Nat}{parts:Array (Nat × Operand)}(ho:o.op=.buildSlice t n parts){ti te:TI}(hti:lk t K.T=some ti)(hk:ti.k=.slice e es eb)
 (hte:lk e K.T=some te)(hz:te.zero.length=es)(hes:es ≠ 0)(hsmall:n * es<=16777216){ins:List AV}(hi:Xe ρ B (XX K.X0 ρ B) w a (parts.toList.map (·.2)) ins)(hment:∀ av,av ∈ ins->nid ∉ Qn av){l:List AV}
 (hfill:Xt ((List.replicate n te.zero).flatten) (((parts.toList.map (·.1)).zip ins).map fun p=>(some (p.1 * es,es),p.2))=some l) :
 Does K.P o a w (Post K slot B a [(nid,.box l)] (.bsl nid n)):=by
 obtain⟨d,inf,z,kk⟩:=Jk (hT t ti hti)
 obtain⟨d2,inf2,z2,kk2⟩:=Jk (hT e te hte)
 have hkk:=kk.kind
 rw[hk]at hkk
 cases d <;> simp only[JQ,reduceCtorEq,false_and,and_false,exists_false]at hkk
 case slice e' =>
  obtain⟨_,ei,hei,hkk⟩:=hkk
  simp only[TK.slice.injEq]at hkk
  obtain⟨rfl,rfl,rfl⟩:=hkk
  have hinf:ei=inf2:=by have:=kk2.info;rw[hei]at this;exact Option.some.inj this
  subst hinf
  have hzc:Z (CR ρ B (XX K.X0 ρ B) w) z2.cells.toList te.zero:=(J8 (w:=w) kk2 (XX K.X0 ρ B)).mono fun v a hv=>⟨hv.1,SRep1.of_rep hv.2⟩
  have hz2:z2.cells.size=ei.size:=kk2.zsize
  have hmade:=XA hzc n
  rw[hz2]at hmade
  have hp:=Vs (fun i=>some (i * ei.size,ei.size)) parts.toList ins hi
  obtain⟨arr,h1,h2⟩:=JbW (l:=l) hmade hp hfill
  have hm:∀ y,y ∈ l->nid ∉ mids1 y:=Ja4 (fun y hy=>by
   obtain⟨r,hr,hy⟩:=List.mem_flatten.1 hy
   rw[(List.mem_replicate.1 hr).2]at hy
   rw[(WC kk2 y hy).1]
   simp) hp (fun p hp=>by
    obtain⟨q,hq,rfl⟩:=List.mem_map.1 hp
    exact hment _ (List.of_mem_zip hq).2) hfill
  have hn0:n * ei.size=0 ↔ n=0:=by
   rw[Nat.mul_eq_zero];constructor
   . rintro(h | h)
     . exact h
     exact absurd h hes
   exact .inl
  have hmax:n<=maxLen:=by
   have:n * 1<=n * ei.size:=Nat.mul_le_mul_left _ (by omega)
   unfold maxLen;omega
  have hbs:(Instr.buildSlice t n (parts.map fun(i,x)=>(i,a.eval x))).run K.P w=.ok (.slice (some ⟨w.heap.size,0,none⟩) n n) (w.alloc (.cells arr e)):=by
   unfold Instr.buildSlice
   simp only[Ki,run_underlying kk.und,Ke,kk2.sizeOf w,kk2.size]
   rw[if_neg (by omega)]
   by_cases hn:n * ei.size=0
   . have:n=0:=hn0.1 hn
     subst this
     have h1':Instr.fill (fun i=>some (i * ei.size,ei.size)) #[] (parts.toList.map fun p=>(p.1,a.eval p.2))=some arr:=by
      have e0:madeCells z2.cells (0 * ei.size)=#[]:=by simp[madeCells]
      rw[e0]at h1;exact h1
     simp[Array.range_zero',h1',newRow]
   have h1':Instr.fill (fun i=>some (i * ei.size,ei.size)) ((Array.range (n * ei.size)).map (z2.cells[· % z2.cells.size]!)) (parts.toList.map fun p=>(p.1,a.eval p.2))=some arr:=h1
   simp[hn,kk2.zeroValue w,h1',newRow]
  refine Does.of_run (v:=.slice (some ⟨w.heap.size,0,none⟩) n n) (w':=w.alloc (.cells arr e)) ?_ ?_
  . unfold execOp
    rw[ho]
    simp only[Ki,hbs,Ke]
    rfl
  have hb:=QF w (.cells arr e)
  have hr:=h.replace nid nid (.box l) (some w.heap.size) (Keeps.of_below hb h.le_size) hf.dead hf.zero (fun h=>h) (fun n h=>by cases h) (fun cells e=>hf.dead (by rw[e];trivial)) hf.slots hf.blks (fun b hlt _=>hb.block b hlt)
   (fun b hp=>by cases hp;exact .inr ⟨Kr _,by simp⟩) (fun hm' _ _=>by
    unfold BlkOK
    rw[Jb]
    refine⟨w.heap.size,arr,e,Jb _ _ _,heap_alloc_new w _,h2.getD.1,fun j hj=>?_⟩
    obtain⟨g1,g2⟩:=h2.getD.2 j hj
    exact⟨g1,hm' _ _ g2 (hm _ (Qe hj))⟩)
  rw[Xq]at hr
  exact⟨_,hr.1,rfl,fun cells _=>⟨w.heap.size,n,Jb _ _ _,rfl,Kr _,hmax⟩⟩
end
section
variable {K : Ctx} {ρ : Pl} {slot : Nat → Option AV} {B : Nat → ABlk} {a : Act} {w : World}
theorem RelW.keeps_row(h:RelW K ρ slot B a w){id b:Nat}(ha:(B id).alive)(hr:ρ id=some b)(cs:Array Value):Keeps K.F K.w0.heap.size w (w.setRow b cs):=by
 refine⟨rfl,rfl,rfl,by simp,fun k hk hF=>setRow_other w b k cs ?_⟩
 rintro rfl
 rcases(h.live id k ha hr).1 with h1 | h1
 . exact hF h1
 omega
theorem Xf{w:World}{b:Nat}{old cs:Array Value}{T:TypeId}(hh:w.heap[b]?=some (.cells old T (0,0)))(hs:cs.size=old.size):sameSize w (w.setRow b cs) b:=by
 intro cur e hc
 rw[hh]at hc
 cases hc
 exact⟨cs,setRow_heap w b old cs T (0,0) hh,hs⟩
theorem Ja6{o:Oper}{t:Nat}{x y:Operand}(ho:o.op=.store t x y){P:Program}{w':World}(h:(Instr.storeAt t (a.eval x) (a.eval y)).run P w=.ok () w') :
 (execOp a.eval o).run P w=.ok .skip w':=by
 unfold execOp
 rw[ho]
 simp only[Ki,h,Ke]
 rfl
theorem WH{X:Nat->Prop}{w:World}:Rep X w undef (.tup []):=Rep.tup_mk (arr:=#[]) Z.nil
theorem Jcn(hT:TOK K.P K.T)(h:RelW K ρ slot B a w){o:Oper}{t:Nat}{x y:Operand}(ho:o.op=.store t x y){id off:Nat}{cells l:List AV}{av:AV}{ti:TI}(hti:lk t K.T=some ti)
 (hx:SRep ρ B (XX K.X0 ρ B) w (a.eval x) (.ptr id off))(hy:SRep ρ B (XX K.X0 ρ B) w (a.eval y) av)(hb:B id=.box cells)(hc:QT ti.size ti.agg av=some l)(hfit:off+ti.size<=cells.length) :
 Does K.P o a w (Post K slot B a [(id,.box (Av.splice cells off l))] (.tup [])):=by
 obtain⟨d,inf,z,kk⟩:=Jk (hT t ti hti)
 obtain⟨b,hr,hv⟩:=(show SRep0 ρ B (XX K.X0 ρ B) w (a.eval x) (.ptr id off)from hx).2 cells hb
 have hal:(B id).alive:=by rw[hb];trivial
 have hbl:=h.blks id
 unfold BlkOK at hbl
 rw[hb]at hbl
 obtain⟨b',cs,T,hr',hh,hsz,hcl⟩:=hbl
 rw[hr]at hr'
 cases hr'
 have hz:Z (CR ρ B (XX K.X0 ρ B) w) cs.toList cells:=Z.of_getD hsz hcl
 obtain⟨hzy,hly⟩:=Jao hc hy
 have hvs:(a.eval y).cells.size=ti.size:=by have:=hzy.1;rw[hly]at this;simpa using this
 have hone:∀ u ∈ (a.eval y).cells.toList,u.oneCell'=true:=by
  intro u hu
  obtain⟨i,hi,rfl⟩:=List.mem_iff_getElem.1 hu
  obtain⟨v,hv1,hv2⟩:=hzy.at (i:=i) (by have:=hzy.1;omega)
  rw[Kj hi]at hv1
  cases hv1
  exact hv2.1
 have hrun:=JaV kk w b off (a.eval y) cs T hh hvs (by rw[hsz];exact hfit) hone
 have hnew:=hz.splice hzy off
 generalize hns:(cs.toList.take off++(a.eval y).cells.toList++cs.toList.drop (off+(a.eval y).cells.toList.length))=ns at hnew
 have hns':(cs.toList.take off++(a.eval y).cells.toList++cs.toList.drop (off+(a.eval y).cells.size)).toArray=ns.toArray:=by rw[<- hns];simp
 rw[hns']at hrun
 have hsize:ns.toArray.size=cs.size:=by
  have:=hnew.1
  rw[Vq _ _ _ (by omega)]at this
  simp;omega
 have hm:=h.modify id (.box (Av.splice cells off l)) (w':=w.setRow b ns.toArray) (h.keeps_row hal hr _) (by rw[hb];trivial) hal
  (fun b2 hb2=>by rw[hr]at hb2;cases hb2;exact Xf hh hsize)
  (fun b2 _ hb2=>setRow_other w b b2 _ (fun e=>hb2 (by rw[hr,e])))
  (fun hm _=>by
   unfold BlkOK
   rw[Jb]
   refine⟨b,ns.toArray,T,hr,setRow_heap w b cs _ T (0,0) hh,(hnew.mono fun v x hc=>(⟨hc.1,hm v x hc.2⟩:_/\_)).getD.1,fun j hj=>(hnew.mono fun v x hc=>(⟨hc.1,hm v x hc.2⟩:v.oneCell'=true/\SRep1 ρ _ _ _ v x)).getD.2 j hj⟩)
 refine Does.of_skip (Ja6 ho (by rw[hv];exact hrun)) ⟨ρ,hm,SRep.of_rep WH⟩
theorem JX(l:List Value)(i:Nat):l.toArray.getD i undef=l.getD i undef:=by
 simp[Array.getD_eq_getD_getElem?,List.getD_eq_getElem?_getD]
theorem Jj8{R:Value->AV->Prop}{cur:Array Value}{k i j:Nat}{rows:List (List AV)}{vs:List Value}{l:List AV}(h:RowsAt R cur k rows)(hi:i < rows.length)(hz:Z R vs l)(hj:j+l.length<=k) :
 RowsAt R (cur.toList.take (i * k+j)++vs++cur.toList.drop (i * k+j+vs.length)).toArray k (QI rows i j l) /\
  (cur.toList.take (i * k+j)++vs++cur.toList.drop (i * k+j+vs.length)).toArray.size=cur.size:=by
 obtain⟨hk,hs,hc⟩:=h
 have hlen:vs.length=l.length:=hz.1
 have hrow:(i+1) * k<=rows.length * k:=K1 _ hi
 rw[Nat.add_mul,Nat.one_mul]at hrow
 have hsz:(cur.toList.take (i * k+j)++vs++cur.toList.drop (i * k+j+vs.length)).toArray.size=cur.size:=by
  simp;omega
 have hki:=hk i hi
 refine⟨⟨fun i' hi'=>?_,?_,fun i' hi' q hq=>?_⟩,hsz⟩
 . simp only[QI,K2]at hi'
   by_cases e:i'=i
   . subst e
     have:Ji (QI rows i' j l) i'=Av.splice (Ji rows i') j l:=by simp[QI,Ji,hi']
     rw[this,Vq _ _ _ (by omega),hki]
   have:Ji (QI rows i j l) i'=Ji rows i':=by simp[QI,Ji,Ne.symm e]
   rw[this];exact hk i' hi'
 . rw[hsz];simp only[QI,K2];exact hs
 . simp only[QI,K2]at hi'
   rw[JX]
   have hold:=hc i' hi' q hq
   have hlt:i' * k+q < cur.size:=K0 (J2 hi' hq) hs
   rw[Kv]at hold
   by_cases e:i'=i
   . subst e
     have hr:Ji (QI rows i' j l) i'=Av.splice (Ji rows i') j l:=by simp[QI,Ji,hi']
     rw[hr]
     unfold nth Av.splice
     rw[Ka,Ka,List.getElem?_append,List.getElem?_append,List.getElem?_append,List.getElem?_append]
     simp only[Kg,Kf,Array.length_toList]
     have e1:min (i' * k+j) cur.size=i' * k+j:=by omega
     have e2:min j (Ji rows i').length=j:=by omega
     rw[e1,e2]
     by_cases h1:q < j
     . rw[if_pos (by omega),if_pos (by omega),if_pos (by omega),if_pos (by omega)]
       rw[List.getElem?_take,List.getElem?_take,if_pos (by omega),if_pos (by omega)]
       simpa[nth,List.getD_eq_getElem?_getD]using hold
     by_cases h2:q < j+l.length
     . rw[if_pos (by omega),if_neg (by omega),if_pos (by omega),if_neg (by omega)]
       obtain⟨v,hv,hvr⟩:=hz.at (i:=q-j) (by omega)
       rw[show i' * k+q-(i' * k+j)=q-j by omega,hv]
       simpa[nth,List.getD_eq_getElem?_getD]using hvr
     rw[if_neg (by omega),if_neg (by omega)]
     rw[List.getElem?_drop,List.getElem?_drop,hlen,show i' * k+j+l.length+(i' * k+q-(i' * k+j+l.length))=i' * k+q by omega,show j+l.length+(q-(j+l.length))=q by omega]
     simpa[nth,List.getD_eq_getElem?_getD]using hold
   have hr:Ji (QI rows i j l) i'=Ji rows i':=by simp[QI,Ji,Ne.symm e]
   rw[hr]
   rw[Ka,List.getElem?_append,List.getElem?_append]
   simp only[Kg,Kf,Array.length_toList]
   have e1:min (i * k+j) cur.size=i * k+j:=by omega
   rw[e1]
   rcases Nat.lt_or_gt_of_ne e with h3 | h3
   . have:(i'+1) * k<=i * k:=K1 _ h3
     rw[Nat.add_mul,Nat.one_mul]at this
     rw[if_pos (by omega),if_pos (by omega),List.getElem?_take,if_pos (by omega)]
     simpa using hold
   have:(i+1) * k<=i' * k:=K1 _ h3
   rw[Nat.add_mul,Nat.one_mul]at this
   rw[if_neg (by omega),List.getElem?_drop,show i * k+j+vs.length+(i' * k+q-(i * k+j+vs.length))=i' * k+q by omega]
   simpa using hold
theorem Z.ones{X:Nat->Prop}{vs:List Value}{l:List AV}(h:Z (CR ρ B X w) vs l):∀ u ∈ vs,u.oneCell'=true:=by
 intro u hu
 obtain⟨i,hi,rfl⟩:=List.mem_iff_getElem.1 hu
 obtain⟨v,hv1,hv2⟩:=h.at (i:=i) (by have:=h.1;omega)
 rw[Kj hi]at hv1
 cases hv1
 exact hv2.1
theorem JfM(hT:TOK K.P K.T)(h:RelW K ρ slot B a w){o:Oper}{t:Nat}{x y:Operand}(ho:o.op=.store t x y){id i j e k:Nat}{rows:List (List AV)}{l:List AV}{av:AV}{ti:TI}(hti:lk t K.T=some ti)
 (hx:SRep ρ B (XX K.X0 ρ B) w (a.eval x) (.optr id i j))(hy:SRep ρ B (XX K.X0 ρ B) w (a.eval y) av)(hb:B id=.buf e k rows)(hc:QT ti.size ti.agg av=some l)(hp:l.all JJ=true)(hi:i < rows.length)(hfit:j+ti.size<=k) :
 Does K.P o a w (Post K slot B a [(id,.buf e k (QI rows i j l))] (.tup [])):=by
 obtain⟨d,inf,z,kk⟩:=Jk (hT t ti hti)
 obtain⟨b,hr,hv⟩:=(show SRep0 ρ B (XX K.X0 ρ B) w (a.eval x) (.optr id i j)from hx).2 e k rows hb
 have hal:(B id).alive:=by rw[hb];trivial
 have hbl:=h.blks id
 unfold BlkOK at hbl
 rw[hb]at hbl
 obtain⟨hk,hmx,hbl⟩:=hbl
 rcases hbl with⟨h1,_⟩ | ⟨b',cur,hr',hh,hsz,hcl⟩
 . rw[hr]at h1;cases h1
 rw[hr]at hr'
 cases hr'
 obtain⟨hzy,hly⟩:=Jao hc hy
 have hvs:(a.eval y).cells.size=ti.size:=by have:=hzy.1;rw[hly]at this;simpa using this
 have hrow:(i+1) * k<=rows.length * k:=K1 _ hi
 rw[Nat.add_mul,Nat.one_mul]at hrow
 have hrun:=JaV kk w b (i * k+j) (a.eval y) cur e hh hvs (by omega) hzy.ones
 have hzp:Z (CP (XX K.X0 ρ B) w) (a.eval y).cells.toList l:=hzy.mono_mem fun v x hx hc=>CR.pure (List.all_eq_true.1 hp x hx) hc
 obtain⟨hR,hS⟩:=Jj8 (R:=CP (XX K.X0 ρ B) w) (cur:=cur) ⟨hk,hsz,hcl⟩ hi hzp (j:=j) (by omega)
 rw[show(a.eval y).cells.toList.length=(a.eval y).cells.size by simp]at hR hS
 generalize (cur.toList.take (i * k+j)++(a.eval y).cells.toList++cur.toList.drop (i * k+j+(a.eval y).cells.size)).toArray=ns at hrun hR hS
 have hm:=h.modify id (.buf e k (QI rows i j l)) (w':=w.setRow b ns) (h.keeps_row hal hr _) (by rw[hb];exact⟨rfl,rfl,by simp[QI]⟩) hal
  (fun b2 hb2=>by rw[hr]at hb2;cases hb2;exact Xf hh hS)
  (fun b2 _ hb2=>setRow_other w b b2 _ (fun e=>hb2 (by rw[hr,e])))
  (fun _ hm=>by
   unfold BlkOK
   rw[Jb]
   exact⟨hR.1,by simpa[QI]using hmx,.inr ⟨b,ns,hr,setRow_heap w b cur _ e (0,0) hh,hR.2.1,fun i hi j hj=>⟨(hR.2.2 i hi j hj).1,hm _ _ (hR.2.2 i hi j hj).2⟩⟩⟩)
 exact Does.of_skip (Ja6 ho (by rw[hv];exact hrun)) ⟨ρ,hm,SRep.of_rep WH⟩
end
section
variable {K : Ctx} {ρ : Pl} {slot : Nat → Option AV} {B : Nat → ABlk} {a : Act} {w : World}
def SrcOK(X:Nat->Prop)(w:World)(v:Value)(k:Nat)(rows:List (List AV)):Prop :=
 (∀ i,i < rows.length->(Ji rows i).length=k)/\∃ (ad:Option Addr) (cap:Nat),v=.slice ad rows.length cap/\(ad=none->rows=[]) /\
  ∀ p,ad=some p->∃ news:List Value,news.length=rows.length * k/\(∀ (q:Nat) (u:Value),news[q]?=some u->w.cell? (p.add q)=some u) /\
   ∀ i,i < rows.length->∀ j,j < k->∃ u,news[i * k+j]?=some u/\CP X w u (nth (Ji rows i) j)
theorem JkM{α:Type}(f:Nat->Nat->α){n k i j:Nat}(hi:i < n)(hj:j < k):((List.range (n * k)).map fun q=>f (q / k) (q % k))[i * k+j]?=some (f i j):=by
 have hlt:=J2 hi hj
 have h1:(i * k+j) / k=i:=by
  rw[Nat.add_comm,Nat.add_mul_div_right _ _ (by omega),Nat.div_eq_of_lt hj];omega
 have h2:(i * k+j) % k=j:=by rw[Nat.add_comm,Nat.add_mul_mod_self_right,Nat.mod_eq_of_lt hj]
 rw[Kk,List.getElem?_range hlt]
 simp[h1,h2]
theorem SrcOK.of_fn{X:Nat->Prop}{b o k cap:Nat}{rows:List (List AV)}(cv:Nat->Nat->Value)(hk:∀ i,i < rows.length->(Ji rows i).length=k)
 (hc:∀ i,i < rows.length->∀ j,j < k->w.cell? ⟨b,o+i * k+j,none⟩=some (cv i j)/\CP X w (cv i j) (nth (Ji rows i) j)) :
 SrcOK X w (.slice (some ⟨b,o,none⟩) rows.length cap) k rows:=by
 refine⟨hk,some ⟨b,o,none⟩,cap,rfl,fun h=>(by cases h),fun p hp=>?_⟩
 cases hp
 refine⟨(List.range (rows.length * k)).map fun q=>cv (q / k) (q % k),by simp,fun q u hu=>?_,fun i hi j hj=>⟨cv i j,JkM cv hi hj,(hc i hi j hj).2⟩⟩
 have hq:q < rows.length * k:=by
  have:=(List.getElem?_eq_some_iff.1 hu).1
  simpa using this
 have hk0:0 < k:=by
  rcases Nat.eq_zero_or_pos k with h0 | h0
  . rw[h0]at hq;simp at hq
  exact h0
 have hi:q / k < rows.length:=(Nat.div_lt_iff_lt_mul hk0).2 hq
 have hj:q % k < k:=Nat.mod_lt _ hk0
 rw[Kk,List.getElem?_range hq]at hu
 simp at hu
 subst hu
 rw[Qh]
 have:=(hc _ hi _ hj).1
 have e:q / k * k+q % k=q:=by rw[Nat.mul_comm];exact Nat.div_add_mod q k
 rw[Nat.add_assoc,e]at this
 exact this
theorem JlH(h:RelW K ρ slot B a w){bs:BL}{k:Nat}{av:AV}{v:Value}{rows:List (List AV)}(hs:VS bs k av=some rows)(hbs:∀ id,id ∈ mids1 av->Jr bs id=B id)
 (hv:SRep ρ B (XX K.X0 ρ B) w v av):SrcOK (XX K.X0 ρ B) w v k rows:=by
 cases av with
 | sl k' rows' =>
  simp only[VS]at hs
  split at hs
  . rename_i hb
    cases hs
    have:=Kc hb
    subst this
    have hv:Rep (XX K.X0 ρ B) w v (.sl k rows):=hv
    cases hv with
    | slE p cap _=>exact⟨fun i hi=>by simp at hi,p,cap,rfl,fun _=>rfl,fun p _=>⟨[],by simp,fun q u hu=>by simp at hu,fun i hi=>by simp at hi⟩⟩
    | sl b o cap _ _ cv hb hX hcap hmax hk hc hr h1=>exact SrcOK.of_fn cv hk fun i hi j hj=>⟨hc i hi j hj,h1 i hi j hj,hr i hi j hj⟩
  cases hs
 | own id n =>
  simp only[VS]at hs
  rw[hbs id (by simp[mids1,mids0])]at hs
  cases hB:B id with
  | buf e k' rows' =>
   rw[hB]at hs
   simp only at hs
   split at hs
   . rename_i hb
     cases hs
     have h1:=Kc hb
     subst h1
     obtain⟨h2,hown⟩:=(show SRep0 ρ B (XX K.X0 ρ B) w v (.own id n)from hv).2 _ _ _ hB
     have hbl:=h.blks id
     unfold BlkOK at hbl
     rw[hB]at hbl
     obtain⟨hk,_,hbl⟩:=hbl
     rcases hown with⟨h3,rfl⟩ | ⟨b,cap,cur,hr,rfl,hh,hn,hm,hsz⟩
     . rcases hbl with⟨_,rfl⟩ | ⟨b,cur,hr,_⟩
       . exact⟨fun i hi=>by simp at hi,none,0,rfl,fun _=>rfl,fun p hp=>by cases hp⟩
       rw[h3]at hr;cases hr
     rcases hbl with⟨h3,_⟩ | ⟨b',cur',hr',hh',hs',hc'⟩
     . rw[hr]at h3;cases h3
     rw[hr]at hr'
     cases hr'
     rw[hh]at hh'
     cases hh'
     rw[<- h2]
     refine SrcOK.of_fn (fun i j=>cur.getD (i * k+j) undef) hk fun i hi j hj=>⟨?_,hc' i hi j hj⟩
     have hlt:i * k+j < cur.size:=K0 (J2 hi hj) hs'
     rw[Nat.zero_add,cell_of_row w b _ cur e (0,0) hh]
     simp[Array.getD,hlt]
   cases hs
  | _=>rw[hB]at hs;simp at hs
 | ex u =>
  simp only[VS]at hs
  split at hs
  . rename_i hb
    cases hs
    have hvu:=SRep.ex_inv hv
    subst hvu
    have:v=.slice none 0 0:=by
     revert hb;unfold QK;split <;> simp
    subst this
    exact⟨fun i hi=>by simp at hi,none,0,rfl,fun _=>rfl,fun p hp=>by cases hp⟩
  cases hs
 | _=>simp[VS]at hs
theorem WR{R:Value->AV->Prop}{k:Nat}{rows xs:List (List AV)}{arr:Array Value}(hk:∀ i,i < rows.length->(Ji rows i).length=k)(hkx:∀ i,i < xs.length->(Ji xs i).length=k)
 (hs:(rows.length+xs.length) * k<=arr.size)
 (h1:∀ i,i < rows.length->∀ j,j < k->R (arr.getD (i * k+j) undef) (nth (Ji rows i) j))
 (h2:∀ i,i < xs.length->∀ j,j < k->R (arr.getD ((rows.length+i) * k+j) undef) (nth (Ji xs i) j)):RowsAt R arr k (rows++xs):=by
 have e1:∀ i,i < rows.length->Ji (rows++xs) i=Ji rows i:=fun i hi=>by simp[Ji,List.getElem?_append,hi]
 have e2:∀ i,¬ i < rows.length->Ji (rows++xs) i=Ji xs (i-rows.length):=fun i hi=>by simp[Ji,List.getElem?_append,hi]
 refine⟨fun i hi=>?_,by simpa using hs,fun i hi j hj=>?_⟩
 . simp at hi
   by_cases hlt:i < rows.length
   . rw[e1 i hlt];exact hk i hlt
   rw[e2 i hlt];exact hkx _ (by omega)
 . simp at hi
   by_cases hlt:i < rows.length
   . rw[e1 i hlt];exact h1 i hlt j hj
   rw[e2 i hlt]
   have:=h2 (i-rows.length) (by omega) j hj
   rwa [show rows.length+(i-rows.length)=i by omega]at this
theorem J3{o:Oper}{c:Call}{b:Builtin}(ho:o.op=.call c)(hb:c.callee=.builtin b){P:Program}{v:Value}{w':World}
 (h:(builtin b c.argTypes o.type (c.args.map fun | .const _=>true | _=>false) (c.args.map a.eval)).run P w=.ok (.value v) w'):(execOp a.eval o).run P w=.ok (.value v) w':=by
 unfold execOp
 rw[ho]
 simp only[Ki]
 simp only[resolve,hb,Sem.run_pure,Ke,invoke]
 exact h
theorem RelW.appended(h:RelW K ρ slot B a w){id nid:Nat}{e k:Nat}{rows xs:List (List AV)}{w':World}{v':Value}{p':Option Nat}(hf:Fresh slot B nid)(hnb:∀ cells,B id ≠ .box cells)
 (hk:Keeps K.F K.w0.heap.size w w')(hout:∀ b,b < w.heap.size->¬ ((B id).alive/\ρ id=some b)->w'.heap[b]?=w.heap[b]?)
 (hrows:∀ i,i < (rows++xs).length->(Ji (rows++xs) i).length=k)(hmax:(rows++xs).length<=maxLen)
 (hres:(p'=none/\rows++xs=[]/\v'=.slice none 0 0) ∨
  ∃ b cur cap,p'=some b/\(((B id).alive/\ρ id=some b) ∨ (w.heap.size<=b/\b < w'.heap.size))/\v'=.slice (some ⟨b,0,none⟩) (rows++xs).length cap/\w'.heap[b]?=some (.cells cur e (0,0))/\(rows++xs).length<=cap/\cap<=maxLen/\cur.size=cap * k /\
   RowsAt (CP (XX K.X0 ρ B) w) cur k (rows++xs)) :
 Post K slot B a [(nid,.buf e k (rows++xs)),(id,.dead)] (.own nid (rows++xs).length) v' w':=by
 have hr:=h.replace id nid (.buf e k (rows++xs)) p' hk hf.dead hf.zero (fun h=>h) (fun n h=>by cases h) hnb hf.slots hf.blks hout
  (fun b hp=>by
   rcases hres with⟨h1,_⟩ | ⟨b',cur,cap,h1,h2,_⟩
   . rw[h1]at hp;cases hp
   . rw[h1]at hp;cases hp;exact h2)
  (fun _ hm _=>by
   unfold BlkOK
   rw[Jb]
   refine⟨hrows,hmax,?_⟩
   rcases hres with⟨h1,h2,_⟩ | ⟨b',cur,cap,h1,_,_,h4,_,_,_,h8⟩
   . exact .inl ⟨by rw[Jb,h1],h2⟩
   . exact .inr ⟨b',cur,by rw[Jb,h1],h4,h8.2.1,fun i hi j hj=>⟨(h8.2.2 i hi j hj).1,hm _ _ (h8.2.2 i hi j hj).2⟩⟩)
 refine⟨_,hr.1,?_,fun e' k' rows' hB=>?_⟩
 . rcases hres with⟨_,_,rfl⟩ | ⟨b',cur,cap,_,_,rfl,_⟩ <;> rfl
 . simp only[wrB,Jb]at hB
   cases hB
   refine⟨rfl,?_⟩
   rcases hres with⟨h1,h2,h3⟩ | ⟨b',cur,cap,h1,_,h3,h4,h5,h6,h7,_⟩
   . exact .inl ⟨by rw[Jb,h1],h3⟩
   exact .inr ⟨b',cap,cur,by rw[Jb,h1],h3,h4,h5,h6,h7⟩
theorem XY(w:World)(o:Obj):Below w.heap.size w (w.drew.alloc o):=((Below.refl _ w).drew).alloc (Kr _) o
theorem XP(xs:List Value)(ys:Array Value)(q:Nat)(h:q < xs.length):(xs.toArray++ys).getD q undef=xs.getD q undef:=by
 rw[Kv,Ka,Array.getElem?_append,if_pos (by simpa using h)]
 simp
theorem getD_some{arr:Array Value}{q:Nat}{u:Value}(h:arr[q]?=some u):arr.getD q undef=u:=by simp[Array.getD_eq_getD_getElem?,h]
theorem Jas(hT:TOK K.P K.T)(h:RelW K ρ slot B a w){nid id:Nat}(hf:Fresh slot B nid)(hnb:∀ cells,B id ≠ .box cells){o:Oper}{c:Call}{t e es eb:Nat}{x y:Operand}(ho:o.op=.call c)(hcb:c.callee=.builtin .append)(hargs:c.args=#[x,y])(hat:c.argTypes=#[t,t])
 {ti te:TI}(hti:lk t K.T=some ti)(hk:ti.k=.slice e es eb)(hte:lk e K.T=some te)(hes:es ≠ 0){rows xs:List (List AV)}(hsrc:SrcOK (XX K.X0 ρ B) w (a.eval y) es xs)
 (hown:(a.eval x=.slice none 0 0/\rows=[]) ∨ ∃ b cap cur,((B id).alive/\ρ id=some b)/\a.eval x=.slice (some ⟨b,0,none⟩) rows.length cap/\w.heap[b]?=some (.cells cur e (0,0))/\rows.length<=cap/\cap<=maxLen/\cur.size=cap * es/\RowsAt (CP (XX K.X0 ρ B) w) cur es rows)
 (hm1:rows.length+xs.length<=9223372036854775807)(hm2:(rows.length+xs.length) * eb<=140737488355328) :
 Does K.P o a w (Post K slot B a [(nid,.buf e es (rows++xs)),(id,.dead)] (.own nid (rows++xs).length)):=by
 obtain⟨d,inf,z,kk⟩:=Jk (hT t ti hti)
 obtain⟨d2,inf2,z2,kk2⟩:=Jk (hT e te hte)
 have hkk:=kk.kind
 rw[hk]at hkk
 cases d <;> simp only[JQ,reduceCtorEq,false_and,and_false,exists_false]at hkk
 case slice e' =>
  obtain⟨_,ei,hei,hkk⟩:=hkk
  simp only[TK.slice.injEq]at hkk
  obtain⟨rfl,rfl,rfl⟩:=hkk
  have hinf:ei=inf2:=by have:=kk2.info;rw[hei]at this;exact Option.some.inj this
  subst hinf
  have hz2:z2.cells.size=ei.size:=kk2.zsize
  obtain⟨hkx,ad,scap,hyv,hnil,hnews⟩:=hsrc
  have hrunb:∀ v w',(Builtin.append_ #[t,t] o.type #[a.eval x,a.eval y]).run K.P w=.ok v w'->(execOp a.eval o).run K.P w=.ok (.value v) w':=by
   intro v w' hr
   refine J3 ho hcb ?_
   rw[hargs,hat]
   simp only[builtin,List.map_toArray,List.map_cons,List.map_nil,Ki,hr,Ke]
   rfl
  have hlen:(rows++xs).length=rows.length+xs.length:=by simp
  have hmx:(rows++xs).length<=maxLen:=by rw[hlen];unfold maxLen;omega
  have hkr:∀ i,i < rows.length->(Ji rows i).length=ei.size:=by
   rcases hown with⟨_,rfl⟩ | ⟨b,cap,cur,_,_,_,_,_,_,hR⟩
   . intro i hi;simp at hi
   exact hR.1
  have hrows:∀ i,i < (rows++xs).length->(Ji (rows++xs) i).length=ei.size:=by
   intro i hi
   by_cases hlt:i < rows.length
   . have:Ji (rows++xs) i=Ji rows i:=by simp[Ji,List.getElem?_append,hlt]
     rw[this];exact hkr i hlt
   have:Ji (rows++xs) i=Ji xs (i-rows.length):=by simp[Ji,List.getElem?_append,hlt]
   rw[this];exact hkx _ (by omega)
  -- the same value, the same world
  have same:xs=[]->(execOp a.eval o).run K.P w=.ok (.value (a.eval x)) w->Does K.P o a w (Post K slot B a [(nid,.buf e ei.size (rows++xs)),(id,.dead)] (.own nid (rows++xs).length)):=by
   intro hx0 hr
   subst hx0
   refine Does.of_run hr ?_
   rcases hown with⟨hv,rfl⟩ | ⟨b,cap,cur,hb,hv,hh,h1,h2,h3,hR⟩
   . exact h.appended (p':=none) hf hnb (Keeps.refl _ _ _) (fun _ _ _=>rfl) hrows hmx (.inl ⟨rfl,rfl,hv⟩)
   refine h.appended (p':=some b) hf hnb (Keeps.refl _ _ _) (fun _ _ _=>rfl) hrows hmx (.inr ⟨b,cur,cap,rfl,.inl hb,?_,hh,by simpa using h1,h2,h3,?_⟩)
   . simpa using hv
   simpa using hR
  cases hadc:ad with
  | none =>
   have hx0:=hnil hadc
   refine same hx0 (hrunb _ _ ?_)
   subst hx0
   rw[hyv,hadc]
   rcases hown with⟨hv,rfl⟩ | ⟨b,cap,cur,hb,hv,hh,h1,h2,h3,hR⟩
   . rw[hv];simp[Builtin.append_,run_underlying kk.und,Go.sizeOf,typeInfo,kk2.info,Builtin.lenOf,Builtin.firstCells]
   rw[hv];simp[Builtin.append_,run_underlying kk.und,Go.sizeOf,typeInfo,kk2.info,Builtin.lenOf,Builtin.firstCells,h1,storeCells]
  | some p =>
   obtain⟨news,hnl,hnc,hnr⟩:=hnews p hadc
   have hn1:∀ u ∈ news,u.oneCell'=true:=by
    intro u hu
    obtain⟨q,hq,rfl⟩:=List.mem_iff_getElem.1 hu
    have hq':q < xs.length * ei.size:=by omega
    have hi:q / ei.size < xs.length:=(Nat.div_lt_iff_lt_mul (by omega)).2 hq'
    obtain⟨u',hu',hcp⟩:=hnr _ hi _ (Nat.mod_lt q (by omega))
    rw[Nat.mul_comm,Nat.div_add_mod,Kj hq]at hu'
    cases hu'
    exact hcp.1
   have hgrown:∀ (old:Nat) (olds:List Value) (cap':Nat),olds.length=rows.length * ei.size->rows.length+xs.length<=cap'->cap'<=maxLen →
    (∀ i,i < rows.length->∀ j,j < ei.size->∃ u,olds[i * ei.size+j]?=some u/\CP (XX K.X0 ρ B) w u (nth (Ji rows i) j)) →
    (execOp a.eval o).run K.P w=.ok (.value (.slice (some ⟨w.heap.size,0,none⟩) (rows.length+xs.length) cap')) (w.drew.alloc (.cells (olds.toArray++news.toArray++Builtin.zeroCells z2.cells (cap'-(rows.length+xs.length))) e)) →
    Does K.P o a w (Post K slot B a [(nid,.buf e ei.size (rows++xs)),(id,.dead)] (.own nid (rows++xs).length)):=by
    intro old olds cap' hol hc1 hc2 hor hr
    have hb:=XY w (.cells (olds.toArray++news.toArray++Builtin.zeroCells z2.cells (cap'-(rows.length+xs.length))) e)
    have hsz:(olds.toArray++news.toArray++Builtin.zeroCells z2.cells (cap'-(rows.length+xs.length))).size=cap' * ei.size:=by
     simp only[Array.size_append,List.size_toArray,size_zeroCells,hz2,hol,hnl,<- Nat.add_mul]
     congr 1;omega
    have hcap:(rows.length+xs.length) * ei.size<=cap' * ei.size:=K1 _ hc1
    refine Does.of_run hr ?_
    refine h.appended (p':=some w.heap.size) hf hnb (Keeps.of_below hb h.le_size) (fun b hlt _=>hb.block b hlt) hrows hmx (.inr ⟨w.heap.size,_,cap',rfl,.inr ⟨Kr _,by simp⟩,by rw[hlen],heap_alloc_new w.drew _,by rw[hlen];exact hc1,hc2,hsz,?_⟩)
    have hl2:(olds.toArray++news.toArray)=(olds++news).toArray:=by simp
    rw[hl2]
    refine WR hkr hkx (by rw[<- hl2,hsz];exact hcap) (fun i hi j hj=>?_) (fun i hi j hj=>?_)
    . have hlt:=J2 hi hj
      obtain⟨u,hu,hcp⟩:=hor i hi j hj
      rw[XP _ _ _ (by simp;omega),Ka,List.getElem?_append,if_pos (by omega),hu]
      exact hcp
    . have hlt:=J2 hi hj
      obtain⟨u,hu,hcp⟩:=hnr i hi j hj
      have e1:(rows.length+i) * ei.size+j=rows.length * ei.size+(i * ei.size+j):=by rw[Nat.add_mul];omega
      rw[e1,XP _ _ _ (by simp;omega),Ka,List.getElem?_append,if_neg (by omega),show rows.length * ei.size+(i * ei.size+j)-olds.length=i * ei.size+j by omega,hu]
      exact hcp
   rcases hown with⟨hv,rfl⟩ | ⟨b,cap,cur,hb,hv,hh,h1,h2,h3,hR⟩
   . by_cases hx0:xs=[]
     . refine same hx0 (hrunb _ _ ?_)
       subst hx0
       have hn0:news=[]:=List.eq_nil_of_length_eq_zero (by simpa using hnl)
       rw[hyv,hadc,hv]
       simp[Builtin.append_,run_underlying kk.und,Go.sizeOf,typeInfo,kk2.info,Builtin.lenOf,Builtin.firstCells,loadCells,loadCellsFrom]
     have hpos:0 < xs.length:=List.length_pos_iff.2 hx0
     simp only[List.length_nil,Nat.zero_add]at hm1 hm2
     have hr:=run_append_nil (P:=K.P) w t o.type e ei z2 kk.und kk2.info kk2.zero p xs.length scap news hnl hnc hpos (by omega) (by omega)
     refine hgrown 0 [] (grownCap w xs.length 0 e) (by simp) (by simpa using grownCap_ge w xs.length 0 e) (grownCap_le_maxLen w xs.length 0 e (by unfold maxLen;omega)) (fun i hi=>by simp at hi) ?_
     have:=hrunb _ _ (by rw[hv,hyv,hadc];exact hr)
     simpa using this
   have hn1':=hn1
   by_cases hroom:rows.length+xs.length<=cap
   . have hroomk:(rows.length+xs.length) * ei.size<=cap * ei.size:=K1 _ hroom
     rw[Nat.add_mul]at hroomk
     have hfit:rows.length * ei.size+news.length<=cur.size:=by rw[hnl,h3];exact hroomk
     have hr:=run_append_room (P:=K.P) w t o.type e ei kk.und kk2.info b rows.length cap cur hh p xs.length scap news hnl hnc hn1 hroom hfit
     have hrr:=hrunb _ _ (by rw[hv,hyv,hadc];exact hr)
     have hsz:(cur.toList.take (rows.length * ei.size)++news++cur.toList.drop (rows.length * ei.size+news.length)).toArray.size=cur.size:=by simp;omega
     refine Does.of_run hrr ?_
     refine h.appended (p':=some b) hf hnb (h.keeps_row hb.1 hb.2 _) (fun b2 _ hn=>setRow_other w b b2 _ (fun e2=>hn (by rw[e2];exact hb))) hrows hmx (.inr ⟨b,_,cap,rfl,.inl hb,by rw[hlen],setRow_heap w b cur _ e (0,0) hh,by rw[hlen];exact hroom,h2,by rw[hsz];exact h3,?_⟩)
     refine WR hkr hkx (by rw[hsz,h3,Nat.add_mul];exact hroomk) (fun i hi j hj=>?_) (fun i hi j hj=>?_)
     . have hlt:=J2 hi hj
       have:=hR.2.2 i hi j hj
       rw[Kv]at this
       rw[JX,Ka,List.getElem?_append,if_pos (by simp;omega),List.getElem?_append,if_pos (by simp;omega),List.getElem?_take,if_pos hlt]
       simpa using this
     have hlt:=J2 hi hj
     obtain⟨u,hu,hcp⟩:=hnr i hi j hj
     have e1:(rows.length+i) * ei.size+j=rows.length * ei.size+(i * ei.size+j):=by rw[Nat.add_mul];omega
     have hmin:min (rows.length * ei.size) cur.toList.length=rows.length * ei.size:=by simp;omega
     rw[e1,JX,Ka,List.getElem?_append,if_pos (by rw[Kf,Kg,hmin];omega),List.getElem?_append,if_neg (by rw[Kg,hmin];omega),Kg,hmin,show rows.length * ei.size+(i * ei.size+j)-rows.length * ei.size=i * ei.size+j by omega,hu]
     exact hcp
   have hlo:(cur.toList.take (rows.length * ei.size)).length=rows.length * ei.size:=by
    have:=hR.2.1;simp;omega
   have hr:=run_append_grow (P:=K.P) w t o.type e ei z2 kk.und kk2.info kk2.zero ⟨b,0,none⟩ rows.length cap (cur.toList.take (rows.length * ei.size)) hlo
    (fun q u hu=>by
     rw[Qh,Nat.zero_add,cell_of_row w b _ cur e (0,0) hh]
     rw[List.getElem?_take]at hu
     split at hu
     . simpa using hu
     . cases hu) p xs.length scap news hnl hnc (by omega) (by omega) (growslice_fits (by omega) hm2)
   refine hgrown cap _ (grownCap w (rows.length+xs.length) cap e) hlo (grownCap_ge w _ cap e) (grownCap_le_maxLen w _ cap e (by unfold maxLen;omega)) (fun i hi j hj=>?_) (hrunb _ _ (by rw[hv,hyv,hadc];exact hr))
   have hlt:=J2 hi hj
   have:=hR.2.2 i hi j hj
   have hcur:i * ei.size+j < cur.size:=K0 hlt hR.2.1
   refine⟨cur.getD (i * ei.size+j) undef,?_,this⟩
   rw[List.getElem?_take,if_pos hlt]
   simp[Array.getD,hcur]
theorem WQ{P:Program}(w:World)(t u ty e:TypeId)(i:TypeInfo)(z:Value)(k k':IntKind)(ht:P.underlying t=some (.slice e))(hu:P.underlying u=some (.int k'))(hi:P.info? e=some i)(hz:i.zero=some z)
 (n:Int)(h0:1<=n)(h63:n<=9223372036854775807)(h48:n * i.bytes<=281474976710656) :
 (Builtin.append_ #[t,u] ty #[.slice none 0 0,.int k n]).run P w =
  .ok (.slice (some ⟨w.heap.size,0,none⟩) n.toNat (grownCap w n.toNat 0 e)) (w.drew.alloc (.cells ((if n.toNat * i.size=0 then #[]else Builtin.zeroCells z.cells n.toNat)++Builtin.zeroCells z.cells (grownCap w n.toNat 0 e-n.toNat)) e)):=by
 obtain⟨m,rfl⟩:∃ m:Nat,n=m:=⟨n.toNat,by omega⟩
 have hw:IntKind.i64.wrap (m:Int)=m:=by
  simp[IntKind.wrap,IntKind.bits,IntKind.signed]
  omega
 have hn:m ≠ 0:=by omega
 have hneg:¬ ((m:Int) < 0):=by omega
 have h63':¬ (9223372036854775807 < (m:Int)):=by omega
 have h48i:¬ (281474976710656 < (m:Int) * i.bytes):=by omega
 have h48n:m * i.bytes<=281474976710656:=by
  have h:((m * i.bytes:Nat):Int)<=281474976710656:=by rw[Int.natCast_mul];exact h48
  omega
 have h48':¬ (281474976710656 < Builtin.nextslicecap m 0 * i.bytes):=by rw[nextslicecap_zero (by omega)];omega
 by_cases hs:m * i.size=0
 . simp[Builtin.append_,run_underlying ht,run_underlying hu,sizeOf,typeInfo,zeroValue,hi,hz,asInt,asIntOf,hw,hneg,hn,h63',h48i,h48',Question.forced,run_firstCells_none,newRow,grownCap,hs]
 . simp[Builtin.append_,run_underlying ht,run_underlying hu,sizeOf,typeInfo,zeroValue,hi,hz,asInt,asIntOf,hw,hneg,hn,h63',h48i,h48',Question.forced,run_firstCells_none,newRow,grownCap,hs]
theorem Jil(hT:TOK K.P K.T)(h:RelW K ρ slot B a w){nid:Nat}(hf:Fresh slot B nid){o:Oper}{c:Call}{t u e es eb:Nat}{x y:Operand}(ho:o.op=.call c)(hcb:c.callee=.builtin .append)(hargs:c.args=#[x,y])(hat:c.argTypes=#[t,u])
 {ti te tu:TI}(hti:lk t K.T=some ti)(hk:ti.k=.slice e es eb)(hte:lk e K.T=some te)(htu:lk u K.T=some tu){k':IntKind}(hku:tu.k=.int k')(hzl:te.zero.length=es)(hx:a.eval x=.slice none 0 0){k:IntKind}{n:Int}(hy:a.eval y=.int k n)
 (h1:1<=n)(hm1:n<=9223372036854775807)(hm2:n * eb<=140737488355328) :
 Does K.P o a w (Post K slot B a [(nid,.buf e es (List.replicate n.toNat te.zero))] (.own nid n.toNat)):=by
 obtain⟨d,inf,z,kk⟩:=Jk (hT t ti hti)
 obtain⟨d2,inf2,z2,kk2⟩:=Jk (hT e te hte)
 obtain⟨d3,inf3,z3,kk3⟩:=Jk (hT u tu htu)
 have hkk:=kk.kind
 rw[hk]at hkk
 cases d <;> simp only[JQ,reduceCtorEq,false_and,and_false,exists_false]at hkk
 case slice e' =>
  obtain⟨_,ei,hei,hkk⟩:=hkk
  simp only[TK.slice.injEq]at hkk
  obtain⟨rfl,rfl,rfl⟩:=hkk
  have hinf:ei=inf2:=by have:=kk2.info;rw[hei]at this;exact Option.some.inj this
  subst hinf
  have hu:=kk3.und
  have hkk3:=kk3.kind
  rw[hku]at hkk3
  cases d3 <;> simp only[JQ,reduceCtorEq,false_and,and_false,exists_false]at hkk3
  case int k3 =>
  have hz2:z2.cells.size=ei.size:=kk2.zsize
  have hzc:=J8 (w:=w) kk2 (XX K.X0 ρ B)
  have hmade:=XA hzc n.toNat
  rw[hz2]at hmade
  have hr:=WQ (P:=K.P) w t u o.type e ei z2 k k3 kk.und hu kk2.info kk2.zero n h1 hm1 (by omega)
  have hnew:(if n.toNat * ei.size=0 then(#[]:Array Value)else Builtin.zeroCells z2.cells n.toNat)=madeCells z2.cells (n.toNat * ei.size):=by
   split
   . rename_i h0;rw[h0];simp[madeCells]
   unfold Builtin.zeroCells madeCells;rw[hz2]
  rw[hnew]at hr
  have hrun:(execOp a.eval o).run K.P w=.ok (.value (.slice (some ⟨w.heap.size,0,none⟩) n.toNat (grownCap w n.toNat 0 e))) (w.drew.alloc (.cells (madeCells z2.cells (n.toNat * ei.size)++Builtin.zeroCells z2.cells (grownCap w n.toNat 0 e-n.toNat)) e)):=by
   refine J3 ho hcb ?_
   rw[hargs,hat]
   simp only[builtin,List.map_toArray,List.map_cons,List.map_nil,hx,hy,Ki,hr,Ke]
   rfl
  have hge:=grownCap_ge w n.toNat 0 e
  have hrl:(List.replicate n.toNat te.zero).length=n.toNat:=Kt ..
  have hnth:∀ i,i < n.toNat->Ji (List.replicate n.toNat te.zero) i=te.zero:=fun i hi=>by simp[Ji,hi]
  have hb:=XY w (.cells (madeCells z2.cells (n.toNat * ei.size)++Builtin.zeroCells z2.cells (grownCap w n.toNat 0 e-n.toNat)) e)
  have hpost:=h.appended (id:=nid) (nid:=nid) (e:=e) (k:=ei.size) (rows:=[]) (xs:=List.replicate n.toNat te.zero) (v':=.slice (some ⟨w.heap.size,0,none⟩) n.toNat (grownCap w n.toNat 0 e)) (p':=some w.heap.size) hf (fun cells e=>hf.dead (by rw[e];trivial)) (Keeps.of_below hb h.le_size) (fun b hlt _=>hb.block b hlt)
   (fun i hi=>by
    rw[List.nil_append]at hi ⊢
    rw[hrl]at hi
    rw[hnth i hi,hzl])
   (by rw[List.nil_append,hrl];unfold maxLen;omega)
   (.inr ⟨w.heap.size,_,grownCap w n.toNat 0 e,rfl,.inr ⟨Kr _,by simp⟩,by rw[List.nil_append,hrl],heap_alloc_new w.drew _,by rw[List.nil_append,hrl];exact hge,grownCap_le_maxLen w n.toNat 0 e (by unfold maxLen;omega),by
    rw[Array.size_append,size_madeCells,size_zeroCells,hz2,<- Nat.add_mul]
    congr 1;omega,by
    rw[List.nil_append]
    refine⟨fun i hi=>by rw[hrl]at hi;rw[hnth i hi,hzl],?_,fun i hi j hj=>?_⟩
    . rw[Array.size_append,size_madeCells,hrl];omega
    . rw[hrl]at hi
      have hlt:i * ei.size+j < n.toNat * ei.size:=J2 hi hj
      have hl2:madeCells z2.cells (n.toNat * ei.size)=(madeCells z2.cells (n.toNat * ei.size)).toList.toArray:=by simp
      rw[hl2,XP _ _ _ (by rw[Array.length_toList,size_madeCells];exact hlt)]
      have:=hmade.getD.2 (i * ei.size+j) (by rw[List.length_flatten];simp[hzl];exact hlt)
      have e2:nth (Ji (List.replicate n.toNat te.zero) i) j=nth ((List.replicate n.toNat te.zero).flatten) (i * ei.size+j):=by
       unfold nth
       rw[Ka,Ka,JE,hzl,if_pos hlt]
       have:(i * ei.size+j) % ei.size=j:=by rw[Nat.add_comm,Nat.add_mul_mod_self_right,Nat.mod_eq_of_lt hj]
       rw[this,hnth i hi]
      rw[e2]
      simpa[Array.getD_eq_getD_getElem?,List.getD_eq_getElem?_getD]using this⟩)
  refine Does.of_run hrun ?_
  rw[List.nil_append,hrl]at hpost
  have e1:wrB B [(nid,.buf e ei.size (List.replicate n.toNat te.zero)),(nid,.dead)]=wrB B [(nid,.buf e ei.size (List.replicate n.toNat te.zero))]:=by
   simp only[wrB,Xq]
  unfold Post at hpost ⊢
  rw[e1]at hpost
  exact hpost
end
end Go.Av
