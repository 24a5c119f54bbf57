/-
  What chapter 2's lists of types and of flights return: copies, searches, sizes. Lines and words: plain Lean; and the library's search and cut, as contracts on abstract values. No condition but the theorems' own.
-/
import Derived.Test.YtjhjmncjidbieaaGreatDoorPE
import Derived.Test.YtjhjmncjidbieaaGreatDoorAvD
import Derived.Test.YtjhjmncjidbieaaGreatDoorPD
import Derived.Test.YtjhjmncjidbieaaGreatDoorPB
import Derived.Test.YtjhjmncjidbieaaGreatDoorPC
namespace Go.Proofs.YtjhjmncjidbieaaGreatDoor
open Go Go.Av Go.RowKit
structure Fl where
 n:List UInt8
 y:List UInt8
 tr:List Fx
 deriving Inhabited
theorem getD_mem {α:Type} [Inhabited α] {l:List α} {i:Nat} (h:i < l.length):l.getD i default ∈ l:=by
 rw [List.getD_eq_getElem?_getD,List.getElem?_eq_getElem h]
 exact List.getElem_mem h
def fiN (p:Nat->Bool):Nat->Nat
 | 0=>0
 | n+1=>if fiN p n < n then fiN p n else if p n then n else n+1
theorem fi_none {p:Nat->Bool}:∀ {i:Nat},(∀ j,j < i->p j=false)->fiN p i=i
 | 0,_=>rfl
 | i+1,h=>by
  have h1:fiN p i=i:=fi_none fun j hj=>h j (by omega)
  simp only [fiN]
  rw [h1,if_neg (by omega),if_neg (by rw [h i (by omega)];exact Bool.false_ne_true)]
theorem fi_some {p:Nat->Bool} {i:Nat} (h:∀ j,j < i->p j=false) (hp:p i=true):∀ {m:Nat},i < m->fiN p m=i
 | 0,h0=>absurd h0 (by omega)
 | m+1,h0=>by
  simp only [fiN]
  by_cases e:i=m
  · subst e
    rw [fi_none h,if_neg (by omega),if_pos hp]
  · rw [fi_some h hp (m:=m) (by omega),if_pos (by omega)]
end Go.Proofs.YtjhjmncjidbieaaGreatDoor
namespace Go.Proofs.YtjhjmncjidbieaaGreatDoor
open Go Go.Av Go.RowKit
def encS (x:List UInt8):List AV:=[.str x]
def hdL:List UInt8->List UInt8
 | []=>[]
 | c::t=>if c == 10 then [c] else c::hdL t
def tlL:List UInt8->List UInt8
 | []=>[]
 | c::t=>if c == 10 then t else tlL t
def spl (c:UInt8):List UInt8->List (List UInt8)
 | []=>[[]]
 | x::t=>if x == c then []::spl c t else (x::(spl c t).headD [])::(spl c t).tail
theorem spl_ne (c:UInt8):∀ s,spl c s ≠ []
 | []=>by simp [spl]
 | x::t=>by rw [spl];split <;> simp
theorem spl_cons (c:UInt8) (s:List UInt8):(spl c s).headD []::(spl c s).tail=spl c s:=by
 cases h:spl c s with
 | nil=>exact absurd h (spl_ne c s)
 | cons a b=>rfl
theorem hd_tl:∀ s,hdL s++tlL s=s
 | []=>rfl
 | c::t=>by
  rw [hdL,tlL]
  split
  · rfl
  · rw [List.cons_append,hd_tl t]
theorem idx_cases (c:UInt8):∀ s:List UInt8,(Lib.indexByte s c = -1∧s.count c=0∧spl c s=[s]) ∨
 ∃ i:Nat,Lib.indexByte s c=i∧i < s.length∧s.count c=1+(s.drop (i+1)).count c∧spl c s=s.take i::spl c (s.drop (i+1))
 | []=>.inl ⟨rfl,rfl,rfl⟩
 | x::t=>by
  by_cases h:x=c
  · subst h
    refine .inr ⟨0,by simp [Lib.indexByte],by simp,by simp [Nat.add_comm],by simp [spl]⟩
  · have hb:(x == c)=false:=beq_false_of_ne h
    rcases idx_cases c t with ⟨h1,h2,h3⟩ | ⟨i,h1,h2,h3,h4⟩
    · refine .inl ⟨by rw [Lib.indexByte,hb,h1];rfl,by rw [List.count_cons_of_ne h,h2],?_⟩
      rw [spl,hb,h3]
      rfl
    · refine .inr ⟨i+1,?_,by simp only [List.length_cons];omega,by rw [List.count_cons_of_ne h,h3];rfl,?_⟩
      · rw [Lib.indexByte,hb,h1,if_neg (by decide),if_neg (by rw [beq_iff_eq];omega)]
        rfl
      · rw [spl,hb,h4]
        rfl
theorem ln_cases:∀ s:List UInt8,(Lib.indexByte s 10 = -1∧hdL s=s∧tlL s=[]) ∨ ∃ i:Nat,Lib.indexByte s 10=i∧i < s.length∧hdL s=s.take (i+1)∧tlL s=s.drop (i+1)
 | []=>.inl ⟨rfl,rfl,rfl⟩
 | x::t=>by
  by_cases h:x=10
  · subst h
    exact .inr ⟨0,by simp [Lib.indexByte],by simp,by simp [hdL],by simp [tlL]⟩
  · have hb:(x == 10)=false:=beq_false_of_ne h
    rcases ln_cases t with ⟨h1,h2,h3⟩ | ⟨i,h1,h2,h3,h4⟩
    · exact .inl ⟨by rw [Lib.indexByte,hb,h1];rfl,by rw [hdL,hb,h2];rfl,by rw [tlL,hb,h3];rfl⟩
    · refine .inr ⟨i+1,?_,by simp only [List.length_cons];omega,by rw [hdL,hb,h3];rfl,by rw [tlL,hb,h4];rfl⟩
      rw [Lib.indexByte,hb,h1,if_neg (by decide),if_neg (by rw [beq_iff_eq];omega)]
      rfl
theorem spl_K (c:UInt8):∀ (k:Nat) (s:List UInt8),s.count c=k->Lib.splitK [c] 0 k s=spl c s
 | 0,s,h=>by
  rcases idx_cases c s with ⟨_,_,h3⟩ | ⟨i,_,_,h3,_⟩
  · rw [h3];rfl
  · omega
 | k+1,s,h=>by
  rcases idx_cases c s with ⟨_,h2,_⟩ | ⟨i,h1,h2,h3,h4⟩
  · omega
  · rw [Lib.splitK,Lib.index_one,h1,if_neg (by rw [beq_iff_eq];omega),h4,spl_K c k _ (by rw [Int.toNat_natCast];simpa using (by omega:(s.drop (i+1)).count c=k))]
    rfl
theorem c165 (s:List UInt8) (c:Int):PCall Tryz.prog G0 165 [.str s,.int .u8 c] (.i (Lib.indexByte s c.toNat.toUInt8)):=by
 refine ⟨⟨Tryz.f165,bodyOf Tryz.f165,by kernel_rfl,by kernel_rfl,by kernel_rfl⟩,fun w X vs hX hG hz=>?_⟩
 obtain ⟨h1,h2⟩:=hz
 obtain ⟨v,u,rfl⟩:∃ v u,vs=#[v,u]:=by
  obtain ⟨l⟩:=vs
  match l,h1 with
  | [v,u],_=>exact ⟨v,u,rfl⟩
 have hv:=rep_str (h2 0 v (.str s) rfl rfl)
 have hu:=rep_int (h2 1 u (.int .u8 c) rfl rfl)
 subst hv;subst hu
 exact (Tryz.strings_IndexByte ⟨s.toArray⟩ c w).mono fun e w' ⟨he,hw⟩=>⟨_,he,by rw [hw];exact Below.refl _ _,.int _ _⟩
theorem c167 (s:List UInt8) (c:UInt8) (hs:s.length<=1000000):PCall Tryz.prog G0 167 [.str s,.str [c],.i 0,.i (-1)] (.sl 1 ((spl c s).map encS)):=by
 refine ⟨⟨Tryz.f167,bodyOf Tryz.f167,by kernel_rfl,by kernel_rfl,by kernel_rfl⟩,fun w X vs hX hG hz=>?_⟩
 obtain ⟨h1,h2⟩:=hz
 obtain ⟨v,u,x,y,rfl⟩:∃ v u x y,vs=#[v,u,x,y]:=by
  obtain ⟨l⟩:=vs
  match l,h1 with
  | [v,u,x,y],_=>exact ⟨v,u,x,y,rfl⟩
 have hv:=rep_str (h2 0 v (.str s) rfl rfl)
 have hu:=rep_str (h2 1 u (.str [c]) rfl rfl)
 have hx:=rep_int (h2 2 x (.i 0) rfl rfl)
 have hy:=rep_int (h2 3 y (.i (-1)) rfl rfl)
 subst hv;subst hu;subst hx;subst hy
 clear h1 h2
 obtain ⟨S,hS⟩:∃ S:ByteArray,S=⟨s.toArray⟩:=⟨_,rfl⟩
 have hSs:S.size=s.length:=by rw [hS];simp [ByteArray.size]
 have hSd:S.data.toList=s:=by rw [hS]
 have hcb:Lib.countB S ⟨#[c]⟩=s.count c:=by
  show Lib.count S.data.toList [c]=_
  rw [Lib.count_one,hSd]
 have hcl:s.count c<=s.length:=List.count_le_length
 have key:=Any.strings_genSplit_core Tryz.lays221 (by kernel_rfl) S ⟨#[c]⟩ 0 (-1) (s.count c+1) w (by omega) (Nat.le_refl 1) (Nat.zero_le _)
  (fun z cs _=>(Tryz.strings_Index_one z c _).mono fun e w' ⟨he,hw⟩=>⟨he.trans (by rw [show Lib.indexB z ⟨#[c]⟩=Lib.index z.data.toList [c] from rfl,Lib.index_one]),hw⟩)
  ((Tryz.strings_Count_one S c w).mono fun e w' ⟨he,hw⟩=>⟨he.trans (by rw [hcb,hSd];rfl),hw⟩) (by decide) (by decide)
  (by rw [hcb,if_pos (by decide),hSs];omega)
 rw [Nat.add_sub_cancel] at key
 have hlen:(Lib.splitB ⟨#[c]⟩ 0 (s.count c) S).length=s.count c+1:=Lib.splitB_all ⟨#[c]⟩ (Nat.le_refl 1) 0 _ S hcb
 have hdat:(Lib.splitB ⟨#[c]⟩ 0 (s.count c) S).map (·.data.toList)=spl c s:=by
  rw [Lib.splitB_data,hSd]
  exact spl_K c _ s rfl
 have hsl:(spl c s).length=s.count c+1:=by rw [<- hdat,List.length_map,hlen]
 rw [<- hS]
 refine (show Calls Tryz.prog 167 #[.string S,.string ⟨#[c]⟩,.int .i64 0,.int .i64 (-1)] w _ from key).mono fun e w' ⟨he,hw⟩=>?_
 refine ⟨_,he,by rw [hw];exact below_alloc _ _,?_⟩
 show Rep X w' _ (.sl 1 ((spl c s).map encS))
 generalize hL:Lib.splitB ⟨#[c]⟩ 0 (s.count c) S=L at hw hlen hdat
 rw [hlen,show s.count c+1=((spl c s).map encS).length by rw [List.length_map,hsl]]
 have hnew:w'.heap[w.heap.size]?=some (.cells (Lib.cellsOf L (s.count c+1)) (Tryz.lays221_ren.t 9)):=by rw [hw];exact World.alloc_heap_new w _
 have hcells:Lib.cellsOf L (s.count c+1)=(L.map Value.string).toArray:=by rw [<- hlen];exact Lib.cellsOf_full _
 rw [hcells] at hnew
 refine .sl w.heap.size 0 _ 1 _ (fun i _=>.string ⟨((spl c s).getD i []).toArray⟩) (by rw [hw];simp) (fun hx=>Nat.lt_irrefl _ (hX _ hx)) (Nat.le_refl _) (by rw [List.length_map,hsl];unfold maxLen;omega) (fun i hi=>?_) (fun i hi j hj=>?_) (fun i hi j hj=>?_) (fun _ _ _ _=>rfl)
 · have:nthR ((spl c s).map encS) i=encS ((spl c s).getD i []):=by
    rw [List.length_map] at hi
    simp [nthR,List.getD_eq_getElem?_getD,hi]
   rw [this]
   rfl
 · have hj0:j=0:=by omega
   subst hj0
   rw [List.length_map,hsl] at hi
   rw [cell_of_row w' _ _ _ _ (0,0) hnew]
   have hiL:i < L.length:=by omega
   have e:(spl c s).getD i []=L[i].data.toList:=by
    rw [<- hdat]
    simp [List.getD_eq_getElem?_getD,hiL]
   rw [e]
   simp [hiL]
 · have hj0:j=0:=by omega
   subst hj0
   have:nth (nthR ((spl c s).map encS) i) 0=.str ((spl c s).getD i []):=by
    rw [List.length_map] at hi
    simp [nthR,nth,List.getD_eq_getElem?_getD,hi,encS]
   rw [this]
   exact .str _
end Go.Proofs.YtjhjmncjidbieaaGreatDoor
namespace Go.Proofs.YtjhjmncjidbieaaGreatDoor
open Go Go.Av Go.RowKit
theorem s_ofB {f : Nat} {cells : List AV} {L : List (List AV)} (fn : Func) (B : Nat → BA) (hf : Tryz.prog.funcs[f]? = some fn) (hb : fn.body = some (bodyOf fn)) (hn : (fn.name == "runtime.NumGoroutine") = false) (hlen : Nat.ble 2 fn.ntmps = true) (hres : fn.results.toList = [])
 {q:Nat->Prop} (hq:∀ l,q l) (h:∀ l,VC (bodyE Tryz.prog T0 G0 fn.ntmps L) (B l) 10000 0 (bodyOf fn) (startB l cells) (seqQ l L)=q l):PSeqB Tryz.prog G0 f cells L :=
 seq_of_VCB tok mix hf hb hn (Nat.le_of_ble_eq_true hlen) hres B fun l=>vc_of (hq l) (h l)
def isLn:List (List UInt8)->List UInt8->Prop
 | [],s=>s=[]
 | x::L,s=>s ≠ []∧x=hdL s∧isLn L (tlL s)
def lnN:Nat->List UInt8->List (List UInt8)
 | 0,_=>[]
 | n+1,s=>if s.isEmpty then [] else hdL s::lnN n (tlL s)
def lns (s:List UInt8):List (List UInt8):=lnN s.length s
theorem hd_len {s:List UInt8} (h:s ≠ []):0 < (hdL s).length:=by
 cases s with
 | nil=>exact absurd rfl h
 | cons c t=>rw [hdL];split <;> simp
theorem tl_len {s:List UInt8} (h:s ≠ []):(tlL s).length < s.length:=by
 have h1:=congrArg List.length (hd_tl s)
 have h2:=hd_len h
 rw [List.length_append] at h1
 omega
theorem ln_is:∀ (n:Nat) (s:List UInt8),s.length<=n->isLn (lnN n s) s
 | 0,s,h=>by
  cases s with
  | nil=>rfl
  | cons _ _=>simp at h
 | n+1,s,h=>by
  rw [lnN]
  by_cases q:s=[]
  · subst q;exact rfl
  · rw [if_neg (by simpa using q)]
    have:=tl_len q
    exact ⟨q,rfl,ln_is n _ (by omega)⟩
theorem lns_is (s:List UInt8):isLn (lns s) s:=ln_is _ s (Nat.le_refl _)
theorem ln_flat:∀ {L:List (List UInt8)} {s:List UInt8},isLn L s->L.flatten=s
 | [],s,h=>h.symm
 | x::L,s,⟨_,h2,h3⟩=>by rw [List.flatten_cons,ln_flat h3,h2,hd_tl]
theorem ln_drop:∀ {k:Nat} {L:List (List UInt8)} {s:List UInt8},isLn L s->isLn (L.drop k) (L.drop k).flatten
 | 0,L,s,h=>by rw [List.drop_zero,ln_flat h];exact h
 | k+1,[],s,h=>by simp [isLn]
 | k+1,x::L,s,h=>by rw [List.drop_succ_cons];exact ln_drop h.2.2
def rsL (s:List UInt8) (k:Nat):List UInt8:=((lns s).drop k).flatten
theorem rs_0 (s:List UInt8):rsL s 0=s:=by rw [rsL,List.drop_zero,ln_flat (lns_is s)]
theorem rs_step {s:List UInt8} {k:Nat} (h:k < (lns s).length):rsL s k ≠ []∧hdL (rsL s k)=(lns s).getD k []∧tlL (rsL s k)=rsL s (k+1):=by
 have h1:=ln_drop (k:=k) (lns_is s)
 have e:(lns s).drop k=(lns s).getD k []::(lns s).drop (k+1):=by
  rw [List.getD_eq_getElem?_getD,List.getElem?_eq_getElem h]
  exact List.drop_eq_getElem_cons h
 rw [e] at h1
 have e2:rsL s k=((lns s).getD k []::(lns s).drop (k+1)).flatten:=by rw [rsL,e]
 rw [e2]
 refine ⟨h1.1,h1.2.1.symm,?_⟩
 rw [<- ln_flat h1.2.2]
 rfl
theorem rs_end {s:List UInt8} {k:Nat} (h:¬ k < (lns s).length):rsL s k=[]:=by rw [rsL,List.drop_eq_nil_of_le (by omega)];rfl
theorem rs_len (s:List UInt8) (k:Nat):(rsL s k).length<=s.length:=by
 have h:=congrArg List.length (ln_flat (lns_is s))
 have h2:((lns s).take k).flatten++((lns s).drop k).flatten=(lns s).flatten:=by rw [<- List.flatten_append,List.take_append_drop]
 have h3:=congrArg List.length h2
 rw [List.length_append] at h3
 unfold rsL
 omega
def spT:Nat->List AV->Option AV
 | 165,[.str s,_]=>some (.i (Lib.indexByte s 10))
 | _,_=>none
theorem take_one1 {α:Type} [Inhabited α] {l:List (List α)} {g:Nat} (h:g < l.length):l.take (g+1)=l.take g++[l.getD g []]:=by
 rw [List.getD_eq_getElem?_getD,List.getElem?_eq_getElem h]
 exact (List.take_append_getElem h).symm
def la164 (l:Nat) (s:List UInt8):LA:={
 pre:=[.keep [0,1] [0,1],.bound 2],post:=[.keep [0,1] [0,1],.bound 2]
 Gh:=Nat
 st:=fun k=>⟨[(0,.yld l),(1,.ptr 1 0)],[(0,.ready l (((lns s).take k).map encS)),(1,.box [.str (rsL s k)])],2⟩
 ok:=fun k=>k<=(lns s).length
 ms:=fun k=>(lns s).length-k }
def B164 (s:List UInt8) (l:Nat):BA:=mkB spT 164 [] (fun i=>if i.beq 0 then some (la164 l s) else none)
theorem s164 (s:List UInt8) (hs:s.length<=1000000):PSeqB Tryz.prog G0 164 [.str s] ((lns s).map encS):=by
 have key :
  ∀ l:Nat,(∃ (g:Nat),g<=(lns s).length∧AS.mk [(0,AV.yld l),(1,AV.ptr 1 0)] [(0,ABlk.ready l []),(1,ABlk.box [AV.str s])] 2=AS.mk [(0,AV.yld l),(1,AV.ptr 1 0)] [(0,ABlk.ready l (List.map encS (List.take g (lns
  s)))),(1,ABlk.box [AV.str (rsL s g)])] 2)∧∀ (g:Nat),g<=(lns s).length->(decide ((↑(rsL s g).length:Int) > 0)=true->PCall Tryz.prog G0 165 [AV.str (rsL s g),AV.int IntKind.u8 (10:Int)] (AV.i (Lib.indexByte (rsL s g)
  (10:UInt8)))∧(decide (Lib.indexByte (rsL s g) (10:UInt8)>=0)=true->In64 (Lib.indexByte (rsL s g) (10:UInt8)+1)∧(0:Int)<=0∧(0:Int)<=Lib.indexByte (rsL s g) (10:UInt8)+1∧Lib.indexByte (rsL s g) (10 :
  UInt8)+1<=(↑(rsL s g).length:Int)∧In64 (Lib.indexByte (rsL s g) (10:UInt8)+1)∧(0:Int)<=Lib.indexByte (rsL s g) (10:UInt8)+1∧Lib.indexByte (rsL s g) (10:UInt8)+1<=(↑(rsL s g).length:Int)∧(↑(rsL s
  g).length:Int)<=(↑(rsL s g).length:Int)∧l=l∧(∃ (post:List (List AV)),List.map encS (lns s)=List.map encS (List.take g (lns s))++[AV.str (List.take (Lib.indexByte (rsL s g) (10:UInt8)+1-0).toNat (List.drop 0
  (rsL s g)))]::post)∧l=l∧(List.map encS (List.take g (lns s))++[[AV.str (List.take (Lib.indexByte (rsL s g) (10:UInt8)+1-0).toNat (List.drop 0 (rsL s g)))]]).length=(List.map encS (List.take g (lns s))).length+1
  ∧ (∃ (g':Nat),g'<=(lns s).length∧(lns s).length-g' < (lns s).length-g∧AS.mk [(0,AV.yld l),(1,AV.ptr 1 0)] [(0,ABlk.ready l (List.map encS (List.take g (lns s))++[[AV.str (List.take (Lib.indexByte (rsL s g) (10 :
  UInt8)+1-0).toNat (List.drop 0 (rsL s g)))]])),(1,ABlk.box [AV.str (List.take ((↑(rsL s g).length:Int)-(Lib.indexByte (rsL s g) (10:UInt8)+1)).toNat (List.drop (Lib.indexByte (rsL s g) (10:UInt8)+1).toNat (rsL s
  g)))])] 2=AS.mk [(0,AV.yld l),(1,AV.ptr 1 0)] [(0,ABlk.ready l (List.map encS (List.take g' (lns s)))),(1,ABlk.box [AV.str (rsL s g')])] 2)∧(ABlk.stop l=ABlk.ready l (List.map encS (lns s)) ∨ ABlk.stop l=ABlk.stop l))
  ∧ (decide (Lib.indexByte (rsL s g) (10:UInt8)>=0)=false->l=l∧(∃ (post:List (List AV)),List.map encS (lns s)=List.map encS (List.take g (lns s))++[AV.str (rsL s g)]::post)∧l=l∧(List.map encS (List.take g
  (lns s))++[[AV.str (rsL s g)]]).length=(List.map encS (List.take g (lns s))).length+1∧(∃ (g':Nat),g'<=(lns s).length∧(lns s).length-g' < (lns s).length-g∧AS.mk [(0,AV.yld l),(1,AV.ptr 1 0)] [(0,ABlk.ready l
  (List.map encS (List.take g (lns s))++[[AV.str (rsL s g)]])),(1,ABlk.box [AV.str []])] 2=AS.mk [(0,AV.yld l),(1,AV.ptr 1 0)] [(0,ABlk.ready l (List.map encS (List.take g' (lns s)))),(1,ABlk.box [AV.str (rsL s g')])] 2)
  ∧ (ABlk.stop l=ABlk.ready l (List.map encS (lns s)) ∨ ABlk.stop l=ABlk.stop l)))∧(decide ((↑(rsL s g).length:Int) > 0)=false->ABlk.ready l (List.map encS (List.take g (lns s)))=ABlk.ready l (List.map encS (lns s)) ∨
  ABlk.ready l (List.map encS (List.take g (lns s)))=ABlk.stop l):=by
   intro l
   refine ⟨⟨0,Nat.zero_le _,by rw [rs_0];rfl⟩,fun g hg=>⟨fun hlt=>?_,fun hge=>?_⟩⟩
   · have hlt:=of_decide_eq_true hlt
     have hk:g < (lns s).length:=by
      by_cases q:g < (lns s).length
      · exact q
      · rw [rs_end q] at hlt
        exact absurd hlt (by decide)
     obtain ⟨r1,r2,r3⟩:=rs_step hk
     have hrl:=rs_len s g
     have hdr:(lns s).drop g=(lns s).getD g []::(lns s).drop (g+1):=by
      rw [List.getD_eq_getElem?_getD,List.getElem?_eq_getElem hk]
      exact List.drop_eq_getElem_cons hk
     have hpost:∃ post,(lns s).map encS=((lns s).take g).map encS++[AV.str ((lns s).getD g [])]::post:=by
      refine ⟨((lns s).drop (g+1)).map encS,?_⟩
      have h9:=congrArg (List.map encS) (List.take_append_drop g (lns s))
      rw [hdr,List.map_append,List.map_cons] at h9
      exact h9.symm
     have htk:((lns s).take (g+1)).map encS=((lns s).take g).map encS++[[AV.str ((lns s).getD g [])]]:=by
      rw [take_one1 hk,List.map_append]
      rfl
     refine ⟨c165 _ 10,fun h2=>?_,fun h2=>?_⟩
     · rcases ln_cases (rsL s g) with ⟨q,_,_⟩ | ⟨i,q,q1,q2,q3⟩
       · rw [q] at h2
         exact absurd h2 (by decide)
       · rw [q,show ((i:Int)+1-0).toNat=i+1 by omega,show (((rsL s g).length:Int)-((i:Int)+1)).toNat=(rsL s g).length-(i+1) by omega,show ((i:Int)+1).toNat=i+1 by omega,
          List.drop_zero,<- q2,r2,show List.take ((rsL s g).length-(i+1)) (List.drop (i+1) (rsL s g))=List.drop (i+1) (rsL s g) from List.take_of_length_le (by rw [List.length_drop];exact Nat.le_refl _),<- q3,r3]
         exact ⟨by unfold In64;omega,by omega,by omega,by omega,by unfold In64;omega,by omega,by omega,by omega,rfl,hpost,rfl,by simp,⟨g+1,hk,by omega,by rw [htk]⟩,.inr rfl⟩
     · rcases ln_cases (rsL s g) with ⟨q,q2,q3⟩ | ⟨i,q,q1,q2,q3⟩
       · have e:rsL s g=(lns s).getD g []:=q2.symm.trans r2
         have e4:rsL s (g+1)=[]:=r3.symm.trans q3
         rw [e]
         exact ⟨rfl,hpost,rfl,by simp,⟨g+1,hk,by omega,by rw [htk,e4]⟩,.inr rfl⟩
       · rw [q] at h2
         exact absurd (of_decide_eq_false h2) (by omega)
   · have hge:=of_decide_eq_false hge
     have hk:¬ g < (lns s).length:=by
      intro q
      have:=(rs_step q).1
      have:0 < (rsL s g).length:=List.length_pos_iff.2 this
      omega
     rw [List.take_of_length_le (by omega)]
     exact .inl rfl
 exact s_ofB Tryz.f164 (B164 s) (by kernel_rfl) (by kernel_rfl) (by kernel_rfl) (by kernel_rfl) (by kernel_rfl) key (fun l=>by kernel_rfl)
def dS (rows:List (List AV)):List (List UInt8):=rows.map fun r=>match r with
 | [.str x]=>x
 | _=>[]
theorem dS_e (ws:List (List UInt8)):dS (ws.map encS)=ws:=by
 unfold dS
 rw [List.map_map]
 exact (List.map_congr_left fun x _=>rfl).trans (List.map_id ws)
theorem w_of {f : Nat} {args : List AV} {bs : List ABlk} {r : AV} {fin : List ABlk} (fn : Func) (B : BA) (hf : Tryz.prog.funcs[f]? = some fn) (hb : fn.body = some (bodyOf fn)) (hn : (fn.name == "runtime.NumGoroutine") = false) (hlen : Nat.ble args.length fn.ntmps = true) (hwf : wfB (bs.length + 1) (startW args bs) = true)
 {q:Prop} (hq:q) (h:VC (bodyE Tryz.prog T0 G0 fn.ntmps []) B 10000 0 (bodyOf fn) (startW args bs) (retQW T0 fn bs.length r fin)=q):WCall Tryz.prog G0 f args bs r fin :=
 callW_of_VC tok mix hf hb hn (Nat.le_of_ble_eq_true hlen) hwf B (vc_of hq h)
def cutS (s t:List UInt8):Bool:=decide (t.length<=s.length) && s.drop (s.length-t.length) == t
theorem or_f {a b:Bool} (h:(if a=true then true else b)=false):a=false∧b=false:=by
 revert h
 cases a <;> cases b <;> decide
def spQ0:Nat->List AV->Option AV
 | 178,[.str s,.str t]=>some (.bool (decide (t.length<=s.length) && s.drop (s.length-t.length) == t))
 | 166,[.str s,.str t]=>some (.tup [.str (if cutS s t then s.take (s.length-t.length) else s),.bool (cutS s t)])
 | 167,[.str s,.str [c],_,_]=>some (.sl 1 ((spl c s).map encS))
 | n,x=>spR n x
abbrev zc178b (s:List UInt8) (t:List UInt8):=(↑s.length:Int)>=(↑t.length:Int)
abbrev zc178a (s:List UInt8) (t:List UInt8):=decide (zc178b s t)=true->decide (zc178b s t)=true
theorem c178 (s t:List UInt8) (hs:s.length<=1000000) (ht:t.length<=1000000):PCall Tryz.prog G0 178 [.str s,.str t] (.bool (decide (t.length<=s.length) && s.drop (s.length-t.length) == t)):=by
 have key :
  (zc178a s t)∧(zc178a s t)∧(zc178a s t)∧(zc178a s t)∧(decide (zc178b s t)=true->In64 ((↑s.length:Int)-(↑t.length:Int)))∧(zc178a s t)∧(zc178a s t)∧(decide (zc178b s t)=true->(0:Int)<=(↑s.length:Int) -
  (↑t.length:Int))∧(decide (zc178b s t)=true->(↑s.length:Int)-(↑t.length:Int)<=(↑s.length:Int))∧(decide (zc178b s t)=true->(↑s.length:Int)<=(↑s.length:Int))∧(zc178a s t)∧(zc178a s t)∧(zc178a s t) ∧
  AV.bool (if decide (zc178b s t)=true then List.take ((↑s.length:Int)-((↑s.length:Int)-(↑t.length:Int))).toNat (List.drop ((↑s.length:Int)-(↑t.length:Int)).toNat s) == t else false)=AV.bool (decide (t.length ≤
  s.length) && List.drop (s.length-t.length) s == t):=by
   delta zc178a zc178b
   refine ⟨fun h=>h,fun h=>h,fun h=>h,fun h=>h,fun h=>by have:=of_decide_eq_true h;unfold In64;omega,fun h=>h,fun h=>h,fun h=>by have:=of_decide_eq_true h;omega,fun h=>by omega,fun h=>by omega,fun h=>h,fun h=>h,fun h=>h,?_⟩
   by_cases h:t.length<=s.length
   · rw [decide_eq_true (show (s.length:Int)>=t.length by omega),if_pos rfl,decide_eq_true h,Bool.true_and,show ((s.length:Int)-(s.length-t.length)).toNat=t.length by omega,show ((s.length:Int)-t.length).toNat=s.length-t.length by omega,List.take_of_length_le (by rw [List.length_drop];omega)]
   · rw [decide_eq_false (show ¬ (s.length:Int)>=t.length by omega),if_neg (by decide),decide_eq_false h,Bool.false_and]
 exact c_of Tryz.f178 (mkB spQ0 178 [] noLa) (by kernel_rfl) (by kernel_rfl) (by kernel_rfl) (by kernel_rfl) key (by kernel_rfl)
theorem or_r {a b:Bool} (h:(if a=true then true else b)=true) (ha:a=false):b=true:=by
 rw [ha] at h
 exact h
theorem c166 (s t:List UInt8) (hs:s.length<=1000000) (ht:t.length<=1000000):PCall Tryz.prog G0 166 [.str s,.str t] (.tup [.str (if cutS s t then s.take (s.length-t.length) else s),.bool (cutS s t)]):=by
 have key :
  PCall Tryz.prog G0 178 [AV.str s,AV.str t] (AV.bool (decide (t.length<=s.length) && List.drop (s.length-t.length) s == t))∧((!(decide (t.length<=s.length) && List.drop (s.length-t.length) s == t))=true->AV.tup [AV.str
  s,AV.bool false]=AV.tup [AV.str (if cutS s t=true then List.take (s.length-t.length) s else s),AV.bool (cutS s t)])∧((!(decide (t.length<=s.length) && List.drop (s.length-t.length) s == t))=false->In64 ((↑s.length :
  Int)-(↑t.length:Int))∧(0:Int)<=0∧(0:Int)<=(↑s.length:Int)-(↑t.length:Int)∧(↑s.length:Int)-(↑t.length:Int)<=(↑s.length:Int)∧AV.tup [AV.str (List.take ((↑s.length:Int)-(↑t.length:Int)-0).toNat
  (List.drop 0 s)),AV.bool true]=AV.tup [AV.str (if cutS s t=true then List.take (s.length-t.length) s else s),AV.bool (cutS s t)]):=by
   refine ⟨c178 s t hs ht,fun h=>?_,fun h=>?_⟩
   · have hc:cutS s t=false:=by
      unfold cutS
      revert h
      cases (decide (t.length<=s.length) && List.drop (s.length-t.length) s == t) <;> simp
     rw [hc]
     rfl
   · have hc:cutS s t=true:=by
      unfold cutS
      revert h
      cases (decide (t.length<=s.length) && List.drop (s.length-t.length) s == t) <;> simp
     have hle:t.length<=s.length:=by
      have:=hc
      unfold cutS at this
      rw [Bool.and_eq_true,decide_eq_true_eq] at this
      exact this.1
     refine ⟨by unfold In64;omega,by omega,by omega,by omega,?_⟩
     rw [hc,if_pos rfl,List.drop_zero,show ((s.length:Int)-t.length-0).toNat=s.length-t.length by omega]
 exact c_of Tryz.f166 (mkB spQ0 166 [] noLa) (by kernel_rfl) (by kernel_rfl) (by kernel_rfl) (by kernel_rfl) key (by kernel_rfl)
theorem c137 (s t:List UInt8) (hs:s.length<=1000000) (ht:t.length<=1000000):PCall Tryz.prog G0 137 [.str s,.str t] (.tup [.str (if cutS s t then s.take (s.length-t.length) else s),.bool (cutS s t)]):=by
 have key :
  PCall Tryz.prog G0 166 [AV.str s,AV.str t] (AV.tup [AV.str (if cutS s t=true then List.take (s.length-t.length) s else s),AV.bool (cutS s t)])∧AV.tup [AV.str (if cutS s t=true then List.take (s.length-t.length) s else
  s),AV.bool (cutS s t)]=AV.tup [AV.str (if cutS s t=true then List.take (s.length-t.length) s else s),AV.bool (cutS s t)]:=by
   exact ⟨c166 s t hs ht,rfl⟩
 exact c_of Tryz.f137 (mkB spQ0 137 [] noLa) (by kernel_rfl) (by kernel_rfl) (by kernel_rfl) (by kernel_rfl) key (by kernel_rfl)
theorem c138 (s:List UInt8) (c:UInt8) (hs:s.length<=1000000):PCall Tryz.prog G0 138 [.str s,.str [c]] (.sl 1 ((spl c s).map encS)):=by
 have key :
  PCall Tryz.prog G0 167 [AV.str s,AV.str [c],AV.i 0,AV.i (-1)] (AV.sl 1 (List.map encS (spl c s)))∧AV.sl 1 (List.map encS (spl c s))=AV.sl 1 (List.map encS (spl c s)):=by
   exact ⟨c167 s c hs,rfl⟩
 exact c_of Tryz.f138 (mkB spQ0 138 [] noLa) (by kernel_rfl) (by kernel_rfl) (by kernel_rfl) (by kernel_rfl) key (by kernel_rfl)
theorem c136 (s:List UInt8) :PCall Tryz.prog G0 136 [.str s] (.fbox 164 [.str s]):=by
 have key :
  AV.fbox 164 [AV.str s]=AV.fbox 164 [AV.str s]:=by
   rfl
 exact c_of Tryz.f136 (mkB spQ0 136 [] noLa) (by kernel_rfl) (by kernel_rfl) (by kernel_rfl) (by kernel_rfl) key (by kernel_rfl)
def wdR (ws:List (List UInt8)):List (List UInt8):=if ws.headD [] == [] then [] else ws.tail
def wdB (ws:List (List UInt8)) (b:Bool):Bool:=if ws.headD [] == [] then true else b
theorem ne_len {ws:List (List UInt8)} (h:(!((ws.map encS).length:Int) == 0)=true):(0:Int) < ((ws.map encS).length:Int):=by
 simp only [Bool.not_eq_true',beq_eq_false_iff_ne] at h
 omega
theorem rd_w0 {ws:List (List UInt8)} (h:(!((ws.map encS).length:Int) == 0)=true):nth (nthR (ws.map encS) 0) 0=AV.str (ws.getD 0 []):=by
 have h1:=ne_len h
 rw [List.length_map] at h1
 exact congrArg (fun r=>nth r 0) (row_at encS (l:=ws) (i:=0) (by omega))
abbrev zw139a (ws:List (List UInt8)):=(↑(List.map encS ws).length:Int)
abbrev zw139b (ws:List (List UInt8)):=(!(zw139a ws) == 0)=true->(!(zw139a ws) == 0)=true
theorem w139 (ws:List (List UInt8)) (b:Bool) (hw:ws.length<=1000000):WCall Tryz.prog G0 139 [.ptr 1 0] [ABlk.box [.sl 1 (ws.map encS),.bool b]] (.str (ws.headD [])) [ABlk.box [.sl 1 ((wdR ws).map encS),.bool (wdB ws b)]]:=by
 have key :
  (zw139b ws)∧(zw139b ws)∧(zw139b ws)∧(zw139b ws)∧((!(zw139a ws) == 0)=true->(0:Int)<=0)∧((!(zw139a ws) == 0)=true->(0:Int) < (zw139a ws))∧(zw139b ws)∧(zw139b ws)∧(((zw139a ws) == 0)=false->(!(zw139a ws)
  == 0)=true)∧impB (!(zw139a ws) == 0) (nth (nthR (List.map encS ws) 0) 0=AV.str (ws.getD 0 []))∧((if ((zw139a ws) == 0)=true then true else ws.getD 0 [] == [])=true->AV.str []=AV.str (ws.headD [])∧[ABlk.box [AV.sl 1
  [],AV.bool true]]=[ABlk.box [AV.sl 1 (List.map encS (wdR ws)),AV.bool (wdB ws b)]])∧((if ((zw139a ws) == 0)=true then true else ws.getD 0 [] == [])=false->(0:Int)<=0∧(0:Int) < (zw139a ws)∧nth (nthR (List.map
  encS ws) 0) 0=AV.str (ws.getD 0 [])∧(0:Int)<=1∧(1:Int)<=(zw139a ws)∧(zw139a ws)<=(zw139a ws)∧AV.sl 1 (List.take ((zw139a ws)-1).toNat (List.drop 1 (List.map encS ws)))=AV.sl 1 (List.map encS ws.tail)∧AV.str
  (ws.getD 0 [])=AV.str (ws.headD [])∧[ABlk.box [AV.sl 1 (List.map encS ws.tail),AV.bool b]]=[ABlk.box [AV.sl 1 (List.map encS (wdR ws)),AV.bool (wdB ws b)]]):=by
   delta zw139a zw139b
   have hwm:(List.map encS ws).length=ws.length:=List.length_map _
   have hd0:ws.getD 0 []=ws.headD []:=by cases ws <;> rfl
   have:(List.map encS ws).length=ws.length:=by simp only [List.length_map]
   refine ⟨fun h=>h,fun h=>h,fun h=>h,fun h=>h,fun _=>by omega,fun hb=>ne_len hb,fun h=>h,fun h=>h,fun h=>by first | exact h | (rw [h];rfl) | simp_all,impB_iff.2 fun hb=>(by first | exact rd_w0 hb | exact congrArg (fun r=>nth r 0) (row_at encS (l:=ws) (i:=0) (by omega))),fun h1=>?_,fun h1=>?_⟩
   · have hh:(ws.headD [] == [])=true:=by
      cases ws with
      | nil=>rfl
      | cons x ws =>
       have:=or_r h1 (by simp [beq_eq_false_iff_ne];omega)
       exact this
     refine ⟨?_,?_⟩
     · rw [eq_of_beq hh]
     · rw [wdR,wdB,if_pos hh,if_pos hh]
       rfl
   · obtain ⟨hl0,hh⟩:=or_f h1
     rw [hd0] at hh
     have hne:ws.length ≠ 0:=by
      have:=hl0
      simp only [beq_eq_false_iff_ne] at this
      omega
     refine ⟨(by omega),(by omega),(by first | exact rd_w0 hb | exact congrArg (fun r=>nth r 0) (row_at encS (l:=ws) (i:=0) (by omega))),(by omega),(by omega),(by omega),?_,?_,?_⟩
     · rw [List.take_of_length_le (by rw [List.length_drop];omega),<- List.map_drop,List.drop_one]
     · rw [hd0]
     · rw [wdR,wdB,if_neg (by rw [hh];decide),if_neg (by rw [hh];decide)]
 exact w_of Tryz.f139 (gsB (fun i=>if i.beq 2 then [.nilb 1 0 1] else []) (mkB spQ0 139 [(1,12,rdL 1 encS ws 1 false),(4,5,rdL 1 encS ws 1 false),(5,5,fun _=>some (.sl 1 (ws.tail.map encS)))] noLa)) (by kernel_rfl) (by kernel_rfl) (by kernel_rfl) (by kernel_rfl) (by kernel_rfl) key (by kernel_rfl)
theorem spl_cut (c:UInt8):∀ (d:Nat) (t:List UInt8),d < t.length->(∀ j,j < d->t.getD j 0 ≠ c)->t.getD d 0=c->spl c t=t.take d::spl c (t.drop (d+1))
 | _,[],h,_,_=>by simp at h
 | 0,x::t,_,_,h=>by
  have h:x=c:=h
  rw [spl,if_pos (by rw [h];exact beq_self_eq_true c)]
  rfl
 | d+1,x::t,h1,h2,h3=>by
  have hx:x ≠ c:=h2 0 (Nat.succ_pos d)
  rw [spl,if_neg (by rw [beq_iff_eq];exact hx),spl_cut c d t (by simpa using h1) (fun j hj=>h2 (j+1) (by omega)) h3]
  rfl
theorem spl_last (c:UInt8):∀ t:List UInt8,(∀ j,j < t.length->t.getD j 0 ≠ c)->spl c t=[t]
 | [],_=>rfl
 | x::t,h=>by
  have hx:x ≠ c:=h 0 (by simp)
  rw [spl,if_neg (by rw [beq_iff_eq];exact hx),spl_last c t (fun j hj=>h (j+1) (by simpa using hj))]
  rfl
theorem drop_getD {t:List UInt8} {a j:Nat}:(t.drop a).getD j 0=t.getD (a+j) 0:=by
 rw [List.getD_eq_getElem?_getD,List.getD_eq_getElem?_getD,List.getElem?_drop]
def la84 (s:List UInt8) (c:Int):LA:={
 pre:=[.own 5 9 1,.reno 5 1,.keep [0,1,5,6,7] [1],.bound 2],post:=[.reno 5 1,.keep [0,1,5,6,7] [1],.bound 2]
 Gh:=Nat × Nat × List (List UInt8)
 st:=fun q=>⟨[(0,.str s),(1,.int .u8 c),(5,.own 1 (q.2.2.map encS).length),(6,.i q.2.1),(7,.i q.1)],[(1,.buf 9 1 (q.2.2.map encS))],2⟩
 ok:=fun q=>q.2.1<=q.1∧q.1<=s.length∧q.2.2.length<=q.1∧spl c.toNat.toUInt8 s=q.2.2++spl c.toNat.toUInt8 (s.drop q.2.1)∧∀ j,q.2.1<=j->j < q.1->s.getD j 0 ≠ c.toNat.toUInt8
 ms:=fun q=>s.length-q.1 }
abbrev zc84a (g':Nat × Nat × List (List UInt8)) (s:List UInt8) (c:Int):=(g'.snd.fst<=g'.fst∧g'.fst<=s.length∧g'.snd.snd.length<=g'.fst∧spl c.toNat.toUInt8 s=g'.snd.snd++spl c.toNat.toUInt8 (List.drop g'.snd.fst s)∧∀ (j:Nat),g'.snd.fst<=j->j < g'.fst->s.getD j (0:UInt8) ≠ c.toNat.toUInt8)
abbrev zc84b (g:Nat × Nat × List (List UInt8)) (s:List UInt8) (c:Int):=(g.snd.fst<=g.fst∧g.fst<=s.length∧g.snd.snd.length<=g.fst∧spl c.toNat.toUInt8 s=g.snd.snd++spl c.toNat.toUInt8 (List.drop g.snd.fst s)∧∀ (j:Nat),g.snd.fst<=j->j < g.fst->s.getD j (0:UInt8) ≠ c.toNat.toUInt8)
theorem c84 (s:List UInt8) (c:Int) (hs:s.length<=1000000) (hc:0<=c∧c<=255):PCall Tryz.prog G0 84 [.str s,.int .u8 c] (.sl 1 ((spl c.toNat.toUInt8 s).map encS)):=by
 have key :
  (∃ (g:Nat × Nat × List (List UInt8)),(zc84b g s c)∧AS.mk [(0,AV.str s),(1,AV.int IntKind.u8 c),(5,AV.own 1 0),(6,AV.i 0),(7,AV.i 0)] [(1,ABlk.buf 9 1 [])] 2=AS.mk [(0,AV.str s),(1,AV.int IntKind.u8 c),(5,
  AV.own 1 (List.map encS g.snd.snd).length),(6,AV.i (↑g.snd.fst:Int)),(7,AV.i (↑g.fst:Int))] [(1,ABlk.buf 9 1 (List.map encS g.snd.snd))] 2)∧∀ (g:Nat × Nat × List (List UInt8)),(zc84b g s c)->(decide ((↑g.fst:Int) <
  (↑s.length:Int))=true->(0:Int)<=(↑g.fst:Int)∧(↑g.fst:Int) < (↑s.length:Int)∧(((↑(s.getD (↑g.fst:Int).toNat (0:UInt8)).toNat:Int) == c)=true->(0:Int)<=(↑g.snd.fst:Int)∧(↑g.snd.fst:Int)<=(↑g.fst :
  Int)∧(↑g.fst:Int)<=(↑s.length:Int)∧(List.map encS g.snd.snd).length+1<=9223372036854775807∧((List.map encS g.snd.snd).length+1) * 16<=140737488355328∧In64 ((↑g.fst:Int)+1)∧In64 ((↑g.fst:Int)+1)∧∃ (g'
  : Nat × Nat × List (List UInt8)),(zc84a g' s c)∧s.length-g'.fst < s.length-g.fst∧AS.mk [(0,AV.str s),(1,AV.int IntKind.u8 c),(5,AV.own 1 ((List.map encS g.snd.snd).length+1)),(6,AV.i ((↑g.fst:Int)+1)),(7,
  AV.i ((↑g.fst:Int)+1))] [(1,ABlk.buf 9 1 (List.map encS g.snd.snd++[[AV.str (List.take ((↑g.fst:Int)-(↑g.snd.fst:Int)).toNat (List.drop (↑g.snd.fst:Int).toNat s))]]))] 2=AS.mk [(0,AV.str s),(1,AV.int IntKind.u8
  c),(5,AV.own 1 (List.map encS g'.snd.snd).length),(6,AV.i (↑g'.snd.fst:Int)),(7,AV.i (↑g'.fst:Int))] [(1,ABlk.buf 9 1 (List.map encS g'.snd.snd))] 2)∧(((↑(s.getD (↑g.fst:Int).toNat (0:UInt8)).toNat:Int) == c) =
  false->In64 ((↑g.fst:Int)+1)∧∃ (g':Nat × Nat × List (List UInt8)),(zc84a g' s c)∧s.length-g'.fst < s.length-g.fst∧AS.mk [(0,AV.str s),(1,AV.int IntKind.u8 c),(5,AV.own 1 (List.map encS g.snd.snd).length),(6,
  AV.i (↑g.snd.fst:Int)),(7,AV.i ((↑g.fst:Int)+1))] [(1,ABlk.buf 9 1 (List.map encS g.snd.snd))] 2=AS.mk [(0,AV.str s),(1,AV.int IntKind.u8 c),(5,AV.own 1 (List.map encS g'.snd.snd).length),(6,AV.i (↑g'.snd.fst :
  Int)),(7,AV.i (↑g'.fst:Int))] [(1,ABlk.buf 9 1 (List.map encS g'.snd.snd))] 2))∧(decide ((↑g.fst:Int) < (↑s.length:Int))=false->(0:Int)<=(↑g.snd.fst:Int)∧(↑g.snd.fst:Int)<=(↑s.length:Int)∧(↑s.length :
  Int)<=(↑s.length:Int)∧(List.map encS g.snd.snd).length+1<=9223372036854775807∧((List.map encS g.snd.snd).length+1) * 16<=140737488355328∧AV.sl 1 (List.map encS g.snd.snd++[[AV.str (List.take ((↑s.length:Int) -
  (↑g.snd.fst:Int)).toNat (List.drop (↑g.snd.fst:Int).toNat s))]])=AV.sl 1 (List.map encS (spl c.toNat.toUInt8 s))):=by
   delta zc84a zc84b
   obtain ⟨k,hk⟩:∃ k:UInt8,k=c.toNat.toUInt8:=⟨_,rfl⟩
   rw [<- hk]
   have hkc:(k.toNat:Int)=c:=by
    rw [hk]
    have:c.toNat < 256:=by omega
    rw [show (c.toNat.toUInt8).toNat=c.toNat % 256 from rfl,Nat.mod_eq_of_lt this]
    omega
   refine ⟨⟨(0,0,[]),⟨Nat.le_refl _,Nat.zero_le _,Nat.le_refl _,by simp,fun j h1 h2=>absurd h2 (by simp)⟩,rfl⟩,fun q hq=>?_⟩
   obtain ⟨i,a,P⟩:=q
   dsimp only at hq ⊢
   obtain ⟨h1,h2,h3,h4,h5⟩:=hq
   have hPm:(List.map encS P).length=P.length:=List.length_map _
   refine ⟨fun hlt=>?_,fun hge=>?_⟩
   · have hlt:i < s.length:=by have:=of_decide_eq_true hlt;omega
     rw [Int.toNat_natCast,Int.toNat_natCast,show ((i:Int)-(a:Int)).toNat=i-a by omega]
     refine ⟨by omega,by omega,fun he=>?_,fun he=>?_⟩
     · have he:s.getD i 0=k:=by
        apply UInt8.toNat_inj.1
        have:=eq_of_beq he
        omega
       refine ⟨by omega,by omega,by omega,by omega,by omega,by unfold In64;omega,by unfold In64;omega,(i+1,i+1,P++[(s.drop a).take (i-a)]),⟨Nat.le_refl _,hlt,by rw [List.length_append,List.length_singleton];omega,?_,fun j hj1 hj2=>by dsimp only at hj1 hj2;omega⟩,by dsimp only;omega,?_⟩
       · dsimp only
         rw [h4,spl_cut k (i-a) (s.drop a) (by rw [List.length_drop];omega) (fun j hj=>by rw [drop_getD];exact h5 _ (by omega) (by omega)) (by rw [drop_getD,show a+(i-a)=i by omega];exact he),List.append_assoc,List.drop_drop,show a+(i-a+1)=i+1 by omega]
         rfl
       · dsimp only
         rw [List.map_append,List.length_append]
         rfl
     · refine ⟨by unfold In64;omega,(i+1,a,P),⟨by dsimp only;omega,hlt,by dsimp only;omega,h4,fun j hj1 hj2=>?_⟩,by dsimp only;omega,rfl⟩
       dsimp only at hj1 hj2
       by_cases q:j=i
       · subst q
         intro e
         rw [e,hkc,beq_self_eq_true] at he
         cases he
       · exact h5 j hj1 (by omega)
   · have hi:i=s.length:=by have:=of_decide_eq_false hge;omega
     subst hi
     refine ⟨by omega,by omega,by omega,by omega,by omega,?_⟩
     rw [h4,spl_last k (s.drop a) (fun j hj=>by rw [List.length_drop] at hj;rw [drop_getD];exact h5 _ (by omega) (by omega)),List.map_append,Int.toNat_natCast,show ((s.length:Int)-(a:Int)).toNat=s.length-a by omega,List.take_of_length_le (by rw [List.length_drop];exact Nat.le_refl _)]
     rfl
 exact c_of Tryz.f84 ({ mkB spQ0 84 [] (fun i=>if i.beq 0 then some (la84 s c) else none) with bx:=fun i=>if i.beq 0 then [] else [] }) (by kernel_rfl) (by kernel_rfl) (by kernel_rfl) (by kernel_rfl) key (by kernel_rfl)
end Go.Proofs.YtjhjmncjidbieaaGreatDoor
namespace Go.Proofs.YtjhjmncjidbieaaGreatDoor
open Go Go.Av Go.RowKit
def digB (c:UInt8):Bool:=decide (48<=c.toNat) && decide (c.toNat<=57)
def digV (s:List UInt8):Nat->Int
 | 0=>0
 | k+1=>10 * digV s k+((s.getD k 0).toNat-48:Int)
def allDg (s:List UInt8) (n:Nat):Bool:=(List.range n).all fun i=>digB (s.getD i 0)
theorem dg_bd {s:List UInt8}:∀ k,allDg s k=true->0<=digV s k∧digV s k < 10 ^ k
 | 0,_=>by simp [digV]
 | k+1,h=>by
  unfold allDg at h
  rw [List.range_succ,List.all_append,Bool.and_eq_true] at h
  have ih:=dg_bd k h.1
  have h2:=h.2
  simp only [List.all_cons,List.all_nil,Bool.and_true,digB,Bool.and_eq_true,decide_eq_true_eq] at h2
  rw [digV,Int.pow_succ]
  omega
theorem wr_dig {n:Int} (h:48<=n∧n<=57):IntKind.i64.wrap (IntKind.i32.wrap (n-48))=n-48∧IntKind.i64.wrap (IntKind.u8.wrap (n-48))=n-48:=by
 have:n=48 ∨ n=49 ∨ n=50 ∨ n=51 ∨ n=52 ∨ n=53 ∨ n=54 ∨ n=55 ∨ n=56 ∨ n=57:=by omega
 rcases this with rfl | rfl | rfl | rfl | rfl | rfl | rfl | rfl | rfl | rfl <;> exact ⟨by decide,by decide⟩
theorem dg_next {s:List UInt8} {g:Nat} (ha:allDg s g=true) (hf:digB (s.getD g 0)=true):allDg s (g+1)=true:=by
 unfold allDg at ha ⊢
 rw [List.range_succ,List.all_append,ha]
 simp only [List.all_cons,List.all_nil,hf,Bool.and_self]
theorem dg_dec (c:UInt8) (r:List UInt8):(digB c=true->dec (c::r)=(c.toNat,1))∧((48<=(dec (c::r)).1∧(dec (c::r)).1<=57) ↔ digB c=true):=by
 by_cases h:c.toNat < 128
 · rw [dec_ascii r h]
   refine ⟨fun _=>rfl,?_⟩
   unfold digB
   simp
 · have h1:=dec_big r h
   have h2:digB c=false:=by
    unfold digB
    rw [Bool.and_eq_false_iff,decide_eq_false_iff_not,decide_eq_false_iff_not]
    omega
   refine ⟨fun q=>(by rw [h2] at q;cases q),⟨fun q=>(by omega),fun q=>(by rw [h2] at q;cases q)⟩⟩
theorem dg_first {s:List UInt8} {g:Nat} (h:g < s.length) (hf:digB (s.getD g 0)=false):allDg s s.length=false :=
 List.all_eq_false.2 ⟨g,by simpa using h,by rw [hf];decide⟩
def q0N (s:List UInt8) (b:Bool):Bool:=if (if b=true then true else decide ((s.length:Int) > 12))=true then true else if decide ((s.length:Int) > 1)=true then ((s.getD (Int.toNat 0) 0).toNat:Int) == 48 else false
def dpN (s:List UInt8):Nat:=fiN (fun i=>!digB (s.getD i 0)) s.length
def nvS (s:List UInt8) (b:Bool):Int:=if b=true then 0 else digV s (dpN s)
def nvW (ws:List (List UInt8)) (b:Bool):Int:=nvS (ws.headD []) (q0N (ws.headD []) (wdB ws b))
def nbW (ws:List (List UInt8)) (b:Bool):Bool:=if q0N (ws.headD []) (wdB ws b)=true then true else !allDg (ws.headD []) (ws.headD []).length
theorem q0_12 {s:List UInt8} {b:Bool} (h:q0N s b=false):s.length<=12:=by
 unfold q0N at h
 obtain ⟨h1,_⟩:=or_f h
 obtain ⟨_,h2⟩:=or_f h1
 have:=of_decide_eq_false h2
 omega
theorem dg_at {s:List UInt8} {g:Nat} (h:allDg s g=true):∀ j,j < g->digB (s.getD j 0)=true:=fun j hj=>List.all_eq_true.1 h j (by simpa using hj)
theorem dp_at {s:List UInt8} {g:Nat} (h:allDg s g=true) (hg:g < s.length) (hf:digB (s.getD g 0)=false):dpN s=g :=
 fi_some (fun j hj=>by rw [dg_at h j hj];rfl) (by rw [hf];rfl) hg
theorem dp_all {s:List UInt8} (h:allDg s s.length=true):dpN s=s.length:=fi_none fun j hj=>by rw [dg_at h j hj];rfl
def hs223:Nat->List AV->List ABlk->Option AV
 | 139,_,[.box [.sl _ rows,.bool b]]=>some (.gv true (.tup [.str ((dS rows).headD []),.agg [.sl 1 ((wdR (dS rows)).map encS),.bool (wdB (dS rows) b)]]))
 | _,_,_=>none
def la223 (ws:List (List UInt8)) (b:Bool):LA:={
 pre:=[.keep [0,3,4,32] [0,1,3],.bound 4],post:=[.keep [0,3,4,32] [0,1,3],.bound 4]
 Gh:=Nat
 st:=fun i=>⟨[(0,.ptr 1 0),(3,.str (ws.headD [])),(4,.i (digV (ws.headD []) i)),(32,.ref 3)],[(0,.pins 2),(1,.box [.sl 1 ((wdR ws).map encS),.bool (q0N (ws.headD []) (wdB ws b))]),(3,.iter ((ws.headD []).drop i) i)],4⟩
 ok:=fun i=>i<=(ws.headD []).length∧allDg (ws.headD []) i=true∧(q0N (ws.headD []) (wdB ws b)=true->i=0)
 ms:=fun i=>(ws.headD []).length-i
 it:=some 3 }
def litB (b:Bool):List AV->Option AV:=fun _=>some (.bool b)
abbrev zw223b (ws:List (List UInt8)):=(↑((dS (List.map encS ws)).headD []).length:Int)
abbrev zw223a (ws:List (List UInt8)) (b:Bool):=!if wdB (dS (List.map encS ws)) b=true then true else decide ((zw223b ws) > 12)
abbrev zw223c (ws:List (List UInt8)) (b:Bool):=[AV.sl 1 (List.map encS (wdR ws)),AV.bool (q0N (ws.headD []) (wdB ws b))]
theorem w223 (ws:List (List UInt8)) (b:Bool) (hw:ws.length<=1000000) (hl:∀ x,x ∈ ws->x.length<=1000000):WCall Tryz.prog G0 223 [.ptr 1 0] [ABlk.box [.sl 1 (ws.map encS),.bool b]] (.i (nvW ws b)) [ABlk.box [.sl 1 ((wdR ws).map encS),.bool (nbW ws b)]]:=by
 have key :
  WCall Tryz.prog G0 139 [AV.ptr 1 0] [ABlk.box [AV.sl 1 (List.map encS ws),AV.bool b]] (AV.str ((dS (List.map encS ws)).headD [])) [ABlk.box [AV.sl 1 (List.map encS (wdR (dS (List.map encS ws)))),AV.bool (wdB (dS (List.map encS
  ws)) b)]]∧((!wdB (dS (List.map encS ws)) b)=true->(!wdB (dS (List.map encS ws)) b)=true)∧((!wdB (dS (List.map encS ws)) b)=true->(!wdB (dS (List.map encS ws)) b)=true)∧(wdB (dS (List.map encS ws)) b=false->(!wdB
  (dS (List.map encS ws)) b)=true)∧((zw223a ws b)=true->(zw223a ws b)=true)∧((zw223a ws b)=true->(zw223a ws b)=true)∧((zw223a ws b)=true->(zw223a ws b)=true)∧(((zw223a ws b) && decide ((zw223b ws) > 1)) =
  true->((zw223a ws b) && decide ((zw223b ws) > 1))=true)∧(((zw223a ws b) && decide ((zw223b ws) > 1))=true->(0:Int)<=0)∧(((zw223a ws b) && decide ((zw223b ws) > 1))=true->(0:Int) < (zw223b ws))∧(((zw223a ws b) &&
  decide ((zw223b ws) > 1))=true->((zw223a ws b) && decide ((zw223b ws) > 1))=true)∧((zw223a ws b)=true->(zw223a ws b)=true)∧((zw223a ws b)=true->decide ((zw223b ws) > 1)=true->((zw223a ws b) && decide ((zw223b
  ws) > 1))=true)∧((if wdB (dS (List.map encS ws)) b=true then true else decide ((zw223b ws) > 12))=false->(zw223a ws b)=true)∧AV.bool (if (if wdB (dS (List.map encS ws)) b=true then true else decide ((zw223b ws) >
  12))=true then true else if decide ((zw223b ws) > 1)=true then (↑(((dS (List.map encS ws)).headD []).getD (Int.toNat (0:Int)) (0:UInt8)).toNat:Int) == 48 else false)=AV.bool (q0N (ws.headD []) (wdB ws b))∧(∃ (g :
  Nat),(g<=(ws.headD []).length∧allDg (ws.headD []) g=true∧(q0N (ws.headD []) (wdB ws b)=true->g=0))∧AS.mk [(0,AV.ptr 1 0),(3,AV.str ((dS (List.map encS ws)).headD [])),(4,AV.i 0),(32,AV.ref 3)] [(0,ABlk.pins
  2),(1,ABlk.box [AV.sl 1 (List.map encS (wdR (dS (List.map encS ws)))),AV.bool (q0N (ws.headD []) (wdB ws b))]),(3,ABlk.iter ((dS (List.map encS ws)).headD []) 0)] 4=AS.mk [(0,AV.ptr 1 0),(3,AV.str (ws.headD [])),(4,AV.i
  (digV (ws.headD []) g)),(32,AV.ref 3)] [(0,ABlk.pins 2),(1,ABlk.box (zw223c ws b)),(3,ABlk.iter (List.drop g (ws.headD [])) g)] 4)∧∀ (g:Nat),g<=(ws.headD []).length∧allDg (ws.headD []) g=true∧(q0N (ws.headD [])
  (wdB ws b)=true->g=0)->(∀ (c:UInt8) (r:List UInt8),List.drop g (ws.headD [])=c::r->(true=true->((!q0N (ws.headD []) (wdB ws b))=true->(!q0N (ws.headD []) (wdB ws b))=true)∧(q0N (ws.headD []) (wdB ws b) =
  false->(!q0N (ws.headD []) (wdB ws b))=true)∧((!if q0N (ws.headD []) (wdB ws b)=true then true else decide ((↑(dec (c::r)).fst:Int) < 48))=true->(!if q0N (ws.headD []) (wdB ws b)=true then true else decide ((↑(dec
  (c::r)).fst:Int) < 48))=true)∧((if q0N (ws.headD []) (wdB ws b)=true then true else decide ((↑(dec (c::r)).fst:Int) < 48))=false->(!if q0N (ws.headD []) (wdB ws b)=true then true else decide ((↑(dec (c::r)).fst
  : Int) < 48))=true)∧((if (if q0N (ws.headD []) (wdB ws b)=true then true else decide ((↑(dec (c::r)).fst:Int) < 48))=true then true else decide ((↑(dec (c::r)).fst:Int) > 57))=true->AV.i (digV (ws.headD []) g) =
  AV.i (nvW ws b)∧[ABlk.box [AV.sl 1 (List.map encS (wdR ws)),AV.bool true]]=[ABlk.box [AV.sl 1 (List.map encS (wdR ws)),AV.bool (nbW ws b)]])∧((if (if q0N (ws.headD []) (wdB ws b)=true then true else decide ((↑(dec (c ::
  r)).fst:Int) < 48))=true then true else decide ((↑(dec (c::r)).fst:Int) > 57))=false->In64 ((10:Int) * digV (ws.headD []) g)∧In64 ((10:Int) * digV (ws.headD []) g+IntKind.i64.wrap (IntKind.i32.wrap ((↑(dec (c ::
  r)).fst:Int)-48)))∧∃ (g':Nat),(g'<=(ws.headD []).length∧allDg (ws.headD []) g'=true∧(q0N (ws.headD []) (wdB ws b)=true->g'=0))∧(ws.headD []).length-g' < (ws.headD []).length-g∧AS.mk [(0,AV.ptr 1 0),
  (3,AV.str (ws.headD [])),(4,AV.i ((10:Int) * digV (ws.headD []) g+IntKind.i64.wrap (IntKind.i32.wrap ((↑(dec (c::r)).fst:Int)-48)))),(32,AV.ref 3)] [(0,ABlk.pins 2),(1,ABlk.box (zw223c ws b)),(3,ABlk.iter
  (List.drop (dec (c::r)).snd (c::r)) (g+(dec (c::r)).snd))] 4=AS.mk [(0,AV.ptr 1 0),(3,AV.str (ws.headD [])),(4,AV.i (digV (ws.headD []) g')),(32,AV.ref 3)] [(0,ABlk.pins 2),(1,ABlk.box (zw223c ws b)),(3,
  ABlk.iter (List.drop g' (ws.headD [])) g')] 4))∧(true=false->AV.i (digV (ws.headD []) g)=AV.i (nvW ws b)∧[ABlk.box (zw223c ws b)]=[ABlk.box [AV.sl 1 (List.map encS (wdR ws)),AV.bool (nbW ws b)]]))∧(List.drop g
  (ws.headD [])=[]->(false=true->False)∧(false=false->AV.i (digV (ws.headD []) g)=AV.i (nvW ws b)∧[ABlk.box (zw223c ws b)]=[ABlk.box [AV.sl 1 (List.map encS (wdR ws)),AV.bool (nbW ws b)]])):=by
   delta zw223a zw223b zw223c
   rw [dS_e]
   refine ⟨w139 ws b hw,fun h=>h,fun h=>h,fun h=>by rw [h];rfl,fun h=>h,fun h=>h,fun h=>h,fun h=>h,fun _=>Int.le_refl _,fun h=>?_,fun h=>h,fun h=>h,fun h1 h2=>by rw [h1,h2];rfl,fun h=>by rw [h];rfl,rfl,⟨0,⟨Nat.zero_le _,rfl,fun _=>rfl⟩,rfl⟩,fun g ⟨hg,ha,hz⟩=>⟨fun c r hcr=>⟨fun _=>?_,fun h=>by cases h⟩,fun hnil=>⟨fun h=>(by cases h),fun _=>?_⟩⟩⟩
   · rw [Bool.and_eq_true] at h
     have:=of_decide_eq_true h.2
     omega
   · have h12:q0N (ws.headD []) (wdB ws b)=false->(ws.headD []).length<=12:=q0_12
     unfold nvW nbW
     generalize q0N (ws.headD []) (wdB ws b)=w at *
     generalize ws.headD []=s at *
     have hlt:g < s.length:=by
      by_cases h:g < s.length
      · exact h
      · rw [List.drop_eq_nil_of_le (by omega)] at hcr;cases hcr
     have hcg:s.getD g 0=c:=by
      have:=congrArg (fun l=>l.getD 0 0) hcr
      simpa [List.getD_eq_getElem?_getD] using this
     have hr:r=s.drop (g+1):=by
      have:=congrArg (fun l=>l.drop 1) hcr
      simpa using this.symm
     obtain ⟨d1,d2⟩:=dg_dec c r
     refine ⟨fun h=>h,fun h=>by rw [h];rfl,fun h=>h,fun h=>by rw [h];rfl,fun h=>?_,fun h=>?_⟩
     · cases w with
       | true =>
        rw [hz rfl]
        exact ⟨rfl,rfl⟩
       | false =>
        have hb:digB c=false:=by
         cases q:digB c with
         | false=>rfl
         | true =>
          have:=d2.2 q
          rw [decide_eq_false (show ¬ ((dec (c::r)).1:Int) < 48 by omega),decide_eq_false (show ¬ ((dec (c::r)).1:Int) > 57 by omega)] at h
          cases h
        rw [dg_first hlt (by rw [hcg];exact hb),nvS,if_neg (by decide),dp_at ha hlt (by rw [hcg];exact hb)]
        exact ⟨rfl,rfl⟩
     · obtain ⟨h1,h3⟩:=or_f h
       obtain ⟨h1,h2⟩:=or_f h1
       subst h1
       have h2:=of_decide_eq_false h2
       have h3:=of_decide_eq_false h3
       have q:=d2.1 (by omega)
       have hd:=d1 q
       have hl12:=h12 rfl
       have hb:=dg_bd g ha
       have hp:(10:Int) ^ g<=10 ^ 12:=by
        exact_mod_cast Nat.pow_le_pow_right (show 0 < 10 by decide) (show g<=12 by omega)
       have hp:(10:Int) ^ g<=1000000000000:=hp
       rw [hd] at h2 h3 ⊢
       have hw:=(wr_dig (n:=(c.toNat:Int)) (by constructor <;> (dsimp only at h2 h3;omega))).1
       have h2:¬ (c.toNat:Int) < 48:=h2
       have h3:¬ (c.toNat:Int) > 57:=h3
       dsimp only
       rw [hw]
       refine ⟨by unfold In64;omega,by unfold In64;omega,g+1,⟨hlt,dg_next ha (by rw [hcg];exact q),fun h=>by cases h⟩,by omega,?_⟩
       rw [show digV s (g+1)=10 * digV s g+((c.toNat:Int)-48) by rw [digV,hcg],hr]
       rfl
   · unfold nvW nbW
     generalize q0N (ws.headD []) (wdB ws b)=w at *
     generalize ws.headD []=s at *
     have hge:g=s.length:=by
      have:=congrArg List.length hnil
      rw [List.length_drop] at this
      simp only [List.length_nil] at this
      omega
     subst hge
     cases w with
     | true =>
      rw [hz rfl]
      exact ⟨rfl,rfl⟩
     | false =>
      rw [nvS,if_neg (by decide),dp_all ha,if_neg (by decide),ha]
      exact ⟨rfl,rfl⟩
 exact w_of Tryz.f223 (gsB (fun i=>if i.beq 3 then [.keep [0,3,4] [0,1],.bound 2] else []) { mkB spQ0 223 [(2,19,fun _=>some (.bool (q0N (ws.headD []) (wdB ws b))))] (fun i=>if i.beq 0 then some (la223 ws b) else none) with hs:=hs223 }) (by kernel_rfl) (by kernel_rfl) (by kernel_rfl) (by kernel_rfl) (by kernel_rfl) key (by kernel_rfl)
def la141 (s:List UInt8):LA:={
 pre:=[.keep [0,4,5] [],.bound 1],post:=[.keep [0,4,5] [],.bound 1]
 Gh:=Nat
 st:=fun i=>⟨[(0,.str s),(4,.i (digV s i)),(5,.i i)],[],1⟩
 ok:=fun i=>i<=s.length∧allDg s i=true
 ms:=fun i=>s.length-i }
def inQ (s:List UInt8):Bool:=if (if (s == [])=true then true else decide ((s.length:Int) > 12))=true then true else if decide ((s.length:Int) > 1)=true then ((s.getD (Int.toNat 0) 0).toNat:Int) == 48 else false
def inB (s:List UInt8):Bool:=if inQ s=true then false else allDg s s.length
def dgV (s:List UInt8):Int:=if inB s=true then digV s s.length else 0
abbrev zc141a (s:List UInt8):=!if (s == [])=true then true else decide ((↑s.length:Int) > 12)
abbrev zc141b (s:List UInt8) (g:Nat):=(↑(s.getD (g:Int).toNat (0:UInt8)).toNat:Int)
abbrev zc141c (s:List UInt8):=(zc141a s) && decide ((↑s.length:Int) > 1)
theorem c141 (s:List UInt8) (hs:s.length<=1000000):PCall Tryz.prog G0 141 [.str s] (.tup [.i (dgV s),.bool (inB s)]):=by
 have key :
  ((!s == [])=true->(!s == [])=true)∧((!s == [])=true->(!s == [])=true)∧((s == [])=false->(!s == [])=true)∧((zc141a s)=true->(zc141a s)=true)∧((zc141a s)=true->(zc141a s)=true)∧((zc141a s)=true →
  (zc141a s)=true)∧((zc141c s)=true->(zc141c s)=true)∧((zc141c s)=true->(0:Int)<=0)∧((zc141c s)=true->(0:Int) < (↑s.length:Int))∧((zc141c s)=true->(zc141c s)=true)∧((zc141a s)=true->(zc141a s) =
  true)∧((zc141a s)=true->decide ((↑s.length:Int) > 1)=true->(zc141c s)=true)∧((if (s == [])=true then true else decide ((↑s.length:Int) > 12))=false->(zc141a s)=true)∧AV.bool (if (if (s == [])=true then
  true else decide ((↑s.length:Int) > 12))=true then true else if decide ((↑s.length:Int) > 1)=true then (↑(s.getD (Int.toNat (0:Int)) (0:UInt8)).toNat:Int) == 48 else false)=AV.bool (inQ s)∧(inQ s=true->AV.tup
  [AV.i 0,AV.bool false]=AV.tup [AV.i (dgV s),AV.bool (inB s)])∧(inQ s=false->(∃ (g:Nat),(g<=s.length∧allDg s g=true)∧AS.mk [(0,AV.str s),(4,AV.i 0),(5,AV.i 0)] [] 1=AS.mk [(0,AV.str s),(4,AV.i (digV s
  g)),(5,AV.i (g:Int))] [] 1)∧∀ (g:Nat),g<=s.length∧allDg s g=true->(decide ((g:Int) < (↑s.length:Int))=true->(0:Int)<=(g:Int)∧(g:Int) < (↑s.length:Int)∧((!decide ((zc141b s g) < 48))=true →
  (!decide ((zc141b s g) < 48))=true)∧((!decide ((zc141b s g) < 48))=true->(!decide ((zc141b s g) < 48))=true)∧((!decide ((zc141b s g) < 48))=true->(0:Int)<=(g:Int))∧((!decide ((zc141b s g) < 48))=true->(↑g :
  Int) < (↑s.length:Int))∧((!decide ((zc141b s g) < 48))=true->(!decide ((zc141b s g) < 48))=true)∧(decide ((zc141b s g) < 48)=false->(!decide ((zc141b s g) < 48))=true)∧((if decide ((zc141b s g) < 48)=true then
  true else decide ((zc141b s g) > 57))=true->AV.tup [AV.i 0,AV.bool false]=AV.tup [AV.i (dgV s),AV.bool (inB s)])∧((if decide ((zc141b s g) < 48)=true then true else decide ((zc141b s g) > 57))=false->In64 ((10:Int)
  * digV s g)∧(0:Int)<=(g:Int)∧(g:Int) < (↑s.length:Int)∧In64 ((10:Int) * digV s g+IntKind.i64.wrap (IntKind.u8.wrap ((zc141b s g)-48)))∧In64 ((g:Int)+1)∧∃ (g':Nat),(g'<=s.length∧allDg s g' =
  true)∧s.length-g' < s.length-g∧AS.mk [(0,AV.str s),(4,AV.i ((10:Int) * digV s g+IntKind.i64.wrap (IntKind.u8.wrap ((zc141b s g)-48)))),(5,AV.i ((g:Int)+1))] [] 1=AS.mk [(0,AV.str s),(4,AV.i (digV s
  g')),(5,AV.i (↑g':Int))] [] 1))∧(decide ((g:Int) < (↑s.length:Int))=false->AV.tup [AV.i (digV s g),AV.bool true]=AV.tup [AV.i (dgV s),AV.bool (inB s)])):=by
   delta zc141a zc141b zc141c
   have hbad:inB s=false->AV.tup [AV.i 0,AV.bool false]=AV.tup [AV.i (dgV s),AV.bool (inB s)]:=fun h=>by
    unfold dgV
    rw [h]
    rfl
   refine ⟨fun h=>h,fun h=>h,fun h=>by rw [h];rfl,fun h=>h,fun h=>h,fun h=>h,fun h=>h,fun _=>Int.le_refl _,fun h=>?_,fun h=>h,fun h=>h,fun h1 h2=>by rw [h1,h2];rfl,fun h=>by rw [h];rfl,rfl,fun h=>hbad (by rw [inB,if_pos h]),fun h=>⟨⟨0,⟨Nat.zero_le _,rfl⟩,rfl⟩,fun g ⟨hg,ha⟩=>⟨fun hd=>?_,fun hd=>?_⟩⟩⟩
   · rw [Bool.and_eq_true] at h
     have:=of_decide_eq_true h.2
     omega
   · have hlt:g < s.length:=by have:=of_decide_eq_true hd;omega
     have hl12:s.length<=12:=by
      unfold inQ at h
      obtain ⟨h1,_⟩:=or_f h
      obtain ⟨_,h2⟩:=or_f h1
      have:=of_decide_eq_false h2
      omega
     have hb:=dg_bd g ha
     have hp:(10:Int) ^ g<=10 ^ 12:=by
      exact_mod_cast Nat.pow_le_pow_right (show 0 < 10 by decide) (show g<=12 by omega)
     have hp:(10:Int) ^ g<=1000000000000:=hp
     rw [Int.toNat_natCast]
     refine ⟨by omega,by omega,fun h=>h,fun h=>h,fun _=>by omega,fun _=>by omega,fun h=>h,fun h=>by rw [h];rfl,fun h2=>?_,fun h2=>?_⟩
     · apply hbad
       rw [inB,if_neg (by rw [h];decide)]
       apply dg_first hlt
       unfold digB
       rw [Bool.and_eq_false_iff,decide_eq_false_iff_not,decide_eq_false_iff_not]
       cases q:decide (((s.getD g 0).toNat:Int) < 48) with
       | true=>have:=of_decide_eq_true q;omega
       | false =>
        rw [q] at h2
        have:=of_decide_eq_true (show decide (((s.getD g 0).toNat:Int) > 57)=true from h2)
        omega
     · obtain ⟨h3,h4⟩:=or_f h2
       have h3:=of_decide_eq_false h3
       have h4:=of_decide_eq_false h4
       have q:digB (s.getD g 0)=true:=by
        unfold digB
        rw [Bool.and_eq_true,decide_eq_true_eq,decide_eq_true_eq]
        omega
       rw [(wr_dig (n:=((s.getD g 0).toNat:Int)) (by omega)).2]
       exact ⟨by unfold In64;omega,by omega,by omega,by unfold In64;omega,by unfold In64;omega,g+1,⟨hlt,dg_next ha q⟩,by omega,rfl⟩
   · have hge:g=s.length:=by have:=of_decide_eq_false hd;omega
     subst hge
     have hi:inB s=true:=by rw [inB,if_neg (by rw [h];decide),ha]
     rw [dgV,if_pos hi,hi]
 exact c_of Tryz.f141 (mkB spQ0 141 [(1,16,litB (inQ s))] (fun i=>if i.beq 0 then some (la141 s) else none)) (by kernel_rfl) (by kernel_rfl) (by kernel_rfl) (by kernel_rfl) key (by kernel_rfl)
def tkW (ws:List (List UInt8)) (b:Bool):Nat->List (List UInt8) × Bool
 | 0=>(ws,b)
 | k+1=>(wdR (tkW ws b k).1,nbW (tkW ws b k).1 (tkW ws b k).2)
def tkL (ws:List (List UInt8)) (b:Bool):Nat->List Int
 | 0=>[]
 | k+1=>tkL ws b k++[nvW (tkW ws b k).1 (tkW ws b k).2]
theorem tkL_len (ws:List (List UInt8)) (b:Bool):∀ k,(tkL ws b k).length=k
 | 0=>rfl
 | k+1=>by rw [tkL,List.length_append,tkL_len ws b k];rfl
theorem wdR_sub (ws:List (List UInt8)):(wdR ws).Sublist ws:=by
 unfold wdR
 split
 · exact List.nil_sublist _
 · exact List.tail_sublist ws
theorem tk_sub (ws:List (List UInt8)) (b:Bool):∀ k,(tkW ws b k).1.Sublist ws
 | 0=>List.Sublist.refl _
 | k+1=>(wdR_sub _).trans (tk_sub ws b k)
def hs228:Nat->List AV->List ABlk->Option AV
 | 223,_,[.box [.sl _ rows,.bool b]]=>some (.gv true (.tup [.i (nvW (dS rows) b),.agg [.sl 1 ((wdR (dS rows)).map encS),.bool (nbW (dS rows) b)]]))
 | _,_,_=>none
def la228 (ws:List (List UInt8)) (b:Bool):LA:={
 pre:=[.own 3 3 1,.reno 3 2,.keep [0,3,4,11,12] [0,1,2],.bound 3],post:=[.reno 3 2,.keep [0,3,4,11,12] [0,1,2],.bound 3]
 Gh:=Nat
 st:=fun k=>⟨[(0,.ptr 1 0),(3,.own 2 ((tkL ws b k).map encI).length),(4,.fn (.func 223) [.ptr 1 0] []),(11,.i (ws.map encS).length),(12,.i k)],[(0,.pins 2),(1,.box [.sl 1 ((tkW ws b k).1.map encS),.bool (tkW ws b k).2]),(2,.buf 3 1 ((tkL ws b k).map encI))],3⟩
 ok:=fun k=>k<=ws.length
 ms:=fun k=>ws.length-k }
theorem w228 (ws:List (List UInt8)) (b:Bool) (hw:ws.length<=1000000) (hl:∀ x,x ∈ ws->x.length<=1000000):WCall Tryz.prog G0 228 [.ptr 1 0] [ABlk.box [.sl 1 (ws.map encS),.bool b]] (.sl 1 ((tkL ws b ws.length).map encI)) [ABlk.box [.sl 1 ((tkW ws b ws.length).1.map encS),.bool (tkW ws b ws.length).2]]:=by
 have key :
  (∃ (g:Nat),g<=ws.length∧AS.mk [(0,AV.ptr 1 0),(3,AV.own 2 0),(4,AV.fn (Fn.func 223) [AV.ptr 1 0] []),(11,AV.i (↑(List.map encS ws).length:Int)),(12,AV.i 0)] [(0,ABlk.pins 2),(1,ABlk.box [AV.sl 1 (List.map encS
  ws),AV.bool b]),(2,ABlk.buf 3 1 [])] 3=AS.mk [(0,AV.ptr 1 0),(3,AV.own 2 (List.map encI (tkL ws b g)).length),(4,AV.fn (Fn.func 223) [AV.ptr 1 0] []),(11,AV.i (↑(List.map encS ws).length:Int)),(12,AV.i (g:Int))]
  [(0,ABlk.pins 2),(1,ABlk.box [AV.sl 1 (List.map encS (tkW ws b g).fst),AV.bool (tkW ws b g).snd]),(2,ABlk.buf 3 1 (List.map encI (tkL ws b g)))] 3)∧∀ (g:Nat),g<=ws.length->(decide ((g:Int) < (↑(List.map encS
  ws).length:Int))=true->(List.map encI (tkL ws b g)).length+1<=9223372036854775807∧((List.map encI (tkL ws b g)).length+1) * 8<=140737488355328∧WCall Tryz.prog G0 223 [AV.ptr 1 0] [ABlk.box [AV.sl 1 (List.map encS
  (tkW ws b g).fst),AV.bool (tkW ws b g).snd]] (AV.i (nvW (dS (List.map encS (tkW ws b g).fst)) (tkW ws b g).snd)) [ABlk.box [AV.sl 1 (List.map encS (wdR (dS (List.map encS (tkW ws b g).fst)))),AV.bool (nbW (dS (List.map encS (tkW
  ws b g).fst)) (tkW ws b g).snd)]]∧In64 ((g:Int)+1)∧∃ (g':Nat),g'<=ws.length∧ws.length-g' < ws.length-g∧AS.mk [(0,AV.ptr 1 0),(3,AV.own 2 ((List.map encI (tkL ws b g)).length+1)),(4,AV.fn (Fn.func 223)
  [AV.ptr 1 0] []),(11,AV.i (↑(List.map encS ws).length:Int)),(12,AV.i ((g:Int)+1))] [(0,ABlk.pins 2),(1,ABlk.box [AV.sl 1 (List.map encS (wdR (dS (List.map encS (tkW ws b g).fst)))),AV.bool (nbW (dS (List.map encS
  (tkW ws b g).fst)) (tkW ws b g).snd)]),(2,ABlk.buf 3 1 (List.map encI (tkL ws b g)++[[AV.i (nvW (dS (List.map encS (tkW ws b g).fst)) (tkW ws b g).snd)]]))] 3=AS.mk [(0,AV.ptr 1 0),(3,AV.own 2 (List.map encI (tkL ws b
  g')).length),(4,AV.fn (Fn.func 223) [AV.ptr 1 0] []),(11,AV.i (↑(List.map encS ws).length:Int)),(12,AV.i (↑g':Int))] [(0,ABlk.pins 2),(1,ABlk.box [AV.sl 1 (List.map encS (tkW ws b g').fst),AV.bool (tkW ws b g').snd]),
  (2,ABlk.buf 3 1 (List.map encI (tkL ws b g')))] 3)∧(decide ((g:Int) < (↑(List.map encS ws).length:Int))=false->AV.sl 1 (List.map encI (tkL ws b g))=AV.sl 1 (List.map encI (tkL ws b ws.length))∧[ABlk.box [AV.sl 1
  (List.map encS (tkW ws b g).fst),AV.bool (tkW ws b g).snd]]=[ABlk.box [AV.sl 1 (List.map encS (tkW ws b ws.length).fst),AV.bool (tkW ws b ws.length).snd]]):=by
   have hwm:(List.map encS ws).length=ws.length:=List.length_map _
   have hsub:=tk_sub ws b
   refine ⟨⟨0,Nat.zero_le _,rfl⟩,fun g hg=>⟨fun hd=>?_,fun hd=>?_⟩⟩
   · have hlt:g < ws.length:=by have:=of_decide_eq_true hd;omega
     have hln:(List.map encI (tkL ws b g)).length=g:=by rw [List.length_map,tkL_len]
     rw [dS_e]
     have hs:=hsub g
     refine ⟨by omega,by omega,w223 _ _ (Nat.le_trans hs.length_le hw) (fun x hx=>hl x (hs.subset hx)),by unfold In64;omega,g+1,hlt,by omega,?_⟩
     rw [show (List.map encI (tkL ws b (g+1)))=List.map encI (tkL ws b g)++[[AV.i (nvW (tkW ws b g).1 (tkW ws b g).2)]] by rw [tkL,List.map_append];rfl,List.length_append]
     rfl
   · have hge:g=ws.length:=by have:=of_decide_eq_false hd;omega
     subst hge
     exact ⟨rfl,rfl⟩
 exact w_of Tryz.f228 (gsB (fun i=>if i.beq 7 then [.frzo 2] else []) { mkB spQ0 228 [] (fun i=>if i.beq 0 then some (la228 ws b) else none) with hs:=hs228 }) (by kernel_rfl) (by kernel_rfl) (by kernel_rfl) (by kernel_rfl) (by kernel_rfl) key (by kernel_rfl)
end Go.Proofs.YtjhjmncjidbieaaGreatDoor
namespace Go.Proofs.YtjhjmncjidbieaaGreatDoor
open Go Go.Av Go.RowKit
def hsT:Nat->List AV->List ABlk->Option AV
 | 139,_,[.box [.sl _ rows,.bool b]]=>some (.gv true (.tup [.str ((dS rows).headD []),.agg [.sl 1 ((wdR (dS rows)).map encS),.bool (wdB (dS rows) b)]]))
 | 223,_,[.box [.sl _ rows,.bool b]]=>some (.gv true (.tup [.i (nvW (dS rows) b),.agg [.sl 1 ((wdR (dS rows)).map encS),.bool (nbW (dS rows) b)]]))
 | 228,_,[.box [.sl _ rows,.bool b]]=>some (.gv true (.tup [.sl 1 ((tkL (dS rows) b (dS rows).length).map encI),.agg [.sl 1 ((tkW (dS rows) b (dS rows).length).1.map encS),.bool (tkW (dS rows) b (dS rows).length).2]]))
 | _,_,_=>none
def clL (l:List Nat):Operand->Bool
 | .tmp t=>l.any fun x=>x.beq t
 | _=>false
def nm1 (ws:List (List UInt8)) (b:Bool):List (List UInt8) × Bool:=(wdR ws,nbW ws b)
def rs1 (ws:List (List UInt8)) (b:Bool):List (List UInt8) × Bool:=tkW ws b ws.length
theorem h_len {ws:List (List UInt8)} {m:Nat} (hl:∀ x,x ∈ ws->x.length<=m):(ws.headD []).length<=m:=by
 cases ws with
 | nil=>exact Nat.zero_le _
 | cons x t=>exact hl x (by simp)
theorem wdR_len (ws:List (List UInt8)):(wdR ws).length<=ws.length:=(wdR_sub ws).length_le
theorem wdR_all {ws:List (List UInt8)} {m:Nat} (hl:∀ x,x ∈ ws->x.length<=m):∀ x,x ∈ wdR ws->x.length<=m:=fun x hx=>hl x ((wdR_sub ws).subset hx)
abbrev zw226a (ws:List (List UInt8)):=List.map encS (wdR (dS (List.map encS ws)))
theorem w226 (t:Ty) (ws:List (List UInt8)) (b:Bool) (ht:t.st.length<=1000000) (hw:ws.length<=1000000) (hl:∀ x,x ∈ ws->x.length<=1000000):WCall Tryz.prog G0 226 [.ptr 1 0,.ptr 2 0] [ABlk.box [.str t.name,.sl 1 (t.sh.map encI),.i t.d0,.i t.d1,.i t.d2,.i t.d3,.i t.d4,.i t.d5,.i t.d6,.i t.d7,.i t.side,.sl 1 (t.sq.map encI),.own 3 (t.st.map encSg).length],ABlk.box [.sl 1 (ws.map encS),.bool b],ABlk.buf 182 2 (t.st.map encSg)] (.tup []) [ABlk.box [.str (ws.headD []),.sl 1 (t.sh.map encI),.i t.d0,.i t.d1,.i t.d2,.i t.d3,.i t.d4,.i t.d5,.i t.d6,.i t.d7,.i (nvW (wdR ws) (wdB ws b)),.sl 1 (t.sq.map encI),.own 3 (t.st.map encSg).length],ABlk.box [.sl 1 ((nm1 (wdR ws) (wdB ws b)).1.map encS),.bool (nm1 (wdR ws) (wdB ws b)).2],ABlk.buf 182 2 (t.st.map encSg)]:=by
 have key :
  WCall Tryz.prog G0 139 [AV.ptr 1 0] [ABlk.box [AV.sl 1 (List.map encS ws),AV.bool b]] (AV.str ((dS (List.map encS ws)).headD [])) [ABlk.box [AV.sl 1 (zw226a ws),AV.bool (wdB (dS (List.map encS ws)) b)]]∧WCall Tryz.prog G0 223
  [AV.ptr 1 0] [ABlk.box [AV.sl 1 (zw226a ws),AV.bool (wdB (dS (List.map encS ws)) b)]] (AV.i (nvW (dS (zw226a ws)) (wdB (dS (List.map encS ws)) b))) [ABlk.box [AV.sl 1 (List.map encS (wdR (dS (zw226a ws)))),AV.bool (nbW (dS
  (zw226a ws)) (wdB (dS (List.map encS ws)) b))]]∧AV.tup []=AV.tup []∧[ABlk.box [AV.str ((dS (List.map encS ws)).headD []),AV.sl 1 (List.map encI t.sh),AV.i t.d0,AV.i t.d1,AV.i t.d2,AV.i t.d3,AV.i t.d4,AV.i t.d5,AV.i
  t.d6,AV.i t.d7,AV.i (nvW (dS (zw226a ws)) (wdB (dS (List.map encS ws)) b)),AV.sl 1 (List.map encI t.sq),AV.own 3 (List.map encSg t.st).length],ABlk.box [AV.sl 1 (List.map encS (wdR (dS (zw226a ws)))),AV.bool (nbW (dS (zw226a
  ws)) (wdB (dS (List.map encS ws)) b))],ABlk.buf 182 2 (List.map encSg t.st)]=[ABlk.box [AV.str (ws.headD []),AV.sl 1 (List.map encI t.sh),AV.i t.d0,AV.i t.d1,AV.i t.d2,AV.i t.d3,AV.i t.d4,AV.i t.d5,AV.i t.d6,AV.i t.d7,
  AV.i (nvW (wdR ws) (wdB ws b)),AV.sl 1 (List.map encI t.sq),AV.own 3 (List.map encSg t.st).length],ABlk.box [AV.sl 1 (List.map encS (wdR (wdR ws))),AV.bool (nbW (wdR ws) (wdB ws b))],ABlk.buf 182 2 (List.map encSg t.st)]:=by
   delta zw226a
   simp only [dS_e]
   exact ⟨w139 ws b hw,w223 _ _ (Nat.le_trans (wdR_len ws) hw) (wdR_all hl),trivial,by first | trivial | rfl⟩
 exact w_of Tryz.f226 ({ mkB spQ0 226 [] noLa with hs:=hsT }) (by kernel_rfl) (by kernel_rfl) (by kernel_rfl) (by kernel_rfl) (by kernel_rfl) key (by kernel_rfl)
theorem w227 (t:Ty) (ws:List (List UInt8)) (b:Bool) (ht:t.st.length<=1000000) (hw:ws.length<=1000000) (hl:∀ x,x ∈ ws->x.length<=1000000):WCall Tryz.prog G0 227 [.ptr 1 0,.ptr 2 0] [ABlk.box [.str t.name,.sl 1 (t.sh.map encI),.i t.d0,.i t.d1,.i t.d2,.i t.d3,.i t.d4,.i t.d5,.i t.d6,.i t.d7,.i t.side,.sl 1 (t.sq.map encI),.own 3 (t.st.map encSg).length],ABlk.box [.sl 1 (ws.map encS),.bool b],ABlk.buf 182 2 (t.st.map encSg)] (.tup []) [ABlk.box [.str t.name,.sl 1 ((tkL ws b ws.length).map encI),.i t.d0,.i t.d1,.i t.d2,.i t.d3,.i t.d4,.i t.d5,.i t.d6,.i t.d7,.i t.side,.sl 1 (t.sq.map encI),.own 3 (t.st.map encSg).length],ABlk.box [.sl 1 ((rs1 ws b).1.map encS),.bool (rs1 ws b).2],ABlk.buf 182 2 (t.st.map encSg)]:=by
 have key :
  WCall Tryz.prog G0 228 [AV.ptr 1 0] [ABlk.box [AV.sl 1 (List.map encS ws),AV.bool b]] (AV.sl 1 (List.map encI (tkL (dS (List.map encS ws)) b (dS (List.map encS ws)).length))) [ABlk.box [AV.sl 1 (List.map encS (tkW (dS (List.map
  encS ws)) b (dS (List.map encS ws)).length).fst),AV.bool (tkW (dS (List.map encS ws)) b (dS (List.map encS ws)).length).snd]]∧AV.tup []=AV.tup []∧[ABlk.box [AV.str t.name,AV.sl 1 (List.map encI (tkL (dS (List.map encS ws))
  b (dS (List.map encS ws)).length)),AV.i t.d0,AV.i t.d1,AV.i t.d2,AV.i t.d3,AV.i t.d4,AV.i t.d5,AV.i t.d6,AV.i t.d7,AV.i t.side,AV.sl 1 (List.map encI t.sq),AV.own 3 (List.map encSg t.st).length],ABlk.box [AV.sl 1
  (List.map encS (tkW (dS (List.map encS ws)) b (dS (List.map encS ws)).length).fst),AV.bool (tkW (dS (List.map encS ws)) b (dS (List.map encS ws)).length).snd],ABlk.buf 182 2 (List.map encSg t.st)]=[ABlk.box [AV.str t.name,
  AV.sl 1 (List.map encI (tkL ws b ws.length)),AV.i t.d0,AV.i t.d1,AV.i t.d2,AV.i t.d3,AV.i t.d4,AV.i t.d5,AV.i t.d6,AV.i t.d7,AV.i t.side,AV.sl 1 (List.map encI t.sq),AV.own 3 (List.map encSg t.st).length],ABlk.box
  [AV.sl 1 (List.map encS (rs1 ws b).fst),AV.bool (rs1 ws b).snd],ABlk.buf 182 2 (List.map encSg t.st)]:=by
   simp only [dS_e]
   exact ⟨w228 ws b hw hl,trivial,rfl⟩
 exact w_of Tryz.f227 ({ mkB spQ0 227 [] noLa with hs:=hsT }) (by kernel_rfl) (by kernel_rfl) (by kernel_rfl) (by kernel_rfl) (by kernel_rfl) key (by kernel_rfl)
theorem w230 (t:Ty) (ws:List (List UInt8)) (b:Bool) (ht:t.st.length<=1000000) (hw:ws.length<=1000000) (hl:∀ x,x ∈ ws->x.length<=1000000):WCall Tryz.prog G0 230 [.ptr 1 0,.ptr 2 0] [ABlk.box [.str t.name,.sl 1 (t.sh.map encI),.i t.d0,.i t.d1,.i t.d2,.i t.d3,.i t.d4,.i t.d5,.i t.d6,.i t.d7,.i t.side,.sl 1 (t.sq.map encI),.own 3 (t.st.map encSg).length],ABlk.box [.sl 1 (ws.map encS),.bool b],ABlk.buf 182 2 (t.st.map encSg)] (.tup []) [ABlk.box [.str t.name,.sl 1 (t.sh.map encI),.i t.d0,.i t.d1,.i t.d2,.i t.d3,.i t.d4,.i t.d5,.i t.d6,.i t.d7,.i t.side,.sl 1 ((tkL ws b ws.length).map encI),.own 3 (t.st.map encSg).length],ABlk.box [.sl 1 ((rs1 ws b).1.map encS),.bool (rs1 ws b).2],ABlk.buf 182 2 (t.st.map encSg)]:=by
 have key :
  WCall Tryz.prog G0 228 [AV.ptr 1 0] [ABlk.box [AV.sl 1 (List.map encS ws),AV.bool b]] (AV.sl 1 (List.map encI (tkL (dS (List.map encS ws)) b (dS (List.map encS ws)).length))) [ABlk.box [AV.sl 1 (List.map encS (tkW (dS (List.map
  encS ws)) b (dS (List.map encS ws)).length).fst),AV.bool (tkW (dS (List.map encS ws)) b (dS (List.map encS ws)).length).snd]]∧AV.tup []=AV.tup []∧[ABlk.box [AV.str t.name,AV.sl 1 (List.map encI t.sh),AV.i t.d0,AV.i t.d1,
  AV.i t.d2,AV.i t.d3,AV.i t.d4,AV.i t.d5,AV.i t.d6,AV.i t.d7,AV.i t.side,AV.sl 1 (List.map encI (tkL (dS (List.map encS ws)) b (dS (List.map encS ws)).length)),AV.own 3 (List.map encSg t.st).length],ABlk.box [AV.sl 1
  (List.map encS (tkW (dS (List.map encS ws)) b (dS (List.map encS ws)).length).fst),AV.bool (tkW (dS (List.map encS ws)) b (dS (List.map encS ws)).length).snd],ABlk.buf 182 2 (List.map encSg t.st)]=[ABlk.box [AV.str t.name,
  AV.sl 1 (List.map encI t.sh),AV.i t.d0,AV.i t.d1,AV.i t.d2,AV.i t.d3,AV.i t.d4,AV.i t.d5,AV.i t.d6,AV.i t.d7,AV.i t.side,AV.sl 1 (List.map encI (tkL ws b ws.length)),AV.own 3 (List.map encSg t.st).length],ABlk.box
  [AV.sl 1 (List.map encS (rs1 ws b).fst),AV.bool (rs1 ws b).snd],ABlk.buf 182 2 (List.map encSg t.st)]:=by
   simp only [dS_e]
   exact ⟨w228 ws b hw hl,trivial,rfl⟩
 exact w_of Tryz.f230 ({ mkB spQ0 230 [] noLa with hs:=hsT }) (by kernel_rfl) (by kernel_rfl) (by kernel_rfl) (by kernel_rfl) (by kernel_rfl) key (by kernel_rfl)
def rdNx:List AV->Option AV
 | [.int _ 0,_]=>some (.i 1)
 | [.int _ 1,_]=>some (.i 2)
 | [.int _ 2,_]=>some (.i 3)
 | [.int _ 3,_]=>some (.i 4)
 | [.int _ 4,_]=>some (.i 5)
 | [.int _ 5,_]=>some (.i 6)
 | [.int _ 6,_]=>some (.i 7)
 | _=>some (.i 8)
abbrev zw229e (ws:List (List UInt8)):=dS (List.map encS (wdR (dS (List.map encS ws))))
abbrev zw229a (ws:List (List UInt8)):=dS (List.map encS (wdR (dS (List.map encS (wdR (zw229e ws))))))
abbrev zw229b (ws:List (List UInt8)) (b:Bool):=nbW (dS (List.map encS (wdR (zw229e ws)))) (nbW (zw229e ws) (nbW (dS (List.map encS ws)) b))
abbrev zw229c (ws:List (List UInt8)):=dS (List.map encS (wdR (dS (List.map encS (wdR (zw229a ws))))))
abbrev zw229d (ws:List (List UInt8)) (b:Bool):=nbW (dS (List.map encS (wdR (zw229a ws)))) (nbW (zw229a ws) (zw229b ws b))
abbrev zw229f (ws:List (List UInt8)):=dS (List.map encS (wdR (zw229c ws)))
abbrev zw229g (ws:List (List UInt8)) (b:Bool):=nbW (wdR (wdR (wdR (wdR ws)))) (nbW (wdR (wdR (wdR ws))) (nbW (wdR (wdR ws)) (nbW (wdR ws) (nbW ws b))))
abbrev zw229h (ws:List (List UInt8)):=wdR (wdR (wdR (wdR (wdR ws))))
theorem w229 (t:Ty) (ws:List (List UInt8)) (b:Bool) (ht:t.st.length<=1000000) (hw:ws.length<=1000000) (hl:∀ x,x ∈ ws->x.length<=1000000):WCall Tryz.prog G0 229 [.ptr 1 0,.ptr 2 0] [ABlk.box [.str t.name,.sl 1 (t.sh.map encI),.i t.d0,.i t.d1,.i t.d2,.i t.d3,.i t.d4,.i t.d5,.i t.d6,.i t.d7,.i t.side,.sl 1 (t.sq.map encI),.own 3 (t.st.map encSg).length],ABlk.box [.sl 1 (ws.map encS),.bool b],ABlk.buf 182 2 (t.st.map encSg)] (.tup []) [ABlk.box [.str t.name,.sl 1 (t.sh.map encI),.i (nvW (tkW ws b 0).1 (tkW ws b 0).2),.i (nvW (tkW ws b 1).1 (tkW ws b 1).2),.i (nvW (tkW ws b 2).1 (tkW ws b 2).2),.i (nvW (tkW ws b 3).1 (tkW ws b 3).2),.i (nvW (tkW ws b 4).1 (tkW ws b 4).2),.i (nvW (tkW ws b 5).1 (tkW ws b 5).2),.i (nvW (tkW ws b 6).1 (tkW ws b 6).2),.i (nvW (tkW ws b 7).1 (tkW ws b 7).2),.i t.side,.sl 1 (t.sq.map encI),.own 3 (t.st.map encSg).length],ABlk.box [.sl 1 ((tkW ws b 8).1.map encS),.bool (tkW ws b 8).2],ABlk.buf 182 2 (t.st.map encSg)]:=by
 have key :
  (0:Int)<=0∧(0:Int) < (8:Int)∧WCall Tryz.prog G0 223 [AV.ptr 1 0] [ABlk.box [AV.sl 1 (List.map encS ws),AV.bool b]] (AV.i (nvW (dS (List.map encS ws)) b)) [ABlk.box [AV.sl 1 (List.map encS (wdR (dS (List.map encS
  ws)))),AV.bool (nbW (dS (List.map encS ws)) b)]]∧In64 ((0:Int)+1)∧AV.i ((0:Int)+1)=AV.i 1∧(0:Int)<=1∧(1:Int) < (8:Int)∧WCall Tryz.prog G0 223 [AV.ptr 1 0] [ABlk.box [AV.sl 1 (List.map encS (wdR (dS
  (List.map encS ws)))),AV.bool (nbW (dS (List.map encS ws)) b)]] (AV.i (nvW (zw229e ws) (nbW (dS (List.map encS ws)) b))) [ABlk.box [AV.sl 1 (List.map encS (wdR (zw229e ws))),AV.bool (nbW (zw229e ws) (nbW (dS (List.map encS ws))
  b))]]∧In64 ((1:Int)+1)∧AV.i ((1:Int)+1)=AV.i 2∧(0:Int)<=2∧(2:Int) < (8:Int)∧WCall Tryz.prog G0 223 [AV.ptr 1 0] [ABlk.box [AV.sl 1 (List.map encS (wdR (zw229e ws))),AV.bool (nbW (zw229e ws) (nbW (dS
  (List.map encS ws)) b))]] (AV.i (nvW (dS (List.map encS (wdR (zw229e ws)))) (nbW (zw229e ws) (nbW (dS (List.map encS ws)) b)))) [ABlk.box [AV.sl 1 (List.map encS (wdR (dS (List.map encS (wdR (zw229e ws)))))),AV.bool (zw229b ws
  b)]]∧In64 ((2:Int)+1)∧AV.i ((2:Int)+1)=AV.i 3∧(0:Int)<=3∧(3:Int) < (8:Int)∧WCall Tryz.prog G0 223 [AV.ptr 1 0] [ABlk.box [AV.sl 1 (List.map encS (wdR (dS (List.map encS (wdR (zw229e ws)))))),AV.bool
  (zw229b ws b)]] (AV.i (nvW (zw229a ws) (zw229b ws b))) [ABlk.box [AV.sl 1 (List.map encS (wdR (zw229a ws))),AV.bool (nbW (zw229a ws) (zw229b ws b))]]∧In64 ((3:Int)+1)∧AV.i ((3:Int)+1)=AV.i 4∧(0:Int)<=4∧(4 :
  Int) < (8:Int)∧WCall Tryz.prog G0 223 [AV.ptr 1 0] [ABlk.box [AV.sl 1 (List.map encS (wdR (zw229a ws))),AV.bool (nbW (zw229a ws) (zw229b ws b))]] (AV.i (nvW (dS (List.map encS (wdR (zw229a ws)))) (nbW (zw229a ws) (zw229b ws
  b)))) [ABlk.box [AV.sl 1 (List.map encS (wdR (dS (List.map encS (wdR (zw229a ws)))))),AV.bool (zw229d ws b)]]∧In64 ((4:Int)+1)∧AV.i ((4:Int)+1)=AV.i 5∧(0:Int)<=5∧(5:Int) < (8:Int)∧WCall Tryz.prog G0 223
  [AV.ptr 1 0] [ABlk.box [AV.sl 1 (List.map encS (wdR (dS (List.map encS (wdR (zw229a ws)))))),AV.bool (zw229d ws b)]] (AV.i (nvW (zw229c ws) (zw229d ws b))) [ABlk.box [AV.sl 1 (List.map encS (wdR (zw229c ws))),AV.bool (nbW (zw229c
  ws) (zw229d ws b))]]∧In64 ((5:Int)+1)∧AV.i ((5:Int)+1)=AV.i 6∧(0:Int)<=6∧(6:Int) < (8:Int)∧WCall Tryz.prog G0 223 [AV.ptr 1 0] [ABlk.box [AV.sl 1 (List.map encS (wdR (zw229c ws))),AV.bool (nbW (zw229c
  ws) (zw229d ws b))]] (AV.i (nvW (zw229f ws) (nbW (zw229c ws) (zw229d ws b)))) [ABlk.box [AV.sl 1 (List.map encS (wdR (zw229f ws))),AV.bool (nbW (zw229f ws) (nbW (zw229c ws) (zw229d ws b)))]]∧In64 ((6:Int)+1)∧AV.i ((6 :
  Int)+1)=AV.i 7∧(0:Int)<=7∧(7:Int) < (8:Int)∧WCall Tryz.prog G0 223 [AV.ptr 1 0] [ABlk.box [AV.sl 1 (List.map encS (wdR (zw229f ws))),AV.bool (nbW (zw229f ws) (nbW (zw229c ws) (zw229d ws b)))]] (AV.i (nvW (dS
  (List.map encS (wdR (zw229f ws)))) (nbW (zw229f ws) (nbW (zw229c ws) (zw229d ws b))))) [ABlk.box [AV.sl 1 (List.map encS (wdR (dS (List.map encS (wdR (zw229f ws)))))),AV.bool (nbW (dS (List.map encS (wdR (zw229f ws)))) (nbW
  (zw229f ws) (nbW (zw229c ws) (zw229d ws b))))]]∧In64 ((7:Int)+1)∧AV.i ((7:Int)+1)=AV.i 8∧AV.tup []=AV.tup []∧[ABlk.box [AV.str t.name,AV.sl 1 (List.map encI t.sh),AV.i (nvW (dS (List.map encS ws)) b),AV.i
  (nvW (zw229e ws) (nbW (dS (List.map encS ws)) b)),AV.i (nvW (dS (List.map encS (wdR (zw229e ws)))) (nbW (zw229e ws) (nbW (dS (List.map encS ws)) b))),AV.i (nvW (zw229a ws) (zw229b ws b)),AV.i (nvW (dS (List.map encS (wdR (zw229a
  ws)))) (nbW (zw229a ws) (zw229b ws b))),AV.i (nvW (zw229c ws) (zw229d ws b)),AV.i (nvW (zw229f ws) (nbW (zw229c ws) (zw229d ws b))),AV.i (nvW (dS (List.map encS (wdR (zw229f ws)))) (nbW (zw229f ws) (nbW (zw229c ws) (zw229d ws
  b)))),AV.i t.side,AV.sl 1 (List.map encI t.sq),AV.own 3 (List.map encSg t.st).length],ABlk.box [AV.sl 1 (List.map encS (wdR (dS (List.map encS (wdR (zw229f ws)))))),AV.bool (nbW (dS (List.map encS (wdR (zw229f ws)))) (nbW
  (zw229f ws) (nbW (zw229c ws) (zw229d ws b))))],ABlk.buf 182 2 (List.map encSg t.st)]=[ABlk.box [AV.str t.name,AV.sl 1 (List.map encI t.sh),AV.i (nvW ws b),AV.i (nvW (wdR ws) (nbW ws b)),AV.i (nvW (wdR (wdR ws)) (nbW (wdR ws)
  (nbW ws b))),AV.i (nvW (wdR (wdR (wdR ws))) (nbW (wdR (wdR ws)) (nbW (wdR ws) (nbW ws b)))),AV.i (nvW (wdR (wdR (wdR (wdR ws)))) (nbW (wdR (wdR (wdR ws))) (nbW (wdR (wdR ws)) (nbW (wdR ws) (nbW ws b))))),AV.i (nvW (zw229h ws)
  (zw229g ws b)),AV.i (nvW (wdR (zw229h ws)) (nbW (zw229h ws) (zw229g ws b))),AV.i (nvW (wdR (wdR (zw229h ws))) (nbW (wdR (zw229h ws)) (nbW (zw229h ws) (zw229g ws b)))),AV.i t.side,AV.sl 1 (List.map encI t.sq),AV.own 3 (List.map
  encSg t.st).length],ABlk.box [AV.sl 1 (List.map encS (wdR (wdR (wdR (zw229h ws))))),AV.bool (nbW (wdR (wdR (zw229h ws))) (nbW (wdR (zw229h ws)) (nbW (zw229h ws) (zw229g ws b))))],ABlk.buf 182 2 (List.map encSg t.st)]:=by
   delta zw229a zw229b zw229c zw229d zw229e zw229f zw229g zw229h
   simp only [dS_e]
   have hq:∀ k,(tkW ws b k).1.length<=1000000:=fun k=>Nat.le_trans (tk_sub ws b k).length_le hw
   have hr:∀ k x,x ∈ (tkW ws b k).1->x.length<=1000000:=fun k x hx=>hl x ((tk_sub ws b k).subset hx)
   refine ⟨by decide,by decide,w223 _ _ (hq 0) (hr 0),by decide,rfl,by decide,by decide,w223 _ _ (hq 1) (hr 1),by decide,rfl,by decide,by decide,w223 _ _ (hq 2) (hr 2),by decide,rfl,by decide,by decide,w223 _ _ (hq 3) (hr 3),by decide,rfl,by decide,by decide,w223 _ _ (hq 4) (hr 4),by decide,rfl,by decide,by decide,w223 _ _ (hq 5) (hr 5),by decide,rfl,by decide,by decide,w223 _ _ (hq 6) (hr 6),by decide,rfl,by decide,by decide,w223 _ _ (hq 7) (hr 7),by decide,rfl,trivial,by first | trivial | rfl⟩
 exact w_of Tryz.f229 ({ mkB spQ0 229 [(4,0,rdNx)] noLa with hs:=hsT,cl:=clL [6] }) (by kernel_rfl) (by kernel_rfl) (by kernel_rfl) (by kernel_rfl) (by kernel_rfl) key (by kernel_rfl)
abbrev zw231a (ws:List (List UInt8)):=List.map encS (wdR (dS (List.map encS ws)))
abbrev zw231b (ws:List (List UInt8)) (b:Bool):=tkW (dS (zw231a ws)) (nbW (dS (List.map encS ws)) b) (dS (zw231a ws)).length
theorem w231 (t:Ty) (ws:List (List UInt8)) (b:Bool) (ht:t.st.length<=1000000) (hw:ws.length<=1000000) (hl:∀ x,x ∈ ws->x.length<=1000000):WCall Tryz.prog G0 231 [.ptr 1 0,.ptr 2 0] [ABlk.box [.str t.name,.sl 1 (t.sh.map encI),.i t.d0,.i t.d1,.i t.d2,.i t.d3,.i t.d4,.i t.d5,.i t.d6,.i t.d7,.i t.side,.sl 1 (t.sq.map encI),.own 3 (t.st.map encSg).length],ABlk.box [.sl 1 (ws.map encS),.bool b],ABlk.buf 182 2 (t.st.map encSg)] (.tup []) [ABlk.box [.str t.name,.sl 1 (t.sh.map encI),.i t.d0,.i t.d1,.i t.d2,.i t.d3,.i t.d4,.i t.d5,.i t.d6,.i t.d7,.i t.side,.sl 1 (t.sq.map encI),.own 4 ((t.st++[Sg.mk (nvW ws b) (tkL (wdR ws) (nbW ws b) (wdR ws).length)]).map encSg).length],ABlk.box [.sl 1 ((rs1 (wdR ws) (nbW ws b)).1.map encS),.bool (rs1 (wdR ws) (nbW ws b)).2],ABlk.dead,ABlk.buf 182 2 ((t.st++[Sg.mk (nvW ws b) (tkL (wdR ws) (nbW ws b) (wdR ws).length)]).map encSg)]:=by
 have key :
  WCall Tryz.prog G0 223 [AV.ptr 1 0] [ABlk.box [AV.sl 1 (List.map encS ws),AV.bool b]] (AV.i (nvW (dS (List.map encS ws)) b)) [ABlk.box [AV.sl 1 (zw231a ws),AV.bool (nbW (dS (List.map encS ws)) b)]]∧WCall Tryz.prog G0 228
  [AV.ptr 1 0] [ABlk.box [AV.sl 1 (zw231a ws),AV.bool (nbW (dS (List.map encS ws)) b)]] (AV.sl 1 (List.map encI (tkL (dS (zw231a ws)) (nbW (dS (List.map encS ws)) b) (dS (zw231a ws)).length))) [ABlk.box [AV.sl 1 (List.map encS
  (zw231b ws b).fst),AV.bool (zw231b ws b).snd]]∧(List.map encSg t.st).length+1<=9223372036854775807∧((List.map encSg t.st).length+1) * 32<=140737488355328∧AV.tup []=AV.tup []∧[ABlk.box [AV.str t.name,AV.sl 1
  (List.map encI t.sh),AV.i t.d0,AV.i t.d1,AV.i t.d2,AV.i t.d3,AV.i t.d4,AV.i t.d5,AV.i t.d6,AV.i t.d7,AV.i t.side,AV.sl 1 (List.map encI t.sq),AV.own 4 ((List.map encSg t.st).length+1)],ABlk.box [AV.sl 1 (List.map encS
  (zw231b ws b).fst),AV.bool (zw231b ws b).snd],ABlk.dead,ABlk.buf 182 2 (List.map encSg t.st++[[AV.i (nvW (dS (List.map encS ws)) b),AV.sl 1 (List.map encI (tkL (dS (zw231a ws)) (nbW (dS (List.map encS ws)) b) (dS (zw231a
  ws)).length))]])]=[ABlk.box [AV.str t.name,AV.sl 1 (List.map encI t.sh),AV.i t.d0,AV.i t.d1,AV.i t.d2,AV.i t.d3,AV.i t.d4,AV.i t.d5,AV.i t.d6,AV.i t.d7,AV.i t.side,AV.sl 1 (List.map encI t.sq),AV.own 4 (List.map encSg
  (t.st++[Sg.mk (nvW ws b) (tkL (wdR ws) (nbW ws b) (wdR ws).length)])).length],ABlk.box [AV.sl 1 (List.map encS (rs1 (wdR ws) (nbW ws b)).fst),AV.bool (rs1 (wdR ws) (nbW ws b)).snd],ABlk.dead,ABlk.buf 182 2 (List.map encSg
  (t.st++[Sg.mk (nvW ws b) (tkL (wdR ws) (nbW ws b) (wdR ws).length)]))]:=by
   delta zw231a zw231b
   have hst:(List.map encSg t.st).length=t.st.length:=List.length_map _
   simp only [dS_e]
   refine ⟨w223 ws b hw hl,w228 _ _ (Nat.le_trans (wdR_len ws) hw) (wdR_all hl),by omega,by omega,trivial,?_⟩
   rw [List.map_append,List.length_append]
   rfl
 exact w_of Tryz.f231 (modA 2 7 (fun a=>{ a with fz:=false }) { mkB spQ0 231 [] noLa with hs:=hsT }) (by kernel_rfl) (by kernel_rfl) (by kernel_rfl) (by kernel_rfl) (by kernel_rfl) key (by kernel_rfl)
end Go.Proofs.YtjhjmncjidbieaaGreatDoor
namespace Go.Proofs.YtjhjmncjidbieaaGreatDoor
open Go Go.Av Go.RowKit
def bodyL (x:List UInt8):List UInt8:=if cutS x [10] then x.take (x.length-[(10:UInt8)].length) else x
def wdsL (x:List UInt8):List (List UInt8):=spl 32 (bodyL x)
def wordK:Nat->List UInt8
 | 0=>[116,121,112,101]
 | 1=>[115,104,97,114,101,115]
 | 2=>[100,105,114,101,99,116]
 | 3=>[115,113,117,97,114,101,115]
 | _=>[112,111,119,101,114]
def zT:Ty:=⟨[],[],0,0,0,0,0,0,0,0,0,[],[]⟩
def w0L (x:List UInt8):List (List UInt8):=wdR (wdsL x)
def b0L (x:List UInt8):Bool:=wdB (wdsL x) false
def lfK:Nat->List (List UInt8)->Bool->List (List UInt8) × Bool
 | 0,ws,b=>nm1 (wdR ws) (wdB ws b)
 | 1,ws,b=>rs1 ws b
 | 2,ws,b=>tkW ws b 8
 | 3,ws,b=>rs1 ws b
 | _,ws,b=>rs1 (wdR ws) (nbW ws b)
def upK:Nat->List (List UInt8)->Bool->Ty->Ty
 | 0,ws,b,t=>⟨ws.headD [],t.sh,t.d0,t.d1,t.d2,t.d3,t.d4,t.d5,t.d6,t.d7,nvW (wdR ws) (wdB ws b),t.sq,t.st⟩
 | 1,ws,b,t=>⟨t.name,tkL ws b ws.length,t.d0,t.d1,t.d2,t.d3,t.d4,t.d5,t.d6,t.d7,t.side,t.sq,t.st⟩
 | 2,ws,b,t=>⟨t.name,t.sh,nvW (tkW ws b 0).1 (tkW ws b 0).2,nvW (tkW ws b 1).1 (tkW ws b 1).2,nvW (tkW ws b 2).1 (tkW ws b 2).2,nvW (tkW ws b 3).1 (tkW ws b 3).2,nvW (tkW ws b 4).1 (tkW ws b 4).2,nvW (tkW ws b 5).1 (tkW ws b 5).2,nvW (tkW ws b 6).1 (tkW ws b 6).2,nvW (tkW ws b 7).1 (tkW ws b 7).2,t.side,t.sq,t.st⟩
 | 3,ws,b,t=>⟨t.name,t.sh,t.d0,t.d1,t.d2,t.d3,t.d4,t.d5,t.d6,t.d7,t.side,tkL ws b ws.length,t.st⟩
 | _,ws,b,t=>⟨t.name,t.sh,t.d0,t.d1,t.d2,t.d3,t.d4,t.d5,t.d6,t.d7,t.side,t.sq,t.st++[Sg.mk (nvW ws b) (tkL (wdR ws) (nbW ws b) (wdR ws).length)]⟩
def bdK (k:Nat) (x:List UInt8):Bool:=if (if (if (!cutS x [10])=true then true else !((wdsL x).headD [] == wordK k))=true then true else (lfK k (w0L x) (b0L x)).2)=true then true else decide (((lfK k (w0L x) (b0L x)).1.length:Int) > 0)
def knd (i:Nat):Nat:=if i < 4 then i else 4
def bdJ (i:Nat) (x:List UInt8):Bool:=bdK (knd i) x
def tyN (L:List (List UInt8)):Nat->Ty
 | 0=>zT
 | n+1=>upK (knd n) (w0L (L.getD n [])) (b0L (L.getD n [])) (tyN L n)
def kS (s:List UInt8):Nat:=fiN (fun i=>bdJ i ((lns s).getD i [])) (lns s).length
def eT (n:Nat) (t:Ty):Int:=sFirst [sWhen (decide ((n:Int) < 4)) 25,sTyS t]
def psT (l:Int) (k n:Nat) (t:Ty):AV:=if decide (l > 4096)=true then .tup [.agg (encTy zT),.i 0,.i 26] else if k < n then .tup [.agg (encTy zT),.i k,.i 25] else if eT n t != 0 then .tup [.agg (encTy zT),.i n,.i (eT n t)] else .tup [.agg (encTy t),.i 0,.i 0]
structure TyB (m:Nat) (t:Ty):Prop where
 nm:t.name.length<=m
 sh:t.sh.length<=m
 sq:t.sq.length<=m
 e:∀ x,x ∈ t.st->x.e.length<=m
theorem ln_len:∀ {L:List (List UInt8)} {s:List UInt8},isLn L s->L.length<=s.length∧∀ x,x ∈ L->x.length<=s.length
 | [],s,_=>⟨Nat.zero_le _,fun x hx=>by simp at hx⟩
 | x::L,s,⟨h1,h2,h3⟩=>by
  obtain ⟨i1,i2⟩:=ln_len h3
  have h4:=tl_len h1
  have h5:=congrArg List.length (hd_tl s)
  rw [List.length_append] at h5
  refine ⟨by rw [List.length_cons];omega,fun y hy=>?_⟩
  rcases List.mem_cons.1 hy with rfl | hy
  · rw [h2];omega
  · have:=i2 y hy;omega
theorem spl_len (c:UInt8):∀ s:List UInt8,(spl c s).length<=s.length+1∧∀ x,x ∈ spl c s->x.length<=s.length
 | []=>by simp [spl]
 | a::t=>by
  obtain ⟨h1,h2⟩:=spl_len c t
  have h3:=spl_cons c t
  rw [spl]
  split
  · refine ⟨by simp only [List.length_cons];omega,fun x hx=>?_⟩
    rcases List.mem_cons.1 hx with rfl | hx
    · exact Nat.zero_le _
    · have:=h2 x hx;simp only [List.length_cons];omega
  · have h4:=congrArg List.length h3
    rw [List.length_cons] at h4
    refine ⟨by simp only [List.length_cons];omega,fun x hx=>?_⟩
    rcases List.mem_cons.1 hx with rfl | hx
    · have:=h2 ((spl c t).headD []) (by rw [<- h3];exact List.mem_cons_self ..)
      simp only [List.length_cons];omega
    · have:=h2 x (by rw [<- h3];exact List.mem_cons_of_mem _ hx)
      simp only [List.length_cons];omega
theorem body_len (x:List UInt8):(bodyL x).length<=x.length:=by
 unfold bodyL
 split
 · rw [List.length_take];omega
 · exact Nat.le_refl _
theorem wds_len (x:List UInt8):(wdsL x).length<=x.length+1∧∀ y,y ∈ wdsL x->y.length<=x.length:=by
 have h1:=spl_len 32 (bodyL x)
 have h2:=body_len x
 exact ⟨by unfold wdsL;omega,fun y hy=>by have:=h1.2 y hy;omega⟩
theorem w0_len (x:List UInt8):(w0L x).length<=x.length+1∧∀ y,y ∈ w0L x->y.length<=x.length:=by
 have h:=wds_len x
 exact ⟨Nat.le_trans (wdR_len _) h.1,wdR_all h.2⟩
theorem up_st (k:Nat) (ws:List (List UInt8)) (b:Bool) (t:Ty):(upK k ws b t).st.length<=t.st.length+1:=by
 match k with
 | 0=>exact Nat.le_succ _
 | 1=>exact Nat.le_succ _
 | 2=>exact Nat.le_succ _
 | 3=>exact Nat.le_succ _
 | _+4=>show (t.st++[_]).length<=_;rw [List.length_append];exact Nat.le_refl _
theorem ty_st (L:List (List UInt8)):∀ n,(tyN L n).st.length<=n
 | 0=>Nat.le_refl _
 | n+1=>Nat.le_trans (up_st _ _ _ _) (Nat.succ_le_succ (ty_st L n))
theorem up_b {m k:Nat} {ws:List (List UInt8)} {b:Bool} {t:Ty} (h:TyB m t) (hw:ws.length<=m) (hl:∀ x,x ∈ ws->x.length<=m):TyB m (upK k ws b t):=by
 match k with
 | 0=>exact ⟨h_len hl,h.sh,h.sq,h.e⟩
 | 1=>exact ⟨h.nm,by show (tkL _ _ _).length<=m;rw [tkL_len];exact hw,h.sq,h.e⟩
 | 2=>exact ⟨h.nm,h.sh,h.sq,h.e⟩
 | 3=>exact ⟨h.nm,h.sh,by show (tkL _ _ _).length<=m;rw [tkL_len];exact hw,h.e⟩
 | _+4 =>
  refine ⟨h.nm,h.sh,h.sq,fun x hx=>?_⟩
  rcases List.mem_append.1 hx with hx | hx
  · exact h.e x hx
  · rw [List.mem_singleton.1 hx]
    show (tkL _ _ _).length<=m
    rw [tkL_len]
    exact Nat.le_trans (wdR_len ws) hw
theorem ty_b {L:List (List UInt8)} {m:Nat} (h:∀ x,x ∈ L->x.length+1<=m):∀ n,TyB m (tyN L n)
 | 0=>⟨Nat.zero_le _,Nat.zero_le _,Nat.zero_le _,fun x hx=>by cases hx⟩
 | n+1=>by
  have h1:(L.getD n []).length<=m∧(L.getD n [] ∈ L ∨ L.getD n []=[]):=by
   by_cases q:n < L.length
   · have:=h _ (getD_mem (i:=n) q)
     exact ⟨Nat.le_trans (Nat.le_succ _) this,.inl (getD_mem q)⟩
   · rw [List.getD_eq_getElem?_getD,List.getElem?_eq_none (by omega)]
     exact ⟨Nat.zero_le _,.inr rfl⟩
  have h2:=w0_len (L.getD n [])
  refine up_b (ty_b h n) ?_ fun x hx=>by have:=h2.2 x hx;omega
  rcases h1.2 with q | q
  · have:=h _ q
    omega
  · rw [q]
    show (wdR (spl 32 (bodyL []))).length<=m
    have:(wdR (spl 32 (bodyL []))).length=0:=by decide
    omega
theorem ks_e {s x:List UInt8} {pre post:List (List UInt8)} (hL:lns s=pre++x::post) (hb:∀ j,j < pre.length->bdJ j ((lns s).getD j [])=false) (hx:bdJ pre.length x=true):kS s=pre.length∧pre.length < (lns s).length:=by
 have hgn:pre.length < (lns s).length:=by rw [hL];simp
 refine ⟨fi_some (fun j hj=>hb j hj) ?_ hgn,hgn⟩
 show bdJ pre.length ((lns s).getD pre.length [])=true
 rw [hL,List.getD_eq_getElem?_getD,List.getElem?_append_right (Nat.le_refl _),Nat.sub_self]
 exact hx
theorem at_pre {s x:List UInt8} {pre post:List (List UInt8)} (hL:lns s=pre++x::post):(lns s).getD pre.length []=x:=by
 rw [hL,List.getD_eq_getElem?_getD,List.getElem?_append_right (Nat.le_refl _),Nat.sub_self]
 rfl
theorem ks_n {s:List UInt8} (hb:∀ j,j < (lns s).length->bdJ j ((lns s).getD j [])=false):kS s=(lns s).length:=fi_none hb
end Go.Proofs.YtjhjmncjidbieaaGreatDoor
