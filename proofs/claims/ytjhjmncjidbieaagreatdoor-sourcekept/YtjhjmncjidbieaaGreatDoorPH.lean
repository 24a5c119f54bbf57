/-
  Both ways to parse a type make the same of a string. Printing a type, on both sides: contracts. The same types, and SourceStrings: contracts. What chapter 2's repairs of a track return, and its states at a tick. No condition but the theorems' own.
-/
import Derived.Test.YtjhjmncjidbieaaGreatDoorPG
import Derived.Test.YtjhjmncjidbieaaGreatDoorPE
import Derived.Test.YtjhjmncjidbieaaGreatDoorPD
import Derived.Test.YtjhjmncjidbieaaGreatDoorAvD
import Derived.Test.YtjhjmncjidbieaaGreatDoorPF
namespace Go.Proofs.YtjhjmncjidbieaaGreatDoor
open Go Go.Av Go.RowKit
def lnP:List (List UInt8)->List (List UInt8)
 | []=>[]
 | [x]=>if x=[]then[]else[x]
 | x::y::t=>(x++[10])::lnP (y::t)
theorem JoX:∀ s:List UInt8,(spl 10 s=[s]/\hdL s=s/\tlL s=[]) ∨ ∃ x,hdL s=x++[10]/\spl 10 s=x::spl 10 (tlL s)
 | []=>.inl ⟨rfl,rfl,rfl⟩
 | c::t=>by
  by_cases h:c=10
  . subst h
    exact .inr ⟨[],rfl,rfl⟩
  have hb:(c == 10)=false:=beq_false_of_ne h
  rcases JoX t with⟨h1,h2,h3⟩ | ⟨x,h1,h2⟩
  . exact .inl ⟨by rw[spl,hb,h1];rfl,by rw[hdL,hb,h2];rfl,by rw[tlL,hb,h3];rfl⟩
  exact .inr ⟨c::x,by rw[hdL,hb,h1];rfl,by rw[spl,tlL,hb,h2];rfl⟩
theorem JdM:∀ {A B:List (List UInt8)} {s:List UInt8},JkF A s->JkF B s->A=B
 | [],[],_,_,_=>rfl
 | [],_::_,_,h,g=>absurd h g.1
 | _::_,[],_,h,g=>absurd g h.1
 | x::A,y::B,s,⟨_,h2,h3⟩,⟨_,g2,g3⟩=>by rw[h2,g2,JdM h3 g3]
theorem Jph:∀ (n:Nat) (s:List UInt8),s.length<=n->JkF (lnP (spl 10 s)) s
 | 0,s,h=>by
  cases s with
  | nil=>exact rfl
  | cons _ _=>simp at h
 | n+1,s,h=>by
  by_cases q:s=[]
  . subst q;exact rfl
  rcases JoX s with⟨h1,h2,h3⟩ | ⟨x,h1,h2⟩
  . rw[h1,lnP,if_neg q]
    exact⟨q,h2.symm,h3⟩
  have hlt:=Jjb q
  have ih:=Jph n (tlL s) (by omega)
  rw[h2]
  cases hP:spl 10 (tlL s)with
  | nil=>exact absurd hP (JbD _ _)
  | cons y t =>
   rw[hP]at ih
   exact⟨q,h1.symm,ih⟩
theorem Jkn(s:List UInt8):lns s=lnP (spl 10 s):=JdM (JdJ s) (Jph _ s (Kr _))
theorem Jkp:∀ P:List (List UInt8),P ≠ []->(lnP P).length=(P.length-1)+(if P.getD (P.length-1) []=[]then 0 else 1)
 | [],h=>absurd rfl h
 | [x],_=>by
  rw[lnP]
  by_cases q:x=[]
  . subst q;rfl
  rw[if_neg q,show[x].getD ([x].length-1) []=x from rfl,if_neg q];rfl
 | x::y::t,_=>by
  have ih:=Jkp (y::t) (by simp)
  rw[lnP,List.length_cons,ih,show(x::y::t).getD ((x::y::t).length-1) []=(y::t).getD ((y::t).length-1) []from rfl]
  simp only[List.length_cons]
  omega
theorem Jkq:∀ (P:List (List UInt8)) (i:Nat),i+1 < P.length->(lnP P).getD i []=P.getD i []++[10]
 | [],i,h=>by simp at h
 | [x],i,h=>by simp at h
 | x::y::t,0,_=>rfl
 | x::y::t,i+1,h=>Jkq (y::t) i (by simpa using h)
theorem JgF:∀ P:List (List UInt8),P ≠ []->P.getD (P.length-1) [] ≠ []->(lnP P).getD (P.length-1) []=P.getD (P.length-1) []
 | [],h,_=>absurd rfl h
 | [x],_,h=>by
  have h:x ≠ []:=h
  rw[lnP,if_neg h]
 | x::y::t,_,h=>JgF (y::t) (by simp) h
theorem Jge(c:UInt8):∀ (s:List UInt8) (x:List UInt8),x ∈ spl c s->c ∉ x
 | [],x,h=>by
  rw[spl,List.mem_singleton]at h
  subst h
  simp
 | a::t,x,h=>by
  rw[spl]at h
  by_cases q:a=c
  . rw[if_pos (by rw[q];exact Kz c)]at h
    rcases List.mem_cons.1 h with rfl | h
    . simp
    exact Jge c t x h
  rw[if_neg (by rw[beq_iff_eq];exact q)]at h
  have e:=Jgg c t
  rcases List.mem_cons.1 h with rfl | h
  . have:=Jge c t ((spl c t).headD []) (by rw[<- e];exact List.mem_cons_self ..)
    rw[Kq]
    exact fun hx=>hx.elim (fun hx=>q hx.symm) this
  exact Jge c t x (by rw[<- e];exact List.mem_cons_of_mem _ h)
theorem Jlg(b:List UInt8):Ul (b++[10]) [10]=true/\UT (b++[10])=b:=by
 have h:Ul (b++[10]) [10]=true:=by
  unfold Ul
  simp
 refine⟨h,?_⟩
 unfold UT
 rw[h,if_pos rfl]
 simp
theorem cut_no{x:List UInt8}(h:(10:UInt8) ∉ x):Ul x [10]=false:=by
 cases q:Ul x [10]with
 | false=>rfl
 | true =>
  unfold Ul at q
  rw[Kd,beq_iff_eq]at q
  exact absurd (List.mem_of_mem_drop (by rw[q.2];exact List.mem_singleton.2 rfl)) h
def Xv(s:List UInt8):Nat:=(spl 10 s).length-1
def lstR(s:List UInt8):List UInt8:=(spl 10 s).getD (Xv s) []
theorem Jg2(s:List UInt8):Xv s < (spl 10 s).length:=by
 have:=List.length_pos_iff.2 (JbD 10 s)
 unfold Xv
 omega
theorem Jkl(s:List UInt8):(lns s).length=Xv s+(if lstR s=[]then 0 else 1):=by rw[Jkn];exact Jkp _ (JbD 10 s)
theorem Jkm{s:List UInt8}{i:Nat}(h:i < Xv s):(lns s).getD i []=(spl 10 s).getD i []++[10]:=by
 rw[Jkn]
 exact Jkq _ _ (by unfold Xv at h;omega)
theorem Jmp{ws:List (List UInt8)}:wdB ws false=(ws.headD [] == []):=by
 unfold wdB
 cases ws.headD [] == [] <;> rfl
theorem wd_t(ws:List (List UInt8)):wdB ws true=true:=by
 unfold wdB
 split <;> rfl
theorem q0_t(s:List UInt8):q0N s true=true:=by
 unfold q0N
 rfl
theorem nb_t(ws:List (List UInt8)):nbW ws true=true:=by
 unfold nbW
 rw[wd_t,q0_t]
 rfl
theorem tk_t(ws:List (List UInt8)):∀ k,(tkW ws true k).2=true
 | 0=>rfl
 | k+1=>by
  show nbW _ _=true
  rw[tk_t ws k,nb_t]
theorem q0_in(u:List UInt8):q0N u (u == [])=inQ u:=rfl
theorem JaJ{u:List UInt8}(h:inB u=true):u ≠ []:=fun e=>by
 rw[e]at h
 exact absurd h (by decide)
theorem Ud(u:List UInt8)(r:List (List UInt8)):nbW (u::r) false=!inB u:=by
 unfold nbW inB
 rw[Jmp,show(u::r).headD []=u from rfl,q0_in]
 cases inQ u <;> rfl
theorem Jka:nbW [] false=true:=by
 unfold nbW
 rw[Jmp]
 decide
theorem QP{u:List UInt8}(r:List (List UInt8))(h:u ≠ []):wdR (u::r)=r:=by
 unfold wdR
 rw[if_neg (by
  show ¬ (u == [])=true
  rw[beq_iff_eq]
  exact h)]
 rfl
theorem Jco{u:List UInt8}(r:List (List UInt8))(h:inB u=true):nvW (u::r) false=dgV u:=by
 have h1:=h
 unfold inB at h1
 have hq:inQ u=false:=by
  cases q:inQ u with
  | false=>rfl
  | true=>rw[q]at h1;cases h1
 rw[hq,if_neg (by decide)]at h1
 unfold nvW
 rw[Jmp,show(u::r).headD []=u from rfl,q0_in,hq,nvS,if_neg (by decide),Jpw h1,dgV,if_pos h]
theorem Jjc(ws:List (List UInt8))(b:Bool):∀ k,tkW ws b (k+1)=tkW (wdR ws) (nbW ws b) k
 | 0=>rfl
 | k+1=>by
  have h:=Jjc ws b k
  show(wdR (tkW ws b (k+1)).1,nbW (tkW ws b (k+1)).1 (tkW ws b (k+1)).2)=_
  rw[h]
  rfl
theorem tl_sh(ws:List (List UInt8))(b:Bool):∀ k,tkL ws b (k+1)=nvW ws b::tkL (wdR ws) (nbW ws b) k
 | 0=>rfl
 | k+1=>by
  have h:=tl_sh ws b k
  show tkL ws b (k+1)++[nvW (tkW ws b (k+1)).1 (tkW ws b (k+1)).2]=_
  rw[h,Jjc]
  rfl
theorem W9:∀ (k:Nat) (r:List (List UInt8)),k<=r.length->(∀ x,x ∈ r.take k->inB x=true)->tkW r false k=(r.drop k,false)/\tkL r false k=(r.take k).map dgV
 | 0,r,_,_=>⟨rfl,rfl⟩
 | k+1,[],h,_=>by simp at h
 | k+1,u::r,h,ha=>by
  have hu:inB u=true:=ha u (by simp)
  have ih:=W9 k r (by simpa using h) fun x hx=>ha x (by simp[hx])
  rw[Jjc,tl_sh,Ud,hu,QP r (JaJ hu),Jco r hu]
  exact⟨ih.1,by rw[show(!true)=false from rfl,ih.2];rfl⟩
theorem tk_f:∀ (k:Nat) (r:List (List UInt8)),(tkW r false k).2=false->k<=r.length/\∀ x,x ∈ r.take k->inB x=true
 | 0,r,_=>⟨Nat.zero_le _,fun x hx=>by simp at hx⟩
 | k+1,[],h=>by
  rw[Jjc,Jka,tk_t]at h
  cases h
 | k+1,u::r,h=>by
  rw[Jjc,Ud]at h
  cases hu:inB u with
  | false=>rw[hu,show(!false)=true from rfl,tk_t]at h;cases h
  | true =>
   rw[hu,QP r (JaJ hu)]at h
   have ih:=tk_f k r h
   refine⟨by rw[List.length_cons];omega,fun x hx=>?_⟩
   rw[List.take_succ_cons]at hx
   rcases List.mem_cons.1 hx with rfl | hx
   . exact hu
   exact ih.2 x hx
theorem JjB(r:List (List UInt8)):(tkW r false r.length).2=false ↔ ∀ x,x ∈ r->inB x=true:=by
 constructor
 . intro h x hx
   exact(tk_f r.length r h).2 x (by rw[Ky];exact hx)
 intro h
 rw[(W9 r.length r (Kr _) fun x hx=>h x (by rwa [Ky]at hx)).1]
theorem Ub{r:List (List UInt8)}(h:∀ x,x ∈ r->inB x=true):tkW r false r.length=([],false)/\tkL r false r.length=r.map dgV:=by
 have:=W9 r.length r (Kr _) fun x hx=>h x (by rwa [Ky]at hx)
 rwa [List.drop_length,Ky]at this
def GdK:Nat->List (List UInt8)->Prop
 | 0,ws=>∃ n u,ws=[JA 0,n,u]/\n ≠ []/\inB u=true
 | 1,ws=>∃ r,ws=JA 1::r/\∀ x,x ∈ r->inB x=true
 | 2,ws=>∃ r,ws=JA 2::r/\r.length=8/\∀ x,x ∈ r->inB x=true
 | 3,ws=>∃ r,ws=JA 3::r/\∀ x,x ∈ r->inB x=true
 | _,ws=>∃ u r,ws=JA 4::u::r/\inB u=true/\∀ x,x ∈ r->inB x=true
theorem Jo4(b:Bool)(rows:List (List AV))(fr:Nat):∀ n,rtQ b rows fr n=true ↔ b=true/\∀ i,i < n->inB ((dS rows).getD (fr+i) [])=true
 | 0=>⟨fun h=>⟨h,fun i hi=>absurd hi (K9 _)⟩,fun h=>h.1⟩
 | n+1=>by
  have ih:=Jo4 b rows fr n
  rw[rtQ]
  constructor
  . intro h
    obtain⟨h1,h2⟩:=ih.1 (JhV h)
    refine⟨h1,fun i hi=>?_⟩
    by_cases e:i=n
    . rw[e];exact JkE h
    exact h2 i (by omega)
  intro⟨h1,h2⟩
  rw[if_pos (ih.2 ⟨h1,fun i hi=>h2 i (by omega)⟩)]
  exact h2 n (by omega)
theorem mem_at{r:List (List UInt8)}:(∀ x,x ∈ r->inB x=true) ↔ ∀ i,i < r.length->inB (r.getD i [])=true:=by
 constructor
 . intro h i hi
   exact h _ (JG hi)
 intro h x hx
 obtain⟨i,hi,rfl⟩:=List.getElem_of_mem hx
 have:=h i hi
 rwa [Ka,Kj hi]at this
theorem Jki(ws:List (List UInt8))(fr:Nat):∀ n,fr+n<=ws.length->lsQ (ws.map Jx) fr n=((ws.drop fr).take n).map dgV
 | 0,_=>rfl
 | n+1,h=>by
  have hlt:n < (ws.drop fr).length:=by rw[Kh];omega
  rw[lsQ,Jki ws fr n (by omega),WT,List.take_add_one,Db,Kj hlt]
  congr 1
  rw[List.getElem_drop,Ka,Kj (by omega)]
  rfl
theorem ok_iff(k:Nat)(ws:List (List UInt8)):okQ k (ws.map Jx)=true ↔ b0K k (ws.map Jx)=true/\∀ i,i < ws.length-frK k->inB (ws.getD (frK k+i) [])=true:=by
 rw[okQ,Jo4,WT,Kb]
theorem one(k:Nat)(hk:k=1 ∨ k=3)(hk2:k ≠ 0)(ws:List (List UInt8)):(b0K k (ws.map Jx)=true/\∀ i,i < ws.length-frK k->inB (ws.getD (frK k+i) [])=true) ↔ ∃ r,ws=JA k::r/\∀ x,x ∈ r->inB x=true:=by
 have h0:JA k ≠ []:=by rcases hk with rfl | rfl <;> decide
 have e:b0K k (ws.map Jx)=(ws.getD 0 [] == JA k):=by
  unfold b0K
  rw[if_neg hk2,if_neg (by omega),if_neg (by omega),WT]
 rw[e,frK,if_neg hk2]
 constructor
 . intro⟨h1,h2⟩
   have b:=eq_of_beq h1
   cases ws with
   | nil=>exact absurd b.symm h0
   | cons x r =>
    refine⟨r,by rw[show x=JA k from b],mem_at.2 fun i hi=>?_⟩
    have:=h2 i (by rw[List.length_cons];omega)
    rwa [Nat.add_comm]at this
 intro⟨r,e,hr⟩
 subst e
 refine⟨Kz _,fun i hi=>?_⟩
 rw[Nat.add_comm]
 exact mem_at.1 hr i (by rw[List.length_cons]at hi;omega)
theorem Je4(k:Nat)(hk:k<=4)(ws:List (List UInt8)):okQ k (ws.map Jx)=true ↔ GdK k ws:=by
 rw[ok_iff]
 have hl:((ws.map Jx).length:Int)=(ws.length:Int):=by rw[Kb]
 match k,hk with
 | 0,_ =>
  unfold b0K frK
  rw[if_pos rfl,if_pos rfl,WT,hl]
  constructor
  . intro⟨h1,h2⟩
    have a:=JkE h1
    have b:=JhV (JhV h1)
    have c:=JkE (JhV h1)
    have c:=eq_of_beq c
    match ws,(show ws.length=3 by omega)with
    | [x,n,u],_ =>
     refine⟨n,u,?_,?_,h2 0 Nat.zero_lt_one⟩
     . rw[show x=JA 0 from eq_of_beq b]
     intro e
     rw[show([x,n,u]:List (List UInt8)).getD 1 []=n from rfl,e]at a
     exact absurd a (by decide)
  intro⟨n,u,e,hn,hu⟩
  subst e
  refine⟨?_,fun i hi=>?_⟩
  . rw[show([JA 0,n,u]:List (List UInt8)).getD 1 []=n from rfl,show([JA 0,n,u]:List (List UInt8)).getD 0 []=JA 0 from rfl,Kz,if_pos rfl,if_pos (show((([JA 0,n,u]:List (List UInt8)).length:Int) == 3)=true from rfl)]
    rw[Kt,beq_eq_false_iff_ne]
    exact hn
  have:i=0:=by
   have:([JA 0,n,u]:List (List UInt8)).length=3:=rfl
   omega
  rw[this]
  exact hu
 | 1,_=>exact one 1 (by decide) (by decide) ws
 | 2,_ =>
  have e0:b0K 2 (ws.map Jx)=if(ws.getD 0 [] == JA 2)=true then((ws.length:Int) == 9)else false:=by
   unfold b0K
   rw[if_neg (show ¬ (2:Nat)=0 by decide),if_pos rfl,WT,hl]
  rw[e0,show frK 2=1 from rfl]
  constructor
  . intro⟨h1,h2⟩
    have b:=eq_of_beq (JhV h1)
    have c:=eq_of_beq (JkE h1)
    cases ws with
    | nil=>simp at c
    | cons x r =>
     rw[List.length_cons]at c h2
     refine⟨r,by rw[show x=JA 2 from b],by omega,mem_at.2 fun i hi=>?_⟩
     have:=h2 i (by omega)
     rwa [Nat.add_comm]at this
  intro⟨r,e,h8,hr⟩
  subst e
  refine⟨?_,fun i hi=>?_⟩
  . rw[show(JA 2::r).getD 0 []=JA 2 from rfl,Kz,if_pos rfl,List.length_cons,h8]
    rfl
  rw[Nat.add_comm]
  exact mem_at.1 hr i (by rw[List.length_cons]at hi;omega)
 | 3,_=>exact one 3 (by decide) (by decide) ws
 | 4,_ =>
  have e0:b0K 4 (ws.map Jx)=if(ws.getD 0 [] == JA 4)=true then decide ((ws.length:Int) > 1)else false:=by
   unfold b0K
   rw[if_neg (show ¬ (4:Nat)=0 by decide),if_neg (show ¬ (4:Nat)=2 by decide),if_pos rfl,WT,hl]
  rw[e0,show frK 4=1 from rfl]
  constructor
  . intro⟨h1,h2⟩
    have b:=eq_of_beq (JhV h1)
    have c:=K0 (JkE h1)
    match ws,(show 2<=ws.length by omega)with
    | x::u::r,_ =>
     refine⟨u,r,by rw[show x=JA 4 from b],h2 0 (by simp),mem_at.2 fun i hi=>?_⟩
     have:=h2 (i+1) (by simp only[List.length_cons];omega)
     rwa [show 1+(i+1)=i+2 by omega]at this
  intro⟨u,r,e,hu,hr⟩
  subst e
  refine⟨?_,fun i hi=>?_⟩
  . rw[show(JA 4::u::r).getD 0 []=JA 4 from rfl,Kz,if_pos rfl]
    exact decide_eq_true (by simp only[List.length_cons];omega)
  match i with
  | 0=>exact hu
  | i+1 =>
   rw[show 1+(i+1)=i+2 by omega]
   exact mem_at.1 hr i (by simp only[List.length_cons]at hi;omega)
theorem Jfk{p q:Nat->Bool}:∀ {n:Nat},(∀ j,j < n->p j=q j)->fiN p n=fiN q n
 | 0,_=>rfl
 | n+1,h=>by
  rw[fiN,fiN,Jfk (n:=n) fun j hj=>h j (by omega),h n (by omega)]
theorem fi_al{p:Nat->Bool}{n:Nat}(h:¬ fiN p n < n):∀ j,j < n->p j=false:=by
 induction n with
 | zero=>intro j hj;omega
 | succ n ih =>
  rw[fiN]at h
  split at h
  . omega
  rename_i h1
  split at h
  . omega
  rename_i h2
  intro j hj
  by_cases e:j=n
  . rw[e];simpa using h2
  exact ih h1 j (by omega)
theorem fi_lt{p:Nat->Bool}{n j:Nat}(hj:j < n)(h:p j=true):fiN p n < n:=by
 by_cases q:fiN p n < n
 . exact q
 rw[fi_al q j hj]at h
 cases h
theorem Jb3(k:Nat):JA k ≠ []:=by
 match k with
 | 0=>decide
 | 1=>decide
 | 2=>decide
 | 3=>decide
 | _+4=>show([112,111,119,101,114]:List UInt8) ≠ [];decide
theorem nor4{a b c d:Bool}:(if(if(if(!a)=true then true else !b)=true then true else c)=true then true else d)=false ↔ a=true/\b=true/\c=false/\d=false:=by
 cases a <;> cases b <;> cases c <;> cases d <;> decide
theorem bd_gd(k:Nat)(hk:k<=4)(p:List UInt8):bdK k (p++[10])=false ↔ GdK k (spl 32 p):=by
 obtain⟨c1,c2⟩:=Jlg p
 have hw:Qc (p++[10])=spl 32 p:=by rw[Qc,c2]
 rw[bdK,nor4,c1,hw,w0L,b0L,hw]
 obtain⟨w,r,hwr⟩:∃ w r,spl 32 p=w::r:=by
  cases h:spl 32 p with
  | nil=>exact absurd h (JbD 32 p)
  | cons w r=>exact⟨w,r,rfl⟩
 rw[hwr,show(w::r).headD []=w from rfl]
 have key:(w == JA k)=true->wdR (w::r)=r/\wdB (w::r) false=false:=fun h=>by
  have h:=eq_of_beq h
  have hne:w ≠ []:=by rw[h];exact Jb3 k
  refine⟨QP r hne,?_⟩
  rw[Jmp,beq_eq_false_iff_ne]
  exact hne
 have dl:∀ l:List (List UInt8),decide ((l.length:Int) > 0)=false ↔ l=[]:=fun l=>by
  rw[decide_eq_false_iff_not]
  constructor
  . intro h
    exact List.length_eq_zero_iff.1 (by omega)
  intro h
  rw[h]
  decide
 constructor
 . intro⟨_,h1,h2,h3⟩
   obtain⟨e1,e2⟩:=key h1
   rw[e1,e2]at h2 h3
   rw[dl]at h3
   have h1:=eq_of_beq h1
   subst h1
   match k,hk with
   | 0,_ =>
    have h2:nbW (wdR r) (wdB r false)=false:=h2
    have h3:wdR (wdR r)=[]:=h3
    cases r with
    | nil=>exact absurd h2 (by decide)
    | cons n r =>
     have hn:n ≠ []:=fun e=>by
      rw[Jmp,e]at h2
      rw[show(([]::r:List (List UInt8)).headD [] == [])=true from rfl,nb_t]at h2
      cases h2
     have hf:wdB (n::r) false=false:=by
      rw[Jmp,beq_eq_false_iff_ne]
      exact hn
     rw[QP r hn,hf]at h2
     rw[QP r hn]at h3
     cases r with
     | nil=>rw[Jka]at h2;cases h2
     | cons u r =>
      rw[Ud]at h2
      have hu:inB u=true:=by simpa using h2
      rw[QP r (JaJ hu)]at h3
      subst h3
      exact⟨n,u,rfl,hn,hu⟩
   | 1,_=>exact⟨r,rfl,(JjB r).1 h2⟩
   | 2,_ =>
    have hf:=tk_f 8 r h2
    have hg:=W9 8 r hf.1 hf.2
    have h3:(tkW r false 8).1=[]:=h3
    rw[hg.1]at h3
    have h8:r.length=8:=by
     have:=List.drop_eq_nil_iff.1 h3
     omega
    exact⟨r,rfl,h8,fun x hx=>hf.2 x (by rw[<- h8,Ky];exact hx)⟩
   | 3,_=>exact⟨r,rfl,(JjB r).1 h2⟩
   | 4,_ =>
    have h2:(tkW (wdR r) (nbW r false) (wdR r).length).2=false:=h2
    cases r with
    | nil=>rw[Jka,tk_t]at h2;cases h2
    | cons u r =>
     rw[Ud]at h2
     cases hu:inB u with
     | false=>rw[hu,show(!false)=true from rfl,tk_t]at h2;cases h2
     | true =>
      rw[hu,QP r (JaJ hu)]at h2
      exact⟨u,r,rfl,hu,(JjB r).1 h2⟩
 intro hg
 have hwk:w=JA k:=by
  match k,hk,hg with
  | 0,_,⟨n,u,e,_⟩=>exact(List.cons.inj e).1
  | 1,_,⟨r,e,_⟩=>exact(List.cons.inj e).1
  | 2,_,⟨r,e,_⟩=>exact(List.cons.inj e).1
  | 3,_,⟨r,e,_⟩=>exact(List.cons.inj e).1
  | 4,_,⟨u,r,e,_⟩=>exact(List.cons.inj e).1
 have h1:(w == JA k)=true:=by rw[hwk];exact Kz _
 obtain⟨e1,e2⟩:=key h1
 rw[e1,e2,dl]
 refine⟨rfl,h1,?_⟩
 match k,hk,hg with
 | 0,_,⟨n,u,e,hn,hu⟩ =>
  obtain⟨_,rfl⟩:=List.cons.inj e
  show nbW (wdR [n,u]) (wdB [n,u] false)=false/\wdR (wdR [n,u])=[]
  have hf:wdB [n,u] false=false:=by
   rw[Jmp,beq_eq_false_iff_ne]
   exact hn
  rw[QP _ hn,hf,Ud,hu,QP _ (JaJ hu)]
  exact⟨rfl,rfl⟩
 | 1,_,⟨r',e,hr⟩ =>
  obtain⟨_,rfl⟩:=List.cons.inj e
  show(tkW r false r.length).2=false/\(tkW r false r.length).1=[]
  rw[(Ub hr).1]
  exact⟨rfl,rfl⟩
 | 2,_,⟨r',e,h8,hr⟩ =>
  obtain⟨_,rfl⟩:=List.cons.inj e
  show(tkW r false 8).2=false/\(tkW r false 8).1=[]
  rw[<- h8,(Ub hr).1]
  exact⟨rfl,rfl⟩
 | 3,_,⟨r',e,hr⟩ =>
  obtain⟨_,rfl⟩:=List.cons.inj e
  show(tkW r false r.length).2=false/\(tkW r false r.length).1=[]
  rw[(Ub hr).1]
  exact⟨rfl,rfl⟩
 | 4,_,⟨u,r',e,hu,hr⟩ =>
  obtain⟨_,rfl⟩:=List.cons.inj e
  show(tkW (wdR (u::r')) (nbW (u::r') false) (wdR (u::r')).length).2=false/\(tkW (wdR (u::r')) (nbW (u::r') false) (wdR (u::r')).length).1=[]
  rw[Ud,hu,QP _ (JaJ hu),show(!true)=false from rfl,(Ub hr).1]
  exact⟨rfl,rfl⟩
theorem Jpi(i:Nat):knd i<=4:=by
 unfold knd
 split <;> omega
theorem bd_ok(k:Nat)(hk:k<=4)(p:List UInt8):bdK k (p++[10])=!okQ k (roB p):=by
 have h1:=bd_gd k hk p
 have h2:=Je4 k hk (spl 32 p)
 have h3:bdK k (p++[10])=false ↔ okQ k (roB p)=true:=h1.trans h2.symm
 cases h4:okQ k (roB p)with
 | true=>rw[h3.2 h4];rfl
 | false =>
  cases h5:bdK k (p++[10])with
  | true=>rfl
  | false=>rw[h3.1 h5]at h4;cases h4
theorem upK_0(ws:List (List UInt8))(b:Bool)(t:Ty):upK 0 ws b t=⟨ws.headD [],t.sh,t.d0,t.d1,t.d2,t.d3,t.d4,t.d5,t.d6,t.d7,nvW (wdR ws) (wdB ws b),t.sq,t.st⟩:=rfl
theorem upK_1(ws:List (List UInt8))(b:Bool)(t:Ty):upK 1 ws b t=⟨t.name,tkL ws b ws.length,t.d0,t.d1,t.d2,t.d3,t.d4,t.d5,t.d6,t.d7,t.side,t.sq,t.st⟩:=rfl
theorem upK_2(ws:List (List UInt8))(b:Bool)(t:Ty):upK 2 ws b t=⟨t.name,t.sh,nvW (tkW ws b 0).1 (tkW ws b 0).2,nvW (tkW ws b 1).1 (tkW ws b 1).2,nvW (tkW ws b 2).1 (tkW ws b 2).2,nvW (tkW ws b 3).1 (tkW ws b 3).2,nvW (tkW ws b 4).1 (tkW ws b 4).2,nvW (tkW ws b 5).1 (tkW ws b 5).2,nvW (tkW ws b 6).1 (tkW ws b 6).2,nvW (tkW ws b 7).1 (tkW ws b 7).2,t.side,t.sq,t.st⟩:=rfl
theorem upK_3(ws:List (List UInt8))(b:Bool)(t:Ty):upK 3 ws b t=⟨t.name,t.sh,t.d0,t.d1,t.d2,t.d3,t.d4,t.d5,t.d6,t.d7,t.side,tkL ws b ws.length,t.st⟩:=rfl
theorem upK_4(ws:List (List UInt8))(b:Bool)(t:Ty):upK 4 ws b t=⟨t.name,t.sh,t.d0,t.d1,t.d2,t.d3,t.d4,t.d5,t.d6,t.d7,t.side,t.sq,t.st++[Sg.mk (nvW ws b) (tkL (wdR ws) (nbW ws b) (wdR ws).length)]⟩:=rfl
theorem upR_0(rows:List (List AV))(t:Ty):upR 0 rows t=⟨(dS rows).getD 1 [],t.sh,t.d0,t.d1,t.d2,t.d3,t.d4,t.d5,t.d6,t.d7,(lQ 0 rows).getD 0 default,t.sq,t.st⟩:=rfl
theorem upR_1(rows:List (List AV))(t:Ty):upR 1 rows t=⟨t.name,lQ 1 rows,t.d0,t.d1,t.d2,t.d3,t.d4,t.d5,t.d6,t.d7,t.side,t.sq,t.st⟩:=rfl
theorem upR_2(rows:List (List AV))(t:Ty):upR 2 rows t=⟨t.name,t.sh,(lQ 2 rows).getD 0 default,(lQ 2 rows).getD 1 default,(lQ 2 rows).getD 2 default,(lQ 2 rows).getD 3 default,(lQ 2 rows).getD 4 default,(lQ 2 rows).getD 5 default,(lQ 2 rows).getD 6 default,(lQ 2 rows).getD 7 default,t.side,t.sq,t.st⟩:=rfl
theorem upR_3(rows:List (List AV))(t:Ty):upR 3 rows t=⟨t.name,t.sh,t.d0,t.d1,t.d2,t.d3,t.d4,t.d5,t.d6,t.d7,t.side,lQ 3 rows,t.st⟩:=rfl
theorem upR_4(rows:List (List AV))(t:Ty):upR 4 rows t=⟨t.name,t.sh,t.d0,t.d1,t.d2,t.d3,t.d4,t.d5,t.d6,t.d7,t.side,t.sq,t.st++[Sg.mk ((lQ 4 rows).getD 0 default) ((lQ 4 rows).drop 1)]⟩:=rfl
theorem up_eq(k:Nat)(hk:k<=4)(p:List UInt8)(t:Ty)(hg:okQ k (roB p)=true):upK k (w0L (p++[10])) (b0L (p++[10])) t=upR k (roB p) t:=by
 obtain⟨c1,c2⟩:=Jlg p
 have hw:Qc (p++[10])=spl 32 p:=by rw[Qc,c2]
 have hg:=(Je4 k hk (spl 32 p)).1 hg
 unfold roB
 rw[w0L,b0L,hw]
 have hd:∀ (r:List (List UInt8)),wdR (JA k::r)=r/\wdB (JA k::r) false=false:=fun r=>by
  refine⟨QP r (Jb3 k),?_⟩
  rw[Jmp,beq_eq_false_iff_ne]
  exact Jb3 k
 have hq:∀ (k:Nat) (ws:List (List UInt8)),frK k<=ws.length->lQ k (ws.map Jx)=(ws.drop (frK k)).map dgV:=fun k ws h=>by
  unfold lQ
  rw[Kb,Jki _ _ _ (by omega),Kv (by rw[Kh];exact Kr _)]
 match k,hk,hg with
 | 0,_,⟨n,u,e,hn,hu⟩ =>
  rw[e,(hd _).1,(hd _).2]
  have hf:wdB [n,u] false=false:=by
   rw[Jmp,beq_eq_false_iff_ne]
   exact hn
  rw[upK_0,upR_0]
  rw[QP _ hn,hf,Jco _ hu,WT,hq 0 [JA 0,n,u] (show 2<=3 by decide)]
  rfl
 | 1,_,⟨r,e,hr⟩ =>
  rw[e,(hd _).1,(hd _).2]
  rw[upK_1,upR_1]
  rw[(Ub hr).2,hq 1 _ (by simp[frK])]
  rfl
 | 2,_,⟨r,e,h8,hr⟩ =>
  rw[e,(hd _).1,(hd _).2]
  have hx:∀ i,i < 8->nvW (tkW r false i).1 (tkW r false i).2=(r.map dgV).getD i default:=fun i hi=>by
   have h1:=W9 i r (by omega) fun x hx=>hr x (List.mem_of_mem_take hx)
   rw[h1.1]
   have hlt:i < r.length:=by omega
   rw[List.drop_eq_getElem_cons hlt,Jco _ (hr _ (List.getElem_mem hlt)),Ka,Kk,Kj hlt]
   rfl
  rw[upK_2,upR_2]
  rw[hx 0 (by decide),hx 1 (by decide),hx 2 (by decide),hx 3 (by decide),hx 4 (by decide),hx 5 (by decide),hx 6 (by decide),hx 7 (by decide),hq 2 _ (by simp[frK])]
  rfl
 | 3,_,⟨r,e,hr⟩ =>
  rw[e,(hd _).1,(hd _).2]
  rw[upK_3,upR_3]
  rw[(Ub hr).2,hq 3 _ (by simp[frK])]
  rfl
 | 4,_,⟨u,r,e,hu,hr⟩ =>
  rw[e,(hd _).1,(hd _).2]
  rw[upK_4,upR_4]
  rw[Ud,hu,QP _ (JaJ hu),show(!true)=false from rfl,(Ub hr).2,Jco _ hu,hq 4 _ (by simp[frK])]
  rfl
theorem Jkt{s:List UInt8}{i:Nat}(h:i < Xv s):bdJ i ((lns s).getD i [])=!gdR s i:=by
 have hc:=Jg2 s
 rw[Jkm h,gdR,if_neg (by unfold Xv at h;omega),bdJ]
 exact bd_ok _ (Jpi i) _
theorem Jfc{s:List UInt8}(h:lstR s ≠ []):bdJ (Xv s) ((lns s).getD (Xv s) [])=!gdR s (Xv s):=by
 have hc:=Jg2 s
 have e:(lns s).getD (Xv s) []=lstR s:=by
  rw[Jkn]
  exact JgF _ (JbD 10 s) h
 have hg:gdR s (Xv s)=false:=by
  rw[gdR,if_pos (by unfold Xv at hc ⊢;omega)]
  exact beq_eq_false_iff_ne.2 h
 rw[e,hg,bdJ,bdK,cut_no (Jge 10 s _ (by
  unfold lstR
  exact JG hc))]
 rfl
theorem JoU{s:List UInt8}(hg:∀ j,j < Xv s->gdR s j=true):∀ i,i<=Xv s->tyN (lns s) i=rT s i
 | 0,_=>rfl
 | i+1,hi=>by
  have ih:=JoU hg i (by omega)
  have hne:i+1 ≠ (spl 10 s).length:=by
   have:=Jg2 s
   omega
  have h1:=hg i (by omega)
  rw[gdR,if_neg hne]at h1
  rw[tyN,rT,if_neg hne,Jkm (by omega),ih]
  exact up_eq _ (Jpi i) _ _ h1
theorem ps_eq(s:List UInt8):psT s.length (kS s) (lns s).length (tyN (lns s) (lns s).length)=psR s.length (kR s) (spl 10 s).length (rT s (spl 10 s).length):=by
 have hc:=Jg2 s
 have hcL:Xv s+1=(spl 10 s).length:=by unfold Xv at hc ⊢;omega
 unfold psT psR
 by_cases h0:decide ((s.length:Int) > 4096)=true
 . rw[if_pos h0,if_pos h0]
 rw[if_neg h0,if_neg h0]
 by_cases h:lstR s=[]
 . have hl:(lns s).length=Xv s:=by rw[Jkl,if_pos h];rfl
   have hk:kS s=fiN (fun j=>!gdR s j) (Xv s):=by
    unfold kS
    rw[hl]
    exact Jfk fun j hj=>Jkt hj
   have hlast:gdR s (Xv s)=true:=by
    rw[gdR,if_pos hcL]
    exact beq_iff_eq.2 h
   have hG:kR s=if fiN (fun j=>!gdR s j) (Xv s) < Xv s then fiN (fun j=>!gdR s j) (Xv s)else Xv s+1:=by
    unfold kR
    rw[<- hcL,fiN]
    split
    . rfl
    rw[hlast]
    rfl
   rw[hl,hk,hG]
   by_cases q:fiN (fun j=>!gdR s j) (Xv s) < Xv s
   . rw[if_pos q,if_pos q,if_pos (by omega)]
   rw[if_neg q,if_neg q,if_neg (show ¬ Xv s+1 < (spl 10 s).length by omega)]
   have hgood:∀ j,j < Xv s->gdR s j=true:=fun j hj=>by simpa using fi_al q j hj
   have e:=JoU hgood (Xv s) (Kr _)
   have e2:rT s (spl 10 s).length=rT s (Xv s):=by rw[<- hcL,rT,if_pos hcL]
   rw[e,e2,show(((spl 10 s).length:Nat):Int)-1=(Xv s:Int) by omega]
   have hE:eT (Xv s) (rT s (Xv s))=if decide ((Xv s:Int) < 4)=true then 25 else JbG (rT s (Xv s)):=by
    unfold eT
    rw[JqL]
    by_cases q2:(Xv s:Int) < 4
    . rw[decide_eq_true q2]
      rfl
    rw[decide_eq_false q2]
    show Jb [0,JbG (rT s (Xv s))]=JbG (rT s (Xv s))
    by_cases q3:JbG (rT s (Xv s))=0
    . rw[q3];rfl
    simp[Jb,q3]
   rw[hE]
   by_cases q2:decide ((Xv s:Int) < 4)=true
   . rw[if_pos q2,if_pos (by decide),if_pos q2]
   rw[if_neg q2,if_neg q2]
 have hl:(lns s).length=(spl 10 s).length:=by rw[Jkl,if_neg h];exact hcL
 have hk:kS s=kR s:=by
  unfold kS kR
  rw[hl]
  refine Jfk fun j hj=>?_
  by_cases e:j=Xv s
  . rw[e];exact Jfc h
  exact Jkt (by omega)
 have hlt:kR s < (spl 10 s).length:=by
  unfold kR
  refine fi_lt (j:=Xv s) (by omega) ?_
  rw[<- Jfc h]
  have h9:=Jfc h
  have hg:gdR s (Xv s)=false:=by
   rw[gdR,if_pos hcL]
   exact beq_eq_false_iff_ne.2 h
  rw[h9,hg]
  rfl
 rw[hl,hk,if_pos hlt,if_pos hlt]
theorem Jfs:∀ (k u:Nat),(ddF k u).length<=k+1
 | 0,_=>Kr _
 | k+1,u=>by
  have:=Jfs k (u / 10)
  rw[ddF]
  split
  . simp
  rw[Kf,Kx];omega
theorem dd_len{n:Nat}(h:n < 1000000000000):(Lib.decDigits n).length<=13:=by
 rw[<- Jg1 12 n (by omega)]
 exact Jfs 12 n
theorem Jr1{m:Nat}(h:m ≠ 0):Lib.decDigits m=(if m / 10=0 then[]else Lib.decDigits (m / 10))++[UInt8.ofNat (48+m % 10)]:=by
 rw[Lib.decDigits]
 by_cases q:m < 10
 . rw[dif_pos q,if_pos (by omega),Nat.mod_eq_of_lt q]
   rfl
 rw[dif_neg q,if_neg (by omega)]
theorem JkC{n:Int}(h:0<=n):Lib.itoa n=Lib.decDigits n.toNat:=by
 unfold Lib.itoa
 first
  | rw[if_neg (by omega)]
  | rw[if_pos (by omega)]
 try rfl
 try (congr 1;omega)
def nmT(l:List Int):List UInt8:=l.flatMap fun n=>32::Lib.itoa n
def lnT(w:List UInt8)(l:List Int):List UInt8:=w++nmT l++[10]
theorem Jm5{n:Int}(h:0<=n/\n < 1000000000000):(Lib.itoa n).length<=13:=by
 rw[JkC h.1]
 exact dd_len (by omega)
theorem Jj7:∀ {l:List Int},(∀ n,n ∈ l->0<=n/\n < 1000000000000)->(nmT l).length<=14 * l.length
 | [],_=>Nat.zero_le _
 | x::l,h=>by
  have h1:=Jj7 (l:=l) fun n hn=>h n (List.mem_cons_of_mem _ hn)
  have h2:=Jm5 (h x (List.mem_cons_self ..))
  show(32::Lib.itoa x++nmT l).length<=_
  rw[Kf,List.length_cons,List.length_cons]
  omega
def sp162(io:Int->List UInt8):Nat->List AV->Option AV
 | 163,[.int _ n]=>some (.str (io n))
 | n,x=>spR n x
def la162(io:Int->List UInt8)(l:List Int):LA:={
 pre:=[.own 5 9 1,.reno 5 1,.keep [1,5,8,9,10] [1],.bound 2],post:=[.reno 5 1,.keep [1,5,8,9,10] [1],.bound 2]
 Gh:=Nat
 st:=fun i=>⟨[(1,.fn (.func 163) [] []),(5,.own 1 (((l.take i).map io).map Jx).length),(8,.sl 1 (l.map Jh)),(9,.i (l.map Jh).length),(10,.i i)],[(1,.buf 9 1 (((l.take i).map io).map Jx))],2⟩
 ok:=fun i=>i<=l.length
 ms:=fun i=>l.length-i }
abbrev Jqg(l:List Int):=((List.map Jh l).length:Int)
abbrev JsC(io:Int->List UInt8)(g:Nat)(l:List Int):=List.map Jx (List.map io (List.take g l))
abbrev Z58c(l:List Int)(g:Nat):=l.getD (g:Int).toNat default
theorem c162(l:List Int)(io:Int->List UInt8)(hl:l.length<=1000)(hio:∀ n,n ∈ l->P0 163 [.i n] (.str (io n))):P0 162 [.sl 1 (l.map Jh),.fn (.func 163) [] []] (.fresh 9 1 ((l.map io).map Jx)):=by
 have key :
  (∃ (g:Nat),g<=l.length/\AS.mk [(1,AV.fn (Fn.func 163) [] []),(5,AV.own 1 0),(8,AV.sl 1 (List.map Jh l)),(9,AV.i (Jqg l)),(10,AV.i 0)] [(1,ABlk.buf 9 1 [])] 2=AS.mk [(1,AV.fn (Fn.func 163) [] []),(5,AV.own 1
  (JsC io g l).length),(8,AV.sl 1 (List.map Jh l)),(9,AV.i (Jqg l)),(10,AV.i (g:Int))] [(1,ABlk.buf 9 1 (JsC io g l))] 2)/\∀ (g:Nat),g<=l.length->(decide ((g:Int) < (Jqg l))=true->(0:Int)<=(g:Int) /\
  (g:Int) < (Jqg l)/\nth (Jn (List.map Jh l) (g:Int).toNat) 0=AV.i (Z58c l g)/\(JsC io g l).length+1<=9223372036854775807/\((JsC io g l).length+1) * 16<=140737488355328/\P0 163 [AV.i (Z58c l g)] (AV.str (io
  (Z58c l g)))/\Jg ((g:Int)+1)/\∃ (g':Nat),g'<=l.length/\l.length-g' < l.length-g/\AS.mk [(1,AV.fn (Fn.func 163) [] []),(5,AV.own 1 ((JsC io g l).length+1)),(8,AV.sl 1 (List.map Jh l)),(9,AV.i (Jqg
  l)),(10,AV.i ((g:Int)+1))] [(1,ABlk.buf 9 1 (List.map Jx (List.map io (List.take g l))++[[AV.str (io (Z58c l g))]]))] 2=AS.mk [(1,AV.fn (Fn.func 163) [] []),(5,AV.own 1 (List.map Jx (List.map io (List.take g'
  l))).length),(8,AV.sl 1 (List.map Jh l)),(9,AV.i (Jqg l)),(10,AV.i (g':Int))] [(1,ABlk.buf 9 1 (List.map Jx (List.map io (List.take g' l))))] 2)/\(decide ((g:Int) < (Jqg l))=false->AV.fresh 9 1 (JsC io g l)
  = AV.fresh 9 1 (List.map Jx (List.map io l))):=by
   delta Jqg JsC Z58c
   have hlm:(List.map Jh l).length=l.length:=Kb _
   refine⟨⟨0,Nat.zero_le _,rfl⟩,fun g hg=>⟨fun hd=>?_,fun hd=>?_⟩⟩
   . have hlt:=Js hd
     rw[hlm]at hlt
     have hln:(List.map Jx (List.map io (List.take g l))).length=g:=by rw[Kb,Kb,Kg];omega
     rw[Km]
     refine⟨by omega,by omega,congrArg (fun r=>nth r 0) (Jq Jh hlt),by omega,by omega,hio _ (JG hlt),by unfold Jg;omega,g+1,hlt,by omega,?_⟩
     have h2:List.map Jx (List.map io (List.take (g+1) l))=List.map Jx (List.map io (List.take g l))++[[AV.str (io (l.getD g default))]]:=by
      rw[List.take_add_one,Db,Db,Ka,Kj hlt]
      rfl
     rw[h2,Kf]
     rfl
   have hge:=Jz hd (by rw[hlm];exact hg)
   rw[hlm]at hge
   subst hge
   rw[Ky]
 exact JU Tryz.f162 (fzB (mkB (sp162 io) 162 [(4,1,rdL 1 Jh l 1 false)] (fun i=>if i.beq 0 then some (la162 io l)else none))) key (by kernel_rfl)
def rdJb(jn:List (List AV)->List (List AV)->List (List AV)):BL->List AV->Option AV:=fun bs ins=>match ins with
 | [.own id _,.sl _ b]=>match Jw bs id with
  | .buf _ _ rows=>some (.sl 1 (jn rows b))
  | _=>none
 | _=>none
def jnA(r k:Nat)(jn:List (List AV)->List (List AV)->List (List AV))(B:BA):BA:=Jkc r k (fun a=>{ a with rdb:=rdJb jn }) B
def sp135(w:List UInt8)(l:List Int)(io:Int->List UInt8)(jo:List UInt8->List Int->List UInt8):Nat->List AV->Option AV
 | 162,_=>some (.sl 1 ((l.map io).map Jx))
 | 161,_=>some (.str (jo w l))
 | n,x=>spR n x
theorem c135(w:List UInt8)(l:List Int)(io:Int->List UInt8)(jo:List UInt8->List Int->List UInt8)(jn:List (List AV)->List (List AV)->List (List AV))(hjn:∀ a b,jn a b=a++b)(hl:l.length<=1000)(hio:∀ n,n ∈ l->P0 163 [.i n] (.str (io n)))(hj:jo w l=Lib.join (w::l.map io) [32])(hjl:(jo w l).length<=1000000):P0 135 [.str w,.sl 1 (l.map Jh)] (.str (jo w l++[10])):=by
 have key :
  1+(List.map Jx (List.map io l)).length<=9223372036854775807/\(1+(List.map Jx (List.map io l)).length) * 16<=140737488355328/\(jo w l).length+1<=9223372036854775807/\P0 162 [AV.sl 1 (List.map Jh l),
  AV.fn (Fn.func 163) [] []] (AV.sl 1 (List.map Jx (List.map io l)))/\AV.sl 1 ([AV.str w]::id (List.map Jx (List.map io l)))=AV.sl 1 (jn [[AV.str w]] (List.map Jx (List.map io l)))/\P0 161 [AV.sl 1 (jn
  [[AV.str w]] (List.map Jx (List.map io l))),AV.str [(32:UInt8)]] (AV.str (jo w l))/\AV.str (jo w l++[(10:UInt8)])=AV.str (jo w l++[(10:UInt8)]):=by
   have hln:(List.map Jx (List.map io l)).length=l.length:=by rw[Kb,Kb]
   refine⟨by omega,by omega,by omega,(c162 l io hl hio).un,by rw[hjn];rfl,?_,rfl⟩
   rw[hjn,hj]
   exact c161 (w::l.map io) [32] (by rw[List.length_cons,Kb];omega) (by rw[<- hj];omega)
 exact JU Tryz.f135 (jnA 1 4 jn (mkB (sp135 w l io jo) 135 [] QJ)) key (by kernel_rfl)
theorem jn_2(x y:List UInt8)(t:List (List UInt8)):Lib.join (x::y::t) [32]=x++([32]++Lib.join (y::t) [32]):=by
 simp[Lib.join,List.intercalate,List.intersperse]
theorem jn_1(x:List UInt8):Lib.join [x] [32]=x:=by
 simp[Lib.join,List.intercalate,List.intersperse]
theorem JkA:∀ (l:List Int) (w:List UInt8),Lib.join (w::l.map Lib.itoa) [32]=w++nmT l
 | [],w=>by rw[List.map_nil,jn_1];exact(List.append_nil w).symm
 | x::l,w=>by
  rw[List.map_cons,jn_2,JkA l (Lib.itoa x)]
  show w++([32]++(Lib.itoa x++nmT l))=w++(32::Lib.itoa x++nmT l)
  simp
theorem XC{w:List UInt8}{l:List Int}(h:∀ n,n ∈ l->0<=n/\n < 1000000000000):(lnT w l).length<=w.length+14 * l.length+1:=by
 have:=Jj7 h
 unfold lnT
 rw[Kf,Kf,Kx]
 omega
theorem c135'(w:List UInt8)(l:List Int)(hw:w.length<=100000)(hl:l.length<=1000)(hb:∀ n,n ∈ l->0<=n/\n < 1000000000000):P0 135 [.str w,.sl 1 (l.map Jh)] (.str (lnT w l)):=by
 have h1:=Jj7 hb
 exact c135 w l Lib.itoa (fun w l=>w++nmT l) (fun a b=>a++b) (fun _ _=>rfl) hl (fun n hn=>c163 n (by have:=hb n hn;unfold Jg;omega)) (JkA l w).symm (by rw[Kf];omega)
theorem JgO:∀ l:List Int,(l.map Jh).map hdI=l
 | []=>rfl
 | x::l=>by rw[List.map_cons,List.map_cons,JgO l];rfl
def drT(t:Ty):List Int:=[t.d0,t.d1,t.d2,t.d3,t.d4,t.d5,t.d6,t.d7]
def TYPE_:List UInt8:=[116,121,112,101,32]
def prT(t:Ty):Nat->List UInt8
 | 0=>lnT (TYPE_++t.name) [t.side]++lnT (JA 1) t.sh++lnT (JA 2) (drT t)++lnT (JA 3) t.sq
 | k+1=>prT t k++lnT (JA 4) ((t.st.getD k default).p::(t.st.getD k default).e)
def sp77(t:Ty)(ln:List UInt8->List Int->List UInt8):Nat->List AV->Option AV
 | 53,_=>some (.i (Qs t))
 | 135,[.str w,.sl _ rows]=>some (.str (ln w (rows.map hdI)))
 | 140,[.str w,.sl _ rows]=>some (.str (ln w (rows.map hdI)))
 | n,x=>spR n x
def la77(t:Ty)(pr:Nat->List UInt8):LA:={
 pre:=[.keep [5,42,43,44] [],.bound 1],post:=[.keep [5,42,43,44] [],.bound 1]
 Gh:=Nat
 st:=fun i=>⟨[(5,.str (pr i)),(42,.sl 2 (t.st.map Ji)),(43,.i (t.st.map Ji).length),(44,.i i)],[],1⟩
 ok:=fun i=>i<=t.st.length
 ms:=fun i=>t.st.length-i }
structure PrB(t:Ty):Prop where
 nm:t.name.length<=1000
 sh:t.sh.length<=100
 sq:t.sq.length<=100
 st:t.st.length<=100
 e:∀ x,x ∈ t.st->x.e.length<=100
 bsh:∀ n,n ∈ t.sh->0<=n/\n < 1000000000000
 bsq:∀ n,n ∈ t.sq->0<=n/\n < 1000000000000
 bdr:∀ n,n ∈ drT t->0<=n/\n < 1000000000000
 bsd:0<=t.side/\t.side < 1000000000000
 bst:∀ x,x ∈ t.st->(0<=x.p/\x.p < 1000000000000)/\∀ n,n ∈ x.e->0<=n/\n < 1000000000000
theorem st_at{t:Ty}(B:PrB t){g:Nat}(h:g < t.st.length):((t.st.getD g default).p::(t.st.getD g default).e).length<=101/\∀ n,n ∈ (t.st.getD g default).p::(t.st.getD g default).e->0<=n/\n < 1000000000000:=by
 have hm:=JG (l:=t.st) h
 have h1:=B.e _ hm
 have h2:=B.bst _ hm
 refine⟨by rw[List.length_cons];omega,fun n hn=>?_⟩
 rcases List.mem_cons.1 hn with rfl | hn
 . exact h2.1
 exact h2.2 n hn
theorem Jpa{t:Ty}(B:PrB t):∀ k,k<=t.st.length->(prT t k).length<=20000+2000 * k
 | 0,_=>by
  have h0:=XC (w:=TYPE_++t.name) (l:=[t.side]) fun n hn=>by rw[List.mem_singleton.1 hn];exact B.bsd
  have h1:=XC (w:=JA 1) B.bsh
  have h2:=XC (w:=JA 2) B.bdr
  have h3:=XC (w:=JA 3) B.bsq
  have a1:=B.nm
  have a2:=B.sh
  have a3:=B.sq
  have l1:(JA 1).length=6:=rfl
  have l2:(JA 2).length=6:=rfl
  have l3:(JA 3).length=7:=rfl
  have l4:(drT t).length=8:=rfl
  rw[Kf,show TYPE_.length=5 from rfl,Kx]at h0
  rw[prT,Kf,Kf,Kf]
  omega
 | k+1,hk=>by
  have ih:=Jpa B k (by omega)
  have s:=st_at B (g:=k) (by omega)
  have h4:=XC (w:=JA 4) s.2
  have l4:(JA 4).length=5:=rfl
  rw[prT,Kf]
  omega
abbrev JsB:=[(115:UInt8),(104:UInt8),(97:UInt8),(114:UInt8),(101:UInt8),(115:UInt8)]
abbrev Jn8(t:Ty)(g:Nat):=t.st.getD (g:Int).toNat default
abbrev Z59c(t:Ty):=[hdI [AV.i t.d0],hdI [AV.i t.d1],hdI [AV.i t.d2],hdI [AV.i t.d3],hdI [AV.i t.d4],hdI [AV.i t.d5],hdI [AV.i t.d6],hdI [AV.i t.d7]]
abbrev JtR:=[(100:UInt8),(105:UInt8),(114:UInt8),(101:UInt8),(99:UInt8),(116:UInt8)]
abbrev Z59e:=[(115:UInt8),(113:UInt8),(117:UInt8),(97:UInt8),(114:UInt8),(101:UInt8),(115:UInt8)]
abbrev Z59f:=[(112:UInt8),(111:UInt8),(119:UInt8),(101:UInt8),(114:UInt8)]
abbrev JsA(t:Ty):=List.map Ji t.st
abbrev Jqf(t:Ty):=((JsA t).length:Int)
abbrev Jmc(t:Ty)(g:Nat):=List.map Jh (Jn8 t g).e
abbrev JtQ(t:Ty):=List.map hdI (List.map Jh t.sh)
abbrev Z59k(t:Ty):=List.map hdI (List.map Jh t.sq)
theorem c77(t:Ty)(hp:List UInt8)(pr:Nat->List UInt8)(ln:List UInt8->List Int->List UInt8)(jn:List (List AV)->List (List AV)->List (List AV))(hhp:hp=TYPE_++t.name)(hjn:∀ a b,jn a b=a++b)(hc:P0 53 [.agg (Jf t)] (.i (Qs t)))(hB:Qs t=0->PrB t)(hln:∀ w l,ln w l=lnT w l)(hpr:∀ k,pr k=prT t k)(hl:∀ w l,w.length<=2000->l.length<=101->(∀ n,n ∈ l->0<=n/\n < 1000000000000)->P0 135 [.str w,.sl 1 (l.map Jh)] (.str (ln w l))):P0 77 [.agg (Jf t)] (.tup [.str (if Qs t != 0 then[]else pr t.st.length),.i (Qs t)]):=by
 have key :
  P0 53 [AV.agg (Jf t)] (AV.i (Qs t))/\((Qs t != 0)=true->AV.tup [AV.str [],AV.i (Qs t)]=AV.tup [AV.str (if(Qs t != 0)=true then[]else pr t.st.length),AV.i (Qs t)])/\((Qs t != 0)=false->(0:Int)<=0 /\
  (0:Int) < (5:Int)/\5<=9223372036854775807/\5+t.name.length<=9223372036854775807/\(0:Int)<=1/\(1:Int) < (5:Int)/\(ln hp [hdI [AV.i t.side]]).length+(ln JsB (JtQ t)).length<=9223372036854775807/\(0:Int)
  ≤ 2/\(2:Int) < (5:Int)/\(ln hp [hdI [AV.i t.side]]++ln JsB (JtQ t)).length+(ln JtR (Z59c t)).length<=9223372036854775807/\(0:Int)<=3/\(3:Int) < (5:Int)/\(ln hp [hdI [AV.i t.side]]++ln JsB (JtQ t)++ln
  JtR (Z59c t)).length+(ln Z59e (Z59k t)).length<=9223372036854775807/\AV.str ((116:UInt8)::(121:UInt8)::(112:UInt8)::(101:UInt8)::(32:UInt8)::id t.name)=AV.str hp/\P0 135 [AV.str hp,AV.sl 1 [[AV.i
  t.side]]] (AV.str (ln hp [hdI [AV.i t.side]]))/\P0 135 [AV.str JsB,AV.sl 1 (List.map Jh t.sh)] (AV.str (ln JsB (JtQ t)))/\P0 135 [AV.str JtR,AV.sl 1 [[AV.i t.d0],[AV.i t.d1],[AV.i t.d2],[AV.i t.d3],[AV.i t.d4],[AV.i
  t.d5],[AV.i t.d6],[AV.i t.d7]]] (AV.str (ln JtR (Z59c t)))/\P0 135 [AV.str Z59e,AV.sl 1 (List.map Jh t.sq)] (AV.str (ln Z59e (Z59k t)))/\(∃ (g:Nat),g<=t.st.length/\AS.mk [(5,AV.str (ln hp [hdI [AV.i t.side]]++ln
  JsB (JtQ t)++ln JtR (Z59c t)++ln Z59e (Z59k t))),(42,AV.sl 2 (JsA t)),(43,AV.i (Jqf t)),(44,AV.i 0)] [] 1=AS.mk [(5,AV.str (pr g)),(42,AV.sl 2 (JsA t)),(43,AV.i (Jqf t)),(44,AV.i (g:Int))] [] 1)/\∀ (g
  : Nat),g<=t.st.length->(decide ((g:Int) < (Jqf t))=true->(0:Int)<=(g:Int)/\(g:Int) < (Jqf t)/\AV.agg (Jn (JsA t) (g:Int).toNat)=AV.agg [AV.i (Jn8 t g).p,AV.sl 1 (Jmc t g)]/\(0:Int)<=4/\(4 :
  Int) < (5:Int)/\1+(Jmc t g).length<=9223372036854775807/\(1+(Jmc t g).length) * 8<=140737488355328/\(pr g).length+(ln Z59f (List.map hdI (jn [[AV.i (Jn8 t g).p]] (Jmc t g)))).length<=9223372036854775807/\AV.sl 1
  ([AV.i (Jn8 t g).p]::id (Jmc t g))=AV.sl 1 (jn [[AV.i (Jn8 t g).p]] (Jmc t g))/\P0 135 [AV.str Z59f,AV.sl 1 (jn [[AV.i (Jn8 t g).p]] (Jmc t g))] (AV.str (ln Z59f (List.map hdI (jn [[AV.i (Jn8 t g).p]] (Jmc t g))))) /\
  Jg ((g:Int)+1)/\∃ (g':Nat),g'<=t.st.length/\t.st.length-g' < t.st.length-g/\AS.mk [(5,AV.str (pr g++ln Z59f (List.map hdI (jn [[AV.i (Jn8 t g).p]] (Jmc t g))))),(42,AV.sl 2 (JsA t)),(43,AV.i (Jqf t)),
  (44,AV.i ((g:Int)+1))] [] 1=AS.mk [(5,AV.str (pr g')),(42,AV.sl 2 (JsA t)),(43,AV.i (Jqf t)),(44,AV.i (g':Int))] [] 1)/\(decide ((g:Int) < (Jqf t))=false->AV.tup [AV.str (pr g),AV.i 0]=AV.tup [AV.str
  (if(Qs t != 0)=true then[]else pr t.st.length),AV.i (Qs t)])):=by
   delta JsB Jn8 Z59c JtR Z59e Z59f Jqf Jmc JtQ JsA Z59k
   obtain rfl:ln=lnT:=funext fun w=>funext fun l=>hln w l
   obtain rfl:pr=prT t:=funext hpr
   obtain rfl:jn=fun a b=>a++b:=funext fun a=>funext fun b=>hjn a b
   subst hhp
   refine⟨hc,fun h=>by rw[if_pos h],fun h=>?_⟩
   have hz:=UU h
   have B:=hB hz
   have a1:=B.nm
   have a2:=B.sh
   have a3:=B.sq
   have a4:=B.st
   have b0:∀ n,n ∈ [t.side]->0<=n/\n < 1000000000000:=fun n hn=>by rw[List.mem_singleton.1 hn];exact B.bsd
   have n0:=XC (w:=TYPE_++t.name) b0
   have n1:=XC (w:=JA 1) B.bsh
   have n2:=XC (w:=JA 2) B.bdr
   have n3:=XC (w:=JA 3) B.bsq
   have lt:(TYPE_++t.name).length=5+t.name.length:=by rw[Kf];rfl
   have l1:(JA 1).length=6:=rfl
   have l2:(JA 2).length=6:=rfl
   have l3:(JA 3).length=7:=rfl
   have l4:(drT t).length=8:=rfl
   have hstm:(List.map Ji t.st).length=t.st.length:=Kb _
   rw[Kx]at n0
   rw[JgO,JgO]
   refine⟨by decide,by decide,by decide,by omega,by decide,by decide,?_,by decide,by decide,?_,by decide,by decide,?_,rfl,hl _ [t.side] (by omega) (Kl rfl) b0,hl (JA 1) t.sh (by decide) (by omega) B.bsh,hl (JA 2) (drT t) (by decide) (Kl rfl) B.bdr,hl (JA 3) t.sq (by decide) (by omega) B.bsq,⟨0,Nat.zero_le _,rfl⟩,fun g hg=>⟨fun hd=>?_,fun hd=>?_⟩⟩
   . show(lnT (TYPE_++t.name) [t.side]).length+(lnT (JA 1) t.sh).length<=_
     omega
   . show(lnT (TYPE_++t.name) [t.side]++lnT (JA 1) t.sh).length+(lnT (JA 2) (drT t)).length<=_
     rw[Kf]
     omega
   . show(lnT (TYPE_++t.name) [t.side]++lnT (JA 1) t.sh++lnT (JA 2) (drT t)).length+(lnT (JA 3) t.sq).length<=_
     rw[Kf,Kf]
     omega
   . have hlt:=Js hd
     rw[hstm]at hlt
     have s:=st_at B hlt
     have hp:=Jpa B g hg
     have n4:=XC (w:=JA 4) s.2
     have l5:(JA 4).length=5:=rfl
     have he:(List.map Jh (t.st.getD g default).e).length=(t.st.getD g default).e.length:=Kb _
     have hc1:((t.st.getD g default).p::(t.st.getD g default).e).length=(t.st.getD g default).e.length+1:=List.length_cons
     have ee:List.map hdI ([[AV.i (t.st.getD g default).p]]++List.map Jh (t.st.getD g default).e)=(t.st.getD g default).p::(t.st.getD g default).e:=by
      rw[Db,JgO]
      rfl
     rw[Km]
     dsimp only
     rw[ee]
     refine⟨by omega,by omega,congrArg AV.agg (Jq Ji hlt),by decide,by decide,by omega,by omega,?_,rfl,hl (JA 4) _ (by decide) s.1 s.2,by unfold Jg;omega,g+1,by omega,by omega,rfl⟩
     show(prT t g).length+(lnT (JA 4) ((t.st.getD g default).p::(t.st.getD g default).e)).length<=_
     omega
   have hge:=Jz hd (by rw[hstm];exact hg)
   rw[hstm]at hge
   subst hge
   rw[if_neg (by rw[h];decide),hz]
 exact JU Tryz.f77 (jnA 8 8 jn (fzB (mkB (sp77 t ln) 77 [(4,5,fun _=>some (.str hp)),(7,1,rdL 2 Ji t.st 2 true)] (fun i=>if i.beq 0 then some (la77 t pr)else none)))) key (by kernel_rfl)
def rdE1(t:Ty):List AV->Option AV
 | [.elt _ _ i _]=>some (.sl 1 ((t.st.getD i default).e.map Jh))
 | _=>none
def rdP1(t:Ty):List AV->Option AV
 | [.elt _ _ i _]=>some (.i (t.st.getD i default).p)
 | _=>none
def sp81:Nat->List AV->Option AV
 | 54,_=>some (.bool true)
 | n,x=>spR n x
def la81(t:Ty):LA:={
 pre:=[.keep [2,3,5] [],.bound 1],post:=[.keep [2,3,5] [],.bound 1]
 Gh:=Nat
 st:=fun i=>⟨[(2,.elt 13 [Jf t] 0 0),(3,.elt 13 [Jf t] 0 0),(5,.i i)],[],1⟩
 ok:=fun i=>i<=t.st.length
 ms:=fun i=>t.st.length-i }
def Jgp:List AV->Option AV:=fun _=>some (.bool false)
def nSym(r:Nat)(B:BA):BA:={ B with ra:=fun i=>if i.beq r then { B.ra i with ans:=(B.ra i).ans.map fun a=>{ a with sym:=false } }else B.ra i }
abbrev Jn7(t:Ty):=((List.map Ji t.st).length:Int)
abbrev Jn6(t:Ty)(g:Nat):=t.st.getD (g:Int).toNat default
abbrev Z60c(t:Ty)(g:Nat):=Jn (List.map Ji t.st) (g:Int).toNat
theorem c81(t:Ty)(hs:t.sh.length<=1000)(hq:t.sq.length<=1000)(hn:t.st.length<=1000)(he:∀ x,x ∈ t.st->x.e.length<=1000):P0 81 [.agg (Jf t),.agg (Jf t)] (.bool true):=by
 have key :
  (AV.bool !t.name == t.name)=AV.bool false/\P0 54 [AV.sl 1 (List.map Jh t.sh),AV.sl 1 (List.map Jh t.sh)] (AV.bool true)/\AV.bool false=AV.bool false/\AV.bool false=AV.bool false/\(AV.bool !(t.d0 == t.d0 && true &&
  (t.d1 == t.d1 && true && (t.d2 == t.d2 && true && (t.d3 == t.d3 && true && (t.d4 == t.d4 && true && (t.d5 == t.d5 && true && (t.d6 == t.d6 && true && (t.d7 == t.d7 && true && true)))))))))=AV.bool false/\AV.bool false=AV.bool
  false/\AV.bool (t.side != t.side)=AV.bool false/\AV.bool false=AV.bool false/\P0 54 [AV.sl 1 (List.map Jh t.sq),AV.sl 1 (List.map Jh t.sq)] (AV.bool true)/\AV.bool false=AV.bool false/\AV.bool false=AV.bool false
  /\ AV.bool ((Jn7 t) != (Jn7 t))=AV.bool false/\AV.bool false=AV.bool false/\(∃ (g:Nat),g<=t.st.length/\AS.mk [(2,AV.elt 13 [(Jf t)] 0 0),(3,AV.elt 13 [(Jf t)] 0 0),(5,AV.i 0)] [] 1=AS.mk [(2,AV.elt 13
  [(Jf t)] 0 0),(3,AV.elt 13 [(Jf t)] 0 0),(5,AV.i (g:Int))] [] 1)/\∀ (g:Nat),g<=t.st.length->(decide ((g:Int) < (Jn7 t))=true->(0:Int)<=(g:Int)/\(g:Int) < (Jn7 t)/\(0:Int)<=(g:Int)/\(↑g :
  Int) < (Jn7 t)/\(0:Int)<=(g:Int)/\(g:Int) < (Jn7 t)/\(0:Int)<=(g:Int)/\(g:Int) < (Jn7 t)/\nth (Z60c t g) 0=AV.i (Jn6 t g).p/\nth (Z60c t g) 0=AV.i (Jn6 t g).p/\AV.bool ((Jn6 t g).p != (Jn6 t
  g).p)=AV.bool false/\nth (Z60c t g) 1=AV.sl 1 (List.map Jh (Jn6 t g).e)/\nth (Z60c t g) 1=AV.sl 1 (List.map Jh (Jn6 t g).e)/\P0 54 [AV.sl 1 (List.map Jh (Jn6 t g).e),AV.sl 1 (List.map Jh (Jn6 t g).e)] (AV.bool
  true)/\AV.bool false=AV.bool false/\AV.bool false=AV.bool false/\Jg ((g:Int)+1)/\∃ (g':Nat),g'<=t.st.length/\t.st.length-g' < t.st.length-g/\AS.mk [(2,AV.elt 13 [(Jf t)] 0 0),(3,AV.elt 13 [(Jf t)]
  0 0),(5,AV.i ((g:Int)+1))] [] 1=AS.mk [(2,AV.elt 13 [(Jf t)] 0 0),(3,AV.elt 13 [(Jf t)] 0 0),(5,AV.i (g':Int))] [] 1)/\(decide ((g:Int) < (Jn7 t))=false->AV.bool true=AV.bool true):=by
   delta Jn7 Jn6 Z60c
   have hstm:(List.map Ji t.st).length=t.st.length:=Kb _
   have bb:∀ {α:Type} [BEq α] [LawfulBEq α] (x:α),(x != x)=false:=fun x=>by simp
   refine⟨congrArg AV.bool (bb t.name),by have:=c54 t.sh t.sh hs;rwa [Kz]at this,rfl,rfl,congrArg AV.bool (by simp),rfl,congrArg AV.bool (bb t.side),rfl,by have:=c54 t.sq t.sq hq;rwa [Kz]at this,rfl,rfl,congrArg AV.bool (bb _),rfl,⟨0,Nat.zero_le _,rfl⟩,fun g hg=>⟨fun hd=>?_,fun _=>rfl⟩⟩
   have hlt:=Js hd
   rw[hstm]at hlt
   rw[Km]
   refine⟨by omega,by omega,by omega,by omega,by omega,by omega,by omega,by omega,congrArg (fun r=>nth r 0) (Jq Ji hlt),congrArg (fun r=>nth r 0) (Jq Ji hlt),congrArg AV.bool (bb _),congrArg (fun r=>nth r 1) (Jq Ji hlt),congrArg (fun r=>nth r 1) (Jq Ji hlt),by have:=c54 (t.st.getD g default).e (t.st.getD g default).e (he _ (JG hlt));rwa [Kz]at this,rfl,rfl,by unfold Jg;omega,g+1,hlt,by omega,rfl⟩
 exact JU Tryz.f81 ({ nSym 1 (nSym 6 (fzB (mkB sp81 81 [(1,4,Jgp),(1,11,Jgp),(1,12,Jgp),(1,18,Jgp),(1,19,Jgp),(1,25,Jgp),(1,26,Jgp),(1,33,Jgp),(1,34,Jgp),(1,42,Jgp),(1,43,Jgp),(6,5,rdP1 t),(6,11,rdP1 t),(6,12,Jgp),(6,19,rdE1 t),(6,25,rdE1 t),(6,27,Jgp),(6,28,Jgp)] (fun i=>if i.beq 0 then some (la81 t)else none))))with cl:=clL [49,85] }) key (by kernel_rfl)
theorem JgC{l:List Int}{U:Int}(hU:U < 1000000000000)(h:∀ k,k < l.length->0<=l.getD k default/\l.getD k default<=U):∀ n,n ∈ l->0<=n/\n < 1000000000000:=fun n hn=>by
 obtain⟨i,hi,rfl⟩:=List.getElem_of_mem hn
 have:=h i hi
 rw[Ka,Kj hi]at this
 have h2:0<=l[i]/\l[i]<=U:=this
 omega
theorem Jpb{t:Ty}(hS:ShortTy t)(h:Qs t=0):PrB t:=by
 have hO:=JhK h
 have hD:=Jak h
 have h0:=h
 unfold Qs at h0
 split at h0
 . rename_i h1
   rw[h0]at h1
   exact absurd h1 (by decide)
 rename_i h1
 obtain⟨h2,_,_⟩:=X9 h0
 have h1:Um t=0:=by simpa using h1
 unfold Um at h1
 rw[Jd,Jd,Jd]at h1
 unfold UQ at h2
 rw[Jd,Jd,Jd,Jd]at h2
 refine⟨by have:=hS.n;omega,by have:=hS.s;omega,by have:=hS.q;omega,by have:=hS.st;omega,fun x hx=>by have:=hS.e x hx;omega,JgC (by decide) (QE h1.2.2.1),JgC (by decide) (QE h2.2.2.2.1),JgC (U:=2000) (by decide) fun k hk=>hD.1 k hk,by omega,fun x hx=>?_⟩
 obtain⟨i,hi,rfl⟩:=List.getElem_of_mem hx
 have hp:=hO.pb i hi
 have he:=hO.el i hi
 have hb:=hO.eb i
 have e:t.sg i=t.st[i]:=by
  unfold Ty.sg
  rw[Ka,Kj hi]
  rfl
 rw[e]at hp he hb
 exact⟨by omega,JgC (U:=100000000) (by decide) fun k hk=>hb k hi (by omega)⟩
def prX(t:Ty):List UInt8:=prT t t.st.length
def ppX(t:Ty):List UInt8:=if Qs t != 0 then[]else prX t
def JjP(s:List UInt8):Ty:=if decide ((s.length:Int) > 4096)=true then zT else if kS s < (lns s).length then zT else if eT (lns s).length (tyN (lns s) (lns s).length) != 0 then zT else tyN (lns s) (lns s).length
def JjQ(s:List UInt8):Int:=if decide ((s.length:Int) > 4096)=true then 0 else if kS s < (lns s).length then(kS s:Int)else if eT (lns s).length (tyN (lns s) (lns s).length) != 0 then((lns s).length:Int)else 0
def JjR(s:List UInt8):Int:=if decide ((s.length:Int) > 4096)=true then 26 else if kS s < (lns s).length then 25 else if eT (lns s).length (tyN (lns s) (lns s).length) != 0 then eT (lns s).length (tyN (lns s) (lns s).length)else 0
theorem JjO(s:List UInt8):psT s.length (kS s) (lns s).length (tyN (lns s) (lns s).length)=.tup [.agg (Jf (JjP s)),.i (JjQ s),.i (JjR s)]:=by
 unfold psT JjP JjQ JjR
 split
 . rfl
 split
 . rfl
 split <;> rfl
theorem k78(s:List UInt8)(hl:s.length<=990 ∨ 4096 < s.length)(hs:s.length<=10000):P0 78 [.str s] (.tup [.agg (Jf (JjP s)),.i (JjQ s),.i (JjR s)]):=by
 rw[<- JjO]
 exact c78 s hl hs
theorem l135:∀ w l,w.length<=2000->l.length<=101->(∀ n,n ∈ l->0<=n/\n < 1000000000000)->P0 135 [.str w,.sl 1 (l.map Jh)] (.str (lnT w l)):=fun w l hw hl hb=>c135' w l (by omega) (by omega) hb
theorem k77(t:Ty)(hS:ShortTy t):P0 77 [.agg (Jf t)] (.tup [.str (ppX t),.i (Qs t)]) :=
 c77 t _ (prT t) lnT (fun a b=>a++b) rfl (fun _ _=>rfl) (c53 t (by have:=hS.st;omega) (by have:=hS.s;omega) (by have:=hS.q;omega) (fun x hx=>by have:=hS.e x hx;omega) (by have:=hS.n;omega)) (Jpb hS) (fun _ _=>rfl) (fun _=>rfl) l135
theorem Jce(c:UInt8):∀ (a t:List UInt8),c ∉ a->spl c (a++c::t)=a::spl c t
 | [],t,_=>by rw[List.nil_append,spl,if_pos (Kz c)]
 | x::a,t,h=>by
  have hx:x ≠ c:=fun e=>h (by rw[e];exact List.mem_cons_self ..)
  rw[List.cons_append,spl,if_neg (by rw[beq_iff_eq];exact hx),Jce c a t (fun q=>h (List.mem_cons_of_mem _ q))]
  rfl
theorem JeE(c:UInt8):∀ (a:List UInt8),c ∉ a->spl c a=[a]
 | [],_=>rfl
 | x::a,h=>by
  have hx:x ≠ c:=fun e=>h (by rw[e];exact List.mem_cons_self ..)
  rw[spl,if_neg (by rw[beq_iff_eq];exact hx),JeE c a (fun q=>h (List.mem_cons_of_mem _ q))]
  rfl
theorem Jai:∀ (L:List (List UInt8)) (y:List UInt8),(∀ x,x ∈ L->(10:UInt8) ∉ x)->spl 10 ((L.map (·++[10])).flatten++y)=L++spl 10 y
 | [],y,_=>rfl
 | x::L,y,h=>by
  have ih:=Jai L y (fun z hz=>h z (List.mem_cons_of_mem _ hz))
  rw[List.map_cons,List.flatten_cons,List.append_assoc,List.append_assoc]
  show spl 10 (x++10::((L.map (·++[10])).flatten++y))=_
  rw[Jce 10 x _ (h x (by simp)),ih]
  rfl
theorem Jf6{d:Nat}(h:d < 10):(UInt8.ofNat (48+d)).toNat=48+d:=by
 show(48+d) % 256=48+d
 omega
theorem all_iff{s:List UInt8}{n:Nat}:XR s n=true ↔ ∀ i,i < n->JcR (s.getD i 0)=true:=by
 unfold XR
 rw[List.all_eq_true]
 exact⟨fun h i hi=>h i (List.mem_range.2 hi),fun h i hi=>h i (List.mem_range.1 hi)⟩
theorem UM{a:List UInt8}{c:UInt8}{i:Nat}(h:i < a.length):(a++[c]).getD i 0=a.getD i 0:=by
 rw[Ka,Ka,K6 h]
theorem We{a:List UInt8}{c:UInt8}:(a++[c]).getD a.length 0=c:=by
 rw[Ka,K7 (Kr _),Nat.sub_self]
 rfl
theorem Jpy(a:List UInt8)(c:UInt8):∀ k,k<=a.length->Wi (a++[c]) k=Wi a k
 | 0,_=>rfl
 | k+1,h=>by rw[Wi,Wi,Jpy a c k (by omega),UM (by omega)]
theorem Jk9(a:List UInt8)(c:UInt8):Wi (a++[c]) (a.length+1)=10 * Wi a a.length+((c.toNat:Int)-48):=by
 rw[Wi,Jpy a c _ (Kr _),We]
theorem all_snoc{a:List UInt8}{c:UInt8}:XR (a++[c]) (a.length+1)=true ↔ XR a a.length=true/\JcR c=true:=by
 rw[all_iff,all_iff]
 constructor
 . intro h
   refine⟨fun i hi=>?_,?_⟩
   . have:=h i (by omega)
     rwa [UM hi]at this
   have:=h a.length (by omega)
   rwa [We]at this
 intro⟨h1,h2⟩ i hi
 by_cases q:i < a.length
 . rw[UM q];exact h1 i q
 rw[show i=a.length by omega,We];exact h2
theorem Jk8{d:Nat}(h:d < 10):JcR (UInt8.ofNat (48+d))=true:=by
 unfold JcR
 rw[Jf6 h,decide_eq_true (by omega),decide_eq_true (by omega)]
 rfl
theorem dd_ok(n:Nat):XR (Lib.decDigits n) (Lib.decDigits n).length=true/\Wi (Lib.decDigits n) (Lib.decDigits n).length=n/\Lib.decDigits n ≠ []/\(0 < n->(Lib.decDigits n).getD 0 0 ≠ 48):=by
 induction n using Nat.strongRecOn with
 | _ n ih =>
  by_cases h0:n < 10
  . have e:Lib.decDigits n=[UInt8.ofNat (48+n)]:=by rw[Lib.decDigits,dif_pos h0]
    rw[e]
    refine⟨?_,?_,by simp,fun hn=>?_⟩
    . exact all_snoc (a:=[]).2 ⟨rfl,Jk8 h0⟩
    . have:=Jk9 [] (UInt8.ofNat (48+n))
      rw[Jf6 h0]at this
      refine Eq.trans this ?_
      show 10 * (0:Int)+(((48+n:Nat):Int)-48)=n
      omega
    show UInt8.ofNat (48+n) ≠ 48
    intro q
    have:=congrArg UInt8.toNat q
    rw[Jf6 h0]at this
    have e48:(48:UInt8).toNat=48:=rfl
    omega
  have hm:n % 10 < 10:=Nat.mod_lt _ (by decide)
  obtain⟨i1,i2,i3,i4⟩:=ih (n / 10) (by omega)
  have e:Lib.decDigits n=Lib.decDigits (n / 10)++[UInt8.ofNat (48+n % 10)]:=by rw[Jr1 (show n ≠ 0 by omega),if_neg (by omega)]
  rw[e]
  revert i1 i2 i3 i4
  generalize Lib.decDigits (n / 10)=a
  intro i1 i2 i3 i4
  rw[Kf,Kx]
  refine⟨all_snoc.2 ⟨i1,Jk8 hm⟩,?_,by simp,fun _=>?_⟩
  . rw[Jk9,i2,Jf6 hm]
    omega
  rw[UM (List.length_pos_iff.2 i3)]
  exact i4 (by omega)
theorem Jld(k n:Nat)(h:n < 10 ^ (k+1)):(Lib.decDigits n).length<=k+1:=by
 rw[<- Jg1 k n h]
 exact Jfs k n
theorem dd_in{n:Nat}(h:n < 1000000000000):inB (Lib.decDigits n)=true:=by
 obtain⟨h1,h2,h3,h4⟩:=dd_ok n
 have h5:=Jld 11 n (by omega)
 unfold inB
 have hq:inQ (Lib.decDigits n)=false:=by
  unfold inQ
  rw[if_neg (by
   rw[if_neg (by rw[beq_iff_eq];exact h3),Ko]
   omega)]
  by_cases q:((Lib.decDigits n).length:Int) > 1
  . rw[if_pos (decide_eq_true q)]
    rw[beq_eq_false_iff_ne]
    intro e
    have hn:0 < n:=by
     refine Nat.pos_of_ne_zero fun e0=>?_
     rw[e0,Lib.decDigits,dif_pos (by decide)]at q
     exact absurd q (by decide)
    apply h4 hn
    apply UInt8.toNat_inj.1
    have e48:(48:UInt8).toNat=48:=rfl
    have e2:((Lib.decDigits n).getD (Int.toNat 0) 0).toNat=((Lib.decDigits n).getD 0 0).toNat:=rfl
    omega
  rw[if_neg (by rw[Ko];exact q)]
 rw[hq,if_neg (by decide),h1]
theorem Jm6{n:Int}(h:0<=n/\n < 1000000000000):inB (Lib.itoa n)=true/\dgV (Lib.itoa n)=n/\(32:UInt8) ∉ Lib.itoa n/\(10:UInt8) ∉ Lib.itoa n:=by
 rw[JkC h.1]
 have hb:=dd_in (n:=n.toNat) (by omega)
 obtain⟨h1,h2,h3,h4⟩:=dd_ok n.toNat
 have hno:∀ c:UInt8,c.toNat < 48->c ∉ Lib.decDigits n.toNat:=fun c hc hm=>by
  obtain⟨i,hi,e⟩:=List.mem_iff_getElem.1 hm
  have:=(all_iff.1 h1) i hi
  rw[Ka,Kj hi,e]at this
  unfold JcR at this
  rw[Kd,Ko]at this
  have:=this.1
  have e2:((some c).getD (0:UInt8))=c:=rfl
  rw[e2]at this
  omega
 refine⟨hb,?_,hno 32 (by decide),hno 10 (by decide)⟩
 rw[dgV,if_pos hb,h2]
 omega
theorem Jry{s:List UInt8}(h:JH s=true):s ≠ []/\(32:UInt8) ∉ s/\(10:UInt8) ∉ s:=by
 unfold JH at h
 rw[Kd,Kd,Kt,beq_eq_false_iff_ne]at h
 obtain⟨h1,h2, -⟩:=h
 have hno:∀ c:UInt8,c.toNat < 48->c ∉ s:=fun c hc hm=>by
  obtain⟨i,hi,e⟩:=List.mem_iff_getElem.1 hm
  unfold JbY at h1
  rw[List.all_eq_true]at h1
  have:=h1 i (List.mem_range.2 hi)
  rw[Ka,Kj hi,e]at this
  have e2:((some c).getD (0:UInt8))=c:=rfl
  rw[e2]at this
  unfold okB Jm7 at this
  simp only[Bool.or_eq_true,Kd,Ko]at this
  omega
 exact⟨h2,hno 32 (by decide),hno 10 (by decide)⟩
theorem Jdn:∀ (l:List Int) (w:List UInt8),(32:UInt8) ∉ w->(∀ n,n ∈ l->0<=n/\n < 1000000000000)->spl 32 (w++nmT l)=w::l.map Lib.itoa
 | [],w,hw,_=>by
  rw[show nmT []=[]from rfl,List.append_nil,JeE 32 w hw]
  rfl
 | x::l,w,hw,h=>by
  have ih:=Jdn l (Lib.itoa x) (Jm6 (h x (List.mem_cons_self ..))).2.2.1 fun n hn=>h n (List.mem_cons_of_mem _ hn)
  show spl 32 (w++(32::Lib.itoa x++nmT l))=_
  rw[List.cons_append,Jce 32 w _ hw,ih]
  rfl
theorem JtC:∀ (l:List Int),(∀ n,n ∈ l->0<=n/\n < 1000000000000)->(10:UInt8) ∉ nmT l
 | [],_=>by simp[nmT]
 | x::l,h=>by
  show(10:UInt8) ∉ 32::Lib.itoa x++nmT l
  intro hm
  rcases List.mem_append.1 hm with hm | hm
  . rcases List.mem_cons.1 hm with hm | hm
    . exact absurd hm (by decide)
    exact(Jm6 (h x (List.mem_cons_self ..))).2.2.2 hm
  exact JtC l (fun n hn=>h n (List.mem_cons_of_mem _ hn)) hm
theorem Jg0:∀ (l:List Int),(∀ n,n ∈ l->0<=n/\n < 1000000000000)->(l.map Lib.itoa).map dgV=l/\∀ x,x ∈ l.map Lib.itoa->inB x=true
 | [],_=>⟨rfl,fun x hx=>by cases hx⟩
 | x::l,h=>by
  have ih:=Jg0 l fun n hn=>h n (List.mem_cons_of_mem _ hn)
  have hx:=Jm6 (h x (List.mem_cons_self ..))
  refine⟨by rw[List.map_cons,List.map_cons,ih.1,hx.2.1],fun y hy=>?_⟩
  rcases List.mem_cons.1 hy with rfl | hy
  . exact hx.1
  exact ih.2 y hy
def stB(g:Sg):List UInt8:=JA 4++nmT (g.p::g.e)
def hd4(t:Ty):List (List UInt8):=[TYPE_++t.name++nmT [t.side],JA 1++nmT t.sh,JA 2++nmT (drT t),JA 3++nmT t.sq]
def bdT(t:Ty):List (List UInt8):=hd4 t++t.st.map stB
theorem JjS(t:Ty):∀ k,k<=t.st.length->prT t k=((hd4 t++(t.st.take k).map stB).map (·++[10])).flatten
 | 0,_=>by
  simp[prT,hd4,lnT]
 | k+1,h=>by
  have e:(t.st.take (k+1)).map stB=(t.st.take k).map stB++[stB (t.st.getD k default)]:=by
   rw[List.take_add_one,Db,Ka,Kj (by omega:k < t.st.length)]
   rfl
  rw[prT,JjS t k (by omega),e,<- List.append_assoc,Db,List.flatten_append]
  simp[stB,lnT]
theorem Jcj(t:Ty):prX t=((bdT t).map (·++[10])).flatten:=by
 rw[prX,JjS t _ (Kr _),Ky]
 rfl
structure PrOK(t:Ty):Prop where
 b:PrB t
 nm:JH t.name=true
theorem bd_no(t:Ty)(h:PrOK t):∀ x,x ∈ bdT t->(10:UInt8) ∉ x:=fun x hx hm=>by
 have hnm:=(Jry h.nm).2.2
 have app:∀ {a b:List UInt8},(10:UInt8) ∉ a->(10:UInt8) ∉ b->(10:UInt8) ∉ a++b:=fun ha hb q=>(List.mem_append.1 q).elim ha hb
 have w:∀ k,(10:UInt8) ∉ JA k:=fun k=>by
  match k with
  | 0=>decide
  | 1=>decide
  | 2=>decide
  | 3=>decide
  | _+4=>show(10:UInt8) ∉ ([112,111,119,101,114]:List UInt8);decide
 rcases List.mem_append.1 hx with hx | hx
 . simp only[hd4,Kq,List.not_mem_nil,or_false]at hx
   rcases hx with rfl | rfl | rfl | rfl
   . exact app (app (by decide) hnm) (JtC _ fun n hn=>by rw[List.mem_singleton.1 hn];exact h.b.bsd) hm
   . exact app (w 1) (JtC _ h.b.bsh) hm
   . exact app (w 2) (JtC _ h.b.bdr) hm
   exact app (w 3) (JtC _ h.b.bsq) hm
 obtain⟨g,hg,rfl⟩:=List.mem_map.1 hx
 have hb:=h.b.bst g hg
 exact app (w 4) (JtC _ fun n hn=>(List.mem_cons.1 hn).elim (fun e=>e ▸ hb.1) (hb.2 n)) hm
theorem Jgs(t:Ty)(h:PrOK t):spl 10 (prX t)=bdT t++[[]]:=by
 have:=Jai (bdT t) [] (bd_no t h)
 rw[List.append_nil,<- Jcj]at this
 exact this
theorem UW(t:Ty):(bdT t).length=4+t.st.length:=by
 rw[bdT,Kf,Kb]
 rfl
theorem w32(k:Nat):(32:UInt8) ∉ JA k:=by
 match k with
 | 0=>decide
 | 1=>decide
 | 2=>decide
 | 3=>decide
 | _+4=>show(32:UInt8) ∉ ([112,111,119,101,114]:List UInt8);decide
theorem lQ_e(k:Nat)(ws:List (List UInt8))(h:frK k<=ws.length):lQ k (ws.map Jx)=(ws.drop (frK k)).map dgV:=by
 unfold lQ
 rw[Kb,Jki _ _ _ (by omega),Kv (by rw[Kh];exact Kr _)]
theorem ws_0(t:Ty)(h:PrOK t):spl 32 (TYPE_++t.name++nmT [t.side])=[JA 0,t.name,Lib.itoa t.side]:=by
 have e:TYPE_++t.name++nmT [t.side]=JA 0++32::(t.name++nmT [t.side]):=by
  show[116,121,112,101,32]++t.name++nmT [t.side]=[116,121,112,101]++32::(t.name++nmT [t.side])
  simp
 rw[e,Jce 32 _ _ (w32 0),Jdn _ _ (Jry h.nm).2.1 fun n hn=>by rw[List.mem_singleton.1 hn];exact h.b.bsd]
 rfl
theorem ln_0(t u:Ty)(h:PrOK t):okQ 0 (roB (TYPE_++t.name++nmT [t.side]))=true/\upR 0 (roB (TYPE_++t.name++nmT [t.side])) u=⟨t.name,u.sh,u.d0,u.d1,u.d2,u.d3,u.d4,u.d5,u.d6,u.d7,t.side,u.sq,u.st⟩:=by
 have hs:=Jm6 h.b.bsd
 unfold roB
 rw[ws_0 t h]
 refine⟨(Je4 0 (by decide) _).2 ⟨t.name,Lib.itoa t.side,rfl,(Jry h.nm).1,hs.1⟩,?_⟩
 rw[upR_0,WT,lQ_e 0 [JA 0,t.name,Lib.itoa t.side] (show 2<=3 by decide)]
 show Ty.mk t.name _ _ _ _ _ _ _ _ _ (dgV (Lib.itoa t.side)) _ _=_
 rw[hs.2.1]
theorem ln_1(k:Nat)(hk:k=1 ∨ k=3)(l:List Int)(h:∀ n,n ∈ l->0<=n/\n < 1000000000000):okQ k (roB (JA k++nmT l))=true/\lQ k (roB (JA k++nmT l))=l:=by
 have hd:=Jg0 l h
 have hf:frK k=1:=by rcases hk with rfl | rfl <;> rfl
 unfold roB
 rw[Jdn l _ (w32 k) h]
 refine⟨?_,?_⟩
 . rcases hk with rfl | rfl
   . exact(Je4 1 (by decide) _).2 ⟨_,rfl,hd.2⟩
   exact(Je4 3 (by decide) _).2 ⟨_,rfl,hd.2⟩
 rw[lQ_e k _ (by rw[hf,List.length_cons];omega),hf]
 exact hd.1
theorem ln_2(t u:Ty)(h:PrOK t):okQ 2 (roB (JA 2++nmT (drT t)))=true/\upR 2 (roB (JA 2++nmT (drT t))) u=⟨u.name,u.sh,t.d0,t.d1,t.d2,t.d3,t.d4,t.d5,t.d6,t.d7,u.side,u.sq,u.st⟩:=by
 have hd:=Jg0 (drT t) h.b.bdr
 unfold roB
 rw[Jdn (drT t) _ (w32 2) h.b.bdr]
 refine⟨(Je4 2 (by decide) _).2 ⟨_,rfl,by rw[Kb];rfl,hd.2⟩,?_⟩
 have e:lQ 2 ((JA 2::(drT t).map Lib.itoa).map Jx)=drT t:=by
  rw[lQ_e 2 _ (by rw[List.length_cons];exact Nat.succ_le_succ (Nat.zero_le _))]
  exact hd.1
 rw[upR_2,e]
 rfl
theorem ln_4(g:Sg)(u:Ty)(h:(0<=g.p/\g.p < 1000000000000)/\∀ n,n ∈ g.e->0<=n/\n < 1000000000000):okQ 4 (roB (stB g))=true/\upR 4 (roB (stB g)) u=⟨u.name,u.sh,u.d0,u.d1,u.d2,u.d3,u.d4,u.d5,u.d6,u.d7,u.side,u.sq,u.st++[g]⟩:=by
 have hb:∀ n,n ∈ g.p::g.e->0<=n/\n < 1000000000000:=fun n hn=>(List.mem_cons.1 hn).elim (fun e=>e ▸ h.1) (h.2 n)
 have hd:=Jg0 (g.p::g.e) hb
 unfold roB stB
 rw[Jdn _ _ (w32 4) hb]
 refine⟨(Je4 4 (by decide) _).2 ⟨_,_,rfl,hd.2 _ (List.mem_cons_self ..),fun x hx=>hd.2 x (List.mem_cons_of_mem _ hx)⟩,?_⟩
 have e:lQ 4 ((JA 4::(g.p::g.e).map Lib.itoa).map Jx)=g.p::g.e:=by
  rw[lQ_e 4 _ (by rw[List.length_cons];exact Nat.succ_le_succ (Nat.zero_le _))]
  exact hd.1
 rw[upR_4,e]
 rfl
theorem rT_pr(t:Ty)(h:PrOK t){s:List UInt8}{m:Nat}(hm:m<=4+t.st.length)(hp:∀ i,i < m->pcR s i=(bdT t).getD i [])(hl:m < (spl 10 s).length):(∀ j,j < m->gdR s j=true)/\(∀ j,j+4<=m->rT s (4+j)=⟨t.name,t.sh,t.d0,t.d1,t.d2,t.d3,t.d4,t.d5,t.d6,t.d7,t.side,t.sq,t.st.take j⟩):=by
 have hb:∀ j,j+4 < 4+t.st.length->(bdT t).getD (4+j) []=stB (t.st.getD j default):=fun j hj=>by
  rw[bdT,Ka,K7 (by show 4<=4+j;omega),Kk,show 4+j-(hd4 t).length=j from Nat.add_sub_cancel_left ..,Kj (by omega),Ka,Kj (by omega)]
  rfl
 have hgd:∀ j,j < m->gdR s j=okQ (knd j) (roB ((bdT t).getD j [])):=fun j hj=>by
  rw[gdR,if_neg (by omega),hp j hj]
 have hrt:∀ j,j < m->rT s (j+1)=upR (knd j) (roB ((bdT t).getD j [])) (rT s j):=fun j hj=>by
  rw[rT,if_neg (by omega),hp j hj]
 have l1:=ln_1 1 (.inl rfl) t.sh h.b.bsh
 have l3:=ln_1 3 (.inr rfl) t.sq h.b.bsq
 constructor
 . intro j hj
   rw[hgd j hj]
   match j with
   | 0=>exact(ln_0 t zT h).1
   | 1=>exact l1.1
   | 2=>exact(ln_2 t zT h).1
   | 3=>exact l3.1
   | j+4 =>
    rw[show j+4=4+j by omega,hb j (by omega),show knd (4+j)=4 by rw[knd,if_neg (by omega)]]
    exact(ln_4 _ zT (h.b.bst _ (JG (by omega)))).1
 intro j hj
 induction j with
 | zero =>
  show rT s (3+1)=_
  rw[hrt 3 (by omega),hrt 2 (by omega),hrt 1 (by omega),hrt 0 (by omega)]
  show upR 3 (roB (JA 3++nmT t.sq)) (upR 2 (roB (JA 2++nmT (drT t))) (upR 1 (roB (JA 1++nmT t.sh)) (upR 0 (roB (TYPE_++t.name++nmT [t.side])) zT)))=_
  rw[(ln_0 t zT h).2,upR_1,l1.2,(ln_2 t _ h).2,upR_3,l3.2]
  rfl
 | succ j ih =>
  have ih:=ih (by omega)
  show rT s (4+j+1)=_
  rw[hrt (4+j) (by omega),ih,hb j (by omega),show knd (4+j)=4 by rw[knd,if_neg (by omega)],(ln_4 _ _ (h.b.bst _ (JG (by omega)))).2]
  congr 1
  rw[List.take_add_one,Ka,Kj (by omega:j < t.st.length)]
  rfl
theorem ps_p(t:Ty)(h:PrOK t)(hT:Qs t=0)(hl:(prX t).length<=990):psT (prX t).length (kS (prX t)) (lns (prX t)).length (tyN (lns (prX t)) (lns (prX t)).length)=.tup [.agg (Jf t),.i 0,.i 0]:=by
 have hs:=Jgs t h
 have hn:(spl 10 (prX t)).length=4+t.st.length+1:=by rw[hs,Kf,UW];rfl
 have hpc:∀ i,i < 4+t.st.length->pcR (prX t) i=(bdT t).getD i []:=fun i hi=>by
  rw[pcR,hs,Ka,K6 (by rw[UW];exact hi),<- Ka]
 obtain⟨g1,g2⟩:=rT_pr t h (Kr _) hpc (by omega)
 have hlast:gdR (prX t) (4+t.st.length)=true:=by
  rw[gdR,if_pos hn.symm,pcR,hs,Ka,K7 (by rw[UW];exact Kr _),UW,Nat.sub_self]
  rfl
 have hk:kR (prX t)=(spl 10 (prX t)).length:=kR_n fun j hj=>by
  by_cases e:j=4+t.st.length
  . rw[e];exact hlast
  exact g1 j (by omega)
 have hr:rT (prX t) (spl 10 (prX t)).length=t:=by
  rw[hn,rT,if_pos hn.symm,g2 t.st.length (by omega),Ky]
 rw[ps_eq,psR,hk,hr,if_neg (by rw[Ko];omega),if_neg (Nat.lt_irrefl _),if_neg (by rw[Ko];omega),<- JqL,hT,if_neg (by decide)]
theorem JkW(L:List (List UInt8))(x:List UInt8):(((L++[x]).map (·++[10])).flatten).take ((((L++[x]).map (·++[10])).flatten).length-1)=(L.map (·++[10])).flatten++x:=by
 rw[Db,List.flatten_append,show([x].map (·++[(10:UInt8)])).flatten=x++[10] by simp,<- List.append_assoc,Kf,Kx,Nat.add_sub_cancel]
 exact List.take_left' rfl
theorem ps_m(t:Ty)(h:PrOK t)(h1:1<=t.st.length)(hl:(prX t).length<=990){s:List UInt8}(hs0:s=(prX t).take ((prX t).length-1)):psT s.length (kS s) (lns s).length (tyN (lns s) (lns s).length)=.tup [.agg (Jf zT),.i ((3:Int)+(t.st.length:Int)),.i 25]:=by
 have hsl:s.length<=990:=by rw[hs0,Kg];omega
 obtain⟨L,x,hLx⟩:∃ L x,bdT t=L++[x]:=by
  rcases List.eq_nil_or_concat (bdT t)with e | ⟨L,x,e⟩
  . have:=UW t
    rw[e,List.length_nil]at this
    omega
  exact⟨L,x,by rw[e,List.concat_eq_append]⟩
 have hno:=bd_no t h
 have hLl:L.length+1=4+t.st.length:=by rw[<- UW t,hLx,Kf];rfl
 have hsp:spl 10 s=L++[x]:=by
  rw[hs0,Jcj,hLx,JkW,Jai L x fun y hy=>hno y (by rw[hLx];exact List.mem_append_left _ hy),JeE 10 x (hno x (by rw[hLx];simp))]
 have hn:(spl 10 s).length=4+t.st.length:=by rw[hsp,Kf,Kx];exact hLl
 have hpc:∀ i,i < 4+t.st.length->pcR s i=(bdT t).getD i []:=fun i hi=>by rw[pcR,hsp,hLx]
 obtain⟨g1,_⟩:=rT_pr t h (m:=3+t.st.length) (by omega) (fun i hi=>hpc i (by omega)) (by omega)
 have hlast:gdR s (3+t.st.length)=false:=by
  rw[gdR,if_pos (by omega),hpc _ (by omega)]
  have e:(bdT t).getD (3+t.st.length) []=stB (t.st.getD (t.st.length-1) default):=by
   rw[bdT,Ka,K7 (by show 4<=3+t.st.length;omega),Kk,show 3+t.st.length-(hd4 t).length=t.st.length-1 by show 3+t.st.length-4=_;omega,Kj (by omega),Ka,Kj (by omega)]
   rfl
  rw[e,beq_eq_false_iff_ne]
  intro q
  have:=congrArg List.length q
  rw[stB,Kf,show(JA 4).length=5 from rfl]at this
  simp at this
 have hk:kR s=3+t.st.length:=kR_e (by omega) g1 hlast
 rw[ps_eq,psR,hk,if_neg (by rw[Ko];omega),if_pos (by omega),show(3:Int)+(t.st.length:Int)=((3+t.st.length:Nat):Int) by omega]
def sqF(f g:Fx):Int:=(f.x-g.x) * (f.x-g.x)+(f.y-g.y) * (f.y-g.y)+(f.z-g.z) * (f.z-g.z)
def Q6(r:List Fx):Fx:=r.getD (r.length-1) default
def J8(l:List Fx)(sp:Int):Nat->List Fx
 | 0=>[l.getD 0 default]
 | i+1=>if decide (sqF (l.getD (i+1) default) (Q6 (J8 l sp i))<=sp * ((l.getD (i+1) default).t-(Q6 (J8 l sp i)).t) * (sp * ((l.getD (i+1) default).t-(Q6 (J8 l sp i)).t)))then J8 l sp i++[l.getD (i+1) default]else J8 l sp i
theorem Jaq{l:List Fx}{sp:Int}:∀ i,1<=(J8 l sp i).length/\(J8 l sp i).length<=i+1
 | 0=>by simp[J8]
 | i+1=>by
  have ih:=Jaq (l:=l) (sp:=sp) i
  unfold J8
  split
  . rw[Kf,Kx];omega
  omega
theorem Jgo{l:List Fx}{sp:Int}:∀ i,∃ j,j<=i/\Q6 (J8 l sp i)=l.getD j default
 | 0=>⟨0,Kr _,rfl⟩
 | i+1=>by
  obtain⟨j,h1,h2⟩:=Jgo (l:=l) (sp:=sp) i
  unfold J8
  split
  . refine⟨i+1,Kr _,?_⟩
    unfold Q6
    rw[Kf,Kx,Nat.add_sub_cancel,Ka,List.getElem?_append,if_neg (by omega),Nat.sub_self]
    rfl
  exact⟨j,by omega,h2⟩
theorem Xm{l:List Fx}(h:TrackOK l)(i:Nat):∀ j,i<=j->j < l.length->(l.getD i default).t<=(l.getD j default).t
 | 0,h1,_=>by rw[show i=0 by omega];exact Ks _
 | j+1,h1,h2=>by
  by_cases e:i=j+1
  . rw[e];exact Ks _
  have:=Xm h i j (by omega) (by omega)
  have:=h.up j h2
  omega
theorem Jrl{l:List Fx}{sp:Int}(i:Nat):Jn ((J8 l sp i).map Ja) (((((J8 l sp i).map Ja).length:Nat):Int)-1).toNat=Ja (Q6 (J8 l sp i)):=by
 have:=(Jaq (l:=l) (sp:=sp) i).1
 rw[Kb,show((((J8 l sp i).length:Nat):Int)-1).toNat=(J8 l sp i).length-1 by omega,Jq Ja (by omega)]
 rfl
theorem Jmv{a N:Int}(h1 : -N<=a)(h2:a<=N):0<=a * a/\a * a<=N * N:=by
 refine⟨?_,?_⟩
 . by_cases h:0<=a
   . exact Int.mul_nonneg h h
   have:=Int.mul_nonneg (show 0 <= -a by omega) (show 0 <= -a by omega)
   rwa [Int.neg_mul_neg]at this
 by_cases h:0<=a
 . exact Int.mul_le_mul h2 h2 h (by omega)
 have:=Int.mul_le_mul (show -a<=N by omega) (show -a<=N by omega) (show 0 <= -a by omega) (by omega)
 rwa [Int.neg_mul_neg]at this
structure FxB(f:Fx):Prop where
 t:0<=f.t/\f.t<=100000000
 x : -100000<=f.x/\f.x<=100000
 y : -100000<=f.y/\f.y<=100000
 z:0<=f.z/\f.z<=20000
theorem TrackOK.fb{l:List Fx}(h:TrackOK l){i:Nat}(hi:i < l.length):FxB (l.getD i default):=⟨(h.b i hi).1,(h.b i hi).2.1,(h.b i hi).2.2.1,(h.b i hi).2.2.2.1⟩
theorem rep_b{l:List Fx}{sp:Int}(hO:TrackOK l)(hsp:JB l-Jm l<=1000){g:Nat}(hg:g+1 < l.length):FxB (Q6 (J8 l sp g))/\0<=(l.getD (g+1) default).t-(Q6 (J8 l sp g)).t/\(l.getD (g+1) default).t-(Q6 (J8 l sp g)).t<=1000:=by
 obtain⟨j,h1,h2⟩:=Jgo (l:=l) (sp:=sp) g
 rw[h2]
 have a:=Xm hO j (g+1) (by omega) hg
 have b:=Xm hO (g+1) (l.length-1) (by omega) (by omega)
 have c:=Xm hO 0 j (by omega) (by omega)
 have d:JB l=(l.getD (l.length-1) default).t:=rfl
 have e:Jm l=(l.getD 0 default).t:=rfl
 exact⟨hO.fb (by omega),by omega,by omega⟩
theorem way_b{sp d:Int}(hs:1<=sp/\sp<=1000)(h0:0<=d)(h1:d<=1000):Jg (sp * d)/\Jg (sp * d * (sp * d)):=by
 have a:=Int.mul_nonneg (show 0<=sp by omega) h0
 have b:=Int.mul_le_mul hs.2 h1 h0 (by omega:(0:Int)<=1000)
 generalize sp * d=e at *
 have c:=Jmv (a:=e) (N:=1000000) (by omega) (by omega)
 generalize e * e=f at *
 constructor <;> (unfold Jg;omega)
structure DiffB(f q:Fx):Prop where
 x:Jg (f.x-q.x)
 y:Jg (f.y-q.y)
 z:Jg (f.z-q.z)
 x2:Jg ((f.x-q.x) * (f.x-q.x))
 y2:Jg ((f.y-q.y) * (f.y-q.y))
 z2:Jg ((f.z-q.z) * (f.z-q.z))
 xy:Jg ((f.x-q.x) * (f.x-q.x)+(f.y-q.y) * (f.y-q.y))
 s:Jg (sqF f q)
theorem Jpx{f q:Fx}(hf:FxB f)(hq:FxB q):DiffB f q:=by
 have a1:=hf.x;have a2:=hf.y;have a3:=hf.z;have b1:=hq.x;have b2:=hq.y;have b3:=hq.z
 have u:=Jmv (a:=f.x-q.x) (N:=200000) (by omega) (by omega)
 have v:=Jmv (a:=f.y-q.y) (N:=200000) (by omega) (by omega)
 have w:=Jmv (a:=f.z-q.z) (N:=200000) (by omega) (by omega)
 refine⟨by unfold Jg;omega,by unfold Jg;omega,by unfold Jg;omega,?_,?_,?_,?_,?_⟩
 all_goals (try unfold sqF)
 all_goals (generalize (f.x-q.x) * (f.x-q.x)=X at *;generalize (f.y-q.y) * (f.y-q.y)=Y at *;generalize (f.z-q.z) * (f.z-q.z)=Z at *;unfold Jg;omega)
def row5:BL->List AV->Option AV:=fun bs ins=>match ins with
 | [.optr id i _]=>match Jw bs id with
  | .buf _ _ rows=>some (.agg [.i (cJ rows i 0),.i (cJ rows i 1),.i (cJ rows i 2),.i (cJ rows i 3),.i (cJ rows i 4)])
  | _=>none
 | _=>none
def QD(l:List Fx)(sp:Int):List Fx:=if decide ((J8 l sp (l.length-1)).length < 2)then[]else J8 l sp (l.length-1)
def JeQ(l:List Fx)(sp:Int):Int:=if decide ((J8 l sp (l.length-1)).length < 2)then 16 else 0
def Q2(l:List Fx)(sp:Int):Int:=if Jb [Jp l,Jc sp 1 1000] != 0 then Jb [Jp l,Jc sp 1 1000]else JeQ l sp
def JiG(l:List Fx)(sp:Int):List Fx:=if Jb [Jp l,Jc sp 1 1000] != 0 then[]else QD l sp
def sp39(l:List Fx):Nat->List AV->Option AV
 | 76,_=>some (.i (Jp l))
 | 113,[.agg [.int _ x,.int _ y,.int _ z],.agg [.int _ p,.int _ q,.int _ r]]=>some (.agg [.i (x-p),.i (y-q),.i (z-r)])
 | 112,[.agg [.int _ x,.int _ y,.int _ z]]=>some (.agg [.i (x * x+y * y),.i (z * z)])
 | n,w=>spR n w
def la39(l:List Fx)(sp:Int):LA:={
 pre:=[.reno 7 1,.keep [1,7,29,30,31] [1],.bound 2],post:=[.reno 7 1,.keep [1,7,29,30,31] [1],.bound 2]
 Gh:=Nat
 st:=fun i=>⟨[(1,.i sp),(7,.own 1 ((J8 l sp i).map Ja).length),(29,.sl 5 ((l.drop 1).map Ja)),(30,.i ((l.length:Int)-1)),(31,.i (i:Int))],[(1,.buf 83 5 ((J8 l sp i).map Ja))],2⟩
 ok:=fun i=>i+1<=l.length
 ms:=fun i=>l.length-i }
abbrev WW(l:List Fx)(sp:Int)(g:Nat):=List.map Ja (J8 l sp g)
abbrev Jsx(l:List Fx)(sp:Int)(g:Nat):=((WW l sp g).length:Int)
abbrev Jet(l:List Fx)(sp:Int)(g:Nat):=(Jsx l sp g)-1
abbrev Jis(l:List Fx)(g:Nat):=(List.drop 1 l).getD (g:Int).toNat default
abbrev Jn5(l:List Fx)(g:Nat)(sp:Int):=(Jis l g).x-cJ (WW l sp g) (Jet l sp g).toNat 1
abbrev Jn4(l:List Fx)(g:Nat)(sp:Int):=(Jis l g).y-cJ (WW l sp g) (Jet l sp g).toNat 2
abbrev Jn3(l:List Fx)(g:Nat)(sp:Int):=(Jis l g).z-cJ (WW l sp g) (Jet l sp g).toNat 3
abbrev Jsz(l:List Fx)(g:Nat)(sp:Int):=(Jis l g).t-cJ (WW l sp g) (Jet l sp g).toNat 0
abbrev Z61d(l:List Fx)(g:Nat)(sp:Int):=(Jn5 l g sp) * (Jn5 l g sp)+(Jn4 l g sp) * (Jn4 l g sp)+(Jn3 l g sp) * (Jn3 l g sp)<=sp * (Jsz l g sp) * (sp * (Jsz l g sp))
abbrev Jqe(l:List Fx):=((List.map Ja l).length:Int)
abbrev JtP(l:List Fx)(g:Nat):=(List.drop (1:Nat) l).getD (g:Int).toNat default
abbrev Z61q(sp:Int):=Jc sp (1:Int) (1000:Int)
abbrev Z61k(l:List Fx)(sp:Int):=[hdI [AV.i (Jp l)],hdI [AV.i (Z61q sp)]]
abbrev Jsy(l:List Fx):=List.map Ja (List.drop 1 l)
abbrev Jsw(l:List Fx):=(l.length:Int)
abbrev Z61l(sp:Int)(l:List Fx)(g':Nat):=[(1,AV.i sp),(7,AV.own 1 (List.map Ja (J8 l sp g')).length),(29,AV.sl 5 (Jsy l)),(30,AV.i ((Jsw l)-1)),(31,AV.i (g':Int))]
abbrev Z61n(l:List Fx)(sp:Int):=[AV.sl 5 (List.map Ja (JiG l sp)),AV.i (Q2 l sp)]
abbrev Z61p(l:List Fx):=List.take ((Jqe l)-1).toNat (List.drop 1 (List.map Ja l))
theorem c39(l:List Fx)(sp:Int)(hl:l.length<=1000):P0 39 [.sl 5 (l.map Ja),.i sp] (.tup [.sl 5 ((JiG l sp).map Ja),.i (Q2 l sp)]):=by
 have key :
  P0 76 [AV.sl 5 (List.map Ja l)] (AV.i (Jp l))/\P0 89 [AV.i sp,AV.i 1,AV.i 1000] (AV.i (Z61q sp))/\P0 87 [AV.sl 1 [[AV.i (Jp l)],[AV.i (Z61q sp)]]] (AV.i (Jb (Z61k l sp)))/\((Jb (Z61k l sp) != 0)=true →
  AV.tup [AV.sl 5 [],AV.i (Jb (Z61k l sp))]=AV.tup (Z61n l sp))/\((Jb (Z61k l sp) != 0)=false->(0:Int)<=1/\(1:Int)<=(Jqe l)/\(Jqe l)<=9223372036854775807/\(Jqe l) * (40:Int)<=140737488355328/\(0 :
  Int)<=1/\(1:Int)<=(Jqe l)/\(Jqe l)<=(Jqe l)/\(∃ (g:Nat),g+1<=l.length/\AS.mk [(1,AV.i sp),(7,AV.own 1 1),(29,AV.sl 5 (Z61p l)),(30,AV.i ((Z61p l).length:Int)),(31,AV.i 0)] [(1,ABlk.buf 83 5 (List.take
  1 (List.map Ja l)++List.drop (List.map Ja l).length [[AV.i 0,AV.i 0,AV.i 0,AV.i 0,AV.i 0]]))] 2=AS.mk [(1,AV.i sp),(7,AV.own 1 (WW l sp g).length),(29,AV.sl 5 (Jsy l)),(30,AV.i ((Jsw l)-1)),(31,AV.i (↑g
  : Int))] [(1,ABlk.buf 83 5 (WW l sp g))] 2)/\∀ (g:Nat),g+1<=l.length->(decide ((g:Int) < (Jsw l)-1)=true->(0:Int)<=(g:Int)/\(g:Int) < ((Jsy l).length:Int)/\AV.agg (Jn (Jsy l) (g:Int).toNat)
  = AV.agg [AV.i (Jis l g).t,AV.i (Jis l g).x,AV.i (Jis l g).y,AV.i (Jis l g).z,AV.i (Jis l g).p]/\Jg (Jet l sp g)/\(0:Int)<=(Jsx l sp g)-1/\(Jsx l sp g)-1 < (Jsx l sp g)/\(Jet l sp g).toNat < (WW l sp
  g).length/\AV.agg (Jn (WW l sp g) (Jet l sp g).toNat)=AV.agg [AV.i (cJ (WW l sp g) (Jet l sp g).toNat 0),AV.i (cJ (WW l sp g) (Jet l sp g).toNat 1),AV.i (cJ (WW l sp g) (Jet l sp g).toNat 2),AV.i (cJ (WW l sp
  g) (Jet l sp g).toNat 3),AV.i (cJ (WW l sp g) (Jet l sp g).toNat 4)]/\Jg (Jsz l g sp)/\Jg (sp * (Jsz l g sp))/\P0 113 [AV.agg [AV.i (Jis l g).x,AV.i (Jis l g).y,AV.i (Jis l g).z],AV.agg [AV.i (cJ (WW l sp g)
  (Jet l sp g).toNat 1),AV.i (cJ (WW l sp g) (Jet l sp g).toNat 2),AV.i (cJ (WW l sp g) (Jet l sp g).toNat 3)]] (AV.agg [AV.i (Jn5 l g sp),AV.i (Jn4 l g sp),AV.i (Jn3 l g sp)])/\P0 112 [AV.agg [AV.i (Jn5 l g sp),AV.i
  (Jn4 l g sp),AV.i (Jn3 l g sp)]] (AV.agg [AV.i ((Jn5 l g sp) * (Jn5 l g sp)+(Jn4 l g sp) * (Jn4 l g sp)),AV.i ((Jn3 l g sp) * (Jn3 l g sp))])/\(0:Int)<=0/\(0:Int) < (2:Int)/\(0:Int)<=1/\(1:Int) < (↑2 :
  Int)/\Jg ((Jn5 l g sp) * (Jn5 l g sp)+(Jn4 l g sp) * (Jn4 l g sp)+(Jn3 l g sp) * (Jn3 l g sp))/\Jg (sp * (Jsz l g sp) * (sp * (Jsz l g sp)))/\(decide (Z61d l g sp)=true->(WW l sp g).length+1 ≤
  9223372036854775807/\((WW l sp g).length+1) * 40<=140737488355328/\Jg ((g:Int)+1)/\∃ (g':Nat),g'+1<=l.length/\l.length-g' < l.length-g/\AS.mk [(1,AV.i sp),(7,AV.own 1 ((WW l sp g).length+1)),(29,
  AV.sl 5 (Jsy l)),(30,AV.i ((Jsw l)-1)),(31,AV.i ((g:Int)+1))] [(1,ABlk.buf 83 5 (List.map Ja (J8 l sp g)++[[AV.i (JtP l g).t,AV.i (JtP l g).x,AV.i (JtP l g).y,AV.i (JtP l g).z,AV.i (JtP l g).p]]))] 2 =
  AS.mk (Z61l sp l g') [(1,ABlk.buf 83 5 (List.map Ja (J8 l sp g')))] 2)/\(decide (Z61d l g sp)=false->Jg ((g:Int)+1)/\∃ (g':Nat),g'+1<=l.length/\l.length-g' < l.length-g/\AS.mk [(1,AV.i sp),(7,AV.own
  1 (WW l sp g).length),(29,AV.sl 5 (Jsy l)),(30,AV.i ((Jsw l)-1)),(31,AV.i ((g:Int)+1))] [(1,ABlk.buf 83 5 (WW l sp g))] 2=AS.mk (Z61l sp l g') [(1,ABlk.buf 83 5 (List.map Ja (J8 l sp g')))] 2))/\(decide
  ((g:Int) < (Jsw l)-1)=false->(decide ((Jsx l sp g) < 2)=true->AV.tup [AV.sl 5 [],AV.i 16]=AV.tup (Z61n l sp))/\(decide ((Jsx l sp g) < 2)=false->AV.tup [AV.sl 5 (WW l sp g),AV.i 0]=AV.tup (Z61n l sp)))):=by
   delta Jet Jis WW Z61d Jn5 Jn4 Jn3 Jqe Jsz JtP Z61k Z61l Jsy Z61n Jsx Z61p Z61q Jsw
   have hlm:(List.map Ja l).length=l.length:=Kb _
   refine⟨c76 l (by omega),c89 _ _ _,c87 [_,_] (by simp),fun h=>?_,fun h=>?_⟩
   . have h':(Jb [Jp l,Jc sp 1 1000] != 0)=true:=h
     unfold JiG Q2
     rw[if_pos h',if_pos h']
     rfl
   have h':¬ (Jb [Jp l,Jc sp 1 1000] != 0)=true:=by rw[show(Jb [Jp l,Jc sp 1 1000] != 0)=false from h];exact Bool.false_ne_true
   have hz:Jb [Jp l,Jc sp 1 1000]=0:=by simpa using h'
   simp only[Jd,within_zero]at hz
   obtain⟨hz1,hs,_⟩:=hz
   rw[XZ]at hz1
   obtain⟨hO,hsp⟩:=VN hz1
   have hn1:=hO.n1
   have hn2:=hO.n2
   have dlen:(List.drop 1 l).length=l.length-1:=Kh
   have hdm:(List.map Ja (List.drop 1 l)).length=l.length-1:=by rw[Kb,dlen]
   refine⟨by omega,by omega,by omega,by omega,by omega,by omega,by omega,⟨0,by omega,?_⟩,fun g hg=>⟨fun hd=>?_,fun hd=>?_⟩⟩
   . have e1:List.take (((List.map Ja l).length:Int)-1).toNat (List.drop 1 (List.map Ja l))=List.map Ja (List.drop 1 l):=by
      rw[<- List.map_drop]
      exact Kv (by omega)
     have e2:List.take 1 (List.map Ja l)++List.drop (List.map Ja l).length [[AV.i 0,AV.i 0,AV.i 0,AV.i 0,AV.i 0]]=List.map Ja (J8 l sp 0):=by
      rw[List.drop_eq_nil_of_le (by simp;omega),List.append_nil]
      match l,hn1 with
      | a::_,_=>rfl
     rw[e1,e2,hdm,show((l.length-1:Nat):Int)=(l.length:Int)-1 by omega]
     rfl
   . have hlt:g+1 < l.length:=by
      have:=K0 hd
      omega
     have hrl:=Jaq (l:=l) (sp:=sp) g
     obtain⟨hqb,hd0,hd1⟩:=rep_b (sp:=sp) hO hsp hlt
     have hfb:=hO.fb hlt
     have hrow:=Jrl (l:=l) (sp:=sp) g
     have hdf:=Jpx hfb hqb
     have hw:=way_b hs hd0 hd1
     have hmr:(List.map Ja (J8 l sp g)).length=(J8 l sp g).length:=Kb _
     have r1:Jn (List.map Ja (List.drop 1 l)) g=Ja (l.getD (g+1) default):=by
      rw[Jq Ja (by omega),Ka,List.getElem?_drop,<- Ka,Nat.add_comm]
     have r2:(List.drop 1 l).getD g default=l.getD (g+1) default:=by
      rw[Ka,List.getElem?_drop,<- Ka,Nat.add_comm]
     have c:∀ j,cJ (List.map Ja (J8 l sp g)) (((List.map Ja (J8 l sp g)).length:Int)-1).toNat j=cJ [Ja (Q6 (J8 l sp g))] 0 j:=fun j=>by
      unfold cJ
      rw[hrow]
      rfl
     have c0:cJ (List.map Ja (J8 l sp g)) (((List.map Ja (J8 l sp g)).length:Int)-1).toNat 0=(Q6 (J8 l sp g)).t:=c 0
     have c1:cJ (List.map Ja (J8 l sp g)) (((List.map Ja (J8 l sp g)).length:Int)-1).toNat 1=(Q6 (J8 l sp g)).x:=c 1
     have c2:cJ (List.map Ja (J8 l sp g)) (((List.map Ja (J8 l sp g)).length:Int)-1).toNat 2=(Q6 (J8 l sp g)).y:=c 2
     have c3:cJ (List.map Ja (J8 l sp g)) (((List.map Ja (J8 l sp g)).length:Int)-1).toNat 3=(Q6 (J8 l sp g)).z:=c 3
     have c4:cJ (List.map Ja (J8 l sp g)) (((List.map Ja (J8 l sp g)).length:Int)-1).toNat 4=(Q6 (J8 l sp g)).p:=c 4
     rw[Km,c0,c1,c2,c3,c4,hrow,r1,r2]
     refine⟨by omega,by omega,rfl,by unfold Jg;omega,by omega,by omega,by omega,rfl,by unfold Jg;omega,hw.1,c113 _ _ _ _ _ _ hdf.x hdf.y hdf.z,c112 _ _ _ hdf.x2 hdf.y2 hdf.xy hdf.z2,by omega,by omega,by omega,by omega,hdf.s,hw.2,fun hx=>⟨by omega,by omega,by unfold Jg;omega,g+1,hlt,by omega,?_⟩,fun hx=>⟨by unfold Jg;omega,g+1,hlt,by omega,?_⟩⟩
     . have hR:J8 l sp (g+1)=J8 l sp g++[l.getD (g+1) default]:=if_pos hx
       rw[hR,Db,Kf]
       rfl
     have hR:J8 l sp (g+1)=J8 l sp g:=if_neg (by rw[show decide (sqF (l.getD (g+1) default) (Q6 (J8 l sp g))<=sp * ((l.getD (g+1) default).t-(Q6 (J8 l sp g)).t) * (sp * ((l.getD (g+1) default).t-(Q6 (J8 l sp g)).t)))=false from hx];exact Bool.false_ne_true)
     rw[hR]
     rfl
   have hge:g=l.length-1:=by
    have:=K1 hd
    omega
   subst hge
   have hmr:(List.map Ja (J8 l sp (l.length-1))).length=(J8 l sp (l.length-1)).length:=Kb _
   unfold JiG Q2 QD JeQ
   rw[if_neg h',if_neg h']
   refine⟨fun h=>?_,fun h=>?_⟩
   . rw[if_pos (decide_eq_true (by have:=K0 h;omega)),if_pos (decide_eq_true (by have:=K0 h;omega))]
     rfl
   have hx:¬ decide ((J8 l sp (l.length-1)).length < 2)=true:=by
    have:=K1 h
    simp only[Ko]
    omega
   rw[if_neg hx,if_neg hx]
 exact JU Tryz.f39 (gsB (fun i=>if i.beq 3 then[.nil 4 5]else if i.beq 15 then[.nil 4 5]else[]) (Jkc 9 5 (fun a=>{ a with rdb:=row5 }) (fzB (mkB (sp39 l) 39 [(8,1,rdL 5 Ja (l.drop 1) 5 true)] (fun i=>if i.beq 0 then some (la39 l sp)else none))))) key (by kernel_rfl)
def JmO(l:List Fx)(k:Int):Bool:=if decide (k < Jm l)then true else decide (k>=JB l)
def Qf(l:List Fx)(k:Int):Int:=if Jp l != 0 then Jp l else Jk (JmO l k) 7
def rAt(l:List Fx)(k:Int):List AV:=if Jp l != 0 then[.i 0,.i 0,.i 0,.i 0,.i 0,.i 0]else if JmO l k then[.i 0,.i 0,.i 0,.i 0,.i 0,.i 0]else atV (atA l k) (atB l k) k
def sp56(l:List Fx)(k:Int):Nat->List AV->Option AV
 | 76,_=>some (.i (Jp l))
 | 102,_=>some (.agg [.i (Jm l),.i (JB l)])
 | 126,_=>some (.agg (atV (atA l k) (atB l k) k))
 | n,w=>spR n w
abbrev Z62a(l:List Fx)(k:Int):=[AV.i (Jv (atA l k).x (atB l k).x (k-(atA l k).t) ((atB l k).t-(atA l k).t)),AV.i (Jv (atA l k).y (atB l k).y (k-(atA l k).t) ((atB l k).t-(atA l k).t)),AV.i (Jv (atA l k).z (atB l k).z (k-(atA l k).t) ((atB l k).t-(atA l k).t)),AV.i ((atB l k).x-(atA l k).x),AV.i ((atB l k).y-(atA l k).y),AV.i (Jv (atA l k).p (atB l k).p (k-(atA l k).t) ((atB l k).t-(atA l k).t))]
abbrev Z62b(k:Int)(l:List Fx):=(!decide (k < Jm l))=true->(!decide (k < Jm l))=true
abbrev Z62c:=[AV.i 0,AV.i 0,AV.i 0,AV.i 0,AV.i 0,AV.i 0]
abbrev Z62d(k:Int)(l:List Fx):=if decide (k < Jm l)=true then true else decide (k>=JB l)
theorem c56(l:List Fx)(k:Int)(hl:l.length<=1000):P0 56 [.sl 5 (l.map Ja),.i k] (.tup [.agg (rAt l k),.i (Qf l k)]):=by
 have key :
  P0 76 [AV.sl 5 (List.map Ja l)] (AV.i (Jp l))/\((Jp l != 0)=true->AV.tup [AV.agg Z62c,AV.i (Jp l)]=AV.tup [AV.agg (rAt l k),AV.i (Qf l k)])/\((Jp l != 0)=false->P0 102 [AV.sl 5 (List.map Ja
  l)] (AV.agg [AV.i (Jm l),AV.i (JB l)])/\(Z62b k l)/\(Z62b k l)/\(Z62b k l)/\(decide (k < Jm l)=false->(!decide (k < Jm l))=true)/\((Z62d k l)=true->AV.tup [AV.agg Z62c,AV.i 7]=AV.tup [AV.agg (rAt l
  k),AV.i (Qf l k)])/\((Z62d k l)=false->P0 126 [AV.sl 5 (List.map Ja l),AV.i k] (AV.agg (Z62a l k))/\AV.tup [AV.agg (Z62a l k),AV.i 0]=AV.tup [AV.agg (rAt l k),AV.i (Qf l k)])):=by
   delta Z62a Z62b Z62c Z62d
   refine⟨c76 l (by rw[Kb];omega),fun h=>?_,fun h=>?_⟩
   . unfold rAt Qf
     rw[if_pos h,if_pos h]
   have hz:Jp l=0:=by simpa using h
   rw[XZ]at hz
   obtain⟨hO,hsp⟩:=VN hz
   have h':¬ (Jp l != 0)=true:=by rw[h];exact Bool.false_ne_true
   have hn:=hO.n1
   refine⟨Jr6 l (by omega) hl,fun h=>h,fun h=>h,fun h=>h,fun h=>by rw[h];rfl,fun ho=>?_,fun ho=>?_⟩
   . unfold rAt Qf
     rw[if_neg h',if_neg h',if_pos (show JmO l k=true from ho),show JmO l k=true from ho]
     rfl
   have ho':¬ JmO l k=true:=by rw[show JmO l k=false from ho];exact Bool.false_ne_true
   have h1:¬ k < Jm l/\¬ k>=JB l:=by
    by_cases hx:k < Jm l
    . simp[hx]at ho
    simp[hx]at ho
    exact⟨hx,by omega⟩
   have b0:=(hO.b 0 (by omega)).1
   have b1:=(hO.b (l.length-1) (by omega)).1
   rw[show(l.getD 0 default).t=Jm l from rfl]at b0
   rw[show(l.getD (l.length-1) default).t=JB l from rfl]at b1
   refine⟨c126 l k hO ⟨by omega,by omega⟩,?_⟩
   unfold rAt Qf
   rw[if_neg h',if_neg h',if_neg ho',show JmO l k=false from ho]
   rfl
 exact JU Tryz.f56 (fzB (mkB (sp56 l k) 56 [] QJ)) key (by kernel_rfl)
def cl160:Operand->Bool
 | .tmp t=>t.beq 16
 | _=>false
theorem c160_0(n:Int)(hn:n=0):P0 160 [.ex (.slice none 0 0),.i n] (.fresh 83 5 []):=by
 have key :
  (decide (n < 0)=true->False)/\(decide (n < 0)=false->Jg ((0:Int)-0)/\Jg (n-((0:Int)-0))/\AV.bool (decide (n-((0:Int)-0) > 0))=AV.bool false/\AV.fresh 83 5 []=AV.fresh 83 5 []):=by
   subst hn
   exact⟨fun h=>absurd (K0 h) (by omega),fun _=>⟨by unfold Jg;omega,by unfold Jg;omega,rfl,rfl⟩⟩
 exact JU Tryz.f160 ({ gsB (fun i=>if i.beq 6 then[.own 4 83 5]else[]) (mkB spR 160 [(4,1,rdF)] QJ)with cl:=cl160 }) key (by kernel_rfl)
theorem c160_1(n:Int)(h1:1<=n)(h2:n<=100000):P0 160 [.ex (.slice none 0 0),.i n] (.fresh 83 5 []):=by
 have key :
  (decide (n < 0)=true->False)/\(decide (n < 0)=false->Jg ((0:Int)-0)/\Jg (n-((0:Int)-0))/\AV.bool (decide (n-((0:Int)-0) > 0))=AV.bool true/\(0:Int)<=0/\(0:Int)<=0/\(1:Int)<=n-((0:Int)
  - 0)/\n-((0:Int)-0)<=9223372036854775807/\(n-((0:Int)-0)) * (40:Int)<=140737488355328/\(0:Int)<=0/\(0:Int)<=(↑(n-((0:Int)-0)).toNat:Int)/\AV.fresh 83 5 []=AV.fresh 83 5 []):=by
   refine⟨fun h=>absurd (K0 h) (by omega),fun _=>⟨by unfold Jg;omega,by unfold Jg;omega,congrArg AV.bool (decide_eq_true (by omega)),by omega,by omega,by omega,by omega,by omega,by omega,by omega,rfl⟩⟩
 exact JU Tryz.f160 ({ Jkc 5 5 (fun a=>{ a with fz:=false }) (mkB spR 160 [(4,1,rdT)] QJ)with cl:=cl160 }) key (by kernel_rfl)
theorem c160(n:Int)(h0:0<=n)(h2:n<=100000):P0 160 [.ex (.slice none 0 0),.i n] (.fresh 83 5 []):=by
 by_cases h:n=0
 . exact c160_0 n h
 exact c160_1 n (by omega) h2
def sp132:Nat->List AV->Option AV
 | 160,_=>some (.fresh 83 5 [])
 | n,w=>spR n w
abbrev Z63c:=false=true->(0:Int)<=0+1+1/\(0:Int)+1+1 < (2:Int)/\False
abbrev Z63a(a:List Fx)(b:List Fx):=true=true->(0:Int)<=0/\(0:Int) < (2:Int)/\0+(List.map Ja a).length<=9223372036854775807/\(0+(List.map Ja a).length) * 40<=140737488355328/\Jg ((0:Int)+1)/\(true=true->(0:Int)<=0+1/\(0:Int)+1 < (2:Int)/\0+(List.map Ja a).length+(List.map Ja b).length<=9223372036854775807/\(0+(List.map Ja a).length+(List.map Ja b).length) * 40<=140737488355328/\Jg ((0:Int)+1+1)/\Z63c/\(false=false->AV.fresh 83 5 ([]++List.map Ja a++List.map Ja b)=AV.fresh 83 5 (List.map Ja a++List.map Ja b)))/\(true=false->AV.fresh 83 5 ([]++List.map Ja a)=AV.fresh 83 5 (List.map Ja a++List.map Ja b))
abbrev Z63b(a:List Fx)(b:List Fx):=true=false->AV.fresh 83 5 []=AV.fresh 83 5 (List.map Ja a++List.map Ja b)
abbrev Z63d(a:List Fx):=((List.map Ja a).length:Int)
theorem c132(a b:List Fx)(ha:a.length<=1000)(hb:b.length<=1000):P0 132 [.sl 1 [[.sl 5 (a.map Ja)],[.sl 5 (b.map Ja)]]] (.fresh 83 5 (a.map Ja++b.map Ja)):=by
 have key :
  (true=true->(0:Int)<=0/\(0:Int) < (2:Int)/\Jg ((0:Int)+(Z63d a))/\(false=true->False)/\(false=false->Jg ((0:Int)+1)/\(true=true->(0:Int)<=0+1/\(0:Int)+1 < (2:Int)/\Jg ((0:Int)
  + (Z63d a)+((List.map Ja b).length:Int))/\(false=true->False)/\(false=false->Jg ((0:Int)+1+1)/\Z63c/\(false=false->P0 160 [AV.ex (Value.slice none 0 0),AV.i ((0:Int)+(Z63d a)+((List.map Ja
  b).length:Int))] (AV.fresh 83 5 [])/\(Z63a a b)/\(Z63b a b))))/\(true=false->P0 160 [AV.ex (Value.slice none 0 0),AV.i ((0:Int)+(Z63d a))] (AV.fresh 83 5 [])/\(Z63a a b)/\(Z63b a b))))/\(true=false->P0 160 [AV.ex
  (Value.slice none 0 0),AV.i 0] (AV.fresh 83 5 [])/\(Z63a a b)/\(Z63b a b)):=by
   delta Z63a Z63b Z63c Z63d
   have ea:(List.map Ja a).length=a.length:=Kb _
   have eb:(List.map Ja b).length=b.length:=Kb _
   have hF:∀ {p:Prop},true=false->p:=fun h=>by cases h
   have hT:∀ {p:Prop},false=true->p:=fun h=>by cases h
   exact⟨fun _=>⟨by omega,by omega,by unfold Jg;omega,hT,fun _=>⟨by unfold Jg;omega,fun _=>⟨by omega,by omega,by unfold Jg;omega,hT,fun _=>⟨by unfold Jg;omega,hT,fun _=>⟨c160 _ (by omega) (by omega),fun _=>⟨by omega,by omega,by omega,by omega,by unfold Jg;omega,fun _=>⟨by omega,by omega,by omega,by omega,by unfold Jg;omega,hT,fun _=>rfl⟩,hF⟩,hF⟩⟩⟩,hF⟩⟩,hF⟩
 exact JU Tryz.f132 (mkB sp132 132 [] QJ) key (by kernel_rfl)
def JqM(rows:List (List AV)):List Fx:=rows.map fun r=>⟨cJ [r] 0 0,cJ [r] 0 1,cJ [r] 0 2,cJ [r] 0 3,cJ [r] 0 4⟩
theorem Ji7(l:List Fx):JqM (l.map Ja)=l:=by
 unfold JqM
 rw[Dc]
 conv=>rhs;rw[<- List.map_id l]
 exact List.map_congr_left fun x _=>rfl
def Jpj(l m:List Fx):Int:=Jb [Jk (decide (Jm m<=JB l)) 11,Jk (decide ((l.length:Int)+(m.length:Int) > 16)) 5,Jk (decide (JB m-Jm l > 1000)) 14]
def jRes(l m:List Fx):List Fx:=if Jpj l m != 0 then[]else l++m
def Jfw(l m:List Fx):Int:=if Jb [Jp l,Jp m] != 0 then Jb [Jp l,Jp m]else Jpj l m
def rJ(l m:List Fx):List Fx:=if Jb [Jp l,Jp m] != 0 then[]else jRes l m
def sp71(l m:List Fx):Nat->List AV->Option AV
 | 76,[.sl _ rows]=>some (.i (Jp (JqM rows)))
 | 102,[.sl _ rows]=>some (.agg [.i (Jm (JqM rows)),.i (JB (JqM rows))])
 | 132,_=>some (.sl 5 ((l++m).map Ja))
 | n,w=>spR n w
abbrev JiN(m:List Fx):=JqM (List.map Ja m)
abbrev JiO(l:List Fx):=JqM (List.map Ja l)
abbrev Z64g(m:List Fx)(l:List Fx):=Jk (decide (Jm (JiN m)<=JB (JiO l))) (11:Int)
abbrev Z64d(l:List Fx)(m:List Fx):=decide (((List.map Ja l).length:Int)+((List.map Ja m).length:Int) > 16)
abbrev Z64f(m:List Fx)(l:List Fx):=decide (JB (JiN m)-Jm (JiO l) > 1000)
abbrev Z64a(m:List Fx)(l:List Fx):=[hdI [AV.i (Z64g m l)],hdI [AV.i (Jk (Z64d l m) (5:Int))],hdI [AV.i (Jk (Z64f m l) (14:Int))]]
abbrev Z64e(l:List Fx)(m:List Fx):=[hdI [AV.i (Jp (JiO l))],hdI [AV.i (Jp (JiN m))]]
abbrev Z64h(l:List Fx)(m:List Fx):=[AV.sl 5 (List.map Ja (rJ l m)),AV.i (Jfw l m)]
abbrev Z64i(l:List Fx):=[AV.sl 5 (List.map Ja l)]
abbrev Z64j(m:List Fx):=[AV.sl 5 (List.map Ja m)]
theorem c71(l m:List Fx)(hl:l.length<=1000)(hm:m.length<=1000):P0 71 [.sl 5 (l.map Ja),.sl 5 (m.map Ja)] (.tup [.sl 5 ((rJ l m).map Ja),.i (Jfw l m)]):=by
 have key :
  P0 76 (Z64i l) (AV.i (Jp (JiO l)))/\P0 76 (Z64j m) (AV.i (Jp (JiN m)))/\P0 87 [AV.sl 1 [[AV.i (Jp (JiO l))],[AV.i (Jp (JiN m))]]] (AV.i (Jb (Z64e l m)))/\((Jb (Z64e l m) != 0)=true->AV.tup
  [AV.sl 5 [],AV.i (Jb (Z64e l m))]=AV.tup (Z64h l m))/\((Jb (Z64e l m) != 0)=false->Jg (((List.map Ja l).length:Int)+((List.map Ja m).length:Int))/\Jg (JB (JiN m)-Jm (JiO l))/\P0 102
  (Z64j m) (AV.agg [AV.i (Jm (JiN m)),AV.i (JB (JiN m))])/\P0 102 (Z64i l) (AV.agg [AV.i (Jm (JiO l)),AV.i (JB (JiO l))])/\P0 92 [AV.bool (decide (Jm (JiN m)<=JB (JiO l))),AV.i 11] (AV.i (Z64g m l)) /\
  P0 92 [AV.bool (Z64d l m),AV.i 5] (AV.i (Jk (Z64d l m) (5:Int)))/\P0 102 (Z64j m) (AV.agg [AV.i (Jm (JiN m)),AV.i (JB (JiN m))])/\P0 102 (Z64i l) (AV.agg [AV.i (Jm (JiO l)),AV.i (JB (JiO l))])/\P0 92
  [AV.bool (Z64f m l),AV.i 14] (AV.i (Jk (Z64f m l) (14:Int)))/\P0 87 [AV.sl 1 [[AV.i (Z64g m l)],[AV.i (Jk (Z64d l m) (5:Int))],[AV.i (Jk (Z64f m l) (14:Int))]]] (AV.i (Jb (Z64a m l)))/\((Jb (Z64a m l) !=
  0)=true->AV.tup [AV.sl 5 [],AV.i (Jb (Z64a m l))]=AV.tup (Z64h l m))/\((Jb (Z64a m l) != 0)=false->P0 132 [AV.sl 1 [(Z64i l),(Z64j m)]] (AV.sl 5 (List.map Ja (l++m)))/\AV.tup [AV.sl 5 (List.map Ja (l ++
  m)),AV.i 0]=AV.tup (Z64h l m))):=by
   delta Z64a JiO JiN Z64d Z64e Z64f Z64g Z64h Z64i Z64j
   have hlm:(List.map Ja l).length=l.length:=Kb _
   have hmm:(List.map Ja m).length=m.length:=Kb _
   rw[Ji7,Ji7]
   refine⟨c76 l (by omega),c76 m (by omega),c87 [_,_] (by simp),fun h=>?_,fun h=>?_⟩
   . have h':(Jb [Jp l,Jp m] != 0)=true:=h
     unfold rJ Jfw
     rw[if_pos h',if_pos h']
     rfl
   have h':¬ (Jb [Jp l,Jp m] != 0)=true:=by rw[show(Jb [Jp l,Jp m] != 0)=false from h];exact Bool.false_ne_true
   have hz:Jb [Jp l,Jp m]=0:=by simpa using h'
   simp only[Jd]at hz
   obtain⟨hz1,hz2,_⟩:=hz
   rw[XZ]at hz1 hz2
   obtain⟨hO,_⟩:=VN hz1
   obtain⟨hM,_⟩:=VN hz2
   have n1:=hO.n1
   have n2:=hM.n1
   have b0:=(hO.b 0 (by omega)).1
   have b1:=(hM.b (m.length-1) (by omega)).1
   rw[show(l.getD 0 default).t=Jm l from rfl]at b0
   rw[show(m.getD (m.length-1) default).t=JB m from rfl]at b1
   refine⟨by unfold Jg;omega,by unfold Jg;omega,Jr6 m (by omega) hm,Jr6 l (by omega) hl,c92 _ _,c92 _ _,Jr6 m (by omega) hm,Jr6 l (by omega) hl,c92 _ _,c87 [_,_,_] (by simp),fun hj=>?_,fun hj=>⟨?_,?_⟩⟩
   . have hj':(Jpj l m != 0)=true:=by
      rw[hlm,hmm]at hj
      exact hj
     unfold rJ Jfw jRes
     rw[if_neg h',if_neg h',if_pos hj',hlm,hmm]
     rfl
   . rw[Db]
     exact(c132 l m hl hm).un
   have hj':(Jpj l m != 0)=false:=by
    rw[hlm,hmm]at hj
    exact hj
   have hj2:¬ (Jpj l m != 0)=true:=by rw[hj'];exact Bool.false_ne_true
   have hj3:Jpj l m=0:=by simpa using hj2
   unfold rJ Jfw jRes
   rw[if_neg h',if_neg h',if_neg hj2,hj3]
 exact JU Tryz.f71 (gsB (fun i=>if i.beq 3 then[.nil 4 5]else if i.beq 6 then[.nil 4 5]else[]) (mkB (sp71 l m) 71 [] QJ)) key (by kernel_rfl)
theorem itl{n:Int}{k:Nat}(h:0<=n/\n < 10 ^ (k+1)):(Lib.itoa n).length<=k+1:=by
 obtain⟨m,rfl⟩:∃ m:Nat,n=(m:Int):=⟨n.toNat,by omega⟩
 have e:Lib.itoa (m:Int)=Lib.decDigits m:=by
  unfold Lib.itoa
  rw[if_neg (by omega),Km]
 rw[e]
 exact Jld k m (by have:=h.2;exact_mod_cast this)
theorem Wa(k:Nat):∀ (l:List Int),(∀ n,n ∈ l->0<=n/\n < 10 ^ (k+1))->(nmT l).length<=(k+2) * l.length
 | [],_=>by simp[nmT]
 | x::l,h=>by
  have ih:=Wa k l fun n hn=>h n (List.mem_cons_of_mem _ hn)
  have hx:=itl (h x (List.mem_cons_self ..))
  show(32::Lib.itoa x++nmT l).length<=_
  rw[Kf,List.length_cons,List.length_cons,Nat.mul_add]
  omega
theorem JgS{α:Type}(f:α->List UInt8)(k:Nat):∀ (l:List α),(∀ x,x ∈ l->(f x).length<=k)->((l.map f).flatten).length<=k * l.length
 | [],_=>by simp
 | x::l,h=>by
  have ih:=JgS f k l fun y hy=>h y (List.mem_cons_of_mem _ hy)
  have hx:=h x (List.mem_cons_self ..)
  rw[List.map_cons,List.flatten_cons,Kf,List.length_cons,Nat.mul_add]
  omega
theorem JmQ{s:List UInt8}(h:JH s=true):s.length<=24:=by
 unfold JH at h
 by_cases a:(s.length:Int) > 24
 . exfalso
   simp[a]at h
   omega
 omega
theorem Jmt{t:Ty}(h:Qs t=0):Um t=0/\UQ t=0:=by
 unfold Qs at h
 split at h
 . rename_i h1
   rw[h]at h1
   exact absurd h1 (by decide)
 rename_i h1
 obtain⟨h2,_,_⟩:=X9 h
 exact⟨by simpa using h1,h2⟩
theorem JgB{l:List Int}{U:Int}(h:∀ k,k < l.length->0<=l.getD k default/\l.getD k default<=U):∀ n,n ∈ l->0<=n/\n<=U:=fun n hn=>by
 obtain⟨i,hi,rfl⟩:=List.getElem_of_mem hn
 have:=h i hi
 rw[Ka,Kj hi]at this
 exact this
theorem pr_ok{t:Ty}(hS:ShortTy t)(h:Qs t=0):PrOK t/\(prX t).length<=990:=by
 have hO:=JhK h
 have hD:=Jak h
 obtain⟨h1,h2⟩:=Jmt h
 unfold Um at h1
 rw[Jd,Jd,Jd]at h1
 unfold UQ at h2
 rw[Jd,Jd,Jd,Jd]at h2
 have hnm:JH t.name=true:=by simpa using V4 (by decide) h1.1
 have hq:=QX h2.2.2.1
 have hs:=QX h1.2.1
 refine⟨⟨Jpb hS h,hnm⟩,?_⟩
 have hn:=JmQ hnm
 have hst:=hS.st
 have l0:=Wa 3 [t.side] fun n hn=>by rw[List.mem_singleton.1 hn];have:=hD.2;omega
 have l1:=Wa 3 t.sh fun n hn=>by have:=JgB (QE h1.2.2.1) n hn;omega
 have l2:=Wa 3 (drT t) fun n hn=>by have:=JgB (l:=drT t) (U:=2000) (fun k hk=>hD.1 k hk) n hn;omega
 have l3:=Wa 11 t.sq fun n hn=>by have:=JgB (QE h2.2.2.2.1) n hn;omega
 have l4:∀ g,g ∈ t.st->(stB g++[10]).length<=95:=fun g hg=>by
  obtain⟨i,hi,rfl⟩:=List.getElem_of_mem hg
  have e:t.sg i=t.st[i]:=by
   unfold Ty.sg
   rw[Ka,Kj hi]
   rfl
  have hp:=hO.pb i hi
  have he:=hO.el i hi
  have hb:=hO.eb i
  rw[e]at hp he hb
  have a:=itl (k:=2) (n:=t.st[i].p) (by omega)
  have b:=Wa 8 t.st[i].e fun n hn=>by
   have:=JgB (U:=100000000) (fun k hk=>hb k hi (by omega)) n hn
   omega
  rw[Kf,stB,Kf,show(JA 4).length=5 from rfl,show nmT (t.st[i].p::t.st[i].e)=32::Lib.itoa t.st[i].p++nmT t.st[i].e from rfl,Kf,List.length_cons,Kx]
  omega
 have l5:=JgS (fun g=>stB g++[10]) 95 t.st l4
 rw[Jcj,bdT,Db,List.flatten_append,Kf,Dc]
 rw[show((·++[(10:UInt8)]) ∘ stB)=fun g=>stB g++[10]from rfl]
 have e4:((hd4 t).map (·++[(10:UInt8)])).flatten.length=(5+t.name.length+(nmT [t.side]).length+1)+((JA 1).length+(nmT t.sh).length+1)+((JA 2).length+(nmT (drT t)).length+1)+((JA 3).length+(nmT t.sq).length+1):=by
  simp[hd4,TYPE_]
  omega
 rw[e4]
 have d8:(drT t).length=8:=rfl
 have w1:(JA 1).length=6:=rfl
 have w2:(JA 2).length=6:=rfl
 have w3:(JA 3).length=7:=rfl
 have s1:[t.side].length=1:=rfl
 rw[s1]at l0
 rw[d8]at l2
 omega
theorem JiI{α:Type}{a b:List α}{i:Nat}{d:α}(h:i < a.length):(a++b).getD i d=a.getD i d:=by
 rw[Ka,K6 h,<- Ka]
theorem Jl7{α:Type}{a b:List α}{j:Nat}{d:α}:(a++b).getD (a.length+j) d=b.getD j d:=by
 rw[Ka,K7 (Nat.le_add_right ..),Nat.add_sub_cancel_left,<- Ka]
def Jpz(f g:Fx)(sp:Int):Bool:=decide (sqF f g<=sp * (f.t-g.t) * (sp * (f.t-g.t)))
def Jck(l:List Fx)(sp:Int):Nat->List Nat
 | 0=>[0]
 | i+1=>if Jpz (l.getD (i+1) default) (Q6 (J8 l sp i)) sp then Jck l sp i++[i+1]else Jck l sp i
theorem JjH(l:List Fx)(sp:Int)(i:Nat):J8 l sp (i+1)=if Jpz (l.getD (i+1) default) (Q6 (J8 l sp i)) sp=true then J8 l sp i++[l.getD (i+1) default]else J8 l sp i:=rfl
theorem JjG{l:List Fx}{sp:Int}:∀ i,J8 l sp i=(Jck l sp i).map fun k=>l.getD k default
 | 0=>rfl
 | i+1=>by
  have ih:=JjG (l:=l) (sp:=sp) i
  rw[JjH,Jck]
  by_cases h:Jpz (l.getD (i+1) default) (Q6 (J8 l sp i)) sp=true
  . rw[if_pos h,if_pos h,Db,<- ih]
    rfl
  rw[if_neg h,if_neg h,ih]
theorem Jgt{l:List Fx}{sp:Int}:∀ i k,k ∈ Jck l sp i->k<=i
 | 0,k,h=>by simp[Jck]at h;omega
 | i+1,k,h=>by
  simp only[Jck]at h
  split at h
  . rcases List.mem_append.1 h with h | h
    . have:=Jgt i k h;omega
    rw[List.mem_singleton.1 h];exact Kr _
  have:=Jgt i k h;omega
theorem JjT{l:List Fx}{sp:Int}:∀ i,(Jck l sp i).Pairwise (· < ·)
 | 0=>by simp[Jck]
 | i+1=>by
  simp only[Jck]
  split
  . refine List.pairwise_append.2 ⟨JjT i,by simp,fun a ha b hb=>?_⟩
    have:=Jgt i a ha
    rw[List.mem_singleton.1 hb]
    omega
  exact JjT i
theorem pos_0{l:List Fx}{sp:Int}:∀ i,(Jck l sp i).getD 0 0=0/\1<=(Jck l sp i).length
 | 0=>by simp[Jck]
 | i+1=>by
  have ih:=pos_0 (l:=l) (sp:=sp) i
  simp only[Jck]
  split
  . refine⟨?_,by rw[Kf];omega⟩
    rw[Ka,K6 (by omega),<- Ka]
    exact ih.1
  exact ih
theorem Jgn{l:List Fx}{sp:Int}:∀ i j,j+1 < (J8 l sp i).length->Jpz ((J8 l sp i).getD (j+1) default) ((J8 l sp i).getD j default) sp=true
 | 0,j,h=>by simp[J8]at h
 | i+1,j,h=>by
  have ih:=Jgn (l:=l) (sp:=sp) i j
  rw[JjH]at h ⊢
  by_cases hc:Jpz (l.getD (i+1) default) (Q6 (J8 l sp i)) sp=true
  . rw[if_pos hc]at h ⊢
    rw[Kf,Kx]at h
    by_cases e:j+1=(J8 l sp i).length
    . have h3:(J8 l sp i++[l.getD (i+1) default]).getD (j+1) default=l.getD (i+1) default:=by
       rw[e]
       exact Jl7 (j:=0)
      rw[h3,JiI (by omega),show j=(J8 l sp i).length-1 by omega]
      exact hc
    rw[JiI (by omega),JiI (by omega)]
    exact ih (by omega)
  rw[if_neg hc]at h ⊢
  exact ih h
theorem Jdy{r:List Fx}{sp:Int}(h:∀ j,j+1 < r.length->Jpz (r.getD (j+1) default) (r.getD j default) sp=true):∀ i,i < r.length->J8 r sp i=r.take (i+1)
 | 0,hi=>by
  rw[List.take_add_one,List.take_zero,List.nil_append,Kj hi]
  show[r.getD 0 default]=_
  rw[Ka,Kj hi]
  rfl
 | i+1,hi=>by
  have ih:=Jdy h i (by omega)
  have hl:Q6 (J8 r sp i)=r.getD i default:=by
   rw[ih,Q6,Kg,Nat.min_eq_left (by omega),Nat.add_sub_cancel,Ka,List.getElem?_take,if_pos (by omega),<- Ka]
  have hc:=h i hi
  rw[<- hl]at hc
  rw[JjH,if_pos hc,ih,List.take_add_one (i:=i+1),Kj hi,Ka,Kj hi]
  rfl
theorem Jb6{l:List Fx}(h:TrackOK l)(hs:JB l-Jm l<=1000):Jp l=0:=by
 rw[XZ]
 unfold QR
 have hn:(l.map Ja).length=l.length:=Kb _
 rw[hn]
 have h1:=h.n1
 have h2:=h.n2
 refine(UG (i:=l.length) ?_ (by simp) (Kr _) fun k hk=>?_).trans ?_
 . unfold sLen
   have e:Jb [Jk (decide ((l.length:Int) < 2)) 16,Jk (decide ((l.length:Int) > 16)) 5]=0:=by
    rw[Jd,Jd,Qn (by decide),Qn (by decide)]
    exact⟨decide_eq_false (by omega),decide_eq_false (by omega),rfl⟩
   rw[e]
   rfl
 . have b:=h.b k hk
   unfold Xh
   rw[Jd,Jd,Jd,Jd,within_zero]
   refine⟨b.1,?_,?_,?_,rfl⟩
   . unfold JT
     rw[Jd,Jd,Jd,within_zero,within_zero,within_zero]
     exact⟨b.2.1,b.2.2.1,b.2.2.2.1,rfl⟩
   . unfold Qd
     rw[within_zero]
     exact b.2.2.2.2
   rw[Qn (by decide)]
   cases k with
   | zero=>rfl
   | succ k =>
    have:=h.up k hk
    rw[Jgr,if_pos (decide_eq_true (by omega))]
    exact decide_eq_false (by omega)
 unfold Jre
 rw[Qn (by decide),hn,show Vy l.length=l.length-1 by rw[Vy];omega]
 unfold JB Jm at hs
 exact decide_eq_false (by omega)
theorem Jmu{l:List Fx}(h:Jp l=0):TrackOK l/\JB l-Jm l<=1000:=by
 rw[XZ]at h
 exact VN h
structure RepK(a r:List Fx)(sp:Int)(p:List Nat):Prop where
 e:r=p.map fun k=>a.getD k default
 n2:2<=p.length
 nl:p.length<=a.length
 p0:p.getD 0 0=0
 b:∀ i,i < p.length->p.getD i 0 < a.length
 up:∀ i,i+1 < p.length->p.getD i 0 < p.getD (i+1) 0
 near:∀ j,j+1 < r.length->Jpz (r.getD (j+1) default) (r.getD j default) sp=true
theorem RepK.len{a r:List Fx}{sp:Int}{p:List Nat}(h:RepK a r sp p):r.length=p.length:=by rw[h.e,Kb]
theorem RepK.at{a r:List Fx}{sp:Int}{p:List Nat}(h:RepK a r sp p){i:Nat}(hi:i < p.length):r.getD i default=a.getD (p.getD i 0) default:=by
 have e:p.getD i 0=p[i]:=by
  rw[Ka,Kj hi]
  rfl
 rw[e,h.e,Ka,Kk,Kj hi]
 rfl
theorem RepK.lt{a r:List Fx}{sp:Int}{p:List Nat}(h:RepK a r sp p):∀ {i j:Nat},i < j->j < p.length->p.getD i 0 < p.getD j 0
 | i,0,h1,_=>absurd h1 (by omega)
 | i,j+1,h1,h2=>by
  have:=h.up j h2
  by_cases e:i=j
  . rw[e];exact this
  have:=h.lt (i:=i) (j:=j) (by omega) (by omega)
  omega
theorem JmI{a:List Fx}{sp:Int}(hO:TrackOK a)(h:JeQ a sp=0):RepK a (QD a sp) sp (Jck a sp (a.length-1)):=by
 have hn:=hO.n1
 have hr:=JjG (l:=a) (sp:=sp) (a.length-1)
 have hlen:=Jaq (l:=a) (sp:=sp) (a.length-1)
 unfold JeQ at h
 by_cases h2:(J8 a sp (a.length-1)).length < 2
 . rw[if_pos (decide_eq_true h2)]at h
   cases h
 have e:QD a sp=J8 a sp (a.length-1):=by
  unfold QD
  rw[if_neg (by rw[Ko];exact h2)]
 have hl:(Jck a sp (a.length-1)).length=(J8 a sp (a.length-1)).length:=by rw[hr,Kb]
 rw[e]
 refine⟨hr,by omega,by omega,(pos_0 _).1,fun i hi=>?_,fun i hi=>?_,Jgn _⟩
 . rw[Ka,Kj hi]
   have:=Jgt (l:=a) (sp:=sp) (a.length-1) _ (List.getElem_mem hi)
   show(Jck a sp (a.length-1))[i] < _
   omega
 rw[Ka,Kj (by omega),Ka,Kj hi]
 exact List.pairwise_iff_getElem.1 (JjT (l:=a) (sp:=sp) (a.length-1)) i (i+1) (by omega) hi (by omega)
theorem t_lt{l:List Fx}(h:TrackOK l){i j:Nat}(h1:i < j)(h2:j < l.length):(l.getD i default).t < (l.getD j default).t:=by
 have a:=h.up i (by omega)
 have b:=Xm h (i+1) j (by omega) h2
 omega
theorem RepK.ok{a r:List Fx}{sp:Int}{p:List Nat}(h:RepK a r sp p)(hO:TrackOK a)(hs:JB a-Jm a<=1000):TrackOK r/\JB r-Jm r<=1000:=by
 have hl:=h.len
 have n1:=h.n2
 have n2:=h.nl
 have n3:=hO.n2
 refine⟨⟨by omega,by omega,fun i hi=>?_,fun i hi=>?_⟩,?_⟩
 . rw[h.at (by omega)]
   exact hO.b _ (h.b i (by omega))
 . rw[h.at (by omega),h.at (by omega)]
   exact t_lt hO (h.up i (by omega)) (h.b _ (by omega))
 unfold JB Jm
 rw[h.at (by omega),h.at (by omega)]
 have a1:=Xm hO (p.getD (r.length-1) 0) (a.length-1) (by have:=h.b (r.length-1) (by omega);omega) (by have:=hO.n1;omega)
 have a2:=Xm hO 0 (p.getD 0 0) (Nat.zero_le _) (h.b 0 (by omega))
 unfold JB Jm at hs
 omega
theorem RepK.same{a r:List Fx}{sp:Int}{p:List Nat}(h:RepK a r sp p)(hO:TrackOK a)(hs:JB a-Jm a<=1000)(hsp:1<=sp/\sp<=1000):Q2 r sp=0/\JiG r sp=r:=by
 obtain⟨o1,o2⟩:=h.ok hO hs
 have hz:=Jb6 o1 o2
 have hl:=h.len
 have n1:=h.n2
 have ha:=Jdy h.near (r.length-1) (by omega)
 rw[show r.length-1+1=r.length by omega,Ky]at ha
 have hf:Jb [Jp r,Jc sp 1 1000]=0:=by
  rw[Jd,Jd,hz,within_zero]
  exact⟨rfl,hsp,rfl⟩
 have hd:¬ decide (r.length < 2)=true:=by rw[Ko];omega
 unfold Q2 JiG JeQ QD
 rw[hf,ha,if_neg hd,if_neg hd,if_neg (by decide),if_neg (by decide)]
 exact⟨rfl,rfl⟩
theorem Jdx{a:List Fx}{sp:Int}(hz:Jp a=0)(hsp:1<=sp/\sp<=1000):Q2 a sp=JeQ a sp/\JiG a sp=QD a sp:=by
 have hf:Jb [Jp a,Jc sp 1 1000]=0:=by
  rw[Jd,Jd,hz,within_zero]
  exact⟨rfl,hsp,rfl⟩
 unfold Q2 JiG
 rw[hf,if_neg (by decide),if_neg (by decide)]
 exact⟨rfl,rfl⟩
theorem Jrn(a:List Fx)(sp:Int):JeQ a sp=0 ∨ JeQ a sp=16:=by
 unfold JeQ
 split
 . exact .inr rfl
 exact .inl rfl
def shF(d:Int)(f:Fx):Fx:=⟨f.t+d,f.x,f.y,f.z,f.p⟩
def shM(l:List Fx)(d:Int)(i:Nat):List Fx:=(l.take i).map (shF d)++l.drop i
theorem Jq0(l:List Fx)(d:Int):shM l d l.length=l.map (shF d):=by
 unfold shM
 rw[Ky,List.drop_length,List.append_nil]
theorem shM_at{l:List Fx}{d:Int}{i:Nat}(hi:i < l.length):(shM l d i).getD i default=l.getD i default:=by
 unfold shM
 rw[Ka,K7 (by rw[Kb,Kg];omega),Kb,Kg,Nat.min_eq_left (by omega),Nat.sub_self,List.getElem?_drop,Nat.add_zero,<- Ka]
theorem JqZ{l:List Fx}{d:Int}{i:Nat}(hi:i < l.length):(shM l d i).set i (shF d (l.getD i default))=shM l d (i+1):=by
 unfold shM
 rw[List.set_append_right _ _ (by rw[Kb,Kg];omega),Kb,Kg,Nat.min_eq_left (by omega),Nat.sub_self,List.take_add_one,Db,List.drop_eq_getElem_cons hi,List.set_cons_zero,Kj hi,Ka,Kj hi,List.append_assoc]
 rfl
def shN(l:List Fx)(d:Int):Nat->List Fx
 | 0=>l
 | i+1=>(shN l d i).set i (shF d (l.getD i default))
theorem Jjs(l:List Fx)(d:Int):∀ i,i<=l.length->shN l d i=shM l d i
 | 0,_=>rfl
 | i+1,h=>by
  rw[shN,Jjs l d i (by omega),JqZ (by omega)]
theorem Ua(l:List Fx)(d:Int):∀ i,(shN l d i).length=l.length
 | 0=>rfl
 | i+1=>by
  rw[shN,K4,Ua l d i]
theorem JqY(l:List Fx)(d:Int):shN l d l.length=l.map (shF d):=by
 rw[Jjs l d _ (Kr _),Jq0]
theorem JoY{l:List Fx}{d:Int}{i:Nat}(hi:i < l.length):(shN l d i).getD i default=l.getD i default:=by
 rw[Jjs l d _ (by omega),shM_at hi]
def JcM(l:List Fx)(d:Int)(b:Bool):Nat->Bool
 | 0=>b
 | i+1=>if JcM l d b i then decide ((l.getD i default).t+d<=100000000)else false
theorem Jpq{l:List Fx}{d:Int}{b:Bool}:∀ {n:Nat},JcM l d b n=true->b=true/\∀ i,i < n->(l.getD i default).t+d<=100000000
 | 0,h=>⟨h,fun i hi=>absurd hi (by omega)⟩
 | n+1,h=>by
  simp only[JcM]at h
  cases h1:JcM l d b n with
  | false=>rw[h1]at h;cases h
  | true =>
   rw[h1,if_pos rfl]at h
   obtain⟨h2,h3⟩:=Jpq h1
   refine⟨h2,fun i hi=>?_⟩
   by_cases e:i=n
   . rw[e];exact K0 h
   exact h3 i (by omega)
theorem Jdo{l:List Fx}{d:Int}{i:Nat}(hi:i < l.length):(l.map (shF d)).getD i default=shF d (l.getD i default):=by
 rw[Ka,Kk,Kj hi,Ka,Kj hi]
 rfl
structure LatOK(a l:List Fx)(d:Int):Prop where
 ka:TrackOK a
 kl:TrackOK l
 sa:JB a-Jm a<=100
 sl:JB l-Jm l<=100
 d1:JB a+1<=Jm l+d
 d2:Jm l+d<=JB a+9
 n:a.length+l.length<=16
 t:∀ i,i < l.length->(l.getD i default).t+d<=100000000
theorem LatOK.ok{a l:List Fx}{d:Int}(h:LatOK a l d):TrackOK (l.map (shF d)):=by
 have hl:(l.map (shF d)).length=l.length:=Kb _
 refine⟨by rw[hl];exact h.kl.n1,by rw[hl];exact h.kl.n2,fun i hi=>?_,fun i hi=>?_⟩
 . rw[hl]at hi
   rw[Jdo hi]
   have b:=h.kl.b i hi
   have t:=h.t i hi
   have m:=Xm h.kl 0 i (Nat.zero_le _) hi
   have d1:=h.d1
   have f0:=h.ka.b (a.length-1) (by have:=h.ka.n1;omega)
   unfold JB Jm at d1
   refine⟨⟨?_,t⟩,b.2⟩
   show 0<=(l.getD i default).t+d
   omega
 rw[hl]at hi
 rw[Jdo hi,Jdo (by omega)]
 have:=h.kl.up i hi
 show(l.getD i default).t+d < (l.getD (i+1) default).t+d
 omega
theorem LatOK.fst{a l:List Fx}{d:Int}(h:LatOK a l d):Jm (l.map (shF d))=Jm l+d:=by
 unfold Jm
 rw[Jdo (by have:=h.kl.n1;omega)]
 rfl
theorem LatOK.lst{a l:List Fx}{d:Int}(h:LatOK a l d):JB (l.map (shF d))=JB l+d:=by
 unfold JB
 rw[Kb,Jdo (by have:=h.kl.n1;omega)]
 rfl
theorem LatOK.jn{a l:List Fx}{d:Int}(h:LatOK a l d):TrackOK (a++l.map (shF d))/\JB (a++l.map (shF d))=JB l+d/\Jm (a++l.map (shF d))=Jm a:=by
 have hl:(l.map (shF d)).length=l.length:=Kb _
 have n1:=h.ka.n1
 have n2:=h.kl.n1
 have n3:=h.n
 have ho:=h.ok
 refine⟨⟨?_,?_,fun i hi=>?_,fun i hi=>?_⟩,?_,?_⟩
 . rw[Kf];omega
 . rw[Kf];omega
 . rw[Kf]at hi
   by_cases e:i < a.length
   . rw[JiI e];exact h.ka.b i e
   obtain⟨j,rfl⟩:∃ j,i=a.length+j:=⟨i-a.length,by omega⟩
   rw[Jl7];exact ho.b j (by omega)
 . rw[Kf]at hi
   by_cases e:i+1 < a.length
   . rw[JiI e,JiI (by omega)];exact h.ka.up i e
   by_cases e2:i+1=a.length
   . have q:=Jl7 (a:=a) (b:=l.map (shF d)) (j:=0) (d:=(default:Fx))
     rw[Nat.add_zero]at q
     rw[e2,q,JiI (by omega)]
     have d1:=h.d1
     rw[<- h.fst]at d1
     unfold JB Jm at d1
     rw[show i=a.length-1 by omega]
     omega
   obtain⟨j,rfl⟩:∃ j,i=a.length+j:=⟨i-a.length,by omega⟩
   rw[Jl7,show a.length+j+1=a.length+(j+1) by omega,Jl7]
   exact ho.up j (by omega)
 . rw[<- h.lst]
   unfold JB
   rw[Kf,show a.length+(l.map (shF d)).length-1=a.length+((l.map (shF d)).length-1) by omega,Jl7]
 unfold Jm
 rw[JiI (by omega)]
theorem LatOK.join{a l:List Fx}{d:Int}(h:LatOK a l d):Jfw a (l.map (shF d))=0/\rJ a (l.map (shF d))=a++l.map (shF d):=by
 have za:=Jb6 h.ka (by have:=h.sa;omega)
 have hl:(l.map (shF d)).length=l.length:=Kb _
 have zl:=Jb6 h.ok (by rw[h.fst,h.lst];have:=h.sl;omega)
 have hf:Jb [Jp a,Jp (l.map (shF d))]=0:=by
  rw[Jd,Jd]
  exact⟨za,zl,rfl⟩
 have hj:Jpj a (l.map (shF d))=0:=by
  unfold Jpj
  have s1:=h.sa;have s2:=h.sl;have e1:=h.d1;have e2:=h.d2;have e3:=h.n
  rw[Jd,Jd,Jd,Qn (by decide),Qn (by decide),Qn (by decide),h.fst,h.lst,hl]
  exact⟨decide_eq_false (by omega),decide_eq_false (by omega),decide_eq_false (by omega),rfl⟩
 unfold Jfw rJ jRes
 rw[hf,hj,if_neg (by decide),if_neg (by decide),if_neg (by decide)]
 exact⟨rfl,rfl⟩
theorem Jlp{l:List Fx}{k:Int}(h:TrackOK l){j:Nat}(hj:j+1 < l.length)(h1:(l.getD j default).t<=k)(h2:k < (l.getD (j+1) default).t):∀ m,j < m->m < l.length->atI l k m=j
 | 0,h3,_=>absurd h3 (by omega)
 | m+1,h3,h4=>by
  simp only[atI]
  by_cases e:j=m
  . rw[<- e,if_pos h1]
  have:=Xm h (j+1) m (by omega) (by omega)
  rw[if_neg (by omega)]
  exact Jlp h hj h1 h2 m (by omega) (by omega)
theorem Jhb{l:List Fx}{k:Int}(h:TrackOK l)(hs:JB l-Jm l<=1000){j:Nat}(hj:j+1 < l.length)(h1:(l.getD j default).t<=k)(h2:k < (l.getD (j+1) default).t):Qf l k=0/\rAt l k=atV (l.getD j default) (l.getD (j+1) default) k:=by
 have hz:=Jb6 h hs
 have hi:=Jlp h hj h1 h2 (l.length-1) (by omega) (by omega)
 have m1:=Xm h 0 j (Nat.zero_le _) (by omega)
 have m2:=Xm h (j+1) (l.length-1) (by omega) (by omega)
 have ho:JmO l k=false:=by
  unfold JmO Jm JB
  rw[decide_eq_false (by omega),if_neg (by decide),decide_eq_false (by omega)]
 unfold Qf rAt atA atB
 rw[hz,ho,hi,if_neg (by decide),if_neg (by decide),if_neg (by decide)]
 exact⟨rfl,rfl⟩
theorem at_ex{l:List Fx}{k:Int}(h:TrackOK l)(h1:Jm l<=k)(h2:k < JB l):∃ j,j+1 < l.length/\(l.getD j default).t<=k/\k < (l.getD (j+1) default).t:=by
 have hs:=Jp4 h h1 h2
 have hi:=Jeg (l:=l) (tk:=k) (m:=l.length-1) (by have:=h.n1;omega)
 exact⟨_,by omega,hs⟩
theorem LatOK.at1{a l:List Fx}{d k:Int}(h:LatOK a l d)(h1:Jm a<=k)(h2:k < JB a):Qf (a++l.map (shF d)) k=0/\Qf a k=0/\rAt (a++l.map (shF d)) k=rAt a k:=by
 obtain⟨j,hj,a1,a2⟩:=at_ex h.ka h1 h2
 obtain⟨o,o1,o2⟩:=h.jn
 have v:=Jhb h.ka (by have:=h.sa;omega) hj a1 a2
 have s1:=h.sa;have s2:=h.sl;have e2:=h.d2
 have w:=Jhb (k:=k) (j:=j) o (by omega) (by rw[Kf];omega) (by rw[JiI (by omega)];exact a1) (by rw[JiI (by omega)];exact a2)
 refine⟨w.1,v.1,?_⟩
 rw[w.2,v.2,JiI (by omega),JiI (by omega)]
theorem LatOK.at2{a l:List Fx}{d k:Int}(h:LatOK a l d)(h1:Jm (l.map (shF d))<=k)(h2:k < JB (l.map (shF d))):Qf (a++l.map (shF d)) k=0/\Qf (l.map (shF d)) k=0/\rAt (a++l.map (shF d)) k=rAt (l.map (shF d)) k:=by
 obtain⟨j,hj,a1,a2⟩:=at_ex h.ok h1 h2
 obtain⟨o,o1,o2⟩:=h.jn
 have s1:=h.sa;have s2:=h.sl;have e2:=h.d2
 have v:=Jhb h.ok (by rw[h.fst,h.lst];omega) hj a1 a2
 have w:=Jhb (k:=k) (j:=a.length+j) o (by omega) (by rw[Kf];omega) (by rw[Jl7];exact a1) (by rw[show a.length+j+1=a.length+(j+1) by omega,Jl7];exact a2)
 refine⟨w.1,v.1,?_⟩
 rw[w.2,v.2,Jl7,show a.length+j+1=a.length+(j+1) by omega,Jl7]
def tkF(l:List Fx)(n:Int):Int:=Jm l+n.tmod (JB l-Jm l)
theorem tk_in{l:List Fx}{n:Int}(h:TrackOK l)(hn:0<=n):Jm l<=tkF l n/\tkF l n < JB l:=by
 have hl:=h.n1
 have hp:Jm l < JB l:=t_lt h (by omega) (by omega)
 unfold tkF
 rw[Int.tmod_eq_emod_of_nonneg hn]
 have:=Int.emod_nonneg n (show JB l-Jm l ≠ 0 by omega)
 have:=Int.emod_lt_of_pos n (show 0 < JB l-Jm l by omega)
 omega
end Go.Proofs.YtjhjmncjidbieaaGreatDoor
