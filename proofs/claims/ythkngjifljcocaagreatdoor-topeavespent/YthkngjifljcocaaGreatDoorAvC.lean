/-
  The abstract step is sound: calls and builtins, and the whole. One operation of a region, with its guard, on abstract slots. Abstract states, and regions whose order is the text's. No condition but the theorems' own.
-/
import Derived.Test.YthkngjifljcocaaGreatDoorAvB
import Derived.Orders
import Derived.Laws.Sem
import Derived.RangeFuncLeaves
import Derived.RangeFuncRecord
namespace Go.Av
open Go Go.RowKit
section
variable {K : Ctx} {ρ : Pl} {slot : Nat → Option AV} {B : Nat → ABlk} {a : Act} {w : World}
variable {nid : Nat} {o : Oper} {ins : List AV} {bs : BL} {ou : Out}
def XV(X0:Nat->Prop)(ρ:Pl)(B:Nat->ABlk)(b:Nat):Prop:=X0 b/\∀ id,(B id).alive->ρ id ≠ some b
theorem XV.xx{X0:Nat->Prop}{b:Nat}(h:XV X0 ρ B b):XX X0 ρ B b:=.inl h.1
theorem JnL{x:AV}{id:Nat}(h:id ∈ mids0 x):id ∈ mids1 x:=by cases x <;> simp_all [mids0,mids1]
theorem JdM{x:AV}(h:XM x=true):JJ x=true:=by cases x <;> simp_all [XM,JJ]
theorem V9(h:RelW K ρ slot B a w){X':Nat->Prop}{av av':AV}(hX':∀ b,¬ XX K.X0 ρ B b->¬ X' b)(hid':∀ id b,id ∈ mids0 av->(B id).alive->ρ id=some b->¬ X' b){v:Value}(hs:XZ bs av=some av')(hbs:∀ id,id ∈ mids0 av->Jr bs id=B id)
 (hv:SRep ρ B (XX K.X0 ρ B) w v av):Rep X' w v av':=by
 have toX:∀ {u:Value} {x:AV},Rep (XX K.X0 ρ B) w u x->Rep X' w u x:=fun hr=>Rep.mono (Kr _) (fun _ _ _=>rfl) (fun b _ hn=>hX' b hn) hr
 have pureCase:∀ {x:AV},JJ x=true->SRep ρ B (XX K.X0 ρ B) w v x->Rep X' w v x:=fun hp hr=>toX (SRep.one1 hp hr)
 cases av with
 | own id n =>
  simp only[XZ]at hs
  rw[hbs id (by simp[mids0])]at hs
  cases hB:B id with
  | buf e k rows =>
   rw[hB]at hs
   simp only at hs
   cases hs
   obtain⟨h2,hown⟩:=(show SRep0 ρ B (XX K.X0 ρ B) w v (.own id n)from hv).2 e k rows hB
   have hal:(B id).alive:=by rw[hB];trivial
   have hbl:=h.blks id
   unfold BlkOK at hbl
   rw[hB]at hbl
   obtain⟨hk,hmx,hbl⟩:=hbl
   rcases hown with⟨h3,rfl⟩ | ⟨b,cap,cur,hr,rfl,hh,hn,hm,hsz⟩
   . rcases hbl with⟨_,rfl⟩ | ⟨b,cur,hr,_⟩
     . exact .slE none 0 k
     rw[h3]at hr;cases hr
   rcases hbl with⟨h3,_⟩ | ⟨b',cur',hr',hh',hs',hc'⟩
   . rw[hr]at h3;cases h3
   rw[hr]at hr'
   cases hr'
   rw[hh]at hh'
   cases hh'
   subst h2
   refine .sl b 0 cap k rows (fun i j=>cur.getD (i * k+j) undef) (h.live id b hal hr).2.2 (hid' id b (by simp[mids0]) hal hr) hn hmx hk (fun i hi j hj=>?_) (fun i hi j hj=>toX (hc' i hi j hj).2) (fun i hi j hj=>(hc' i hi j hj).1)
   have hlt:i * k+j < cur.size:=K0 (J2 hi hj) hs'
   rw[Nat.zero_add,cell_of_row w b _ cur e (0,0) hh]
   simp[Array.getD,hlt]
  | _=>rw[hB]at hs;simp at hs
 | ptr id off =>
  simp only[XZ]at hs
  rw[hbs id (by simp[mids0])]at hs
  cases hB:B id with
  | box cells =>
   rw[hB]at hs
   simp only at hs
   split at hs
   . rename_i hb
     cases hs
     simp only[Kd]at hb
     have hal:(B id).alive:=by rw[hB];trivial
     have hbl:=h.blks id
     unfold BlkOK at hbl
     rw[hB]at hbl
     obtain⟨b,cs,T,hr,hh,hsz,hc⟩:=hbl
     obtain⟨b',hr',rfl⟩:=(show SRep0 ρ B (XX K.X0 ρ B) w v (.ptr id off)from hv).2 cells hB
     rw[hr]at hr'
     cases hr'
     have:=Rep.elt (X:=X') (w:=w) b 0 cells.length [cells] 0 off (fun _ j=>cs.getD j undef) (h.live id b hal hr).2.2 (hid' id b (by simp[mids0]) hal hr) (by simp)
      (fun i hi=>by simp at hi;subst hi;rfl)
      (fun i hi j hj=>by
       simp at hi;subst hi
       rw[Nat.zero_mul,Nat.zero_add,cell_of_row w b _ cs T (0,0) hh]
       have:j < cs.size:=by omega
       simp[Array.getD,this])
      (fun i hi j hj=>by
       simp at hi;subst hi
       refine toX (SRep1.rep (JdM ?_) (hc j hj).2)
       exact List.all_eq_true.1 hb.1 _ (Qe hj))
      (fun i hi j hj=>(hc j hj).1)
     simpa using this
   cases hs
  | _=>rw[hB]at hs;simp at hs
 | optr _ _ _ | gv _ _=>simp[XZ,JJ]at hs
 | _ =>
  simp only[XZ]at hs
  split at hs
  . rename_i hp
    cases hs
    exact pureCase hp hv
  cases hs
theorem JmT(h:RelW K ρ slot B a w){av av':AV}{v:Value}(hs:XZ bs av=some av')(hbs:∀ id,id ∈ mids0 av->Jr bs id=B id)
 (hv:SRep ρ B (XX K.X0 ρ B) w v av):Rep (XV K.X0 ρ B) w v av' :=
 V9 h (fun _ hn hx=>hn hx.xx) (fun id _ _ hal hr hx=>hx.2 id hal hr) hs hbs hv
theorem JaN(h:RelW K ρ slot B a w):∀ {l l':List AV} {vs:List Value},Xp bs l=some l'->(∀ id,id ∈ l.flatMap mids0->Jr bs id=B id)->Z (SRep ρ B (XX K.X0 ρ B) w) vs l->Z (Rep (XV K.X0 ρ B) w) vs l'
 | [],l',vs,hs,_,hz=>by
  simp only[Xp]at hs
  cases hs
  have:=hz.1
  match vs,this with
  | [],_=>exact Z.nil
 | x::l,l',vs,hs,hbs,hz=>by
  simp only[Xp]at hs
  split at hs
  . rename_i y m hy hm
    cases hs
    match vs,hz.1 with
    | v::vs,_ =>
     obtain⟨h1,h2⟩:=hz.uncons
     exact Z.cons (JmT h hy (fun id hid=>hbs id (by simp[hid])) h1) (JaN h hm (fun id hid=>hbs id (by simp only[List.flatMap_cons,Kp];exact .inr hid)) h2)
  cases hs
theorem Jac{X X':Nat->Prop}{w w':World}{v:Value}{r:AV}(hf:JbU r=true)(h:Rep X w v r):Rep X' w' v r:=by
 cases h with
 | int k n=>exact .int k n
 | bool b=>exact .bool b
 | str l=>exact .str l
 | ex v h=>exact .ex v h
 | any v h=>exact .any v h
 | _=>simp[JbU]at hf
theorem JkL{X X':Nat->Prop}{w w':World}{v:Value}{r:AV}(hf:JpA r=true)(h:Rep X w v r):Rep X' w' v r:=by
 cases h with
 | agg cs l hr h1=>exact .agg cs l (fun i hi=>Jac (List.all_eq_true.1 hf _ (Qe hi)) (hr i hi)) h1
 | tup cs l hr=>exact .tup cs l (fun i hi=>Jac (List.all_eq_true.1 hf _ (Qe hi)) (hr i hi))
 | int k n=>exact .int k n
 | bool b=>exact .bool b
 | str l=>exact .str l
 | ex v h=>exact .ex v h
 | any v h=>exact .any v h
 | _=>simp[JpA,JbU]at hf
theorem Jka{X:Nat->Prop}{n:Nat}{w':World}{v:Value}{r:AV}(hp:JJ r=true)(h:ResR X n w' v r):Rep X w' v r:=by
 cases r with
 | fresh _ _ _=>simp[JJ]at hp
 | fbox _ _=>simp[JJ]at hp
 | _=>exact h
theorem JkK{X:Nat->Prop}{n:Nat}{w':World}{v:Value}{r:AV}(hp:JpA r=true)(h:ResR X n w' v r):Rep X w' v r:=by
 cases r with
 | fresh _ _ _=>simp[JpA,JbU]at hp
 | fbox _ _=>simp[JpA,JbU]at hp
 | _=>exact h
theorem Jga{X X':Nat->Prop}{n:Nat}{w':World}{v:Value}{e k:Nat}{rows:List (List AV)}(hf:rows.all (fun l=>l.all JbU)=true)(h:Jcj X n w' v e k rows):Jcj X' n w' v e k rows:=by
 obtain⟨hk,hm,h | ⟨b,cap,cur,hb,hv,hh,hc1,hc2,hsz,hR⟩⟩:=h
 . exact⟨hk,hm,.inl h⟩
 refine⟨hk,hm,.inr ⟨b,cap,cur,hb,hv,hh,hc1,hc2,hsz,hR.1,hR.2.1,fun i hi j hj=>⟨(hR.2.2 i hi j hj).1,Jac ?_ (hR.2.2 i hi j hj).2⟩⟩⟩
 have h1:Ji rows i ∈ rows:=by simp[Ji,List.getD_eq_getElem?_getD,List.getElem?_eq_getElem hi]
 exact List.all_eq_true.1 (List.all_eq_true.1 hf _ h1) _ (Qe (by rw[hk i hi];exact hj))
def Obl.ok(P:Program)(G:List (Nat × List AV))(L:List (List AV)):Obl->Prop
 | .call f args r=>PCall P G f args r
 | .next rows x=>∃ post,L=rows++x::post
 | .same a b=>a=b
 | .hand f args bs r fin=>WCall P G f args bs r fin
def Grow(K:Ctx)(X':Nat->Prop):Prop:=(∀ b,K.X0 b->X' b)/\∀ b,X' b->K.X0 b ∨ K.w0.heap.size<=b
theorem Grow.refl(K:Ctx):Grow K K.X0:=⟨fun _ h=>h,fun _ h=>.inl h⟩
theorem Grow.trans{X X':Nat->Prop}(h:Grow K X)(h':Grow (K.withX X) X'):Grow K X':=⟨fun b hb=>h'.1 b (h.1 b hb),fun b hb=>(h'.2 b hb).elim (h.2 b) .inr⟩
def Jjj(K:Ctx)(slot:Nat->Option AV)(B:Nat->ABlk)(a:Act)(wr:BL)(av:AV)(v:Value)(w':World):Prop :=
 ∃ X' ρ',Grow K X'/\RelW (K.withX X') ρ' slot (wrB B wr) a w'/\SRep ρ' (wrB B wr) (XX X' ρ' (wrB B wr)) w' v av
theorem Post.toX{wr:BL}{av:AV}{v:Value}{w':World}(h:Post K slot B a wr av v w'):Jjj K slot B a wr av v w' :=
 let ⟨ρ',h1,h2⟩:=h
 ⟨K.X0,ρ',Grow.refl K,h1,h2⟩
abbrev JlD(K:Ctx)(slot:Nat->Option AV)(B:Nat->ABlk)(a:Act)(w:World)(o:Oper)(ou:Out):Prop:=Does K.P o a w (Jjj K slot B a ou.wr ou.v)
theorem RelW.round(h:RelW K ρ slot B a w){blk:ABlk}{X':Nat->Prop}{w':World}(h0:¬ (B 0).alive)(h1:¬ blk.alive)(hk:Keeps K.F K.w0.heap.size w w')
 (_:∀ b,K.X0 b->X' b)(hg2:∀ b,X' b->K.X0 b ∨ w.heap.size<=b)(hg3:∀ b,X' b->b < w'.heap.size)(hsame:∀ b,b < w.heap.size->¬ K.X0 b->w'.heap[b]?=w.heap[b]?)
 (hR:∀ l k n bv,Yb B w l k n bv->Yb (upd B 0 blk) w' l k n bv)(hdf:a.defers=[])(ht:Tr (K.withX X') ρ (upd B 0 blk) w'):RelW (K.withX X') ρ slot (upd B 0 blk) a w':=by
 have hal:∀ i,((upd B 0 blk) i).alive->(upd B 0 blk) i=B i/\(B i).alive:=by
  intro i ha
  by_cases e:i=0
  . subst e;rw[Jb]at ha;exact absurd ha h1
  rw[Jf _ _ e]at ha ⊢;exact⟨rfl,ha⟩
 have hX:∀ b,b < w.heap.size->¬ XX K.X0 ρ B b->¬ XX X' ρ (upd B 0 blk) b:=by
  rintro b hb hn (hx | ⟨i,ha,hr⟩)
  . rcases hg2 b hx with h2 | h2
    . exact hn (.inl h2)
    omega
  exact hn (.inr ⟨i,(hal i ha).2,hr⟩)
 have hread:∀ b,b < w.heap.size->¬ XX K.X0 ρ B b->w'.heap[b]?=w.heap[b]?:=fun b hb hn=>hsame b hb (fun hx=>hn (.inl hx))
 have hown:∀ i b,(B i).alive->ρ i=some b->w'.heap[b]?=w.heap[b]?:=fun i b ha hr=>hsame b (h.live i b ha hr).2.2 (h.live i b ha hr).2.1
 have hB:∀ i,((upd B 0 blk) i).alive->sameMake (B i) ((upd B 0 blk) i)/\ρ i=ρ i/\∀ b,ρ i=some b->sameSize w w' b:=by
  intro i ha
  obtain⟨h2,h3⟩:=hal i ha
  rw[h2]
  exact⟨sameMake.refl h3,rfl,fun b hr cur e hh=>⟨cur,by rw[hown i b h3 hr];exact hh,rfl⟩⟩
 refine⟨⟨[],by rw[hdf];rfl,List.nodup_nil,fun D hD=>(by cases hD),fun _=>hdf⟩,h.size,h.keeps.trans hk,hg3,fun g cells hg=>?_,fun i b ha hr=>?_,fun i i' b ha ha' hr hr'=>h.inj i i' b (hal i ha).2 (hal i' ha').2 hr hr',fun i=>?_,fun t av ht=>⟨(h.slots t av ht).1,?_⟩,ht,fun _=>hdf,fun i hi=>by
  obtain⟨⟨cells,hc⟩,hr⟩:=h.anc i hi
  have e:i ≠ 0:=fun e=>h0 (by rw[<- e,hc];trivial)
  exact⟨⟨cells,by rw[Jf _ _ e];exact hc⟩,hr⟩,fun n e=>by rw[Jb]at e;exact absurd (by rw[e];trivial) h1⟩
 . refine GlobOK.mono hk.size (fun b hlt hn=>?_) (fun b hlt hn=>?_) (h.glob g cells hg)
   . simp only[XG,not_or]at hn
     exact hsame b hlt hn.1
   simp only[XG,not_or]at hn ⊢
   exact⟨fun hx=>(hg2 b hx).elim hn.1 (fun h=>by omega),hn.2⟩
 . obtain⟨h2,h3⟩:=hal i ha
   have hl:=h.live i b h3 hr
   exact⟨hl.1,fun hx=>(hg2 b hx).elim hl.2.1 (fun h=>by omega),K0 hl.2.2 hk.size⟩
 . by_cases ha:((upd B 0 blk) i).alive
   . obtain⟨h2,h3⟩:=hal i ha
     exact BlkOK.mono hk.size hread hX h2 rfl (fun b hr=>hown i b h3 hr) (fun j _=>hB j) hR (h.blks i)
   exact Jy ha
 . exact SRep.mono hk.size hread hX (fun i _=>hB i) hR (h.slots t av ht).2
theorem RelW.retrace(h:RelW K ρ slot B a w){blk:ABlk}(h0:¬ (B 0).alive)(h1:¬ blk.alive)(hR:∀ l k n bv,Yb B w l k n bv->Yb (upd B 0 blk) w l k n bv)(hdf:a.defers=[])(ht:Tr K ρ (upd B 0 blk) w):RelW K ρ slot (upd B 0 blk) a w :=
 h.round (X':=K.X0) h0 h1 (Keeps.refl _ _ _) (fun _ h=>h) (fun _ h=>.inl h) h.x0 (fun _ _ _=>rfl) hR hdf ht
theorem JbA{blk:ABlk}(_:¬ (B 0).alive)(h1:¬ blk.alive):∀ b,own ρ (upd B 0 blk) b->own ρ B b:=by
 rintro b ⟨i,ha,hr⟩
 by_cases e:i=0
 . subst e;rw[Jb]at ha;exact absurd ha h1
 rw[Jf _ _ e]at ha;exact⟨i,ha,hr⟩
theorem Jne(s:Setup K ρ slot B a w nid o ins bs){c:Call}{f:Operand}(ho:o.op=.call c)(hcc:c.callee=.value f){l:Nat}{args:List AV}{rows:List (List AV)}(hf:SRep ρ B (XX K.X0 ρ B) w (a.eval f) (.yld l))(hi:Xe ρ B (XX K.X0 ρ B) w a c.args.toList args)
 (hp:args.all JJ=true)(hB:B 0=.ready l rows)(hob:∃ post,K.L=rows++args::post):JlD K slot B a w o ⟨.yb l (rows.length+1) false,[(0,.trace l (rows++[args]))],[],[]⟩:=by
 have h:=s.rel
 have h0:¬ (B 0).alive:=by rw[hB];exact fun h=>h
 obtain⟨hXl,hJ⟩:=h.trc.rd l rows hB
 obtain⟨post,hL⟩:=hob
 have hz:=(XE hi).mono_mem fun v x hm hv=>SRep.one1 (List.all_eq_true.1 hp x hm) hv
 obtain⟨fn,tmps,assign,body,hy,hR⟩:=h.trc.yok l rows K.X0 (own ρ B) w _ args post hL hJ h.x0 (fun b ⟨i,ha,hr⟩=>⟨(h.live i b ha hr).2.2,(h.live i b ha hr).2.1⟩) hz
 have hfv:a.eval f=.func (.yield l) #[] #[]:=hf
 intro r n next Q hn
 have hrun:(execOp a.eval o).run K.P w=.ok (.round l fn tmps assign body) w:=by
  unfold execOp
  rw[ho]
  simp only[Ki,resolve,hcc,hfv,Deferred.ofValue,Sem.run_pure,Ke,invoke]
  rw[show(c.args.toList.map a.eval).toArray=c.args.map a.eval from by apply Array.ext';simp]at hy
  simpa using hy
 refine⟨fun _ _=>trivial,?_⟩
 rw[show(fen r).round=r from rfl,X7 r hrun rfl]
 refine⟨fun h=>by simp[fen,Fence.wide]at h,RoundIn.mono (show RoundIn (fen r) (n-1) K.P l fn tmps assign body w _ from hR (n-1)) ?_⟩
 rintro e w' ⟨X',rfl,hos,htape,hout,hsize,hg1,hg2,hg3,hsame,hj,hd⟩
 have hfx:=h.trc.fx (by rw[hB];trivial)
 have hk:Keeps K.F K.w0.heap.size w w':=⟨hos,htape,hout,hsize,fun b hb hF=>hsame b (K0 hb h.le_size) (fun hx=>hF (hfx b hx hb))⟩
 have h1:¬ (ABlk.trace l (rows++[args])).alive:=fun h=>h
 have hst:WStep (own ρ B) (own ρ (upd B 0 (.trace l (rows++[args])))) w' w':=.refl (JbA h0 h1)
 have htr:Tr (K.withX X') ρ (upd B 0 (.trace l (rows++[args]))) w':=by
  refine⟨h.trc.stab,h.trc.yok,fun _ b hx hb=>?_,fun l' rows' e=>?_,fun l' rows' e=>?_,fun l' e=>?_⟩
  . rcases hg2 b hx with h2 | h2
    . exact hfx b h2 hb
    have:=h.le_size
    have:b < K.w0.heap.size:=hb
    omega
  . rw[Jb]at e;cases e
  . rw[Jb]at e
    cases e
    exact⟨hg1 l hXl,fun e=>h.trc.stab.j _ _ _ _ _ _ _ (hj e) hst,fun e=>h.trc.stab.d _ _ _ _ _ _ (hd e) hst⟩
  rw[Jb]at e;cases e
 have hyb:∀ l' k nn bv,Yb B w l' k nn bv->Yb (upd B 0 (.trace l (rows++[args]))) w' l' k nn bv:=by
  intro l' k nn bv hyy
  have hle:=hyy.2.1 l rows hB
  refine⟨fun rows' e hlen=>?_,fun l2 rows' e=>?_,fun l2 rows' e=>?_⟩
  . rw[Jb]at e
    cases e
    simp at hlen
    omega
  . rw[Jb]at e;cases e
  rw[Jb]at e
  cases e
  simp
  omega
 have hrel:=h.round (blk:=.trace l (rows++[args])) h0 h1 hk hg1 hg2 hg3 hsame hyb (h.dt (by rw[hB];trivial)) htr
 refine hn _ w' ⟨X',ρ,⟨hg1,fun b hx=>(hg2 b hx).imp id (fun h2=>Nat.le_trans h.le_size h2)⟩,hrel,?_⟩
 refine⟨rdy w' l,rfl,fun rows' e _=>by simp,fun l' rows' e=>?_,fun l' rows' e=>?_⟩
 . rw[show wrB B [(0,ABlk.trace l (rows++[args]))] 0=.trace l (rows++[args])from Jb _ _ _]at e;cases e
 . rw[show wrB B [(0,ABlk.trace l (rows++[args]))] 0=.trace l (rows++[args])from Jb _ _ _]at e;cases e;simp
theorem Xy{l:List Nat}{x:Nat}(h:l.any (fun i=>i.beq x)=false):x ∉ l:=fun hm=>by
 have:=List.any_eq_false.1 h x hm
 exact this (Nat.beq_refl _)
theorem s_hand(s:Setup K ρ slot B a w nid o ins bs){c:Call}{f:Operand}(ho:o.op=.call c)(hcc:c.callee=.value f){g:Nat}{fst cap args:List AV}(hins:ins=.fn (.func g) fst cap::args)
 {r:AV}{fin:List ABlk}(h:Jd7 bs nid g (US bs 2 (QU (ins.flatMap mids1) [])) (fst++args++cap) r fin=some ou)(hc:All ou.cond)(hob:∀ ob,ob ∈ ou.obl->ob.ok K.P K.G K.L):JlD K slot B a w o ou:=by
 obtain⟨xs,hx,hi⟩:=s.ops
 rw[ho]at hx
 simp only[QP,hcc]at hx
 cases hx
 have hn:∀ id,id ∈ US bs 2 (QU (ins.flatMap mids1) [])->Jr bs id=B id:=fun id hid=>s.bsd id (by rw[ho];exact hid)
 have hsub:∀ id,id ∈ ins.flatMap mids1->id ∈ US bs 2 (QU (ins.flatMap mids1) []):=fun id hid=>Jaf (mem_addAll.2 (.inl hid))
 generalize US bs 2 (QU (ins.flatMap mids1) [])=σ at *
 subst hins
 obtain⟨hf,hi⟩:=hi
 have hcapd:∀ x,x ∈ fst ∨ x ∈ cap->∀ id,id ∈ mids1 x->id ∈ mids0 x:=by
  obtain⟨fs,ks,_,h1,h2⟩:=(show SRep1 ρ B (XX K.X0 ρ B) w (a.eval f) (.fn (.func g) fst cap)from hf)
  intro x hx id hid
  have hr:∃ v,SRep0 ρ B (XX K.X0 ρ B) w v x:=by
   rcases hx with hx | hx
   . obtain⟨i,hi,e⟩:=List.mem_iff_getElem.1 hx
     have:=h1 i hi
     rw[JV (Kj hi),e]at this
     exact⟨_,this⟩
   obtain⟨i,hi,e⟩:=List.mem_iff_getElem.1 hx
   have:=h2 i hi
   rw[JV (Kj hi),e]at this
   exact⟨_,this⟩
  obtain⟨v,hv⟩:=hr
  cases x with
  | fn q l m =>
   have hv:Rep (XX K.X0 ρ B) w v (.fn q l m):=hv
   rw[hv.mids1]at hid
   cases hid
  | _=>exact hid
 have eL:(σ.map fun id=>JM (JaG σ) (Jr bs id))=UT σ B:=List.map_congr_left fun id hid=>by rw[hn id hid]
 unfold Jd7 at h
 rw[eL]at h
 split at h
 . rename_i cs hmk
   split at h
   . rename_i hb
     cases h
     simp only[Kd,Ks]at hb
     obtain⟨b1,b2,b3,b4,b5,b6,b7,b8⟩:=hb
     refine(Jn1 (σ:=σ) s.rel s.fresh ho hcc hf hi b1 (Xy b2) (Xy b3) (fun id hid hm=>?_) (fun x hx=>?_) (fun x hx id hid=>hsub id ?_) hmk hc (by simpa using b5) (fun id hid=>List.all_eq_true.1 b6 id hid)
      (fun b hbm id hid=>List.all_eq_true.1 b7 id (List.mem_flatMap.2 ⟨b,hbm,hid⟩)) (hob (.hand g _ _ r fin) (List.mem_singleton.2 rfl))).mono fun _ _=>Post.toX
     . rw[<- hn id hid]at hm
       have:=List.all_eq_true.1 b8 0 (List.mem_flatMap.2 ⟨id,hid,hm⟩)
       simp at this
     . simpa using List.all_eq_true.1 b4 x hx
     simp only[Kp]at hx
     rcases hx with(hx | hx) | hx
     . exact List.mem_flatMap.2 ⟨_,List.mem_cons_self ..,List.mem_flatMap.2 ⟨x,List.mem_append_left _ hx,hcapd x (.inl hx) id hid⟩⟩
     . exact List.mem_flatMap.2 ⟨x,List.mem_cons_of_mem _ hx,hid⟩
     exact List.mem_flatMap.2 ⟨_,List.mem_cons_self ..,List.mem_flatMap.2 ⟨x,List.mem_append_right _ hx,hcapd x (.inr hx) id hid⟩⟩
   cases h
 . cases h
theorem s_call(s:Setup K ρ slot B a w nid o ins bs){c:Call}{f:Operand}(ho:o.op=.call c)(hcc:c.callee=.value f){res:AV}(h:JoB nid bs res ins=some ou)(hc:All ou.cond)(hob:∀ ob,ob ∈ ou.obl->ob.ok K.P K.G K.L):JlD K slot B a w o ou:=by
 obtain⟨xs,hx,hi⟩:=s.ops
 rw[ho]at hx
 simp only[QP,hcc]at hx
 cases hx
 have hn:∀ id,id ∈ ins.flatMap mids1->Jr bs id=B id:=fun id hid=>s.bs id (by rw[ho];exact hid)
 unfold JoB at h
 split at h
 . rename_i g fst cap args
   split at h
   . exact s_hand s ho hcc rfl h hc hob
   obtain⟨hf,hi⟩:=hi
   unfold JiJ at h
   split at h
   . rename_i hp
     have key:∀ {wr:BL} {av:AV},(∀ w' v,Below w.heap.size w w'->RelW K ρ slot B a w'->ResR (XX K.X0 ρ B) w.heap.size w' v res->Post K slot B a wr av v w')->PCall K.P K.G g (fst++args++cap) res->Does K.P o a w (Post K slot B a wr av):=fun hr hc =>
      JiH s.rel ho hcc hf hi (X:=XX K.X0 ρ B) (fun _ h=>h) (fun vs hz=>hz.mono_mem fun v x hm hv=>SRep.one1 (List.all_eq_true.1 hp x hm) hv) hr hc
     split at h
     . cases h
       exact(key (fun w' v hb _ hv=>s.rel.freshRes s.fresh hb hv) (hob (.call g _ _) (List.mem_singleton.2 rfl))).mono fun _ _=>Post.toX
     . cases h
       exact(key (fun w' v hb _ hv=>s.rel.freshBox s.fresh hb hv) (hob (.call g _ _) (List.mem_singleton.2 rfl))).mono fun _ _=>Post.toX
     split at h
     . rename_i hr
       cases h
       refine(key (wr:=[]) (fun w' v hb h' hv=>⟨ρ,h',SRep.of_rep ?_⟩) (hob (.call g _ _) (List.mem_singleton.2 rfl))).mono fun _ _=>Post.toX
       have:=Jka hr hv
       exact this
     cases h
   split at h
   . rename_i args' hva
     have key:∀ {wr:BL} {av:AV},(∀ w' v,Below w.heap.size w w'->RelW K ρ slot B a w'->ResR (XV K.X0 ρ B) w.heap.size w' v res->Post K slot B a wr av v w')->PCall K.P K.G g args' res->Does K.P o a w (Post K slot B a wr av):=fun hr hc=>by
      refine JiH s.rel ho hcc hf hi (X:=XV K.X0 ρ B) (fun _ h=>h.xx) (fun vs hz=>JaN s.rel hva (fun id hid=>hn id ?_) hz) hr hc
      simp only[Kn,Kp,Kq]at hid ⊢
      obtain⟨x,(hx | hx) | hx,hid⟩:=hid
      . exact⟨_,.inl rfl,by simp only[mids1,Kn,Kp];exact⟨x,.inl hx,hid⟩⟩
      . exact⟨x,.inr hx,JnL hid⟩
      exact⟨_,.inl rfl,by simp only[mids1,Kn,Kp];exact⟨x,.inr hx,hid⟩⟩
     split at h
     . split at h
       . rename_i hfl
         cases h
         refine(key (fun w' v hb _ hv=>s.rel.freshRes s.fresh hb (Jga hfl hv)) (hob (.call g _ _) (List.mem_singleton.2 rfl))).mono fun _ _=>Post.toX
       cases h
     split at h
     . rename_i hr
       cases h
       refine(key (wr:=[]) (fun w' v hb h' hv=>⟨ρ,h',SRep.of_rep ?_⟩) (hob (.call g _ _) (List.mem_singleton.2 rfl))).mono fun _ _=>Post.toX
       exact JkL hr (JkK hr hv)
     cases h
   cases h
 . rename_i l args
   obtain⟨hf,hi⟩:=hi
   split at h
   . rename_i hp
     rw[hn 0 (by simp[mids1,mids0])]at h
     cases hB:B 0 with
     | ready l' rows =>
      rw[hB]at h
      cases h
      obtain rfl:l=l':=hc.1
      exact Jne s ho hcc hf hi hp hB (hob (.next rows args) (List.mem_singleton.2 rfl))
     | _=>rw[hB]at h;cases h
   cases h
 cases h
theorem Xz{c:Call}(s:Setup K ρ slot B a w nid o ins bs)(ho:o.op=.call c){av:AV}(hm:av ∈ ins):∀ id,id ∈ mids1 av->Jr bs id=B id:=fun id hid =>
 s.bs id (by rw[ho];exact List.mem_flatMap.2 ⟨av,hm,hid⟩)
theorem args1{c:Call}{x:Operand}(h:c.args.toList=[x]):c.args=#[x]:=by
 cases hc:c.args;rw[hc]at h;simp at h;rw[h]
theorem Jc7{α:Type}{l:Array α}{x y:α}(h:l.toList=[x,y]):l=#[x,y]:=by
 cases l;simp at h;rw[h]
theorem s_len(s:Setup K ρ slot B a w nid o ins bs){c:Call}(ho:o.op=.call c)(hcb:c.callee=.builtin .len)(h:aLen K.T (c.argTypes[0]?) bs ins=some ou):XW K slot B a w o ou:=by
 obtain⟨xs,hx,hi⟩:=s.ops
 rw[ho]at hx
 simp only[QP,hcb]at hx
 cases hx
 unfold aLen at h
 split at h
 . rename_i av
   split at h
   . rename_i t hat
     split at h
     . rename_i ti hti
       split at h
       . rename_i n hn
         obtain rfl:=Jn h
         cases hl:c.args.toList with
         | nil=>rw[hl]at hi;exact hi.elim
         | cons x ys =>
          rw[hl]at hi
          cases ys with
          | cons _ _=>exact hi.2.elim
          | nil=>exact len_ok s.tok s.rel ho hcb (args1 hl) hat hti (Xz s ho (by simp)) hn hi.1
       cases h
     cases h
   cases h
 cases h
theorem s_cap(s:Setup K ρ slot B a w nid o ins bs){c:Call}(ho:o.op=.call c)(hcb:c.callee=.builtin .cap)(h:aCap K.T (c.argTypes[0]?) ins=some ou):XW K slot B a w o ou:=by
 obtain⟨xs,hx,hi⟩:=s.ops
 rw[ho]at hx
 simp only[QP,hcb]at hx
 cases hx
 unfold aCap at h
 split at h
 . rename_i v
   split at h
   . rename_i t hat
     split at h
     . rename_i ti hti
       split at h
       . rename_i e es eb hk
         split at h
         . rename_i hn
           obtain rfl:=Jn h
           obtain⟨d,inf,z,kk⟩:=Jk (s.tok t ti hti)
           cases hl:c.args.toList with
           | nil=>rw[hl]at hi;exact hi.elim
           | cons x ys =>
            rw[hl]at hi
            cases ys with
            | cons _ _=>exact hi.2.elim
            | nil =>
             have hxv:a.eval x=.slice none 0 0:=by rw[SRep.ex_inv hi.1];exact JD hn
             refine Does.pureV s.rel (v:=.int .i64 0) (J3 ho hcb ?_) (SRep.mk_int _ _)
             obtain⟨rfl,_⟩:=kk.sliceKind hk
             have hrun:(Builtin.cap_ c.argTypes o.type #[a.eval x]).run K.P w=.ok (.int .i64 0) w:=by
              unfold Builtin.cap_
              simp[hat,hxv,run_underlying kk.und,goInt]
             rw[args1 hl]
             simp only[builtin,List.map_toArray,List.map_cons,List.map_nil,Ki,hrun,Ke]
             rfl
         cases h
       cases h
     cases h
   cases h
 cases h
theorem JlK(s:Setup K ρ slot B a w nid o ins bs){c:Call}(ho:o.op=.call c){f:Int->Int->Int}(hcb:(c.callee=.builtin .min/\f=Jdj) ∨ (c.callee=.builtin .max/\f=QN))(h:Jk5 f ins=some ou):XW K slot B a w o ou:=by
 obtain⟨xs,hx,hi⟩:=s.ops
 rw[ho]at hx
 unfold Jk5 at h
 split at h
 . rename_i k x l
   split at h
   . rename_i r hr
     obtain rfl:=Jn h
     rcases hcb with⟨hcb,rfl⟩ | ⟨hcb,rfl⟩
     . simp only[QP,hcb]at hx
       cases hx
       exact min_ok s.rel ho hcb hi hr
     simp only[QP,hcb]at hx
     cases hx
     exact max_ok s.rel ho hcb hi hr
   cases h
 cases h
theorem Jg4{l:List Nat}{T:TT}{ti:TI}(h:two l T=some ti):∃ t,l=[t,t]/\lk t T=some ti:=by
 unfold two at h
 split at h
 . rename_i t u
   split at h
   . rename_i hb
     have:=Kc hb
     subst this
     exact⟨t,rfl,h⟩
   cases h
 cases h
theorem s_copy(s:Setup K ρ slot B a w nid o ins bs){c:Call}(ho:o.op=.call c)(hcb:c.callee=.builtin .copy)(h:JoA K.T c.argTypes.toList bs ins=some ou):XW K slot B a w o ou:=by
 obtain⟨xs,hx,hi⟩:=s.ops
 rw[ho]at hx
 simp only[QP,hcb]at hx
 cases hx
 unfold JoA at h
 split at h
 . rename_i id n x
   split at h
   . rename_i ti hti
     obtain⟨t,htt,hti⟩:=Jg4 hti
     split at h
     . rename_i e es eb hk
       split at h
       . rename_i xs hsrc
         rw[Xz s ho (av:=.own id n) (by simp) id (by simp[mids1,mids0])]at h
         split at h
         . rename_i e' k rows hB
           split at h
           . rename_i hb
             simp only[Kd,Ks]at hb
             cases h
             have h1:=Kc hb.1
             subst h1
             cases hl:c.args.toList with
             | nil=>rw[hl]at hi;exact hi.elim
             | cons x0 ys =>
              rw[hl]at hi
              match ys,hl,hi with
              | [y0],hl,hi=>exact Joj s.tok s.rel ho hcb (Jc7 hl) (Jc7 htt) hti hk (Nat.ne_of_beq_eq_false hb.2) (JlH s.rel hsrc (Xz s ho (by simp)) hi.2.1) hi.1 hB
           cases h
         cases h
       cases h
     cases h
   cases h
 cases h
theorem Jnl(s:Setup K ρ slot B a w nid o ins bs){c:Call}(ho:o.op=.call c)(hcb:c.callee=.builtin .clear)(h:JiU K.T c.argTypes.toList bs ins=some ou):XW K slot B a w o ou:=by
 obtain⟨xs,hx,hi⟩:=s.ops
 rw[ho]at hx
 simp only[QP,hcb]at hx
 cases hx
 unfold JiU at h
 split at h
 . rename_i id lo n
   split at h
   . rename_i t ht
     split at h
     . rename_i ti hti
       split at h
       . rename_i e es eb hk
         split at h
         . rename_i te hte
           rw[Xz s ho (av:=.osl id lo n) (by simp) id (by simp[mids1,mids0])]at h
           split at h
           . rename_i e' k rows hB
             split at h
             . rename_i hb
               simp only[Kd,Ks]at hb
               cases h
               have h1:=Kc hb.1.1.2
               subst h1
               have hat:c.argTypes=#[t]:=by
                rw[<- Array.toArray_toList (xs:=c.argTypes),ht]
               cases hl:c.args.toList with
               | nil=>rw[hl]at hi;exact hi.elim
               | cons x0 ys =>
                rw[hl]at hi
                match ys,hl,hi with
                | [],hl,hi =>
                 have hargs:c.args=#[x0]:=by
                  rw[<- Array.toArray_toList (xs:=c.args),hl]
                 exact JkV s.tok s.rel ho hcb hargs hat hti hk hte (Kc hb.1.2) (Nat.ne_of_beq_eq_false hb.2) hi.1 hB
                | _::_,_,hi=>exact hi.2.elim
             cases h
           cases h
         cases h
       cases h
     cases h
   cases h
 cases h
theorem JjZ(s:Setup K ρ slot B a w nid o ins bs){c:Call}(ho:o.op=.call c)(hcb:c.callee=.builtin .append)(h:Jev K.T nid c.argTypes.toList bs ins=some ou)(hc:All ou.cond):XW K slot B a w o ou:=by
 obtain⟨xs,hx,hi⟩:=s.ops
 rw[ho]at hx
 simp only[QP,hcb]at hx
 cases hx
 unfold Jev at h
 split at h
 . rename_i sv x
   split at h
   . rename_i ti hti
     obtain⟨t,htt,hti⟩:=Jg4 hti
     split at h
     . rename_i e es eb hk
       split at h
       . rename_i te hte
         split at h
         . rename_i xs hsrc
           have hsrc':=fun {y0:Operand} (hy:SRep ρ B (XX K.X0 ρ B) w (a.eval y0) x)=>JlH s.rel hsrc (Xz s ho (by simp)) hy
           cases hl:c.args.toList with
           | nil=>rw[hl]at hi;exact hi.elim
           | cons x0 ys =>
            rw[hl]at hi
            match ys,hl,hi with
            | [y0],hl,hi =>
             split at h
             . rename_i id n _
               rw[Xz s ho (av:=.own id n) (by simp) id (by simp[mids1,mids0])]at h
               split at h
               . rename_i e' k rows hB
                 split at h
                 . rename_i hb
                   simp only[Kd,Ks]at hb
                   cases h
                   have h0:=Kc hb.1.1
                   subst h0
                   have h1:=Kc hb.1.2
                   subst h1
                   obtain⟨h2,hown⟩:=(show SRep0 ρ B (XX K.X0 ρ B) w (a.eval x0) (.own id n)from hi.1).2 _ _ _ hB
                   subst h2
                   have hal:(B id).alive:=by rw[hB];trivial
                   have hbl:=s.rel.blks id
                   unfold BlkOK at hbl
                   rw[hB]at hbl
                   obtain⟨hkr,hmx,hbl⟩:=hbl
                   have:=Jas (id:=id) s.tok s.rel s.fresh (fun cells e=>by rw[hB]at e;cases e) ho hcb (Jc7 hl) (Jc7 htt) hti hk hte (Nat.ne_of_beq_eq_false hb.2) (rows:=rows) (hsrc' hi.2.1) (by
                    rcases hown with⟨h3,h4⟩ | ⟨b,cap,cur,hr,hv,hh,hn,hm,hsz⟩
                    . rcases hbl with⟨_,h5⟩ | ⟨b,cur,hr,_⟩
                      . exact .inl ⟨h4,h5⟩
                      rw[h3]at hr;cases hr
                    . rcases hbl with⟨h3,_⟩ | ⟨b',cur',hr',hh',hs',hc'⟩
                      . rw[hr]at h3;cases h3
                      . rw[hr]at hr'
                        cases hr'
                        rw[hh]at hh'
                        cases hh'
                        exact .inr ⟨b,cap,cur,⟨hal,hr⟩,hv,hh,hn,hm,hsz,hkr,hs',hc'⟩) hc.1 hc.2.1
                   simpa using this
                 cases h
               cases h
             . rename_i v _
               split at h
               . rename_i hb
                 simp only[Kd,Ks]at hb
                 cases h
                 have hv:a.eval x0=.slice none 0 0:=by
                  have:=SRep.ex_inv hi.1
                  rw[this];exact JD hb.1
                 have:=Jas (id:=nid) s.tok s.rel s.fresh (fun cells e=>s.fresh.dead (by rw[e];trivial)) ho hcb (Jc7 hl) (Jc7 htt) hti hk hte (Nat.ne_of_beq_eq_false hb.2) (rows:=[]) (hsrc' hi.2.1) (.inl ⟨hv,rfl⟩) (by simpa using hc.1) (by simpa using hc.2.1)
                 have e1:wrB B [(nid,.buf e es ([]++xs)),(nid,.dead)]=wrB B [(nid,.buf e es xs)]:=by
                  simp only[wrB,List.nil_append,Xq]
                 have e2:Post K slot B a [(nid,.buf e es ([]++xs)),(nid,.dead)]=Post K slot B a [(nid,.buf e es xs)]:=by
                  unfold Post
                  rw[e1]
                 rw[e2]at this
                 exact this
               cases h
             cases h
         cases h
       cases h
     cases h
   cases h
 cases h
theorem s_grow(s:Setup K ρ slot B a w nid o ins bs){c:Call}(ho:o.op=.call c)(hcb:c.callee=.builtin .append)(h:Joz K.T nid c.argTypes.toList ins=some ou)(hc:All ou.cond):XW K slot B a w o ou:=by
 obtain⟨xs,hx,hi⟩:=s.ops
 rw[ho]at hx
 simp only[QP,hcb]at hx
 cases hx
 unfold Joz at h
 split at h
 . rename_i v k n
   split at h
   . rename_i t u htt
     split at h
     . rename_i ti tu hti htu
       split at h
       . rename_i e es eb k' hk hku
         split at h
         . rename_i te hte
           split at h
           . rename_i hb
             simp only[Kd]at hb
             cases h
             cases hl:c.args.toList with
             | nil=>rw[hl]at hi;exact hi.elim
             | cons x0 ys =>
              rw[hl]at hi
              match ys,hl,hi with
              | [y0],hl,hi =>
               have hv:a.eval x0=.slice none 0 0:=by
                have:=SRep.ex_inv hi.1
                rw[this];exact JD hb.1
               exact Jil s.tok s.rel s.fresh ho hcb (Jc7 hl) (Jc7 htt) hti hk hte htu hku (Kc hb.2) hv (SRep.int_inv hi.2.1) hc.1 hc.2.1 hc.2.2.1
           cases h
         cases h
       cases h
     cases h
   cases h
 cases h
theorem Jav(s:Setup K ρ slot B a w nid o ins bs){fr nw:Bool}{res:AV}(h:Jda K.T nid fr nw res o.op o.type ins bs=some ou)(hc:All ou.cond)(hob:∀ ob,ob ∈ ou.obl->ob.ok K.P K.G K.L):JlD K slot B a w o ou:=by
 cases ho:o.op with
 | move x=>rw[ho]at h;exact(s_move s ho h).mono fun _ _=>Post.toX
 | assign x=>rw[ho]at h;exact(JjY s ho h).mono fun _ _=>Post.toX
 | pick c x y=>rw[ho]at h;exact(s_pick s ho h hc).mono fun _ _=>Post.toX
 | alloc t=>rw[ho]at h;exact(Jnn s ho h).mono fun _ _=>Post.toX
 | box t x=>rw[ho]at h;exact(s_box s ho h).mono fun _ _=>Post.toX
 | build t parts=>rw[ho]at h;exact(Jnm s ho h).mono fun _ _=>Post.toX
 | buildSlice t n parts=>rw[ho]at h;exact(Jct s ho h).mono fun _ _=>Post.toX
 | makeSlice t x y=>rw[ho]at h;exact(JdB s ho h hc).mono fun _ _=>Post.toX
 | load t x =>
  rw[ho]at h
  have h:(if isY res then Jfw K.T t bs ins else Jk4 K.T t bs ins)=some ou:=h
  by_cases hy:isY res=true
  . rw[if_pos hy]at h;exact(Jni s ho h hc).mono fun _ _=>Post.toX
  rw[if_neg hy]at h;exact(s_load s ho h hc).mono fun _ _=>Post.toX
 | store t x y =>
  rw[ho]at h
  have h:(if isY res then Jb8 K.T t bs ins else Jfu K.T t bs ins)=some ou:=h
  by_cases hy:isY res=true
  . rw[if_pos hy]at h;exact(JjW s ho h hc).mono fun _ _=>Post.toX
  rw[if_neg hy]at h;exact(Jnf s ho h hc).mono fun _ _=>Post.toX
 | nilCheck x=>rw[ho]at h;exact(JfT s ho h).mono fun _ _=>Post.toX
 | binOp op t x y u=>rw[ho]at h;exact(s_bin s ho h hc).mono fun _ _=>Post.toX
 | unOp op t x=>rw[ho]at h;exact(s_un s ho h hc).mono fun _ _=>Post.toX
 | convert t d x=>rw[ho]at h;exact(Jhv s ho h hc).mono fun _ _=>Post.toX
 | makeFunc f first cap=>rw[ho]at h;exact(JfU s ho h).mono fun _ _=>Post.toX
 | fieldAddr t x f=>rw[ho]at h;exact(JdD s ho h).mono fun _ _=>Post.toX
 | field t x f=>rw[ho]at h;exact(Jnk s ho h).mono fun _ _=>Post.toX
 | indexAddr t x y=>rw[ho]at h;exact(JdC s ho h hc).mono fun _ _=>Post.toX
 | index t x y=>rw[ho]at h;exact(Jnj s ho h hc).mono fun _ _=>Post.toX
 | extract x i=>rw[ho]at h;exact(Jhu s ho h).mono fun _ _=>Post.toX
 | slice t x lo hi m =>
  rw[ho]at h
  simp only[Jda]at h
  split at h
  . rename_i hs
    cases h
    exact(Jng s ho hs hc).mono fun _ _=>Post.toX
  split at h
  . rename_i hs
    cases h
    exact(JfS s ho hs hc).mono fun _ _=>Post.toX
  exact(Jdz s ho h hc).mono fun _ _=>Post.toX
 | makeMap t r=>rw[ho]at h;exact(Jht s ho h).mono fun _ _=>Post.toX
 | mapUpdate t x y u=>rw[ho]at h;exact(JdA s ho h hc).mono fun _ _=>Post.toX
 | lookup t x y ok=>rw[ho]at h;exact(JjX s ho h hc).mono fun _ _=>Post.toX
 | range t x=>rw[ho]at h;exact(Jnh s ho h).mono fun _ _=>Post.toX
 | next x st=>rw[ho]at h;exact(s_next s ho h).mono fun _ _=>Post.toX
 | call c =>
  rw[ho]at h
  cases hcc:c.callee with
  | value f=>simp only[Jda,hcc]at h;exact s_call s ho hcc h hc hob
  | builtin b =>
   cases b <;> simp only[Jda,hcc,reduceCtorEq]at h
   case len=>exact(s_len s ho hcc h).mono fun _ _=>Post.toX
   case cap=>exact(s_cap s ho hcc h).mono fun _ _=>Post.toX
   case min=>exact(JlK s ho (.inl ⟨hcc,rfl⟩) h).mono fun _ _=>Post.toX
   case max=>exact(JlK s ho (.inr ⟨hcc,rfl⟩) h).mono fun _ _=>Post.toX
   case copy=>exact(s_copy s ho hcc h).mono fun _ _=>Post.toX
   case clear=>exact(Jnl s ho hcc h).mono fun _ _=>Post.toX
   case append =>
    split at h
    . rename_i hs
      cases h
      exact(JjZ s ho hcc hs hc).mono fun _ _=>Post.toX
    exact(s_grow s ho hcc h hc).mono fun _ _=>Post.toX
  | invoke _ _=>simp[Jda,hcc]at h
 | _=>rw[ho]at h;simp[Jda]at h
end
structure An where
 fr:Bool:=false
 nw:Bool:=false
 fz:Bool:=false
 sym:Bool:=false
 res:AV:=.any
 rd:List AV->Option AV:=fun _=>none
 rdb:BL->List AV->Option AV:=fun _ _=>none
 deriving Inhabited
def An.at(an:An)(bs:BL):List AV->Option AV:=fun ins=>match an.rd ins with
 | some v=>some v
 | none=>an.rdb bs ins
structure Eff where
 dst:Option Nat
 v:Option AV
 wr:BL
structure GObl where
 g:Bool
 o:Obl
def okC1(v:Value):Bool:=v.oneCell'
def Jaj(v:Value):Option AV :=
 match v with
 | .agg cs=>if cs.toList.all okC1 then some (.agg (cs.toList.map ofV))else none
 | .tuple cs=>if cs.toList.all okC1 then some (.tup (cs.toList.map ofV))else none
 | v=>if okC1 v then some (ofV v)else none
def JdP(G:List (Nat × List AV))(slot:Nat->Option AV):Operand->Option AV
 | .tmp t=>slot t
 | .const v=>Jaj v
 | .global g=>match lk g G with
  | some cells=>some (.elt cells.length [cells] 0 0)
  | none=>none
 | .func f=>some (.fn (.func f) [] [])
def QZ(G:List (Nat × List AV))(slot:Nat->Option AV):List Operand->Option (List AV)
 | []=>some []
 | x::l=>match JdP G slot x,QZ G slot l with
  | some a,some m=>some (a::m)
  | _,_=>none
def is(c want:Bool):Bool:=match want with
 | true=>c
 | false=>!c
def gOf(ops:Array Oper)(o:Oper)(slot:Nat->Option AV):Option (Option Bool) :=
 match o.guard with
 | none=>some none
 | some (j,want)=>match ops[j]? with
  | some og=>match og.dst with
   | some d=>match slot d with
    | some (.bool c)=>some (some (is c want))
    | some (.gv h (.bool c))=>some (some (h && is c want))
    | _=>none
   | none=>none
  | none=>none
def VD(g:Bool):List AV->List AV × List Cd
 | []=>([],[])
 | .gv h a::l=>(a::(VD g l).1,(g=true->h=true:Prop)::(VD g l).2)
 | a::l=>(a::(VD g l).1,(VD g l).2)
def WJ(o:Op)(g:Bool)(ins:List AV):List AV × List Cd:=match o,ins with
 | .pick _ _ _,x::l=>((VD g [x]).1++l,(VD g [x]).2)
 | _,ins=>VD g ins
def Jgy:AV->AV
 | .gv _ a=>a
 | a=>a
def Jik(g:Bool):List Cd->List Cd
 | []=>[]
 | c::l=>⟨g=true->c.p,by have:=c.d;exact inferInstance⟩::Jik g l
def Jab(nid:Nat)(ou:Out):Out :=
 match ou.v,ou.wr with
 | .own id n,(id',.buf e k rows)::rest=>if id.beq nid && id'.beq nid && rest.all (fun p=>!p.1.beq nid)then { ou with v:=.sl k rows,wr:=(nid,.dead)::rest }else { ou with v:=.own id n,wr:=(id',.buf e k rows)::rest }
 | _,_=>ou
def V1(rd:List AV->Option AV)(ins:List AV)(ou:Out):Out :=
 match rd ins with
 | some v=>{ ou with v:=v,obl:=.same ou.v v::ou.obl }
 | none=>ou
def dOK(nt:Nat):Option Nat->Bool
 | none=>true
 | some d=>d.blt nt
def doneE(nt:Nat)(o:Oper)(g:Bool)(ou:Out):Option (Eff × List Cd × List GObl) :=
 if dOK nt o.dst then some (⟨o.dst,some ou.v,ou.wr⟩,ou.cond,ou.obl.map (GObl.mk g))else none
def JcA(G:List (Nat × List AV))(T:TT)(nt nid:Nat)(an:An)(o:Oper)(slot:Nat->Option AV)(bs:BL):Option (Eff × List Cd × List GObl) :=
 match QP o.op with
 | some xs=>match QZ G slot xs with
  | some ins=>match Jda T nid an.fr an.nw an.res o.op o.type ins bs with
   | some ou=>doneE nt o true (V1 (an.at bs) ins (if an.fz then Jab nid ou else ou))
   | none=>none
  | none=>none
 | none=>none
def JlX:AV->Bool
 | .gv _ _ | .ax _=>true
 | _=>false
def chkO(o:Op)(g:Bool)(ins:List AV):Bool:=match o,ins with
 | .pick _ _ _,x::_=>!JlX (Jgy x)
 | _,ins=>(VD g ins).1.all (fun x=>!JlX x)
def symD(nt:Nat)(o:Oper)(g:Bool)(ins:List AV)(ou:Out):Option (Eff × List Cd × List GObl) :=
 if chkO o.op g ins && (ou.wr.isEmpty && !JlX ou.v && dOK nt o.dst)then some (⟨o.dst,some (.gv g ou.v),[]⟩,(WJ o.op g ins).2++Jik g ou.cond,ou.obl.map (GObl.mk g))else none
def symE(G:List (Nat × List AV))(T:TT)(nt nid:Nat)(an:An)(o:Oper)(g:Bool)(slot:Nat->Option AV)(bs:BL):Option (Eff × List Cd × List GObl) :=
 match QP o.op with
 | some xs=>match QZ G slot xs with
  | some ins=>match Jda T nid an.fr an.nw an.res o.op o.type (WJ o.op g ins).1 bs with
   | some ou=>symD nt o g ins (V1 (an.at bs) (WJ o.op g ins).1 ou)
   | none=>none
  | none=>none
 | none=>none
def Jad(G:List (Nat × List AV))(T:TT)(nt nid:Nat)(an:An)(ops:Array Oper)(o:Oper)(slot:Nat->Option AV)(bs:BL):Option (Eff × List Cd × List GObl) :=
 match gOf ops o slot with
 | some none=>JcA G T nt nid an o slot bs
 | some (some g) =>
  if an.sym then symE G T nt nid an o g slot bs
  else match g with
   | true=>JcA G T nt nid an o slot bs
   | false=>if dOK nt o.dst then some (⟨o.dst,some (.gv false (.bool false)),[]⟩,[],[])else none
 | none=>none
def X3(e:Eff)(slot:Nat->Option AV):Nat->Option AV :=
 match e.dst with
 | none=>slot
 | some d=>upd slot d e.v
section
variable {K : Ctx} {ρ : Pl} {slot : Nat → Option AV} {B : Nat → ABlk} {a : Act} {w : World}
theorem JdS{X:Nat->Prop}{v:Value}(h:v.oneCell'=true):Rep X w v (ofV v):=by
 cases v with
 | int k n=>exact .int k n
 | bool b=>exact .bool b
 | string s =>
  have:=Rep.str (X:=X) (w:=w) s.data.toList
  simpa[ofV]using this
 | _=>exact .ex _ h
theorem Jej{X:Nat->Prop}{v:Value}{av:AV}(h:Jaj v=some av):Rep X w v av:=by
 unfold Jaj at h
 split at h
 . rename_i cs
   split at h
   . rename_i hb
     cases h
     refine Rep.agg_mk ⟨by simp,fun i v a hv ha=>?_⟩
     rw[Kk,hv]at ha
     cases ha
     have h1:=List.all_eq_true.1 hb v (List.mem_of_getElem? hv)
     exact⟨h1,JdS h1⟩
   cases h
 . rename_i cs
   split at h
   . rename_i hb
     cases h
     refine Rep.tup_mk ⟨by simp,fun i v a hv ha=>?_⟩
     rw[Kk,hv]at ha
     cases ha
     exact JdS (List.all_eq_true.1 hb v (List.mem_of_getElem? hv))
   cases h
 split at h
 . rename_i hb
   cases h
   exact JdS hb
 cases h
theorem WW(h:RelW K ρ slot B a w){x:Operand}{av:AV}(hx:JdP K.G slot x=some av):SRep ρ B (XX K.X0 ρ B) w (a.eval x) av:=by
 cases x with
 | tmp t=>exact(h.slots t av hx).2
 | const v=>exact SRep.of_rep (Jej hx)
 | global g =>
  simp only[JdP]at hx
  split at hx
  . rename_i cells hg
    cases hx
    exact SRep.of_rep (h.glob' hg).1
  cases hx
 | func f =>
  cases hx
  exact SRep.of_rep (Rep.fn (.func f) (fun _=>undef) (fun _=>undef) [] [] (fun i hi=>by simp at hi) (fun i hi=>by simp at hi))
theorem Wu(h:RelW K ρ slot B a w):∀ {xs:List Operand} {ins:List AV},QZ K.G slot xs=some ins->Xe ρ B (XX K.X0 ρ B) w a xs ins
 | [],ins,hi=>by cases hi;trivial
 | x::l,ins,hi=>by
  simp only[QZ]at hi
  split at hi
  . rename_i av m h1 h2
    cases hi
    exact⟨WW h h1,Wu h h2⟩
  cases hi
theorem Jc0{v:Value}{av:AV}(h:Jaj v=some av):Qn av=[]:=by
 have hof:∀ v,Qn (ofV v)=[]:=fun v=>by cases v <;> rfl
 unfold Jaj at h
 split at h
 . split at h
   . cases h;rfl
   cases h
 . split at h
   . cases h;rfl
   cases h
 split at h
 . cases h;exact hof _
 cases h
theorem JhK{G:List (Nat × List AV)}{nid:Nat}(hf:Fresh slot B nid){x:Operand}{av:AV}(hx:JdP G slot x=some av):nid ∉ Qn av:=by
 cases x with
 | tmp t=>exact hf.slots t av hx
 | const v=>rw[Jc0 hx];simp
 | global g =>
  simp only[JdP]at hx
  split at hx
  . cases hx;simp[Qn,mids1,mids0]
  cases hx
 | func f=>cases hx;simp[Qn,mids1]
theorem XD{G:List (Nat × List AV)}{nid:Nat}(hf:Fresh slot B nid):∀ {xs:List Operand} {ins:List AV},QZ G slot xs=some ins->∀ av,av ∈ ins->nid ∉ Qn av
 | [],ins,hi=>by cases hi;simp
 | x::l,ins,hi=>by
  simp only[QZ]at hi
  split at hi
  . rename_i y m h1 h2
    cases hi
    intro av ha
    rcases List.mem_cons.1 ha with rfl | ha
    . exact JhK hf h1
    exact XD hf h2 av ha
  cases hi
theorem All.append:∀ {l m:List Cd},All (l++m)->All l/\All m
 | [],_,h=>⟨trivial,h⟩
 | ⟨_,_⟩::l,_,h=>⟨⟨h.1,(All.append (l:=l) h.2).1⟩,(All.append (l:=l) h.2).2⟩
theorem All.guard{g:Bool}(hg:g=true):∀ {l:List Cd},All (Jik g l)->All l
 | [],_=>trivial
 | ⟨_,_⟩::_,h=>⟨h.1 hg,All.guard hg h.2⟩
theorem Wp{X:Nat->Prop}{g:Bool}(hg:g=true):∀ {xs:List Operand} {ins:List AV},Xe ρ B X w a xs ins->All (VD g ins).2->Xe ρ B X w a xs (VD g ins).1
 | [],[],_,_=>trivial
 | [],_::_,h,_=>h.elim
 | _::_,[],h,_=>h.elim
 | x::xs,y::ins,h,hc=>by
  cases y with
  | gv k b =>
   simp only[VD,All]at hc ⊢
   exact⟨SRep.of1 (h.1.1 (hc.1 hg)),Wp hg h.2 hc.2⟩
  | _=>exact⟨h.1,Wp hg h.2 hc⟩
theorem Vp{g:Bool}:∀ {ins:List AV},(VD g ins).1=ins.map Jgy
 | []=>rfl
 | y::ins=>by cases y <;> simp[VD,Jgy,Vp (ins:=ins)]
theorem JcF{x:AV}{id:Nat}(hx:JlX (Jgy x)=false)(h:id ∈ Qn (Jgy x)):id ∈ Qn x:=by
 cases x with
 | gv g a=>cases a <;> first | (simp[Jgy,JlX]at hx;done) | exact h
 | _=>exact h
def Jf0(G:List (Nat × List AV))(o:Oper)(slot:Nat->Option AV)(bs:BL):List Nat :=
 match QP o.op with
 | some xs=>match QZ G slot xs with
  | some ins=>JaY o.op bs (Vb o.op (ins.map Jgy))
  | none=>[]
 | none=>[]
theorem JfX{o:Op}{ins:List AV}{id:Nat}(h:id ∈ Vb o ins):id ∈ Vb o (ins.map Jgy):=by
 have key:∀ {ins:List AV},id ∈ ins.flatMap mids1->id ∈ (ins.map Jgy).flatMap mids1:=by
  intro ins h
  obtain⟨x,hx,hid⟩:=List.mem_flatMap.1 h
  refine List.mem_flatMap.2 ⟨Jgy x,List.mem_map.2 ⟨x,hx,rfl⟩,?_⟩
  cases x with
  | gv g a=>simp[mids1,mids0]at hid
  | _=>exact hid
 cases o <;> first | exact key h | (simp[Vb]at h;done)
theorem Jdv(hT:TOK K.P K.T)(h:RelW K ρ slot B a w){nid:Nat}(hf:Fresh slot B nid){o:Oper}{bs:BL}(hbs:∀ id,id ∈ Jf0 K.G o slot bs->Jr bs id=B id)
 {xs:List Operand}(hx:QP o.op=some xs){ins:List AV}(hi:QZ K.G slot xs=some ins):Setup K ρ slot B a w nid o ins bs :=
 ⟨hT,h,⟨xs,hx,Wu h hi⟩,fun id hid=>hbs id (by simp only[Jf0,hx,hi];exact JdV (fun _ h=>JfX h) hid),hf,fun av ha=>XD hf hi av ha⟩
theorem Jcq(hT:TOK K.P K.T)(h:RelW K ρ slot B a w){nid:Nat}(hf:Fresh slot B nid){o:Oper}{bs:BL}(hbs:∀ id,id ∈ Jf0 K.G o slot bs->Jr bs id=B id)
 {xs:List Operand}(hx:QP o.op=some xs){ins:List AV}(hi:QZ K.G slot xs=some ins){g:Bool}(hg:g=true)(hc:All (VD g ins).2)
 (hn:(VD g ins).1.all (fun x=>!JlX x)=true):Setup K ρ slot B a w nid o (VD g ins).1 bs:=by
 refine⟨hT,h,⟨xs,hx,Wp hg (Wu h hi) hc⟩,fun id hid=>hbs id ?_,hf,fun av ha hm=>?_⟩
 . simp only[Jf0,hx,hi]
   rw[<- Vp (g:=g)]
   exact hid
 . have h1:=List.all_eq_true.1 hn av ha
   rw[Vp]at ha
   obtain⟨y,hy,rfl⟩:=List.mem_map.1 ha
   exact XD hf hi y hy (JcF (by simpa using h1) hm)
theorem JfQ(hT:TOK K.P K.T)(h:RelW K ρ slot B a w){nid:Nat}(hf:Fresh slot B nid){o:Oper}{bs:BL}(hbs:∀ id,id ∈ Jf0 K.G o slot bs->Jr bs id=B id)
 {xs:List Operand}(hx:QP o.op=some xs){ins:List AV}(hi:QZ K.G slot xs=some ins){g:Bool}(hg:g=true)(hc:All (WJ o.op g ins).2)
 (hn:chkO o.op g ins=true):Setup K ρ slot B a w nid o (WJ o.op g ins).1 bs:=by
 cases ho:o.op with
 | pick c x y =>
  cases ins with
  | nil=>rw[ho]at hc hn;exact Jcq hT h hf hbs hx hi hg hc hn
  | cons z l =>
   rw[ho]at hc hn
   simp only[WJ,chkO]at hc hn ⊢
   have hio:=Wu h hi
   cases xs with
   | nil=>exact hio.elim
   | cons x0 xs =>
    refine⟨hT,h,⟨x0::xs,hx,?_⟩,fun id hid=>by rw[ho]at hid;simp[Vb,JaY]at hid,hf,fun av ha hm=>?_⟩
    . have h1:=Wp hg (xs:=[x0]) (ins:=[z]) ⟨hio.1,trivial⟩ hc
      cases z with
      | gv k b=>exact⟨h1.1,hio.2⟩
      | _=>exact hio
    rcases List.mem_append.1 ha with ha | ha
    . rw[Vp]at ha
      obtain⟨y,hy,rfl⟩:=List.mem_map.1 ha
      have:y=z:=by simpa using hy
      subst this
      exact XD hf hi y (by simp) (JcF (by simpa using hn) hm)
    exact XD hf hi av (by simp[ha]) hm
 | _=>rw[ho]at hc hn;exact Jcq hT h hf hbs hx hi hg hc hn
theorem JbQ(h:RelW K ρ slot B a w){id b:Nat}(hal:(B id).alive)(hr:ρ id=some b){B':Nat->ABlk}(hB:∀ i,(B' i).alive->i ≠ id/\B' i=B i):¬ XX K.X0 ρ B' b:=by
 rintro(hx | ⟨i,ha,hi⟩)
 . exact(h.live id b hal hr).2.1 hx
 obtain⟨h1,h2⟩:=hB i ha
 rw[h2]at ha
 exact h1 (h.inj i id b ha hal hi hr)
theorem JgY{X0:Nat->Prop}{B':Nat->ABlk}(hB:∀ i,(B' i).alive->B' i=B i){b:Nat}(hn:¬ XX X0 ρ B b):¬ XX X0 ρ B' b:=by
 rintro(hx | ⟨i,ha,hi⟩)
 . exact hn (.inl hx)
 exact hn (.inr ⟨i,hB i ha ▸ ha,hi⟩)
theorem Jg2{id n:Nat}{e k:Nat}{rows:List (List AV)}:XZ [(id,.buf e k rows)] (.own id n)=some (.sl k rows):=by
 simp only[XZ,Jr,lk,Nat.beq_refl,if_true,Option.getD_some]
theorem JB(n:Nat):n.beq n=true:=Nat.beq_refl n
theorem Jn4{nid:Nat}{ou:Out}{v:Value}{w':World}(h:Jjj K slot B a ou.wr ou.v v w'):Jjj K slot B a (Jab nid ou).wr (Jab nid ou).v v w':=by
 unfold Jab
 split
 . rename_i id n id' e k rows rest hv hw
   split
   . rename_i hb
     simp only[Kd]at hb
     have h1:=Kc hb.1.1
     have h2:=Kc hb.1.2
     subst h1
     subst h2
     rw[hv,hw]at h
     obtain⟨X',ρ',hg,hr,hs⟩:=h
     have hT:∀ x,wrB B ((id',.dead)::rest) 0=x->x.tracey->wrB B ((id',.buf e k rows)::rest) 0=x:=by
      intro x hx ht
      by_cases e0:0=id'
      . rw[<- e0]at hx;simp only[wrB,Jb]at hx;rw[<- hx]at ht;exact ht.elim
      simp only[wrB,Jf _ _ e0]at hx ⊢;exact hx
     have hB:∀ i,((wrB B ((id',.dead)::rest)) i).alive->i ≠ id'/\wrB B ((id',.dead)::rest) i=wrB B ((id',.buf e k rows)::rest) i:=by
      intro i ha
      by_cases e:i=id'
      . subst e;simp only[wrB,Jb]at ha;exact ha.elim
      exact⟨e,by simp only[wrB,Jf _ _ e]⟩
     refine⟨X',ρ',hg,hr.weaken (fun _ _ h=>h) (fun i ha=>(hB i ha).2) hT (fun i hi=>by
      obtain⟨⟨cells,hc⟩,_⟩:=hr.anc i hi
      have e:i ≠ id':=fun e=>by rw[e]at hc;simp only[wrB,Jb]at hc;cases hc
      simp only[wrB,Jf _ _ e]),SRep.of_rep ?_⟩
     refine V9 hr (fun b hn=>JgY (fun i ha=>(hB i ha).2) hn) (fun i b hi hal hri=>?_) (Jg2 (n:=n) (e:=e)) (fun i hi=>?_) hs
     . simp only[mids0,List.mem_singleton]at hi
       subst hi
       exact JbQ hr hal hri hB
     simp only[mids0,List.mem_singleton]at hi
     subst hi
     simp only[wrB,Jb,Jr,lk,JB,if_true,Option.getD_some]
   rw[<- hv,<- hw];exact h
 exact h
theorem Jn5(nid:Nat)(ou:Out):(Jab nid ou).cond=ou.cond:=by
 unfold Jab
 split
 . split <;> rfl
 rfl
theorem fz_obl(nid:Nat)(ou:Out):(Jab nid ou).obl=ou.obl:=by
 unfold Jab
 split
 . split <;> rfl
 rfl
theorem as_wr(rd:List AV->Option AV)(ins:List AV)(ou:Out):(V1 rd ins ou).wr=ou.wr:=by
 unfold V1
 split <;> rfl
theorem JiN(rd:List AV->Option AV)(ins:List AV)(ou:Out):(V1 rd ins ou).cond=ou.cond:=by
 unfold V1
 split <;> rfl
theorem Jl8(rd:List AV->Option AV)(ins:List AV)(ou:Out){ob:Obl}(h:ob ∈ ou.obl):ob ∈ (V1 rd ins ou).obl:=by
 unfold V1
 split
 . exact List.mem_cons_of_mem _ h
 exact h
theorem as_v{rd:List AV->Option AV}{ins:List AV}{ou:Out}(h:∀ ob,ob ∈ (V1 rd ins ou).obl->ob.ok K.P K.G K.L):(V1 rd ins ou).v=ou.v:=by
 unfold V1 at h ⊢
 split
 . rename_i v hv
   rw[hv]at h
   exact(h (.same ou.v v) (List.mem_cons_self ..)).symm
 rfl
def U3(K:Ctx)(l:List GObl):Prop:=∀ ob,ob ∈ l->ob.g=true->ob.o.ok K.P K.G K.L
theorem RelW.putE(h:RelW K ρ slot B a w){o:Oper}{nt:Nat}(hnt:nt=K.nt)(hd:dOK nt o.dst=true){v:Value}{av:AV}(hv:SRep ρ B (XX K.X0 ρ B) w v av)(wr:BL):RelW K ρ (X3 ⟨o.dst,some av,wr⟩ slot) B (a.put o.dst v) w:=by
 subst hnt
 unfold X3
 cases ho:o.dst with
 | none=>simpa[Act.put]using h
 | some d =>
  rw[ho]at hd
  exact h.put (Qx hd) hv
theorem RelW.putE_none(h:RelW K ρ slot B a w){o:Oper}{v:Value}(wr:BL):RelW K ρ (X3 ⟨o.dst,none,wr⟩ slot) B (a.put o.dst v) w:=by
 unfold X3
 cases ho:o.dst with
 | none=>simpa[Act.put]using h
 | some d=>exact h.put_none
theorem JeU(hT:TOK K.P K.T)(h:RelW K ρ slot B a w){nid nt:Nat}(hnt:nt=K.nt)(hf:Fresh slot B nid){an:An}{o:Oper}{bs:BL}(hbs:∀ id,id ∈ Jf0 K.G o slot bs->Jr bs id=B id)
 {e:Eff}{cs:List Cd}{obs:List GObl}(he:JcA K.G K.T nt nid an o slot bs=some (e,cs,obs))(hc:All cs)(hob:U3 K obs)(r:Option Nat)(n:Nat)(next:Act->World->Prop)(Q:Exit->Act->World->Prop)
 (hk:∀ X' ρ' a' w',Grow K X'->RelW (K.withX X') ρ' (X3 e slot) (wrB B e.wr) a' w'->next a' w'):o.wpIn (fen r) n K.P a w next Q:=by
 unfold JcA at he
 split at he
 . rename_i xs hx
   split at he
   . rename_i ins hi
     split at he
     . rename_i ou hou
       unfold doneE at he
       split at he
       . rename_i hd
         cases he
         have hs:=Jdv hT h hf hbs hx hi
         have hcond:All ou.cond:=by
          rw[JiN]at hc
          revert hc;split
          . rw[Jn5];exact fun h=>h
          exact fun h=>h
         have hobl':∀ ob,ob ∈ (V1 (an.at bs) ins (if an.fz=true then Jab nid ou else ou)).obl->ob.ok K.P K.G K.L:=fun ob hm=>hob ⟨true,ob⟩ (List.mem_map.2 ⟨ob,hm,rfl⟩) rfl
         have hobl:∀ ob,ob ∈ ou.obl->ob.ok K.P K.G K.L:=by
          intro ob hm
          refine hobl' ob (Jl8 _ _ _ ?_)
          split
          . rw[fz_obl];exact hm
          exact hm
         refine Jav hs hou hcond hobl r n next Q fun v w' hp=>?_
         have hp':Jjj K slot B a (V1 (an.at bs) ins (if an.fz=true then Jab nid ou else ou)).wr (V1 (an.at bs) ins (if an.fz=true then Jab nid ou else ou)).v v w':=by
          rw[as_wr,as_v hobl']
          split
          . exact Jn4 hp
          exact hp
         obtain⟨X',ρ',hg,hr,hv⟩:=hp'
         exact hk X' ρ' _ _ hg (hr.putE hnt hd hv _)
       cases he
     cases he
   cases he
 . cases he
theorem Jl0(h:RelW K ρ slot B a w){ops:Array Oper}{o:Oper}{r:Option Bool}(hg:gOf ops o slot=some r) :
 Region.wanted o (yielded ops a.tmps)=r.getD true:=by
 unfold gOf at hg
 unfold Region.wanted
 split at hg
 . rename_i h0;cases hg;rw[h0];rfl
 . rename_i j want h0
   rw[h0]
   split at hg
   . rename_i og hj
     split at hg
     . rename_i d hd
       split at hg
       . rename_i c hsl
         cases hg
         obtain⟨hlt,hv⟩:=h.slots d _ hsl
         have hv:=SRep.bool_inv hv
         have hlt':d < a.tmps.size:=by rw[h.size];exact hlt
         have hg:a.tmps[d]?=some (.bool c):=by
          rw[Array.getElem?_eq_getElem hlt']
          simpa[Array.getD,hlt']using hv
         simp only[yielded,hj,Option.bind_some,hd,hg,Option.getD_some]
         cases c <;> cases want <;> rfl
       . rename_i hh c hsl
         cases hg
         obtain⟨hlt,hv⟩:=h.slots d _ hsl
         have hlt':d < a.tmps.size:=by rw[h.size];exact hlt
         cases hh with
         | true =>
          have hv:=SRep.bool_inv (SRep.of1 (hv.1 rfl))
          have hg:a.tmps[d]?=some (.bool c):=by
           rw[Array.getElem?_eq_getElem hlt']
           simpa[Array.getD,hlt']using hv
          simp only[yielded,hj,Option.bind_some,hd,hg,Option.getD_some]
          cases c <;> cases want <;> rfl
         | false =>
          have hv:=hv.2 rfl
          have hg:a.tmps[d]?=some undef:=by
           rw[Array.getElem?_eq_getElem hlt']
           simpa[Array.getD,hlt']using hv
          simp only[yielded,hj,Option.bind_some,hd,hg,Option.getD_some]
          cases want <;> rfl
       cases hg
     cases hg
   cases hg
theorem Jfh(hT:TOK K.P K.T)(h:RelW K ρ slot B a w){nid nt:Nat}(hnt:nt=K.nt)(hf:Fresh slot B nid){an:An}{ops:Array Oper}{i:Nat}{o:Oper}(hi:ops[i]?=some o){bs:BL}(hbs:∀ id,id ∈ Jf0 K.G o slot bs->Jr bs id=B id)
 {e:Eff}{cs:List Cd}{obs:List GObl}(he:Jad K.G K.T nt nid an ops o slot bs=some (e,cs,obs))(hc:All cs)(hob:U3 K obs)(r:Option Nat)(n:Nat)(next:Act->World->Prop)(Q:Exit->Act->World->Prop)
 (hk:∀ X' ρ' a' w',Grow K X'->RelW (K.withX X') ρ' (X3 e slot) (wrB B e.wr) a' w'->next a' w'):wpOpIn (fen r) n K.P ops Q i next a w:=by
 unfold wpOpIn
 rw[hi]
 simp only
 unfold Jad at he
 split at he
 . rename_i hg
   rw[Jl0 h hg]
   simp only[Option.getD_none,if_true]
   exact JeU hT h hnt hf hbs he hc hob r n next Q hk
 . rename_i g hg
   rw[Jl0 h hg]
   simp only[Option.getD_some]
   split at he
   . unfold symE at he
     split at he
     . rename_i xs hx
       split at he
       . rename_i ins hins
         split at he
         . rename_i ou hou
           unfold symD at he
           split at he
           . rename_i hb
             simp only[Kd]at hb
             cases he
             obtain⟨hc1,hc2⟩:=hc.append
             cases hg0:g with
             | true =>
              simp only[if_true]
              have hs:=JfQ hT h hf hbs hx hins hg0 hc1 hb.1
              have hobl:∀ ob,ob ∈ (V1 (an.at bs) (WJ o.op g ins).1 ou).obl->ob.ok K.P K.G K.L:=fun ob hm=>hob ⟨g,ob⟩ (List.mem_map.2 ⟨ob,hm,rfl⟩) hg0
              rw[JiN]at hc2
              rw[as_wr,as_v hobl]at hb
              rw[as_v hobl]at hk
              refine Jav hs hou (All.guard hg0 hc2) (fun ob hm=>hobl ob (Jl8 _ _ _ hm)) r n next Q fun v w' hp=>?_
              obtain⟨X',ρ',hgr,hr,hv⟩:=hp
              have hwr:ou.wr=[]:=by simpa using hb.2.1.1
              rw[hwr]at hr hv
              refine hk X' ρ' _ _ hgr (hr.putE hnt hb.2.2 ?_ _)
              refine⟨fun _=>?_,fun e=>(by rw[hg0]at e;cases e)⟩
              have hnv:JlX ou.v=false:=by simpa using hb.2.1.2
              revert hv hnv
              cases ou.v <;> intro hv hnv <;> first | (simp[JlX]at hnv;done) | exact hv
             | false =>
              simp only[Bool.false_eq_true,if_false]
              refine⟨fun _ _=>trivial,hk K.X0 ρ _ _ (Grow.refl K) (h.putE hnt hb.2.2 ?_ _)⟩
              exact⟨fun e=>(by rw[hg0]at e;cases e),fun _=>rfl⟩
           cases he
         cases he
       cases he
     cases he
   split at he
   . exact JeU hT h hnt hf hbs he hc hob r n next Q hk
   split at he
   . rename_i hd
     cases he
     exact⟨fun _ _=>trivial,hk K.X0 ρ _ _ (Grow.refl K) (h.putE hnt hd (av:=.gv false (.bool false)) ⟨fun e=>(by cases e),fun _=>rfl⟩ _)⟩
   cases he
 . cases he
end
structure AS where
 s:List (Nat × AV)
 b:BL
 n:Nat
def Jdw{α:Type}(k:Nat)(v:α):List (Nat × α)->List (Nat × α)
 | []=>[(k,v)]
 | (j,x)::l=>if j.beq k then(k,v)::l else(j,x)::Jdw k v l
def Vu{α:Type}(k:Nat):List (Nat × α)->List (Nat × α)
 | []=>[]
 | (j,x)::l=>if j.beq k then Vu k l else(j,x)::Vu k l
def Ju(S:AS):Nat->Option AV:=fun t=>lk t S.s
def Jj(S:AS):Nat->ABlk:=fun id=>Jr S.b id
def Jfa:ABlk->Bool
 | .dead=>true
 | _=>false
def wrL:BL->BL->BL
 | [],b=>b
 | (id,blk)::l,b=>if Jfa blk then Vu id (wrL l b)else Jdw id blk (Vu id (wrL l b))
def putS(d:Option Nat)(v:Option AV)(s:List (Nat × AV)):List (Nat × AV) :=
 match d with
 | none=>s
 | some d=>match v with
  | some v=>Jdw d v (Vu d s)
  | none=>Vu d s
def Qy(e:Eff)(S:AS):AS:=⟨putS e.dst e.v S.s,wrL e.wr S.b,S.n+1⟩
def Jes(n:Nat)(l:List Nat):Bool:=l.all fun i=>i.blt n
def Jgd(n:Nat)(e:Eff):Bool :=
 (match e.v with
  | some v=>Jes n (Qn v)
  | none=>true) && e.wr.all fun p=>p.1.blt n && Jes n (JK p.2)
structure WF(S:AS):Prop where
 slots:∀ t av,Ju S t=some av->∀ id,id ∈ Qn av->id < S.n
 alive:∀ id,(Jj S id).alive->id < S.n
 blks:∀ id,(Jj S id).alive->∀ i,i ∈ JK (Jj S id)->i < S.n
 zero:(Jj S 0).tracey->0 < S.n
def Rel(K:Ctx)(S:AS)(a:Act)(w:World):Prop:=WF S/\∃ X' ρ,Grow K X'/\RelW (K.withX X') ρ (Ju S) (Jj S) a w
theorem Xk{α:Type}(k t:Nat):∀ l:List (Nat × α),lk t (Vu k l)=if t=k then none else lk t l
 | []=>by simp[lk,Vu]
 | (j,x)::l=>by
  have ih:=Xk k t l
  simp only[Vu]
  by_cases h:j.beq k=true
  . rw[if_pos h,ih]
    have:=Kc h
    subst this
    by_cases e:t=j
    . simp[e]
    have:j.beq t=false:=by
     cases hb:j.beq t
     . rfl
     exact absurd (Kc hb).symm e
    simp[e,lk,this]
  rw[if_neg h]
  simp only[lk]
  by_cases e:j.beq t=true
  . have:=Kc e
    subst this
    have hne:j ≠ k:=fun e2=>h (by rw[e2];exact Nat.beq_refl k)
    simp[hne]
  simp only[e]
  rw[ih]
  simp
theorem Je3{α:Type}(k t:Nat)(v:α):∀ l:List (Nat × α),lk t (Jdw k v l)=if t=k then some v else lk t l
 | []=>by
  simp only[Jdw,lk]
  by_cases e:t=k
  . subst e;simp
  have:k.beq t=false:=by
   cases hb:k.beq t
   . rfl
   exact absurd (Kc hb).symm e
  simp[e,this]
 | (j,x)::l=>by
  have ih:=Je3 k t v l
  simp only[Jdw]
  by_cases h:j.beq k=true
  . rw[if_pos h]
    have:=Kc h
    subst this
    by_cases e:t=j
    . subst e;simp[lk]
    have:j.beq t=false:=by
     cases hb:j.beq t
     . rfl
     exact absurd (Kc hb).symm e
    simp[e,lk,this]
  rw[if_neg h]
  simp only[lk]
  by_cases e:j.beq t=true
  . have:=Kc e
    subst this
    have hne:j ≠ k:=fun e2=>h (by rw[e2];exact Nat.beq_refl k)
    simp[hne]
  simp only[e]
  rw[ih]
  simp
theorem Ud(e:Eff)(S:AS):Ju (Qy e S)=X3 e (Ju S):=by
 funext t
 unfold Ju Qy X3 putS
 cases e.dst with
 | none=>rfl
 | some d =>
  cases e.v with
  | none=>simp only[Xk,upd]
  | some v=>simp only[Je3,Xk,upd];split <;> simp_all
theorem X6:∀ (wr b:BL),Jr (wrL wr b)=wrB (Jr b) wr
 | [],b=>rfl
 | (id,blk)::l,b=>by
  have ih:=X6 l b
  funext i
  have ihi:=congrFun ih i
  simp only[wrL,wrB]
  cases hd:Jfa blk with
  | true =>
   have:blk=.dead:=by cases blk <;> simp_all [Jfa]
   subst this
   simp only[if_true,Jr,Xk,upd]
   split
   . rfl
   simpa[Jr]using ihi
  | false =>
   simp only[Bool.false_eq_true,if_false,Jr,Je3,Xk,upd]
   split
   . rfl
   simpa[Jr]using ihi
theorem Vw(e:Eff)(S:AS):Jj (Qy e S)=wrB (Jj S) e.wr:=X6 e.wr S.b
theorem Uy{n:Nat}{l:List Nat}(h:Jes n l=true):∀ i,i ∈ l->i < n:=fun i hi=>Qx (List.all_eq_true.1 h i hi)
theorem WD{B:Nat->ABlk}{wr:BL}{i:Nat}(h:wrB B wr i ≠ B i):∃ p,p ∈ wr/\p.1=i/\wrB B wr i=p.2:=by
 induction wr with
 | nil=>exact absurd rfl h
 | cons p l ih =>
  by_cases e:i=p.1
  . refine⟨p,by simp,e.symm,?_⟩
    subst e
    obtain⟨id,blk⟩:=p
    simp only[wrB,Jb]
  obtain⟨id,blk⟩:=p
  simp only[wrB,Jf _ _ e]at h ⊢
  obtain⟨q,h1,h2,h3⟩:=ih h
  exact⟨q,by simp[h1],h2,h3⟩
theorem WF.apply{S:AS}(h:WF S){e:Eff}(he:Jgd (S.n+1) e=true):WF (Qy e S):=by
 unfold Jgd at he
 simp only[Kd]at he
 obtain⟨h1,h2⟩:=he
 have hw:∀ p,p ∈ e.wr->p.1 < S.n+1/\∀ i,i ∈ JK p.2->i < S.n+1:=fun p hp=>by
  have:=List.all_eq_true.1 h2 p hp
  simp only[Kd]at this
  exact⟨Qx this.1,Uy this.2⟩
 have hblk:∀ id,(Jj (Qy e S) id).alive->id < S.n+1/\∀ i,i ∈ JK (Jj (Qy e S) id)->i < S.n+1:=by
  intro id ha
  rw[Vw]at ha ⊢
  by_cases hc:wrB (Jj S) e.wr id=Jj S id
  . rw[hc]at ha ⊢
    exact⟨Nat.lt_succ_of_lt (h.alive id ha),fun i hi=>Nat.lt_succ_of_lt (h.blks id ha i hi)⟩
  obtain⟨p,hp,rfl,hv⟩:=WD hc
  rw[hv]
  exact hw p hp
 refine⟨fun t av ht id hid=>?_,fun id ha=>(hblk id ha).1,fun id ha=>(hblk id ha).2,fun _=>Nat.succ_pos _⟩
 rw[Ud]at ht
 unfold X3 at ht
 show id < S.n+1
 cases hd:e.dst with
 | none =>
  rw[hd]at ht
  exact Nat.lt_succ_of_lt (h.slots t av ht id hid)
 | some d =>
  rw[hd]at ht
  simp only at ht
  by_cases et:t=d
  . subst et
    rw[Jb]at ht
    rw[ht]at h1
    exact Uy h1 id hid
  rw[Jf _ _ et]at ht
  exact Nat.lt_succ_of_lt (h.slots t av ht id hid)
theorem WF.fresh{S:AS}(h:WF S):Fresh (Ju S) (Jj S) S.n :=
 ⟨fun ha=>Nat.lt_irrefl _ (h.alive _ ha),fun ht=>Nat.ne_of_gt (h.zero ht),fun t av ht hm=>Nat.lt_irrefl _ (h.slots t av ht _ hm),fun i ha hm=>Nat.lt_irrefl _ (h.blks i ha _ hm)⟩
def Wj(G:List (Nat × List AV))(T:TT)(nt:Nat)(ops:Array Oper):List An->List Oper->AS->Option (List Eff × List Cd × List GObl)
 | _,[],_=>some ([],[],[])
 | ans,o::l,S =>
  match Jad G T nt S.n (ans.headD {}) ops o (Ju S) S.b with
  | some (e,cs,obs)=>if Jgd (S.n+1) e then
   match Wj G T nt ops ans.tail l (Qy e S)with
   | some (es,cs',obs')=>some (e::es,cs++cs',obs++obs')
   | none=>none
   else none
  | none=>none
def Jjp:List Eff->AS->AS
 | [],S=>S
 | e::es,S=>Jjp es (Qy e S)
section
variable {K : Ctx} {a : Act} {w : World}
theorem JlJ{r:Option Nat}{n:Nat}(hT:TOK K.P K.T){nt:Nat}(hnt:nt=K.nt){ops:Array Oper}{Q:Exit->Act->World->Prop}:∀ (l:List Oper) (i:Nat) (ans:List An) (S:AS) (es:List Eff) (cs:List Cd) (obs:List GObl) (a:Act) (w:World),
 (∀ k o,l[k]?=some o->ops[i+k]?=some o)->Wj K.G K.T nt ops ans l S=some (es,cs,obs)->All cs->U3 K obs->Rel K S a w →
 (∀ a' w',Rel K (Jjp es S) a' w'->Q .normal a' w')->wpOpsIn (fen r) n K.P ops Q (List.range' i l.length) a w
 | [],i,ans,S,es,cs,obs,a,w,_,he,_,_,hr,hQ=>by
  simp only[Wj]at he
  cases he
  exact hQ a w hr
 | o::l,i,ans,S,es,cs,obs,a,w,hl,he,hc,hob,hr,hQ=>by
  simp only[Wj]at he
  split at he
  . rename_i e cs1 obs1 h1
    split at he
    . rename_i hok
      split at he
      . rename_i es2 cs2 obs2 h2
        cases he
        obtain⟨hwf,X,ρ,hg,hrw⟩:=hr
        obtain⟨hc1,hc2⟩:=hc.append
        have hi:ops[i]?=some o:=hl 0 o rfl
        rw[List.length_cons,List.range'_succ,wpOpsIn_cons]
        refine Jfh (K:=K.withX X) hT hrw hnt hwf.fresh hi (bs:=S.b) (fun _ _=>rfl) h1 hc1 (fun ob hm=>hob ob (List.mem_append_left _ hm)) r n _ Q fun X' ρ' a' w' hg' hr'=>?_
        refine JlJ hT hnt l (i+1) ans.tail (Qy e S) es2 cs2 obs2 a' w' (fun k o' hk=>?_) h2 hc2 (fun ob hm=>hob ob (List.mem_append_right _ hm)) ⟨hwf.apply hok,X',ρ',hg.trans hg',?_⟩ hQ
        . have:=hl (k+1) o' (by simpa using hk)
          rw[show i+1+k=i+(k+1) by omega]
          exact this
        rw[Ud,Vw]
        exact hr'
      cases he
    cases he
  cases he
end
section
variable (E : Nat → Eff) (L : Nat → Bool)
def stS(s0:Nat->Option AV):Nat->(Nat->Option AV)
 | 0=>s0
 | k+1=>if L k then X3 (E k) (stS s0 k)else stS s0 k
def stB(b0:Nat->ABlk):Nat->(Nat->ABlk)
 | 0=>b0
 | k+1=>if L k then wrB (stB b0 k) (E k).wr else stB b0 k
end
section
variable {E : Nat → Eff} {L L' : Nat → Bool} {s0 : Nat → Option AV} {b0 : Nat → ABlk}
theorem Qi{e:Eff}{slot:Nat->Option AV}{t:Nat}(h:e.dst ≠ some t):X3 e slot t=slot t:=by
 unfold X3
 cases hd:e.dst with
 | none=>rfl
 | some d=>exact Jf _ _ (fun e2=>h (by rw[hd,e2]))
theorem UJ{e:Eff}{slot slot':Nat->Option AV}{t:Nat}(h:e.dst=some t):X3 e slot t=X3 e slot' t:=by
 unfold X3
 rw[h]
 simp only[Jb]
theorem Xw{B:Nat->ABlk}{wr:BL}{i:Nat}(h:∀ p,p ∈ wr->p.1 ≠ i):wrB B wr i=B i:=by
 apply Classical.byContradiction
 intro hn
 obtain⟨p,h1,h2,_⟩:=WD hn
 exact h p h1 h2
theorem Jbh{B B':Nat->ABlk}{wr:BL}{i:Nat}(h:∃ p,p ∈ wr/\p.1=i):wrB B wr i=wrB B' wr i:=by
 induction wr with
 | nil=>obtain⟨p,h,_⟩:=h;simp at h
 | cons q l ih =>
  obtain⟨id,blk⟩:=q
  simp only[wrB]
  by_cases e:i=id
  . subst e;simp only[Jb]
  rw[Jf _ _ e,Jf _ _ e]
  refine ih ?_
  obtain⟨p,h1,h2⟩:=h
  rcases List.mem_cons.1 h1 with rfl | h1
  . exact absurd h2.symm e
  exact⟨p,h1,h2⟩
theorem WL{t:Nat}:∀ m,(∀ i,i < m->(E i).dst=some t->L i=L' i)->stS E L s0 m t=stS E L' s0 m t
 | 0,_=>rfl
 | m+1,h=>by
  have ih:=WL m fun i hi hd=>h i (by omega) hd
  simp only[stS]
  by_cases hd:(E m).dst=some t
  . have:=h m (by omega) hd
    rw[this]
    split
    . exact UJ hd
    exact ih
  split <;> split <;> simp only[Qi hd,ih]
theorem WO{id:Nat}:∀ m,(∀ i,i < m->(∃ p,p ∈ (E i).wr/\p.1=id)->L i=L' i)->stB E L b0 m id=stB E L' b0 m id
 | 0,_=>rfl
 | m+1,h=>by
  have ih:=WO m fun i hi hd=>h i (by omega) hd
  simp only[stB]
  by_cases hd:∃ p,p ∈ (E m).wr/\p.1=id
  . have:=h m (by omega) hd
    rw[this]
    split
    . exact Jbh hd
    exact ih
  have hd':∀ p,p ∈ (E m).wr->p.1 ≠ id:=fun p hp he=>hd ⟨p,hp,he⟩
  split <;> split <;> simp only[Xw hd',ih]
theorem JaQ{j:Nat}:∀ m,j<=m->stS E (fun i=>decide (i < j)) s0 m=stS E (fun _=>true) s0 j
 | 0,h=>by
  have:j=0:=by omega
  subst this;rfl
 | m+1,h=>by
  by_cases e:j=m+1
  . subst e
    have key:∀ k,k<=m+1->stS E (fun i=>decide (i < m+1)) s0 k=stS E (fun _=>true) s0 k:=by
     intro k
     induction k with
     | zero=>intro _;rfl
     | succ k ih=>intro hk;simp only[stS,ih (by omega)];rw[if_pos (by simp;omega)];simp
    exact key _ (Kr _)
  have ih:=JaQ m (by omega:j<=m)
  simp only[stS]
  rw[if_neg (by simp;omega)]
  exact ih
theorem JaR{j:Nat}:∀ m,j<=m->stB E (fun i=>decide (i < j)) b0 m=stB E (fun _=>true) b0 j
 | 0,h=>by
  have:j=0:=by omega
  subst this;rfl
 | m+1,h=>by
  by_cases e:j=m+1
  . subst e
    have key:∀ k,k<=m+1->stB E (fun i=>decide (i < m+1)) b0 k=stB E (fun _=>true) b0 k:=by
     intro k
     induction k with
     | zero=>intro _;rfl
     | succ k ih=>intro hk;simp only[stB,ih (by omega)];rw[if_pos (by simp;omega)];simp
    exact key _ (Kr _)
  have ih:=JaR m (by omega:j<=m)
  simp only[stB]
  rw[if_neg (by simp;omega)]
  exact ih
theorem Jhh{j:Nat}(hj:L j=false):∀ m,j < m->(∀ i,j < i->i < m->L i=true->∀ d,(E j).dst=some d->(E i).dst ≠ some d) →
 stS E (fun i=>L i || decide (i=j)) s0 m=X3 (E j) (stS E L s0 m)
 | 0,h,_=>by omega
 | m+1,h,hc=>by
  simp only[stS]
  by_cases e:j=m
  . subst e
    have key:∀ k,k<=j->stS E (fun i=>L i || decide (i=j)) s0 k=stS E L s0 k:=by
     intro k
     induction k with
     | zero=>intro _;rfl
     | succ k ih =>
      intro hk
      simp only[stS,ih (by omega)]
      have:decide (k=j)=false:=by simp;omega
      rw[this,Bool.or_false]
    simp[key j (Nat.le_refl _),hj]
  have ih:=Jhh hj m (by omega) fun i h1 h2 h3=>hc i h1 (by omega) h3
  have hd:decide (m=j)=false:=by simp;omega
  simp only[hd,Bool.or_false,ih]
  split
  . rename_i hL
    have hne:=hc m (by omega) (by omega) hL
    funext t
    by_cases hm:(E m).dst=some t
    . have hjt:(E j).dst ≠ some t:=fun e2=>hne t e2 hm
      rw[Qi hjt]
      exact UJ hm
    rw[Qi hm]
    by_cases hjt:(E j).dst=some t
    . exact UJ hjt
    rw[Qi hjt,Qi hjt,Qi hm]
  rfl
theorem Jhi{j:Nat}(hj:L j=false):∀ m,j < m->(∀ i,j < i->i < m->L i=true->∀ p q,p ∈ (E j).wr->q ∈ (E i).wr->p.1 ≠ q.1) →
 stB E (fun i=>L i || decide (i=j)) b0 m=wrB (stB E L b0 m) (E j).wr
 | 0,h,_=>by omega
 | m+1,h,hc=>by
  simp only[stB]
  by_cases e:j=m
  . subst e
    have key:∀ k,k<=j->stB E (fun i=>L i || decide (i=j)) b0 k=stB E L b0 k:=by
     intro k
     induction k with
     | zero=>intro _;rfl
     | succ k ih =>
      intro hk
      simp only[stB,ih (by omega)]
      have:decide (k=j)=false:=by simp;omega
      rw[this,Bool.or_false]
    simp[key j (Nat.le_refl _),hj]
  have ih:=Jhi hj m (by omega) fun i h1 h2 h3=>hc i h1 (by omega) h3
  have hd:decide (m=j)=false:=by simp;omega
  simp only[hd,Bool.or_false,ih]
  split
  . rename_i hL
    have hne:=hc m (by omega) (by omega) hL
    funext t
    by_cases hm:∃ p,p ∈ (E m).wr/\p.1=t
    . have hjt:∀ p,p ∈ (E j).wr->p.1 ≠ t:=by
       obtain⟨q,h1,h2⟩:=hm
       exact fun p hp e2=>hne p q hp h1 (by rw[e2,h2])
      rw[Xw hjt]
      exact Jbh hm
    have hm':∀ p,p ∈ (E m).wr->p.1 ≠ t:=fun p hp he=>hm ⟨p,hp,he⟩
    rw[Xw hm']
    by_cases hjt:∃ p,p ∈ (E j).wr/\p.1=t
    . exact Jbh hjt
    have hjt':∀ p,p ∈ (E j).wr->p.1 ≠ t:=fun p hp he=>hjt ⟨p,hp,he⟩
    rw[Xw hjt',Xw hjt',Xw hm']
  rfl
end
def JaO:List Operand->List Nat
 | []=>[]
 | .tmp t::l=>t::JaO l
 | _::l=>JaO l
def Jjm(ops:Array Oper)(o:Oper):List Nat :=
 (match QP o.op with
  | some xs=>JaO xs
  | none=>[]) ++
 (match o.guard with
  | some (j,_)=>match ops[j]? with
   | some og=>match og.dst with
    | some d=>[d]
    | none=>[]
   | none=>[]
  | none=>[])
theorem VY{G:List (Nat × List AV)}{slot slot':Nat->Option AV}:∀ {xs:List Operand},(∀ t,t ∈ JaO xs->slot t=slot' t)->QZ G slot xs=QZ G slot' xs
 | [],_=>rfl
 | x::l,h=>by
  have h1:JdP G slot x=JdP G slot' x:=by
   cases x with
   | tmp t=>exact h t (by simp[JaO])
   | _=>rfl
  have h2:QZ G slot l=QZ G slot' l:=VY fun t ht=>h t (by
   cases x <;> simp[JaO,ht])
  simp only[QZ,h1,h2]
theorem Jin{ops:Array Oper}{o:Oper}{slot slot':Nat->Option AV}(h:∀ t,t ∈ Jjm ops o->slot t=slot' t):gOf ops o slot=gOf ops o slot':=by
 unfold gOf
 cases hg:o.guard with
 | none=>rfl
 | some p =>
  obtain⟨j,want⟩:=p
  simp only
  cases hj:ops[j]? with
  | none=>rfl
  | some og =>
   simp only
   cases hd:og.dst with
   | none=>rfl
   | some d =>
    have:slot d=slot' d:=h d (by
     unfold Jjm
     rw[hg]
     simp only[hj,hd]
     simp)
    simp only[this]
theorem Jeb{G:List (Nat × List AV)}{T:TT}{nt nid:Nat}{an:An}{ops:Array Oper}{o:Oper}{slot slot':Nat->Option AV}{bs:BL}(h:∀ t,t ∈ Jjm ops o->slot t=slot' t) :
 Jad G T nt nid an ops o slot bs=Jad G T nt nid an ops o slot' bs:=by
 have h1:∀ xs,QP o.op=some xs->QZ G slot xs=QZ G slot' xs:=fun xs hx=>VY fun t ht=>h t (by
  unfold Jjm
  rw[hx]
  simp[ht])
 unfold Jad JcA symE
 rw[Jin h]
 cases hx:QP o.op with
 | none=>rfl
 | some xs=>simp only[h1 xs hx]
theorem JfZ{G:List (Nat × List AV)}{ops:Array Oper}{o:Oper}{slot slot':Nat->Option AV}{bs:BL}(h:∀ t,t ∈ Jjm ops o->slot t=slot' t):Jf0 G o slot bs=Jf0 G o slot' bs:=by
 unfold Jf0
 cases hx:QP o.op with
 | none=>rfl
 | some xs =>
  have:QZ G slot xs=QZ G slot' xs:=VY fun t ht=>h t (by
   unfold Jjm
   rw[hx]
   simp[ht])
  simp only[this]
def Jeq(A:List Nat):List Edge->Nat
 | []=>0
 | e::l=>if Region.binds .any e then(A.getD e.on 0 ||| 1 <<< e.on) ||| Jeq A l else Jeq A l
def ancs:List Oper->List Nat->List Nat
 | [],acc=>acc
 | o::l,acc=>ancs l (acc++[Jeq acc o.after.toList])
def JbZ(i:Nat):List Edge->Bool
 | []=>true
 | e::l=>(!Region.binds .any e || e.on.blt i) && JbZ i l
def Jft(A:List Nat):Nat->List Oper->Bool
 | _,[]=>true
 | i,o::l=>JbZ i o.after.toList && (A.getD i 0).beq (Jeq A o.after.toList) && Jft A (i+1) l
structure Info where
 e:Eff
 rd:List Nat
 nd:List Nat
def Jge(l:List Nat):Option Nat->Bool
 | none=>false
 | some d=>l.any fun i=>i.beq d
def JkR:Option Nat->Option Nat->Bool
 | some d,some d'=>d.beq d'
 | _,_=>false
def JjC(l:List Nat):BL->Bool
 | []=>false
 | p::wr=>l.any (fun i=>i.beq p.1) || JjC l wr
def apart(x y:Info):Bool :=
 !Jge y.rd x.e.dst && !Jge x.rd y.e.dst && !JkR x.e.dst y.e.dst && !JjC y.nd x.e.wr && !JjC x.nd y.e.wr && !JjC (x.e.wr.map (·.1)) y.e.wr
def Jbz(x:Info)(i:Nat)(A:List Nat):Nat->List Info->Bool
 | _,[]=>true
 | j,y::l=>((A.getD j 0).testBit i || apart x y) && Jbz x i A (j+1) l
def Jkc(A:List Nat):Nat->List Info->Bool
 | _,[]=>true
 | i,x::l=>Jbz x i A (i+1) l && Jkc A (i+1) l
def Vc(A:List Nat)(n i:Nat)(l:List Nat):Bool:=l.all fun id=>id.blt n || (id.sub n).beq i || (A.getD i 0).testBit (id.sub n)
def Jkk(A:List Nat)(n:Nat):Nat->List Info->Bool
 | _,[]=>true
 | i,x::l=>((match x.e.v with
  | some v=>Vc A n i (Qn v)
  | none=>true) && x.e.wr.all fun p=>Vc A n i [p.1] && Vc A n i (JK p.2)) && Jkk A n (i+1) l
def JcP(G:List (Nat × List AV))(ops:Array Oper):List Oper->List Eff->AS->List Info
 | o::l,e::es,S=>⟨e,Jjm ops o,Jf0 G o (Ju S) S.b⟩::JcP G ops l es (Qy e S)
 | _,_,_=>[]
def Jfj(G:List (Nat × List AV))(ops:Array Oper)(es:List Eff)(S:AS):Bool :=
 let A:=ancs ops.toList []
 let I:=JcP G ops ops.toList es S
 Jft A 0 ops.toList && Jkc A 0 I && Jkk A S.n 0 I
section
variable {A : List Nat}
def Anc(A:List Nat)(i j:Nat):Prop:=(A.getD j 0).testBit i=true
theorem UX:∀ {l:List Edge} {i:Nat},(Jeq A l).testBit i=true->∃ e,e ∈ l/\Region.binds .any e=true/\(i=e.on ∨ Anc A i e.on)
 | [],i,h=>by simp[Jeq]at h
 | e::l,i,h=>by
  simp only[Jeq]at h
  split at h
  . rename_i hb
    rw[Nat.testBit_or,Nat.testBit_or,Bool.or_eq_true,Bool.or_eq_true]at h
    rcases h with(h | h) | h
    . exact⟨e,by simp,hb,.inr h⟩
    . rw[Nat.one_shiftLeft,Nat.testBit_two_pow]at h
      exact⟨e,by simp,hb,.inl (by simpa using h:e.on=i).symm⟩
    obtain⟨e',h1,h2⟩:=UX h
    exact⟨e',by simp[h1],h2⟩
  obtain⟨e',h1,h2⟩:=UX h
  exact⟨e',by simp[h1],h2⟩
theorem Wb{i:Nat}:∀ {l:List Edge},JbZ i l=true->∀ e,e ∈ l->Region.binds .any e=true->e.on < i
 | [],_,e,he,_=>by simp at he
 | x::l,h,e,he,hb=>by
  simp only[JbZ,Kd,Bool.or_eq_true,Ks]at h
  rcases List.mem_cons.1 he with rfl | he
  . rcases h.1 with h1 | h1
    . rw[hb]at h1;cases h1
    exact Qx h1
  exact Wb h.2 e he hb
theorem Jat:∀ {l:List Oper} {i:Nat},Jft A i l=true->∀ k o,l[k]?=some o →
 (∀ e,e ∈ o.after->Region.binds .any e=true->e.on < i+k)/\∀ j,Anc A j (i+k)->∃ e,e ∈ o.after/\Region.binds .any e=true/\(j=e.on ∨ Anc A j e.on)
 | [],_,_,k,o,hk=>by simp at hk
 | x::l,i,h,k,o,hk=>by
  simp only[Jft,Kd]at h
  cases k with
  | zero =>
   simp at hk
   subst hk
   refine⟨fun e he hb=>Wb h.1.1 e (Array.mem_toList_iff.2 he) hb,fun j hj=>?_⟩
   unfold Anc at hj
   rw[Nat.add_zero,Kc h.1.2]at hj
   obtain⟨e,h1,h2⟩:=UX hj
   exact⟨e,Array.mem_toList_iff.1 h1,h2⟩
  | succ k =>
   have:=Jat h.2 k o (by simpa using hk)
   rw[show i+1+k=i+(k+1) by omega]at this
   exact this
theorem U5{x:Info}{i:Nat}:∀ {l:List Info} {j:Nat},Jbz x i A j l=true->∀ k y,l[k]?=some y->Anc A i (j+k) ∨ apart x y=true
 | [],_,_,k,y,hk=>by simp at hk
 | z::l,j,h,k,y,hk=>by
  simp only[Jbz,Kd,Bool.or_eq_true]at h
  cases k with
  | zero=>simp at hk;subst hk;exact h.1
  | succ k =>
   have:=U5 h.2 k y (by simpa using hk)
   rw[show j+1+k=j+(k+1) by omega]at this
   exact this
theorem JaX:∀ {l:List Info} {i:Nat},Jkc A i l=true->∀ p q x y,p < q->l[p]?=some x->l[q]?=some y->Anc A (i+p) (i+q) ∨ apart x y=true
 | [],_,_,p,q,x,y,_,hp,_=>by simp at hp
 | z::l,i,h,p,q,x,y,hpq,hp,hq=>by
  simp only[Jkc,Kd]at h
  cases p with
  | zero =>
   simp at hp
   subst hp
   cases q with
   | zero=>omega
   | succ q =>
    have:=U5 h.1 q y (by simpa using hq)
    rw[show i+1+q=i+(q+1) by omega]at this
    simpa using this
  | succ p =>
   cases q with
   | zero=>omega
   | succ q =>
    have:=JaX h.2 p q x y (by omega) (by simpa using hp) (by simpa using hq)
    rw[show i+1+p=i+(p+1) by omega,show i+1+q=i+(q+1) by omega]at this
    exact this
theorem JdX{n i:Nat}{l:List Nat}(h:Vc A n i l=true):∀ id,id ∈ l->id < n ∨ id<=n+i/\id=n+i ∨ ∃ k,id=n+k/\Anc A k i:=by
 intro id hid
 have:=List.all_eq_true.1 h id hid
 simp only[Bool.or_eq_true]at this
 by_cases hlt:id < n
 . exact .inl hlt
 rcases this with(h1 | h1) | h1
 . exact .inl (Qx h1)
 . have h2:id-n=i:=Kc h1
   exact .inr (.inl ⟨by omega,by omega⟩)
 exact .inr (.inr ⟨id-n,by omega,h1⟩)
theorem JaZ{n:Nat}:∀ {l:List Info} {i:Nat},Jkk A n i l=true->∀ k x,l[k]?=some x →
 (∀ v,x.e.v=some v->Vc A n (i+k) (Qn v)=true)/\∀ p,p ∈ x.e.wr->Vc A n (i+k) [p.1]=true/\Vc A n (i+k) (JK p.2)=true
 | [],_,_,k,x,hk=>by simp at hk
 | z::l,i,h,k,x,hk=>by
  simp only[Jkk,Kd]at h
  cases k with
  | zero =>
   simp at hk
   subst hk
   refine⟨fun v hv=>?_,fun p hp=>?_⟩
   . have:=h.1.1
     rw[hv]at this
     exact this
   have:=List.all_eq_true.1 h.1.2 p hp
   simpa using this
  | succ k =>
   have:=JaZ h.2 k x (by simpa using hk)
   rw[show i+1+k=i+(k+1) by omega]at this
   exact this
theorem Ja9{l:List Nat}{d:Option Nat}(h:Jge l d=false):∀ t,d=some t->t ∉ l:=by
 intro t ht hm
 subst ht
 simp only[Jge]at h
 have:l.any (fun i=>i.beq t)=true:=List.any_eq_true.2 ⟨t,hm,JB t⟩
 rw[this]at h;cases h
theorem Jgf{d d':Option Nat}(h:JkR d d'=false):∀ t,d=some t->d' ≠ some t:=by
 intro t ht hm
 subst ht
 subst hm
 simp[JkR]at h
theorem V8{l:List Nat}:∀ {wr:BL},JjC l wr=false->∀ p,p ∈ wr->p.1 ∉ l
 | [],_,p,hp=>by simp at hp
 | q::wr,h,p,hp=>by
  simp only[JjC,Bool.or_eq_false_iff]at h
  rcases List.mem_cons.1 hp with rfl | hp
  . intro hm
    have:l.any (fun i=>i.beq p.1)=true:=List.any_eq_true.2 ⟨p.1,hm,JB _⟩
    rw[this]at h;cases h.1
  exact V8 h.2 p hp
end
section
variable {K : Ctx} {a : Act} {w : World}
def noE:Eff:=⟨none,none,[]⟩
def JG(es:List Eff)(i:Nat):Eff:=es.getD i noE
theorem Ub{es:List Eff}{e:Eff}{s0:Nat->Option AV}:∀ k,stS (JG (e::es)) (fun _=>true) s0 (k+1)=stS (JG es) (fun _=>true) (X3 e s0) k
 | 0=>by simp[stS,JG]
 | k+1=>by
  have ih:=Ub (es:=es) (e:=e) (s0:=s0) k
  rw[stS,ih,stS]
  simp[JG]
theorem WM{es:List Eff}{e:Eff}{b0:Nat->ABlk}:∀ k,stB (JG (e::es)) (fun _=>true) b0 (k+1)=stB (JG es) (fun _=>true) (wrB b0 e.wr) k
 | 0=>by simp[stB,JG]
 | k+1=>by
  have ih:=WM (es:=es) (e:=e) (b0:=b0) k
  rw[stB,ih,stB]
  simp[JG]
structure At(K:Ctx)(nt:Nat)(ops:Array Oper)(A:List Nat)(n:Nat)(s0:Nat->Option AV)(b0:Nat->ABlk)(es:List Eff)(k:Nat)(o:Oper)(x:Info):Prop where
 ex:∃ an cs obs bs,Jad K.G K.T nt (n+k) an ops o (stS (JG es) (fun _=>true) s0 k) bs=some (JG es k,cs,obs)/\All cs/\U3 K obs/\Jr bs=stB (JG es) (fun _=>true) b0 k/\x.nd=Jf0 K.G o (stS (JG es) (fun _=>true) s0 k) bs
 e:x.e=JG es k
 rd:x.rd=Jjm ops o
theorem Jfg{nt:Nat}{ops:Array Oper}{A:List Nat}:∀ {l:List Oper} {ans:List An} {S:AS} {es:List Eff} {cs:List Cd} {obs:List GObl},
 Wj K.G K.T nt ops ans l S=some (es,cs,obs)->All cs->U3 K obs->es.length=l.length/\(JcP K.G ops l es S).length=l.length/\∀ k o x,l[k]?=some o->(JcP K.G ops l es S)[k]?=some x->At K nt ops A S.n (Ju S) (Jj S) es k o x
 | [],ans,S,es,cs,obs,he,_,_=>by
  simp only[Wj]at he
  cases he
  exact⟨rfl,rfl,fun k o x hk=>by simp at hk⟩
 | o::l,ans,S,es,cs,obs,he,hc,hob=>by
  simp only[Wj]at he
  split at he
  . rename_i e cs1 obs1 h1
    split at he
    . rename_i hok
      split at he
      . rename_i es2 cs2 obs2 h2
        cases he
        obtain⟨hc1,hc2⟩:=hc.append
        obtain⟨l1,l2,hat⟩:=Jfg (A:=A) h2 hc2 (fun ob hm=>hob ob (List.mem_append_right _ hm))
        refine⟨by simp[l1],by simp[JcP,l2],fun k o' x hk hx=>?_⟩
        cases k with
        | zero =>
         simp only[List.getElem?_cons_zero,Option.some.injEq]at hk
         simp only[JcP,List.getElem?_cons_zero,Option.some.injEq]at hx
         subst hk
         subst hx
         exact⟨⟨ans.headD {},cs1,obs1,S.b,by simpa[stS,JG]using h1,hc1,fun ob hm=>hob ob (List.mem_append_left _ hm),rfl,rfl⟩,by simp[JG],rfl⟩
        | succ k =>
         have ha:=hat k o' x (by simpa using hk) (by simpa[JcP]using hx)
         obtain⟨⟨an,cs',obs',bs,h3,h4,h5,h6,h9⟩,h7,h8⟩:=ha
         rw[Ud]at h3 h9
         rw[Vw]at h6
         refine⟨⟨an,cs',obs',bs,?_,h4,h5,?_,?_⟩,?_,h8⟩
         . rw[Ub]
           have e1:JG (e::es2) (k+1)=JG es2 k:=by simp[JG]
           rw[e1,show S.n+(k+1)=S.n+1+k by omega]
           exact h3
         . rw[WM];exact h6
         . rw[Ub];exact h9
         rw[h7];simp[JG]
      cases he
    cases he
  cases he
theorem Jiq:∀ (es:List Eff) (S:AS),Ju (Jjp es S)=stS (JG es) (fun _=>true) (Ju S) es.length/\Jj (Jjp es S)=stB (JG es) (fun _=>true) (Jj S) es.length
 | [],S=>⟨rfl,rfl⟩
 | e::es,S=>by
  obtain⟨h1,h2⟩:=Jiq es (Qy e S)
  rw[List.length_cons,Ub,WM,<- Ud,<- Vw]
  exact⟨h1,h2⟩
theorem Jff{G:List (Nat × List AV)}{T:TT}{nt:Nat}{ops:Array Oper}:∀ {l:List Oper} {ans:List An} {S:AS} {es:List Eff} {cs:List Cd} {obs:List GObl},
 Wj G T nt ops ans l S=some (es,cs,obs)->WF S->WF (Jjp es S)
 | [],ans,S,es,cs,obs,he,h=>by
  simp only[Wj]at he
  cases he
  exact h
 | o::l,ans,S,es,cs,obs,he,h=>by
  simp only[Wj]at he
  split at he
  . split at he
    . rename_i hok
      split at he
      . rename_i es2 cs2 obs2 h2
        cases he
        exact show WF (Jjp es2 (Qy _ S))from Jff h2 (h.apply hok)
      cases he
    cases he
  cases he
theorem Jbt{E:Nat->Eff}{L:Nat->Bool}{s0:Nat->Option AV}{t:Nat}{av:AV}:∀ m,stS E L s0 m t=some av->s0 t=some av ∨ ∃ i,i < m/\L i=true/\(E i).v=some av
 | 0,h=>.inl h
 | m+1,h=>by
  simp only[stS]at h
  split at h
  . rename_i hL
    by_cases hd:(E m).dst=some t
    . refine .inr ⟨m,by omega,hL,?_⟩
      unfold X3 at h
      rw[hd]at h
      simpa[Jb]using h
    rw[Qi hd]at h
    rcases Jbt m h with h1 | ⟨i,h1,h2⟩
    . exact .inl h1
    exact .inr ⟨i,by omega,h2⟩
  rcases Jbt m h with h1 | ⟨i,h1,h2⟩
  . exact .inl h1
  exact .inr ⟨i,by omega,h2⟩
theorem Wq{E:Nat->Eff}{L:Nat->Bool}{b0:Nat->ABlk}{id:Nat}:∀ m,stB E L b0 m id=b0 id ∨ ∃ i p,i < m/\L i=true/\p ∈ (E i).wr/\p.1=id/\stB E L b0 m id=p.2
 | 0=>.inl rfl
 | m+1=>by
  simp only[stB]
  split
  . rename_i hL
    by_cases hc:wrB (stB E L b0 m) (E m).wr id=stB E L b0 m id
    . rw[hc]
      rcases Wq (E:=E) (L:=L) (b0:=b0) (id:=id) m with h1 | ⟨i,p,h1,h2⟩
      . exact .inl h1
      exact .inr ⟨i,p,by omega,h2⟩
    obtain⟨p,h1,h2,h3⟩:=WD hc
    exact .inr ⟨m,p,by omega,hL,h1,h2,h3⟩
  rcases Wq (E:=E) (L:=L) (b0:=b0) (id:=id) m with h1 | ⟨i,p,h1,h2⟩
  . exact .inl h1
  exact .inr ⟨i,p,by omega,h2⟩
def left(listed:Array Bool):List Nat->Nat
 | []=>0
 | i::l=>if listed.getD i true then left listed l else left listed l+1
theorem Jh6(listed:Array Bool):∀ l,left listed l<=l.length
 | []=>Kr _
 | i::l=>by have:=Jh6 listed l;simp only[left,List.length_cons];split <;> omega
theorem JcK{listed:Array Bool}{j:Nat}:∀ l,left (listed.setIfInBounds j true) l<=left listed l
 | []=>Kr _
 | i::l=>by
  have ih:=JcK (listed:=listed) (j:=j) l
  simp only[left]
  by_cases e:j=i
  . subst e
    have:(listed.setIfInBounds j true).getD j true=true:=by
     by_cases hb:j < listed.size <;> simp[hb]
    rw[this]
    simp only[if_true]
    split <;> omega
  rw[getD_set_ne true e]
  split <;> omega
theorem Jh5{listed:Array Bool}{j:Nat}(hj:listed.getD j true=false):∀ l,j ∈ l->left (listed.setIfInBounds j true) l < left listed l
 | i::l,hm=>by
  have ih:=JcK (listed:=listed) (j:=j) l
  simp only[left]
  by_cases e:j=i
  . subst e
    have:(listed.setIfInBounds j true).getD j true=true:=by
     by_cases hb:j < listed.size <;> simp[hb]
    rw[this,hj]
    simp only[if_true,Bool.false_eq_true,if_false]
    omega
  have:=Jh5 hj l (by rcases List.mem_cons.1 hm with h | h;exact absurd h e;exact h)
  rw[getD_set_ne true e]
  split <;> omega
theorem JcJ{listed:Array Bool}:∀ {l},left listed l=0->∀ i,i ∈ l->listed.getD i true=true
 | i::l,h,k,hk=>by
  simp only[left]at h
  split at h
  . rename_i hi
    rcases List.mem_cons.1 hk with rfl | hk
    . exact hi
    exact JcJ h k hk
  omega
structure Draw(K:Ctx)(nt:Nat)(ops:Array Oper)(A:List Nat)(S:AS)(es:List Eff)(I:List Info):Prop where
 len:es.length=ops.size
 ilen:I.length=ops.size
 at_:∀ k o x,ops[k]?=some o->I[k]?=some x->At K nt ops A S.n (Ju S) (Jj S) es k o x
 anc:∀ k o,ops[k]?=some o->(∀ e,e ∈ o.after->Region.binds .any e=true->e.on < k)/\∀ j,Anc A j k->∃ e,e ∈ o.after/\Region.binds .any e=true/\(j=e.on ∨ Anc A j e.on)
 pair:∀ p q x y,p < q->I[p]?=some x->I[q]?=some y->Anc A p q ∨ apart x y=true
 ment:∀ k x,I[k]?=some x->(∀ v,x.e.v=some v->Vc A S.n k (Qn v)=true)/\∀ p,p ∈ x.e.wr->Vc A S.n k [p.1]=true/\Vc A S.n k (JK p.2)=true
theorem Draw.anc_lt{nt:Nat}{ops:Array Oper}{A:List Nat}{S:AS}{es:List Eff}{I:List Info}(d:Draw K nt ops A S es I):∀ k,k < ops.size->∀ j,Anc A j k->j < k:=by
 intro k
 induction k using Nat.strongRecOn with
 | _ k ih =>
  intro hk j hj
  obtain⟨o,ho⟩:∃ o,ops[k]?=some o:=⟨ops[k],Array.getElem?_eq_getElem hk⟩
  obtain⟨h1,h2⟩:=d.anc k o ho
  obtain⟨e,he,hb,h3⟩:=h2 j hj
  have h4:=h1 e he hb
  rcases h3 with rfl | h3
  . exact h4
  have:=ih e.on h4 (by omega) j h3
  omega
theorem JkT{rr:Option Nat}{nn:Nat}(hT:TOK K.P K.T){nt:Nat}(hnt:nt=K.nt){ops:Array Oper}{A:List Nat}{S:AS}{es:List Eff}{I:List Info}(d:Draw K nt ops A S es I)(hwf:WF S){Q:Exit->Act->World->Prop}
 (hQ:∀ a w,(∃ X' ρ,Grow K X'/\RelW (K.withX X') ρ (stS (JG es) (fun _=>true) (Ju S) ops.size) (stB (JG es) (fun _=>true) (Jj S) ops.size) a w)->Q .normal a w) :
 ∀ (fuel:Nat) (listed:Array Bool) (a:Act) (w:World),listed.size=ops.size->left listed (List.range ops.size)<=fuel →
  (∀ k,k < ops.size->listed.getD k false=true->∀ j,Anc A j k->listed.getD j false=true) →
  (∃ X' ρ,Grow K X'/\RelW (K.withX X') ρ (stS (JG es) (fun i=>listed.getD i false) (Ju S) ops.size) (stB (JG es) (fun i=>listed.getD i false) (Jj S) ops.size) a w) →
  wpAnyIn (fen rr) nn K.P .any ops Q fuel listed a w:=by
 have gd:∀ (listed:Array Bool) i,i < listed.size->listed.getD i true=listed.getD i false:=fun l i hi=>by simp[hi]
 -- none is ready: all are listed
 have hall:∀ (listed:Array Bool),listed.size=ops.size->Region.ready .any ops listed=[]->∀ i,i < ops.size->listed.getD i false=true:=by
  intro listed hsz hr i
  induction i using Nat.strongRecOn with
  | _ i ih =>
   intro hi
   cases hc:listed.getD i false with
   | true=>rfl
   | false =>
    have hm:i ∈ Region.ready .any ops listed:=by
     rw[mem_ready]
     obtain⟨o,ho⟩:∃ o,ops[i]?=some o:=⟨ops[i],Array.getElem?_eq_getElem hi⟩
     refine⟨by rw[gd _ _ (by omega)];exact hc,o,ho,fun e he hb=>?_⟩
     have:=(d.anc i o ho).1 e he hb
     exact ih e.on this (by omega)
    rw[hr]at hm
    simp at hm
 have hfin:∀ (listed:Array Bool) a w,listed.size=ops.size->Region.ready .any ops listed=[] →
  (∃ X' ρ,Grow K X'/\RelW (K.withX X') ρ (stS (JG es) (fun i=>listed.getD i false) (Ju S) ops.size) (stB (JG es) (fun i=>listed.getD i false) (Jj S) ops.size) a w)->Q .normal a w:=by
  intro listed a w hsz hr hrel
  have ha:=hall listed hsz hr
  have e1:stS (JG es) (fun i=>listed.getD i false) (Ju S) ops.size=stS (JG es) (fun _=>true) (Ju S) ops.size:=by
   funext t;exact WL _ fun i hi _=>ha i hi
  have e2:stB (JG es) (fun i=>listed.getD i false) (Jj S) ops.size=stB (JG es) (fun _=>true) (Jj S) ops.size:=by
   funext t;exact WO _ fun i hi _=>ha i hi
  rw[e1,e2]at hrel
  exact hQ a w hrel
 have hready:∀ (listed:Array Bool) a w,listed.size=ops.size -> 
  (∀ k,k < ops.size->listed.getD k false=true->∀ j,Anc A j k->listed.getD j false=true) →
  (∃ X' ρ,Grow K X'/\RelW (K.withX X') ρ (stS (JG es) (fun i=>listed.getD i false) (Ju S) ops.size) (stB (JG es) (fun i=>listed.getD i false) (Jj S) ops.size) a w) →
  ∀ j,j ∈ Region.ready .any ops listed->∀ (next:Act->World->Prop),
   (∀ a' w',(∃ X' ρ,Grow K X'/\RelW (K.withX X') ρ (stS (JG es) (fun i=>(listed.setIfInBounds j true).getD i false) (Ju S) ops.size) (stB (JG es) (fun i=>(listed.setIfInBounds j true).getD i false) (Jj S) ops.size) a' w') →
    (∀ k,k < ops.size->(listed.setIfInBounds j true).getD k false=true->∀ i,Anc A i k->(listed.setIfInBounds j true).getD i false=true)->next a' w')->wpOpIn (fen rr) nn K.P ops Q j next a w:=by
  intro listed a w hsz hcl hrel j hj next hn
  obtain⟨hun,o,ho,hpre⟩:=mem_ready.1 hj
  have hjl:j < ops.size:=(Array.getElem?_eq_some_iff.1 ho).1
  have hunf:listed.getD j false=false:=by rw[<- gd _ _ (by omega)];exact hun
  obtain⟨hed,hanc⟩:=d.anc j o ho
  -- all before j are listed
  have hbef:∀ i,Anc A i j->listed.getD i false=true:=by
   intro i hi
   obtain⟨e,he,hb,h3⟩:=hanc i hi
   have h4:=hpre e he hb
   rcases h3 with rfl | h3
   . exact h4
   exact hcl e.on (by have:=hed e he hb;omega) h4 i h3
  have hset:∀ i,(listed.setIfInBounds j true).getD i false=(listed.getD i false || decide (i=j)):=by
   intro i
   by_cases e:i=j
   . subst e
     have:i < listed.size:=by omega
     simp[this]
   have:¬ j=i:=fun h=>e h.symm
   rw[getD_set_ne false this]
   simp[e]
  obtain⟨x,hx⟩:∃ x,I[j]?=some x:=⟨I[j]'(by rw[d.ilen];exact hjl),Kj _⟩
  obtain⟨⟨an,cs,obs,bs,hst,hc,hob,hbs,hxn⟩,hxe,hxr⟩:=d.at_ j o x ho hx
  -- an operation that touches what j reads or writes is before it, or behind it
  have hord:∀ i y,i < ops.size->i ≠ j->I[i]?=some y->(apart x y=false ∨ apart y x=false)->(apart x y=false->apart y x=false->True)->(i < j->apart y x=false)->(j < i->apart x y=false)->(listed.getD i false=true ↔ i < j):=by
   intro i y hi hne hy _ _ h1 h2
   rcases Nat.lt_or_gt_of_ne hne with hlt | hgt
   . have:Anc A i j:=(d.pair i j y x hlt hy hx).resolve_right (by rw[h1 hlt];simp)
     exact⟨fun _=>hlt,fun _=>hbef i this⟩
   have:Anc A j i:=(d.pair j i x y hgt hx hy).resolve_right (by rw[h2 hgt];simp)
   refine⟨fun hl=>?_,fun h=>absurd h (by omega)⟩
   have:=hcl i hi hl j this
   rw[hunf]at this
   cases this
  have hy:∀ i,i < ops.size->∃ y,I[i]?=some y/\y.e=JG es i:=by
   intro i hi
   obtain⟨oi,hoi⟩:∃ o,ops[i]?=some o:=⟨ops[i],Array.getElem?_eq_getElem hi⟩
   have hi':i < I.length:=by rw[d.ilen];exact hi
   exact⟨I[i],Kj hi',(d.at_ i oi _ hoi (Kj hi')).e⟩
  have apart_f:∀ {x y:Info},apart x y=true->Jge y.rd x.e.dst=false/\Jge x.rd y.e.dst=false/\JkR x.e.dst y.e.dst=false/\JjC y.nd x.e.wr=false/\JjC x.nd y.e.wr=false/\JjC (x.e.wr.map (·.1)) y.e.wr=false:=by
   intro x y h
   simp only[apart,Kd,Ks]at h
   exact⟨h.1.1.1.1.1,h.1.1.1.1.2,h.1.1.1.2,h.1.1.2,h.1.2,h.2⟩
  -- writers of what j reads
  have hrdw:∀ i t,i < ops.size->t ∈ Jjm ops o->(JG es i).dst=some t->i ≠ j->(listed.getD i false=true ↔ i < j):=by
   intro i t hi ht hd hne
   obtain⟨y,hyi,hye⟩:=hy i hi
   have h1:apart y x=false:=by
    cases hc:apart y x with
    | false=>rfl
    | true =>
     obtain⟨h,_⟩:=apart_f hc
     exact absurd (hxr ▸ ht) (Ja9 h t (by rw[hye];exact hd))
   have h2:apart x y=false:=by
    cases hc:apart x y with
    | false=>rfl
    | true =>
     obtain⟨_,h,_⟩:=apart_f hc
     exact absurd (hxr ▸ ht) (Ja9 h t (by rw[hye];exact hd))
   exact hord i y hi hne hyi (.inl h2) (fun _ _=>trivial) (fun _=>h1) (fun _=>h2)
  have hndw:∀ i id,i < ops.size->id ∈ x.nd->(∃ p,p ∈ (JG es i).wr/\p.1=id)->i ≠ j->(listed.getD i false=true ↔ i < j):=by
   intro i id hi ht ⟨p,hp,hpi⟩ hne
   obtain⟨y,hyi,hye⟩:=hy i hi
   have h1:apart y x=false:=by
    cases hc:apart y x with
    | false=>rfl
    | true =>
     obtain⟨_,_,_,h,_⟩:=apart_f hc
     exact absurd (hpi ▸ ht) (V8 h p (by rw[hye];exact hp))
   have h2:apart x y=false:=by
    cases hc:apart x y with
    | false=>rfl
    | true =>
     obtain⟨_,_,_,_,h,_⟩:=apart_f hc
     exact absurd (hpi ▸ ht) (V8 h p (by rw[hye];exact hp))
   exact hord i y hi hne hyi (.inl h2) (fun _ _=>trivial) (fun _=>h1) (fun _=>h2)
  have hslot:∀ t,t ∈ Jjm ops o->stS (JG es) (fun i=>listed.getD i false) (Ju S) ops.size t=stS (JG es) (fun _=>true) (Ju S) j t:=by
   intro t ht
   rw[<- JaQ ops.size (K7 hjl)]
   refine WL _ fun i hi hd=>?_
   by_cases e:i=j
   . subst e;rw[hunf];simp
   have:=hrdw i t hi ht hd e
   by_cases hlt:i < j
   . simp[hlt,this.2 hlt]
   have h2:listed.getD i false=false:=by
    cases h:listed.getD i false with
    | false=>rfl
    | true=>exact absurd (this.1 h) hlt
   simp only[h2,hlt,decide_false]
  have hblk:∀ id,id ∈ x.nd->stB (JG es) (fun i=>listed.getD i false) (Jj S) ops.size id=stB (JG es) (fun _=>true) (Jj S) j id:=by
   intro id hid
   rw[<- JaR ops.size (K7 hjl)]
   refine WO _ fun i hi hd=>?_
   by_cases e:i=j
   . subst e;rw[hunf];simp
   have:=hndw i id hi hid hd e
   by_cases hlt:i < j
   . simp[hlt,this.2 hlt]
   have h2:listed.getD i false=false:=by
    cases h:listed.getD i false with
    | false=>rfl
    | true=>exact absurd (this.1 h) hlt
   simp only[h2,hlt,decide_false]
  have hfresh:Fresh (stS (JG es) (fun i=>listed.getD i false) (Ju S) ops.size) (stB (JG es) (fun i=>listed.getD i false) (Jj S) ops.size) (S.n+j):=by
   have hment:∀ i,i < ops.size->listed.getD i false=true->∀ l,Vc A S.n i l=true->S.n+j ∉ l:=by
    intro i hi hl l hm hin
    rcases JdX hm _ hin with h1 | ⟨_,h1⟩ | ⟨k,h1,h2⟩
    . omega
    . have:j=i:=by omega
      subst this
      rw[hunf]at hl
      cases hl
    have:j=k:=by omega
    subst this
    have:=hcl i hi hl j h2
    rw[hunf]at this
    cases this
   have hb:∀ id,(stB (JG es) (fun i=>listed.getD i false) (Jj S) ops.size id).alive->id ≠ S.n+j/\S.n+j ∉ JK (stB (JG es) (fun i=>listed.getD i false) (Jj S) ops.size id):=by
    intro id ha
    rcases Wq (E:=JG es) (L:=fun i=>listed.getD i false) (b0:=Jj S) (id:=id) ops.size with h1 | ⟨i,p,hi,hl,hp,hpi,hv⟩
    . rw[h1]at ha ⊢
      have h2:=hwf.alive id ha
      refine⟨by omega,fun hm=>?_⟩
      have:=hwf.blks id ha _ hm
      omega
    obtain⟨y,hyi,hye⟩:=hy i hi
    obtain⟨_,h3⟩:=d.ment i y hyi
    obtain⟨h4,h5⟩:=h3 p (by rw[hye];exact hp)
    rw[hv]
    refine⟨fun e=>hment i hi hl _ h4 (by rw[hpi,e];simp),hment i hi hl _ h5⟩
   have hz:(stB (JG es) (fun i=>listed.getD i false) (Jj S) ops.size 0).tracey->S.n+j ≠ 0:=by
    intro ht
    rcases Wq (E:=JG es) (L:=fun i=>listed.getD i false) (b0:=Jj S) (id:=0) ops.size with h1 | ⟨i,p,hi,hl,hp,hpi,hv⟩
    . rw[h1]at ht
      have:=hwf.zero ht
      omega
    obtain⟨y,hyi,hye⟩:=hy i hi
    obtain⟨_,h3⟩:=d.ment i y hyi
    obtain⟨h4,h5⟩:=h3 p (by rw[hye];exact hp)
    exact fun e=>hment i hi hl _ h4 (by rw[hpi,e];simp)
   refine⟨fun ha=>(hb _ ha).1 rfl,hz,fun t av ht hm=>?_,fun id ha=>(hb id ha).2⟩
   rcases Jbt ops.size ht with h1 | ⟨i,hi,hl,hv⟩
   . have:=hwf.slots t av h1 _ hm
     omega
   obtain⟨y,hyi,hye⟩:=hy i hi
   exact hment i hi hl _ ((d.ment i y hyi).1 av (by rw[hye];exact hv)) hm
  obtain⟨X,ρ,hg,hr⟩:=hrel
  refine Jfh (K:=K.withX X) hT hr hnt hfresh ho (bs:=bs) (fun id hid=>?_) (by rw[Jeb hslot];exact hst) hc hob rr nn next Q fun X' ρ' a' w' hg' hr'=>?_
  . have hid:id ∈ Jf0 K.G o (stS (JG es) (fun i=>listed.getD i false) (Ju S) ops.size) bs:=hid
    rw[JfZ hslot,<- hxn]at hid
    rw[hblk id hid,<- hbs]
  . have hfun:(fun i=>(listed.setIfInBounds j true).getD i false)=(fun i=>(fun i=>listed.getD i false) i || decide (i=j)):=by
     funext i;exact hset i
    refine hn a' w' ⟨X',ρ',hg.trans hg',?_⟩ ?_
    . rw[hfun,Jhh hunf ops.size hjl ?_,Jhi hunf ops.size hjl ?_]
      . exact hr'
      . intro i hji hi hl p q hp hq he
        obtain⟨y,hyi,hye⟩:=hy i hi
        rcases d.pair j i x y hji hx hyi with h1 | h1
        . have:=hcl i hi hl j h1
          rw[hunf]at this;cases this
        obtain⟨_,_,_,_,_,h⟩:=apart_f h1
        refine V8 h q (by rw[hye];exact hq) ?_
        rw[<- he]
        exact List.mem_map.2 ⟨p,by rw[hxe];exact hp,rfl⟩
      intro i hji hi hl t ht he
      obtain⟨y,hyi,hye⟩:=hy i hi
      rcases d.pair j i x y hji hx hyi with h1 | h1
      . have:=hcl i hi hl j h1
        rw[hunf]at this;cases this
      obtain⟨_,_,h,_⟩:=apart_f h1
      exact Jgf h t (by rw[hxe];exact ht) (by rw[hye];exact he)
    intro k hk hl i hi
    rw[hset]at hl ⊢
    rw[Bool.or_eq_true]at hl ⊢
    rcases hl with hl | hl
    . exact .inl (hcl k hk hl i hi)
    have:k=j:=by simpa using hl
    subst this
    exact .inl (hbef i hi)
 intro fuel
 induction fuel with
 | zero =>
  intro listed a w hsz hle hcl hrel
  have hz:=JcJ (Nat.le_zero.1 hle)
  have hr:Region.ready .any ops listed=[]:=by
   cases hc:Region.ready .any ops listed with
   | nil=>rfl
   | cons i l =>
    have hm:i ∈ Region.ready .any ops listed:=by rw[hc];simp
    obtain⟨h1,o,ho,_⟩:=mem_ready.1 hm
    have:=hz i (List.mem_range.2 (Array.getElem?_eq_some_iff.1 ho).1)
    rw[h1]at this;cases this
  exact⟨hr,hfin listed a w hsz hr hrel⟩
 | succ fuel ih =>
  intro listed a w hsz hle hcl hrel
  refine⟨fun hr=>hfin listed a w hsz hr hrel,fun j hj=>?_⟩
  refine hready listed a w hsz hcl hrel j hj _ fun a' w' hr' hcl'=>?_
  obtain⟨h1,o,ho,_⟩:=mem_ready.1 hj
  have:=Jh5 h1 (List.range ops.size) (List.mem_range.2 (Array.getElem?_eq_some_iff.1 ho).1)
  exact ih _ a' w' (by simpa using hsz) (by omega) hcl' hr'
end
structure SE where
 P:Program
 T:TT
 G:List (Nat × List AV)
 nt:Nat
 L:List (List AV):=[]
 A:List Nat:=[]
 nr:Bool:=true
structure Env where
 w0:World
 X0:Nat->Prop
 F:Nat->Prop
 J:Nat->List (List AV)->(Nat->Prop)->(Nat->Prop)->World->Prop
 D:Nat->(Nat->Prop)->(Nat->Prop)->World->Prop
 ρ0:Pl:=fun _=>none
def SE.ctx(E:SE)(V:Env):Ctx:=⟨E.P,E.T,E.G,V.w0,V.X0,V.F,E.nt,V.J,V.D,E.L,E.A,V.ρ0,E.nr⟩
structure SE.OK(E:SE):Prop where
 tok:TOK E.P E.T
 mix:E.P.follows .mixedOrders=true
def Tri(E:SE)(c:Code)(S:AS)(Q:Exit->AS->Prop):Prop :=
 ∀ (V:Env) (r:Option Nat) (n:Nat) (a:Act) (w:World),(E.nr=true->r=none)->Rel (E.ctx V) S a w->c.wpIn (fen r) n E.P (fun e a' w'=>∃ S',Q e S'/\Rel (E.ctx V) S' a' w') a w
section
variable {E : SE} {S : AS} {Q : Exit → AS → Prop}
theorem Tri.mono{c:Code}{Q':Exit->AS->Prop}(h:Tri E c S Q)(hq:∀ e S,Q e S->Q' e S):Tri E c S Q':=fun V r n a w hnr hr =>
 wpIn_mono (h V r n a w hnr hr) fun e _ _ ⟨S',h1,h2⟩=>⟨S',hq e S' h1,h2⟩
theorem JjL(h:Q .normal S):Tri E .skip S Q:=fun _ _ _ _ _ _ hr=>wpIn_skip ⟨S,h,hr⟩
theorem Jg8{l:Nat}(h:Q .normal S):Tri E (.label l) S Q:=fun _ _ _ _ _ _ hr=>wpIn_label ⟨S,h,hr⟩
theorem JjM{id:Nat}(h:Q (.exit id) S):Tri E (.exit id) S Q:=fun _ _ _ _ _ _ hr=>wpIn_exit ⟨S,h,hr⟩
theorem JmU(h:Q .ret S):Tri E .ret S Q:=fun _ _ _ _ _ _ hr=>wpIn_ret ⟨S,h,hr⟩
theorem Qz{P:Program}{b:Frame}{a:Act}{k:List Item}{cs:List Frame}{w:World}{c:Code}:step P (lone (b.atR a (.code (.scope c)::k)) cs w)=.next (lone (b.atR a (.code c::.inScope c::k)) cs w) :=
 step_lone_go (by simp[stepG,stepG.exec,Frame.atR])
theorem Jbs{P:Program}{b:Frame}{a:Act}{k:List Item}{cs:List Frame}{w:World}{c:Code}:step P (lone (b.atR a (.inScope c::k)) cs w)=.next (lone (b.atR a k) cs w) :=
 step_lone_go (by simp[stepG,stepG.exec,Frame.atR])
theorem JfI{F:Fence}{n:Nat}{P:Program}{Q:Exit->Act->World->Prop}{a:Act}{w:World}{c:Code}(h:c.wpIn F n P Q a w)(hq:∀ l a w,¬ Q (.goto l) a w):(Code.scope c).wpIn F n P Q a w:=by
 intro b k cs hro hb hr
 have h0:(lone (b.atR a (.code (.scope c)::k)) cs w).fenced P F:=fenced_calm hb hr rfl
 obtain⟨e,a₁,w₁,hQ,harr⟩:=h b (.inScope c::k) cs hro hb hr
 cases e with
 | normal=>exact⟨.normal,a₁,w₁,hQ,.head h0 Qz (StepsIn.trans harr (.one (fenced_calm hb hr rfl) Jbs))⟩
 | exit id' =>
  have hx:exitTo id' (.inScope c::k)=exitTo id' k:=by simp[exitTo]
  exact⟨.exit id',a₁,w₁,hQ,fun k' hk=>.head h0 Qz (harr.1 k' (by rw[hx];exact hk)),
   fun hr' hk=>let ⟨k₁,h1,h2⟩:=harr.2 hr' (by rw[hx];exact hk);⟨k₁,h1,.head h0 Qz h2⟩⟩
 | goto l=>exact(hq l a₁ w₁ hQ).elim
 | ret=>exact⟨_,a₁,w₁,hQ,.of_steps (.one h0 Qz) harr⟩
 | panic ch=>exact⟨_,a₁,w₁,hQ,.of_steps (.one h0 Qz) harr⟩
 | outgrown=>exact⟨_,a₁,w₁,hQ,.of_steps (.one h0 Qz) harr⟩
theorem Jg7{c:Code}(h:Tri E c S Q)(hq:∀ l S,¬ Q (.goto l) S):Tri E (.scope c) S Q:=fun V r n a w hnr hr =>
 JfI (h V r n a w hnr hr) fun l _ _ ⟨S',h1,_⟩=>hq l S' h1
def UH(R:AS->Prop)(Q:Exit->AS->Prop):Exit->AS->Prop
 | .normal,S=>R S
 | e,S=>Q e S
theorem Jg6{x y:Code}(R:AS->Prop)(hx:Tri E x S (UH R Q))(hy:∀ S',R S'->Tri E y S' Q):Tri E (.seq x y) S Q:=fun V r n a w hnr hr=>by
 refine wpIn_seq (wpIn_mono (hx V r n a w hnr hr) fun e a' w' ⟨S',h1,h2⟩=>?_)
 cases e with
 | normal=>exact hy S' h1 V r n a' w' hnr h2
 | _=>exact⟨S',h1,h2⟩
theorem Jbk{c:Operand}{x y:Code}{b:Bool}(hc:JdP E.G (Ju S) c=some (.bool b))(ht:b=true->Tri E x S Q)(hf:b=false->Tri E y S Q):Tri E (.cond c x y) S Q:=fun V r n a w hnr hr=>by
 obtain⟨hwf,X',ρ,hg,hrw⟩:=hr
 have hv:=SRep.bool_inv (WW (K:=(E.ctx V).withX X') hrw hc)
 exact wpIn_cond_split hv (fun e=>ht e V r n a w hnr ⟨hwf,X',ρ,hg,hrw⟩) (fun e=>hf e V r n a w hnr ⟨hwf,X',ρ,hg,hrw⟩)
def Wg(blk:ABlk)(S:AS):AS:=⟨S.s,wrL [(0,blk)] S.b,S.n⟩
theorem Jcr(l:Nat)(rows:List (List AV))(S:AS):Jj (Wg (.ready l rows) S)=upd (Jj S) 0 (.ready l rows):=X6 _ _
theorem JaT(l:Nat)(S:AS):Jj (Wg (.stop l) S)=upd (Jj S) 0 (.stop l):=X6 _ _
theorem JfL{c:Operand}{x y:Code}{l k:Nat}{n:Bool}{rows:List (List AV)}(hc:JdP E.G (Ju S) c=some (.yb l k n))(hB:Jj S 0=.trace l rows)(hk:rows.length=k)
 (hgo:Tri E (if n then y else x) (Wg (.ready l rows) S) Q)(hst:Tri E (if n then x else y) (Wg (.stop l) S) Q):Tri E (.cond c x y) S Q:=fun V r nn a w hnr hr=>by
 obtain⟨hwf,X',ρ,hg,hrw⟩:=hr
 obtain⟨bv,hv,hy⟩:=(show SRep0 ρ (Jj S) (XX X' ρ (Jj S)) w (a.eval c) (.yb l k n)from WW (K:=(E.ctx V).withX X') hrw hc)
 have hb:=hy.1 rows hB hk
 have h0:¬ (Jj S 0).alive:=by rw[hB];exact fun h=>h
 have hS:0 < S.n:=hwf.zero (by rw[hB];trivial)
 obtain⟨g1,g2,g3⟩:=hrw.trc.tr l rows hB
 have wf':∀ blk:ABlk,¬ blk.alive->Jj (Wg blk S)=upd (Jj S) 0 blk->WF (Wg blk S):=by
  intro blk hb hS'
  have key:∀ id,(Jj (Wg blk S) id).alive->Jj (Wg blk S) id=Jj S id/\(Jj S id).alive:=by
   intro id ha
   rw[hS']at ha ⊢
   by_cases e:id=0
   . subst e;rw[Jb]at ha;exact absurd ha hb
   rw[Jf _ _ e]at ha ⊢;exact⟨rfl,ha⟩
  exact⟨hwf.slots,fun id ha=>hwf.alive id (key id ha).2,fun id ha i hi=>by
   obtain⟨h1,h2⟩:=key id ha
   rw[h1]at hi
   exact hwf.blks id h2 i hi,fun _=>hS⟩
 have fxx:((Jj S) 0).tracey:=by rw[hB];trivial
 cases hrd:rdy w l with
 | true =>
  have hrel:Rel (E.ctx V) (Wg (.ready l rows) S) a w:=by
   refine⟨wf' _ (fun h=>h) (Jcr l rows S),X',ρ,hg,?_⟩
   rw[Jcr]
   refine hrw.retrace h0 (fun h=>h) (fun l' k' n' bv' h=>⟨fun rows' e=>(by rw[Jb]at e;cases e),fun l2 rows' e=>?_,fun l2 rows' e=>(by rw[Jb]at e;cases e)⟩) (hrw.dt fxx) ⟨hrw.trc.stab,hrw.trc.yok,fun _=>hrw.trc.fx fxx,fun l2 rows' e=>?_,fun l2 rows' e=>(by rw[Jb]at e;cases e),fun l2 e=>(by rw[Jb]at e;cases e)⟩
   . rw[Jb]at e;cases e;exact h.2.2 l rows hB
   rw[Jb]at e;cases e
   exact⟨g1,hrw.trc.stab.j _ _ _ _ _ _ _ (g2 hrd) (.refl (JbA h0 (fun h=>h)))⟩
  rw[hrd]at hb
  cases n with
  | true=>exact wpIn_cond_false (by rw[hv,hb];rfl) (hgo V r nn a w hnr hrel)
  | false=>exact wpIn_cond_true (by rw[hv,hb];rfl) (hgo V r nn a w hnr hrel)
 | false =>
  have hrel:Rel (E.ctx V) (Wg (.stop l) S) a w:=by
   refine⟨wf' _ (fun h=>h) (JaT l S),X',ρ,hg,?_⟩
   rw[JaT]
   refine hrw.retrace h0 (fun h=>h) (fun l' k' n' bv' h=>⟨fun rows' e=>(by rw[Jb]at e;cases e),fun l2 rows' e=>(by rw[Jb]at e;cases e),fun l2 rows' e=>(by rw[Jb]at e;cases e)⟩) (hrw.dt fxx) ⟨hrw.trc.stab,hrw.trc.yok,fun _=>hrw.trc.fx fxx,fun l2 rows' e=>(by rw[Jb]at e;cases e),fun l2 rows' e=>(by rw[Jb]at e;cases e),fun l2 e=>?_⟩
   rw[Jb]at e;cases e
   exact hrw.trc.stab.d _ _ _ _ _ _ (g3 hrd) (.refl (JbA h0 (fun h=>h)))
  rw[hrd]at hb
  cases n with
  | true=>exact wpIn_cond_true (by rw[hv,hb];rfl) (hst V r nn a w hnr hrel)
  | false=>exact wpIn_cond_false (by rw[hv,hb];rfl) (hst V r nn a w hnr hrel)
def inQ(id:Nat)(Q:Exit->AS->Prop):Exit->AS->Prop
 | .exit id',S=>if id'=id then Q .normal S else Q (.exit id') S
 | e,S=>Q e S
theorem Jg9{id:Nat}{c:Code}(h:Tri E c S (inQ id Q)):Tri E (.block id c) S Q:=fun V r n a w hnr hr=>by
 refine wpIn_block (wpIn_mono (h V r n a w hnr hr) fun e a' w' ⟨S',h1,h2⟩=>?_)
 cases e with
 | exit id' =>
  simp only[inQ]at h1
  simp only[Exit.inBlock]
  split
  . rename_i e;rw[if_pos e]at h1;exact⟨S',h1,h2⟩
  rename_i e;rw[if_neg e]at h1;exact⟨S',h1,h2⟩
 | _=>exact⟨S',h1,h2⟩
theorem Jbj{c:Code}(J:Nat->AS->Prop)(round:∀ n S,J n S->Tri E c S (UH (fun S'=>∃ m,m < n/\J m S') Q)){n:Nat}(h0:J n S):Tri E (.loop c) S Q:=fun V r nn a w hnr hr=>by
 have hex:∀ (a:Act) (w:World),(∃ n S,J n S/\Rel (E.ctx V) S a w)->∃ n,(∃ S,J n S/\Rel (E.ctx V) S a w)/\∀ m,(∃ S,J m S/\Rel (E.ctx V) S a w)->n<=m:=by
  rintro a w ⟨n,hn⟩
  induction n using Nat.strongRecOn with
  | _ n ih =>
   by_cases h:∃ m,m < n/\∃ S,J m S/\Rel (E.ctx V) S a w
   . obtain⟨m,hm,hs⟩:=h
     exact ih m hm hs
   refine⟨n,hn,fun m hm=>?_⟩
   rcases Nat.lt_or_ge m n with hlt | hge
   . exact absurd ⟨m,hlt,hm⟩ h
   exact hge
 classical
 let μ:Act->World->Nat:=fun a w=>if h:∃ n S,J n S/\Rel (E.ctx V) S a w then(hex a w h).choose else 0
 refine wpIn_loop (fun a w=>∃ n S,J n S/\Rel (E.ctx V) S a w) μ ⟨n,S,h0,hr⟩ fun a w hI=>?_
 have hμ:μ a w=(hex a w hI).choose:=dif_pos hI
 obtain⟨⟨S1,hj,hr1⟩,hmin⟩:=(hex a w hI).choose_spec
 rw[<- hμ]at hj hmin
 refine wpIn_mono (round (μ a w) S1 hj V r nn a w hnr hr1) fun e a' w' ⟨S',h1,h2⟩=>?_
 cases e with
 | normal =>
  obtain⟨m,hm,hJ⟩:=h1
  have hI':∃ n S,J n S/\Rel (E.ctx V) S a' w':=⟨m,S',hJ,h2⟩
  refine⟨hI',?_⟩
  have hμ':μ a' w'=(hex a' w' hI').choose:=dif_pos hI'
  obtain⟨_,hmin'⟩:=(hex a' w' hI').choose_spec
  rw[<- hμ']at hmin'
  exact Nat.lt_of_le_of_lt (hmin' m ⟨S',hJ,h2⟩) hm
 | _=>exact⟨S',h1,h2⟩
theorem RelW.drawn{K:Ctx}{ρ:Pl}{slot:Nat->Option AV}{B:Nat->ABlk}{a:Act}{w:World}(h:RelW K ρ slot B a w)(n:Nat):RelW K ρ slot B a { w with drawn:=n } :=
 h.world ⟨rfl,rfl,rfl,Kr _,fun _ _=>rfl⟩
theorem JfK(hE:E.OK){id:Nat}{ops:Array Oper}{draw:Bool}{ans:List An}{es:List Eff}{cs:List Cd}{obs:List GObl}
 (he:Wj E.G E.T E.nt ops ans ops.toList S=some (es,cs,obs))(hc:All cs)(hob:∀ ob,ob ∈ obs->ob.g=true->ob.o.ok E.P E.G E.L)
 (hd:draw=true->Jfj E.G ops es S=true)(hQ:Q .normal (Jjp es S)):Tri E (.region id ops draw) S Q:=fun V r n a w hnr hr=>by
 have hobs:U3 (E.ctx V) obs:=hob
 cases draw with
 | false =>
  refine wpIn_region ?_
  have h1:=JlJ (r:=r) (n:=n) (K:=E.ctx V) hE.tok (nt:=E.nt) rfl (ops:=ops) (Q:=fun e a' w'=>∃ S',Q e S'/\Rel (E.ctx V) S' a' w') ops.toList 0 ans S es cs obs a w (fun k o hk=>by simpa using hk) he hc hobs hr (fun a' w' hr'=>⟨_,hQ,hr'⟩)
  rw[List.range_eq_range',<- Array.length_toList]
  exact h1
 | true =>
  obtain⟨hwf,X',ρ,hg,hrw⟩:=hr
  have hdr:=hd rfl
  unfold Jfj at hdr
  simp only[Kd]at hdr
  obtain⟨⟨hA,hP⟩,hM⟩:=hdr
  obtain⟨l1,l2,hat⟩:=Jfg (K:=E.ctx V) (A:=ancs ops.toList []) he hc hobs
  have d:Draw (E.ctx V) E.nt ops (ancs ops.toList []) S es (JcP E.G ops ops.toList es S):=by
   refine⟨l1.trans (by simp),l2.trans (by simp),fun k o x hk hx=>hat k o x (by simpa using hk) hx,fun k o hk=>?_,fun p q x y hpq hp hq=>?_,fun k x hx=>?_⟩
   . have:=Jat hA k o (by simpa using hk)
     simpa using this
   . have:=JaX hP p q x y hpq hp hq
     simpa using this
   have:=JaZ hM k x hx
   simpa using this
  refine wpIn_region_any hE.mix ?_
  refine JkT (K:=E.ctx V) hE.tok rfl d hwf (Q:=fun e a' w'=>∃ S',Q e S'/\Rel (E.ctx V) S' a' w') (fun a' w' hr'=>⟨Jjp es S,hQ,Jff he hwf,?_⟩) ops.size _ a _ (by simp) ?_ ?_ ⟨X',ρ,hg,?_⟩
  . obtain⟨h1,h2⟩:=Jiq es S
    rw[h1,h2,l1]
    simpa using hr'
  . have:=Jh6 (Array.replicate ops.size false) (List.range ops.size)
    simpa using this
  . intro k hk hl
    simp[hk]at hl
  have e1:∀ m,stS (JG es) (fun i=>(Array.replicate ops.size false).getD i false) (Ju S) m=Ju S:=by
   intro m
   induction m with
   | zero=>rfl
   | succ m ih =>
    have:(Array.replicate ops.size false).getD m false=false:=by
     by_cases hb:m < ops.size <;> simp[hb]
    simp only[stS,this,ih]
    simp
  have e2:∀ m,stB (JG es) (fun i=>(Array.replicate ops.size false).getD i false) (Jj S) m=Jj S:=by
   intro m
   induction m with
   | zero=>rfl
   | succ m ih =>
    have:(Array.replicate ops.size false).getD m false=false:=by
     by_cases hb:m < ops.size <;> simp[hb]
    simp only[stB,this,ih]
    simp
  rw[e1,e2]
  exact hrw.drawn _
end
def Imp(E:SE)(S S':AS):Prop:=∀ V a w,Rel (E.ctx V) S a w->Rel (E.ctx V) S' a w
theorem Imp.refl(E:SE)(S:AS):Imp E S S:=fun _ _ _ h=>h
theorem Imp.trans{E:SE}{S S' S'':AS}(h:Imp E S S')(k:Imp E S' S''):Imp E S S'':=fun V a w hr=>k V a w (h V a w hr)
theorem Imp.pre{E:SE}{S S':AS}{c:Code}{Q:Exit->AS->Prop}(h:Imp E S S')(t:Tri E c S' Q):Tri E c S Q:=fun V r n a w hnr hr=>t V r n a w hnr (h V a w hr)
theorem Imp.post{E:SE}{S:AS}{c:Code}{Q Q':Exit->AS->Prop}(t:Tri E c S Q)(h:∀ e S',Q e S'->∃ S'',Imp E S' S''/\Q' e S''):Tri E c S Q':=fun V r n a w hnr hr =>
 wpIn_mono (t V r n a w hnr hr) fun e a' w' ⟨S',h1,h2⟩=>let ⟨S'',h3,h4⟩:=h e S' h1;⟨S'',h4,h3 V a' w' h2⟩
section
variable {K : Ctx} {ρ : Pl} {slot slot' : Nat → Option AV} {B : Nat → ABlk} {a : Act} {w : World}
theorem RelW.slots_of(h:RelW K ρ slot B a w)(hs:∀ t av,slot' t=some av->t < K.nt/\SRep ρ B (XX K.X0 ρ B) w (a.tmps.getD t undef) av):RelW K ρ slot' B a w :=
 ⟨h.defers,h.size,h.keeps,h.x0,h.glob,h.live,h.inj,h.blks,hs,h.trc,h.dt,h.anc,h.pin⟩
end
def Jjo(f:AV->Option AV):List (Nat × AV)->List (Nat × AV)
 | []=>[]
 | (t,v)::l=>match f v with
  | some v'=>(t,v')::Jjo f l
  | none=>Vu t (Jjo f l)
def Jd2(c:Nat)(ex:List Nat):List (Nat × AV)->List (Nat × AV)
 | []=>[]
 | (t,v)::l=>if t.blt c || ex.any (fun i=>i.beq t)then(t,v)::Jd2 c ex l else Jd2 c ex l
theorem J0{a b:Nat}(h:a ≠ b):a.beq b=false:=by
 cases hb:a.beq b
 . rfl
 exact absurd (Kc hb) h
theorem Jh1(f:AV->Option AV)(t:Nat):∀ l,lk t (Jjo f l)=(lk t l).bind f
 | []=>rfl
 | (u,v)::l=>by
  have ih:=Jh1 f t l
  simp only[Jjo]
  by_cases e:u=t
  . subst e
    split
    . rename_i v' hv
      simp[lk,hv]
    rename_i hv
    rw[Xk]
    simp[lk,hv]
  split
  . simp only[lk,J0 e]
    exact ih
  rw[Xk,if_neg (fun h=>e h.symm)]
  simp only[lk,J0 e]
  exact ih
theorem JbH{c:Nat}{ex:List Nat}{t:Nat}{av:AV}:∀ {l},lk t (Jd2 c ex l)=some av->lk t l=some av
 | (u,v)::l,h=>by
  simp only[Jd2]at h
  by_cases e:u=t
  . subst e
    split at h
    . simpa[lk]using h
    rename_i hn
    have hnone:∀ l:List (Nat × AV),lk u (Jd2 c ex l)=none:=by
     intro l
     induction l with
     | nil=>rfl
     | cons p l ih =>
      obtain⟨q,x⟩:=p
      simp only[Jd2]
      split
      . rename_i hq
        have:q ≠ u:=fun e=>hn (e ▸ hq)
        simp only[lk,J0 this]
        exact ih
      exact ih
    rw[hnone]at h
    cases h
  simp only[lk,J0 e]
  split at h
  . simp only[lk,J0 e]at h
    exact JbH h
  exact JbH h
def JkS(c:Nat)(ex:List Nat)(S:AS):AS:={ S with s:=Jd2 c ex S.s }
theorem Jfb(E:SE)(S:AS)(c:Nat)(ex:List Nat):Imp E S (JkS c ex S):=fun _ _ _ ⟨hwf,X,ρ,hg,hr⟩ =>
 ⟨⟨fun t av ht=>hwf.slots t av (JbH ht),hwf.alive,hwf.blks,hwf.zero⟩,X,ρ,hg,hr.weaken (fun _ _ ht=>JbH ht) (fun _ _=>rfl) (fun _ h _=>h) (fun _ _=>rfl)⟩
def Ve(id:Nat)(S:AS):AS:={ S with b:=Vu id S.b }
theorem XC(id:Nat)(S:AS):∀ i,(Jj (Ve id S) i).alive->i ≠ id/\Jj (Ve id S) i=Jj S i:=by
 intro i h
 unfold Jj Ve Jr at h ⊢
 rw[Xk]at h ⊢
 split at h
 . exact h.elim
 rename_i e;rw[if_neg e];exact⟨e,rfl⟩
theorem Wt(id:Nat)(S:AS):∀ x,Jj (Ve id S) 0=x->x.tracey->Jj S 0=x:=by
 intro x h ht
 subst h
 unfold Jj Ve Jr at ht ⊢
 rw[Xk]at ht ⊢
 split at ht
 . exact ht.elim
 rename_i e;rw[if_neg e]
def inA(A:List Nat)(id:Nat):Bool:=A.any fun i=>i.beq id
theorem JcQ{A:List Nat}{id:Nat}(h:inA A id=false):∀ i,i ∈ A->i ≠ id:=fun i hi e=>by
 have:A.any (fun i=>i.beq id)=true:=List.any_eq_true.2 ⟨i,hi,by rw[e];exact JB id⟩
 rw[show inA A id=A.any (fun i=>i.beq id)from rfl,this]at h
 cases h
theorem JbJ{id:Nat}{S:AS}{i:Nat}(h:i ≠ id):Jj (Ve id S) i=Jj S i:=by
 unfold Jj Ve Jr
 rw[Xk,if_neg h]
theorem JkC(E:SE)(S:AS)(id:Nat)(hA:inA E.A id=false):Imp E S (Ve id S):=fun _ _ _ ⟨hwf,X,ρ,hg,hr⟩ =>
 ⟨⟨hwf.slots,fun i ha=>hwf.alive i ((XC id S i ha).2 ▸ ha),fun i ha=>(XC id S i ha).2 ▸ hwf.blks i ((XC id S i ha).2 ▸ ha),fun ht=>hwf.zero (by rw[Wt id S _ rfl ht];exact ht)⟩,X,ρ,hg,hr.weaken (fun _ _ ht=>ht) (fun i ha=>(XC id S i ha).2) (Wt id S) (fun i hi=>JbJ (JcQ hA i hi))⟩
def wfB(n:Nat)(S:AS):Bool:=S.s.all (fun p=>Jes n (Qn p.2)) && S.b.all fun p=>p.1.blt n && Jes n (JK p.2)
theorem Ja0{α:Type}{t:Nat}{x:α}:∀ {l:List (Nat × α)},lk t l=some x->∃ u,(u,x) ∈ l/\u=t
 | (u,y)::l,h=>by
  simp only[lk]at h
  split at h
  . rename_i hb
    cases h
    exact⟨u,by simp,Kc hb⟩
  obtain⟨v,h1,h2⟩:=Ja0 h
  exact⟨v,by simp[h1],h2⟩
theorem JlF{n:Nat}{S:AS}(h:wfB n S=true):WF { S with n:=n }:=by
 unfold wfB at h
 simp only[Kd]at h
 have hb:∀ id,(Jj S id).alive->id < n/\∀ i,i ∈ JK (Jj S id)->i < n:=by
  intro id ha
  unfold Jj Jr at ha ⊢
  cases hl:lk id S.b with
  | none=>rw[hl]at ha;exact ha.elim
  | some x =>
   obtain⟨u,hm,rfl⟩:=Ja0 hl
   have:=List.all_eq_true.1 h.2 _ hm
   simp only[Kd]at this
   exact⟨Qx this.1,Uy this.2⟩
 refine⟨fun t av ht=>?_,fun id ha=>(hb id ha).1,fun id ha=>(hb id ha).2,fun ht=>?_⟩
 rotate_left
 . show 0 < n
   unfold Jj Jr at ht
   cases hl:lk 0 S.b with
   | none=>rw[show lk 0 ({ S with n:=n }:AS).b=lk 0 S.b from rfl,hl]at ht;exact ht.elim
   | some x =>
    obtain⟨u,hm,rfl⟩:=Ja0 hl
    have:=List.all_eq_true.1 h.2 _ hm
    simp only[Kd]at this
    exact Qx this.1
 obtain⟨u,hm,_⟩:=Ja0 (show lk t S.s=some av from ht)
 exact Uy (List.all_eq_true.1 h.1 _ hm)
def setN(n:Nat)(S:AS):Option AS:=if wfB n S then some { S with n:=n }else none
theorem Jkx(E:SE){S S':AS}{n:Nat}(h:setN n S=some S'):Imp E S S':=fun V a w ⟨_,X,ρ,hg,hr⟩=>by
 unfold setN at h
 split at h
 . rename_i hb;cases h;exact⟨JlF hb,X,ρ,hg,hr⟩
 cases h
def JbN(bs:BL)(id:Nat)(v:AV):Option AV :=
 match v with
 | .own i n=>if i.beq id then XZ bs (.own i n)else some v
 | .ptr i off=>if i.beq id then XZ bs (.ptr i off)else some v
 | v=>if(Qn v).any (fun i=>i.beq id)then none else some v
def frzS(A:List Nat)(id:Nat)(S:AS):Option AS :=
 if inA A id then none else if S.b.all fun p=>!(JK p.2).any (fun i=>i.beq id)then some { S with s:=Jjo (JbN S.b id) S.s,b:=Vu id S.b }else none
theorem WG{bs:BL}{v v':AV}(h:XZ bs v=some v'):Qn v'=[]:=by
 cases v with
 | own i n =>
  simp only[XZ]at h
  split at h
  . cases h;rfl
  cases h
 | ptr i o =>
  simp only[XZ]at h
  split at h
  . split at h
    . cases h;rfl
    cases h
  cases h
 | fn f x y =>
  simp only[XZ]at h
  split at h
  . rename_i hp
    cases h
    simp only[JJ,Kd]at hp
    have h0:∀ z:AV,XM z=true->mids0 z=[]:=fun z hz=>by cases z <;> simp_all [XM,mids0]
    simp only[Qn,mids1,List.flatMap_eq_nil_iff,Kp]
    rintro z (hz | hz)
    . exact h0 z (List.all_eq_true.1 hp.1 z hz)
    exact h0 z (List.all_eq_true.1 hp.2 z hz)
  cases h
 | gv _ _=>simp[XZ,JJ]at h
 | bsl _ _=>simp[XZ,JJ]at h
 | osl _ _ _=>simp[XZ,JJ]at h
 | ax _=>simp[XZ,JJ]at h
 | optr _ _ _=>simp[XZ,JJ]at h
 | ref _=>simp[XZ,JJ]at h
 | yld _=>simp[XZ,JJ]at h
 | yb _ _ _=>simp[XZ,JJ]at h
 | _ =>
  simp only[XZ]at h
  split at h
  . cases h;rfl
  cases h
theorem JiO{l:List Nat}{id:Nat}(h:l.any (fun i=>i.beq id)=false):id ∉ l:=fun hm=>by
 have:l.any (fun i=>i.beq id)=true:=List.any_eq_true.2 ⟨id,hm,JB id⟩
 rw[h]at this
 cases this
theorem Jio{bs:BL}{id:Nat}{v v':AV}(h:JbN bs id v=some v'):(v'=v/\id ∉ Qn v) ∨ (∃ bs',XZ bs' v=some v'/\bs'=bs):=by
 have hother:(if(Qn v).any (fun i=>i.beq id)then none else some v)=some v'->v'=v/\id ∉ Qn v:=by
  intro h
  split at h
  . cases h
  rename_i hn;cases h;exact⟨rfl,JiO (Bool.eq_false_iff.2 hn)⟩
 cases v with
 | own i n =>
  simp only[JbN]at h
  split at h
  . exact .inr ⟨bs,h,rfl⟩
  rename_i hn
  cases h
  refine .inl ⟨rfl,?_⟩
  simp only[Qn,mids1,mids0,List.mem_singleton]
  exact fun e=>hn (by rw[e];exact JB i)
 | ptr i n =>
  simp only[JbN]at h
  split at h
  . exact .inr ⟨bs,h,rfl⟩
  rename_i hn
  cases h
  refine .inl ⟨rfl,?_⟩
  simp only[Qn,mids1,mids0,List.mem_singleton]
  exact fun e=>hn (by rw[e];exact JB i)
 | _=>exact .inl (hother h)
theorem Q8{bs:BL}{id:Nat}{v v':AV}(h:JbN bs id v=some v'):(v'=v/\id ∉ Qn v) ∨ (XZ bs v=some v'/\mids0 v=[id]):=by
 rcases Jio h with h1 | ⟨_,_,rfl⟩
 . exact .inl h1
 cases v with
 | own i n =>
  simp only[JbN]at h
  split at h
  . rename_i hb;exact .inr ⟨h,by simp[mids0,Nat.eq_of_beq_eq_true hb]⟩
  rename_i hn
  cases h
  refine .inl ⟨rfl,?_⟩
  simp only[Qn,mids1,mids0,List.mem_singleton]
  exact fun e=>hn (by rw[e];exact JB i)
 | ptr i n =>
  simp only[JbN]at h
  split at h
  . rename_i hb;exact .inr ⟨h,by simp[mids0,Nat.eq_of_beq_eq_true hb]⟩
  rename_i hn
  cases h
  refine .inl ⟨rfl,?_⟩
  simp only[Qn,mids1,mids0,List.mem_singleton]
  exact fun e=>hn (by rw[e];exact JB i)
 | _ =>
  simp only[JbN]at h
  split at h
  . cases h
  rename_i hn;cases h;exact .inl ⟨rfl,JiO (Bool.eq_false_iff.2 hn)⟩
theorem JnY(E:SE){S S':AS}{id:Nat}(h:frzS E.A id S=some S'):Imp E S S':=fun V a w ⟨hwf,X,ρ,hg,hr⟩=>by
 unfold frzS at h
 split at h
 . cases h
 rename_i hA
 have hA:inA E.A id=false:=by simpa using hA
 split at h
 . cases h
   have hk:=XC id S
   have hkt:=Wt id S
   have hslot:∀ t av,lk t (Jjo (JbN S.b id) S.s)=some av->∃ v,Ju S t=some v/\JbN S.b id v=some av:=by
    intro t av ht
    rw[Jh1]at ht
    cases hl:lk t S.s with
    | none=>rw[hl]at ht;cases ht
    | some v=>rw[hl]at ht;exact⟨v,hl,ht⟩
   refine⟨⟨fun t av ht i hi=>?_,fun i ha=>hwf.alive i ((hk i ha).2 ▸ ha),fun i ha=>(hk i ha).2 ▸ hwf.blks i ((hk i ha).2 ▸ ha),fun ht=>hwf.zero (by rw[hkt _ rfl ht];exact ht)⟩,X,ρ,hg,?_⟩
   . obtain⟨v,hv,hf⟩:=hslot t av ht
     rcases Q8 hf with⟨rfl,_⟩ | ⟨h1,_⟩
     . exact hwf.slots t av hv i hi
     rw[WG h1]at hi;cases hi
   refine(hr.weaken (slot':=fun _=>none) (B':=Jj (Ve id S)) (fun _ _ h=>by cases h) (fun i ha=>(hk i ha).2) hkt (fun i hi=>JbJ (JcQ hA i hi))).slots_of fun t av ht=>?_
   obtain⟨v,hv,hf⟩:=hslot t av ht
   obtain⟨hlt,hs⟩:=hr.slots t v hv
   refine⟨hlt,?_⟩
   have hxx:∀ b,¬ XX X ρ (Jj S) b->¬ XX X ρ (Jj (Ve id S)) b:=fun b hn=>JgY (fun i ha=>(hk i ha).2) hn
   have hR:=hr.hR hkt (Y':=own ρ (Jj (Ve id S))) (w':=w) (.refl fun b ⟨i,ha,hri⟩=>⟨i,(hk i ha).2 ▸ ha,hri⟩)
   rcases Q8 hf with⟨rfl,hn⟩ | ⟨h1,h2⟩
   . exact SRep.mono (Kr _) (fun _ _ _=>rfl) (fun b _ hb=>hxx b hb) (fun i _ ha=>⟨(hk i ha).2 ▸ sameMake.refl ha,rfl,fun b _ cur e hh=>⟨cur,hh,rfl⟩⟩) hR hs
   refine SRep.of_rep (V9 hr hxx (fun i b hi hal hri=>?_) h1 (fun _ _=>rfl) hs)
   rw[h2]at hi
   simp only[List.mem_singleton]at hi
   subst hi
   exact JbQ hr hal hri hk
 cases h
def JhI(t e k:Nat)(S:AS):Option AS :=
 match Ju S t with
 | some (.ex v)=>if QK v then some ⟨Jdw t (.own S.n 0) (Vu t S.s),wrL [(S.n,.buf e k [])] S.b,S.n+1⟩else none
 | _=>none
def Jm9(t k:Nat)(S:AS):Option AS :=
 match Ju S t with
 | some (.ex v)=>if QK v then some { S with s:=Jdw t (.sl k []) (Vu t S.s) }else none
 | _=>none
theorem Q5(t:Nat)(v:AV)(s:List (Nat × AV))(u:Nat):lk u (Jdw t v (Vu t s))=if u=t then some v else lk u s:=by
 rw[Je3,Xk]
 split <;> rfl
theorem Jif(E:SE){S S':AS}{t k:Nat}(h:Jm9 t k S=some S'):Imp E S S':=fun V a w ⟨hwf,X,ρ,hg,hr⟩=>by
 unfold Jm9 at h
 split at h
 . rename_i v hv
   split at h
   . rename_i hn
     cases h
     obtain⟨hlt,hs⟩:=hr.slots t _ hv
     have hval:=SRep.ex_inv hs
     have e0:=JD hn
     refine⟨⟨fun u av hu i hi=>?_,hwf.alive,hwf.blks,hwf.zero⟩,X,ρ,hg,hr.slots_of fun u av hu=>?_⟩
     . have hu:lk u (Jdw t (.sl k []) (Vu t S.s))=some av:=hu
       rw[Q5]at hu
       split at hu
       . cases hu;cases hi
       exact hwf.slots u av hu i hi
     have hu:lk u (Jdw t (.sl k []) (Vu t S.s))=some av:=hu
     rw[Q5]at hu
     split at hu
     . rename_i e
       cases hu
       subst e
       refine⟨hlt,?_⟩
       rw[hval,e0]
       exact SRep.of_rep (.slE none 0 k)
     exact hr.slots u av hu
   cases h
 cases h
theorem Jf8(E:SE){S S':AS}{t e k:Nat}(h:JhI t e k S=some S'):Imp E S S':=fun V a w ⟨hwf,X,ρ,hg,hr⟩=>by
 unfold JhI at h
 split at h
 . rename_i v hv
   split at h
   . rename_i hn
     cases h
     obtain⟨hlt,hs⟩:=hr.slots t _ hv
     have hval:=SRep.ex_inv hs
     have e0:=JD hn
     obtain⟨ρ',hr',hs'⟩:=JbD hr hwf.fresh e k
     have hap:WF (Qy ⟨some t,some (.own S.n 0),[(S.n,.buf e k [])]⟩ S):=hwf.apply (by
      simp[Jgd,Qn,mids1,mids0,Jes,JK,Nat.blt])
     refine⟨hap,X,ρ',hg,?_⟩
     have eb:Jj (⟨Jdw t (.own S.n 0) (Vu t S.s),wrL [(S.n,.buf e k [])] S.b,S.n+1⟩:AS)=wrB (Jj S) [(S.n,.buf e k [])]:=X6 _ _
     rw[eb]
     refine hr'.slots_of fun u av hu=>?_
     have hu:lk u (Jdw t (.own S.n 0) (Vu t S.s))=some av:=hu
     rw[Q5]at hu
     split at hu
     . rename_i e1
       cases hu
       subst e1
       refine⟨hlt,?_⟩
       rw[hval,e0]
       exact hs'
     exact hr'.slots u av hu
   cases h
 cases h
def swp(x y i:Nat):Nat:=if i.beq x then y else if i.beq y then x else i
theorem JR(x y i:Nat):swp x y (swp x y i)=i:=by
 unfold swp
 by_cases h:i=x
 . subst h
   simp only[JB,if_true]
   by_cases e:y=i
   . subst e;simp only[JB,if_true]
   simp only[J0 e,Bool.false_eq_true,if_false]
 simp only[J0 h,Bool.false_eq_true,if_false]
 by_cases e:i=y
 . subst e
   simp only[JB,if_true]
 simp only[J0 e,J0 h,Bool.false_eq_true,if_false]
def JlO(x y:Nat):AV->AV
 | .ptr id o=>.ptr (swp x y id) o
 | .optr id i j=>.optr (swp x y id) i j
 | .own id n=>.own (swp x y id) n
 | .ref id=>.ref (swp x y id)
 | .bsl id n=>.bsl (swp x y id) n
 | .osl id lo n=>.osl (swp x y id) lo n
 | a=>a
def Jgz(x y:Nat):AV->AV
 | .fn f a b=>.fn f (a.map (JlO x y)) (b.map (JlO x y))
 | a=>JlO x y a
def Jj7(x y:Nat):AV->AV
 | .gv g a=>.gv g (Jgz x y a)
 | .ax l=>.ax (l.map (Jgz x y))
 | a=>Jgz x y a
def JdH(x y:Nat):ABlk->ABlk
 | .box cells=>.box (cells.map (Jgz x y))
 | b=>b
def JfV(x y:Nat):List (Nat × AV)->List (Nat × AV)
 | []=>[]
 | (t,v)::l=>(t,Jj7 x y v)::JfV x y l
def JdG(x y:Nat):BL->BL
 | []=>[]
 | (i,b)::l=>(swp x y i,JdH x y b)::JdG x y l
def JhE(x y:Nat):ABlk->Bool
 | .pins n=>n.ble x && n.ble y
 | _=>true
def renS(A:List Nat)(x y:Nat)(S:AS):Option AS:=if((x.blt S.n && y.blt S.n) && (!x.beq 0 && !y.beq 0) && (!inA A x && !inA A y)) && S.b.all (fun p=>JhE x y p.2)then some ⟨JfV x y S.s,JdG x y S.b,S.n⟩else none
section
variable {x y : Nat} {ρ : Pl} {B : Nat → ABlk} {X : Nat → Prop} {w : World} {v : Value}
def rρ(x y:Nat)(ρ:Pl):Pl:=fun i=>ρ (swp x y i)
def rB(x y:Nat)(B:Nat->ABlk):Nat->ABlk:=fun i=>JdH x y (B (swp x y i))
theorem JlR{id:Nat}{cells:List AV}(h:rB x y B (swp x y id)=.box cells):∃ c,B id=.box c:=by
 unfold rB at h
 rw[JR]at h
 cases hb:B id <;> rw[hb]at h <;> simp[JdH]at h
 exact⟨_,rfl⟩
theorem JhB{id e k:Nat}{rows:List (List AV)}(h:rB x y B (swp x y id)=.buf e k rows):B id=.buf e k rows:=by
 unfold rB at h
 rw[JR]at h
 cases hb:B id <;> rw[hb]at h <;> simp[JdH]at h
 obtain⟨rfl,rfl,rfl⟩:=h
 rfl
theorem SRep0.ren{a:AV}(hY:∀ l k n bv,Yb B w l k n bv->Yb (rB x y B) w l k n bv)(h:SRep0 ρ B X w v a):SRep0 (rρ x y ρ) (rB x y B) X w v (JlO x y a):=by
 cases a with
 | ptr id o =>
  refine⟨h.1,fun cells hc=>?_⟩
  obtain⟨c,hc⟩:=JlR hc
  obtain⟨b,h1,h2⟩:=h.2 c hc
  exact⟨b,by simp only[rρ,JR];exact h1,h2⟩
 | optr id i j =>
  refine⟨h.1,fun e k rows hc=>?_⟩
  obtain⟨b,h1,h2⟩:=h.2 e k rows (JhB hc)
  exact⟨b,by simp only[rρ,JR];exact h1,h2⟩
 | own id n =>
  refine⟨h.1,fun e k rows hc=>?_⟩
  obtain⟨hn,hown⟩:=h.2 e k rows (JhB hc)
  refine⟨hn,?_⟩
  rcases hown with⟨h1,h2⟩ | ⟨b,cap,cur,h1,h2⟩
  . exact .inl ⟨by simp only[rρ,JR];exact h1,h2⟩
  exact .inr ⟨b,cap,cur,by simp only[rρ,JR];exact h1,h2⟩
 | osl id lo n =>
  refine⟨h.1,fun e k rows hc=>?_⟩
  obtain⟨hn,h3,h4⟩:=h.2 e k rows (JhB hc)
  refine⟨hn,h3,fun hlt=>?_⟩
  obtain⟨b,cap,h1,h2⟩:=h4 hlt
  exact⟨b,cap,by simp only[rρ,JR];exact h1,h2⟩
 | bsl id n =>
  refine⟨h.1,fun cells hc=>?_⟩
  obtain⟨c,hc⟩:=JlR hc
  obtain⟨b,cap,h1,h2⟩:=h.2 c hc
  exact⟨b,cap,by simp only[rρ,JR];exact h1,h2⟩
 | ref id =>
  refine⟨h.1,fun es hc=>?_,fun l p hc=>?_⟩
  . have hc':B id=.map es:=by
     unfold rB at hc
     rw[JR]at hc
     cases hb:B id <;> rw[hb]at hc <;> simp[JdH]at hc
     rw[hc]
    obtain⟨b,h1,h2⟩:=h.2.1 es hc'
    exact⟨b,by simp only[rρ,JR];exact h1,h2⟩
  have hc':B id=.iter l p:=by
   unfold rB at hc
   rw[JR]at hc
   cases hb:B id <;> rw[hb]at hc <;> simp[JdH]at hc
   rw[hc.1,hc.2]
  obtain⟨b,h1,h2⟩:=h.2.2 l p hc'
  exact⟨b,by simp only[rρ,JR];exact h1,h2⟩
 | yb l k n =>
  obtain⟨bv,hv,hy⟩:=h
  exact⟨bv,hv,hY l k n bv hy⟩
 | _=>exact h
theorem JdU{f:AV->AV}{l:List AV}{i:Nat}(h:i < l.length):nth (l.map f) i=f (nth l i):=by
 simp[nth,List.getD_eq_getElem?_getD,List.getElem?_eq_getElem h]
theorem SRep1.ren{a:AV}(hY:∀ l k n bv,Yb B w l k n bv->Yb (rB x y B) w l k n bv)(h:SRep1 ρ B X w v a):SRep1 (rρ x y ρ) (rB x y B) X w v (Jgz x y a):=by
 by_cases hf:∃ f l m,a=.fn f l m
 . obtain⟨f,l,m,rfl⟩:=hf
   obtain⟨fs,cs,rfl,h1,h2⟩:=h
   refine⟨fs,cs,by simp,fun i hi=>?_,fun i hi=>?_⟩
   . have hi':i < l.length:=by simpa using hi
     rw[JdU hi']
     exact SRep0.ren hY (h1 i hi')
   have hi':i < m.length:=by simpa using hi
   rw[JdU hi']
   exact SRep0.ren hY (h2 i hi')
 have e1:SRep1 ρ B X w v a=SRep0 ρ B X w v a:=by cases a <;> first | exact absurd ⟨_,_,_,rfl⟩ hf | rfl
 have e2:SRep1 (rρ x y ρ) (rB x y B) X w v (Jgz x y a)=SRep0 (rρ x y ρ) (rB x y B) X w v (JlO x y a):=by cases a <;> first | exact absurd ⟨_,_,_,rfl⟩ hf | rfl
 rw[e1]at h
 rw[e2]
 exact SRep0.ren hY h
theorem SRep.ren{a:AV}(hY:∀ l k n bv,Yb B w l k n bv->Yb (rB x y B) w l k n bv)(h:SRep ρ B X w v a):SRep (rρ x y ρ) (rB x y B) X w v (Jj7 x y a):=by
 by_cases hf:∃ g b,a=.gv g b
 . obtain⟨g,b,rfl⟩:=hf
   exact⟨fun hg=>SRep1.ren hY (h.1 hg),h.2⟩
 by_cases hf2:∃ l,a=.ax l
 . obtain⟨l,rfl⟩:=hf2
   obtain⟨arr,rfl,hz⟩:=h
   refine⟨arr,rfl,by rw[Kb];exact hz.1,fun i v a hv ha=>?_⟩
   rw[Kk]at ha
   cases hl:l[i]? with
   | none=>rw[hl]at ha;cases ha
   | some b =>
    rw[hl]at ha
    cases ha
    exact⟨(hz.2 i v b hv hl).1,SRep1.ren hY (hz.2 i v b hv hl).2⟩
 have e1:SRep ρ B X w v a=SRep1 ρ B X w v a:=by cases a <;> first | exact absurd ⟨_,_,rfl⟩ hf | exact absurd ⟨_,rfl⟩ hf2 | rfl
 have e2:Jj7 x y a=Jgz x y a:=by cases a <;> first | exact absurd ⟨_,_,rfl⟩ hf | exact absurd ⟨_,rfl⟩ hf2 | rfl
 rw[e1]at h
 rw[e2]
 exact SRep.of1 (SRep1.ren hY h)
theorem renB_alive{b:ABlk}:(JdH x y b).alive ↔ b.alive:=by cases b <;> simp[JdH,ABlk.alive]
theorem XX.ren{X0:Nat->Prop}:XX X0 (rρ x y ρ) (rB x y B)=XX X0 ρ B:=by
 funext b
 refine propext ⟨?_,?_⟩
 . rintro(h | ⟨id,ha,hr⟩)
   . exact .inl h
   exact .inr ⟨swp x y id,renB_alive.1 ha,hr⟩
 rintro(h | ⟨id,ha,hr⟩)
 . exact .inl h
 exact .inr ⟨swp x y id,by unfold rB;rw[JR];exact renB_alive.2 ha,by simp only[rρ,JR];exact hr⟩
theorem BlkOK.ren{id:Nat}(hY:∀ l k n bv,Yb B w l k n bv->Yb (rB x y B) w l k n bv)(h:BlkOK ρ B X w (swp x y id)):BlkOK (rρ x y ρ) (rB x y B) X w id:=by
 unfold BlkOK at h ⊢
 unfold rB
 cases hb:B (swp x y id)with
 | dead=>trivial
 | box cells =>
  rw[hb]at h
  obtain⟨b,cs,T,h1,h2,h3,h4⟩:=h
  refine⟨b,cs,T,h1,h2,by simpa using h3,fun j hj=>?_⟩
  have hj':j < cells.length:=by simpa using hj
  rw[JdU hj']
  exact⟨(h4 j hj').1,SRep1.ren hY (h4 j hj').2⟩
 | buf e k rows =>
  rw[hb]at h
  exact h
 | map es =>
  rw[hb]at h
  exact h
 | iter l p =>
  rw[hb]at h
  exact h
 | pins n =>
  rw[hb]at h
  exact h
 | _=>trivial
theorem Jbn(hx:x ≠ 0)(hy:y ≠ 0):swp x y 0=0:=by
 unfold swp
 rw[J0 (Ne.symm hx),J0 (Ne.symm hy)]
 rfl
theorem Jbw(hx:x ≠ 0)(hy:y ≠ 0)(z:ABlk)(h:rB x y B 0=z)(ht:z.tracey):B 0=z:=by
 unfold rB at h
 rw[Jbn hx hy]at h
 cases hb:B 0 <;> rw[hb]at h <;> simp only[JdH]at h <;> subst h <;> first | rfl | exact ht.elim
theorem JnF:own (rρ x y ρ) (rB x y B)=own ρ B:=by
 funext b
 refine propext ⟨?_,?_⟩
 . rintro⟨id,ha,hr⟩
   exact⟨swp x y id,renB_alive.1 ha,hr⟩
 rintro⟨id,ha,hr⟩
 exact⟨swp x y id,by unfold rB;rw[JR];exact renB_alive.2 ha,by simp only[rρ,JR];exact hr⟩
theorem RelW.ren{K:Ctx}{slot:Nat->Option AV}{a:Act}(hx:x ≠ 0)(hy:y ≠ 0)(hA:∀ i,i ∈ K.A->i ≠ x/\i ≠ y)(hP:∀ n,B 0=.pins n->n<=x/\n<=y)(h:RelW K ρ slot B a w):RelW K (rρ x y ρ) (fun t=>(slot t).map (Jj7 x y)) (rB x y B) a w:=by
 have hst:WStep (own ρ B) (own (rρ x y ρ) (rB x y B)) w w:=.refl fun b hb=>by rw[JnF]at hb;exact hb
 have hY:=h.hR (Jbw hx hy) hst
 refine⟨h.defers,h.size,h.keeps,h.x0,h.glob,fun id b ha hr=>h.live _ b (renB_alive.1 ha) hr,fun id id' b ha ha' hr hr'=>?_,fun id=>?_,fun t av ht=>?_,h.trc_mono (Jbw hx hy) hst,fun ht=>h.dt (by rw[Jbw hx hy _ rfl ht];exact ht),fun i hi=>?_,fun n e i h0 hlt ha=>?_⟩
 . have:=h.inj _ _ b (renB_alive.1 ha) (renB_alive.1 ha') hr hr'
   rw[<- JR x y id,this,JR]
 . rw[XX.ren];exact BlkOK.ren hY (h.blks _)
 . simp only[Option.map_eq_some_iff]at ht
   obtain⟨v,hv,rfl⟩:=ht
   rw[XX.ren]
   exact⟨(h.slots t v hv).1,SRep.ren hY (h.slots t v hv).2⟩
 . obtain⟨⟨cells,hc⟩,hr⟩:=h.anc i hi
   have e:swp x y i=i:=by unfold swp;rw[J0 (hA i hi).1,J0 (hA i hi).2];rfl
   refine⟨⟨cells.map (Jgz x y),?_⟩,?_⟩
   . unfold rB;rw[e,hc];rfl
   unfold rρ;rw[e];exact hr
 have hB0:B 0=.pins n:=by
  unfold rB at e
  rw[Jbn hx hy]at e
  cases hb:B 0 <;> rw[hb]at e <;> simp only[JdH]at e <;> first | exact e | cases e
 obtain⟨h1,h2⟩:=hP n hB0
 have ei:swp x y i=i:=by unfold swp;rw[J0 (show i ≠ x by omega),J0 (show i ≠ y by omega)];rfl
 have ha':(B i).alive:=by
  have:=renB_alive.1 ha
  rwa [ei]at this
 have hp:=h.pin n hB0 i h0 hlt ha'
 unfold rρ
 rw[ei]
 exact hp
theorem Je4(t:Nat):∀ l,lk t (JfV x y l)=(lk t l).map (Jj7 x y)
 | []=>rfl
 | (u,v)::l=>by
  simp only[JfV,lk]
  split
  . rfl
  exact Je4 t l
theorem Je5(i:Nat):∀ l,lk i (JdG x y l)=(lk (swp x y i) l).map (JdH x y)
 | []=>rfl
 | (u,v)::l=>by
  simp only[JdG,lk]
  have:(swp x y u).beq i=u.beq (swp x y i):=by
   by_cases e:u=swp x y i
   . subst e;rw[JR,JB,JB]
   rw[J0 e,J0 (fun h=>e (by rw[<- h,JR]))]
  rw[this]
  split
  . rfl
  exact Je5 i l
theorem Jhz(b:BL):Jr (JdG x y b)=rB x y (Jr b):=by
 funext i
 unfold rB Jr
 rw[Je5]
 cases lk (swp x y i) b <;> rfl
theorem Jhd{n i:Nat}(hx:x < n)(hy:y < n)(hi:i < n):swp x y i < n:=by
 unfold swp
 split
 . exact hy
 split
 . exact hx
 exact hi
theorem W6{a:AV}{i:Nat}(hx:x ≠ 0)(hy:y ≠ 0)(h:i ∈ mids0 (JlO x y a)):∃ j,j ∈ mids0 a/\i=swp x y j:=by
 have h0:=Jbn hx hy
 cases a <;> simp_all [mids0,JlO]
theorem Ui{a:AV}{i:Nat}(hx:x ≠ 0)(hy:y ≠ 0)(h:i ∈ mids1 (Jgz x y a)):∃ j,j ∈ mids1 a/\i=swp x y j:=by
 by_cases hf:∃ f l m,a=.fn f l m
 . obtain⟨f,l,m,rfl⟩:=hf
   simp only[Jgz,mids1,Kn,Kp,List.mem_map]at h ⊢
   obtain⟨z,(⟨u,hu,rfl⟩ | ⟨u,hu,rfl⟩),hz⟩:=h
   . obtain⟨j,h1,h2⟩:=W6 hx hy hz
     exact⟨j,⟨u,.inl hu,h1⟩,h2⟩
   obtain⟨j,h1,h2⟩:=W6 hx hy hz
   exact⟨j,⟨u,.inr hu,h1⟩,h2⟩
 have e1:mids1 (Jgz x y a)=mids0 (JlO x y a):=by cases a <;> first | exact absurd ⟨_,_,_,rfl⟩ hf | rfl
 have e2:mids1 a=mids0 a:=by cases a <;> first | exact absurd ⟨_,_,_,rfl⟩ hf | rfl
 rw[e1]at h
 rw[e2]
 exact W6 hx hy h
theorem Jkj{a:AV}{i:Nat}(hx:x ≠ 0)(hy:y ≠ 0)(h:i ∈ Qn (Jj7 x y a)):∃ j,j ∈ Qn a/\i=swp x y j:=by
 by_cases hf:∃ g b,a=.gv g b
 . obtain⟨g,b,rfl⟩:=hf
   exact Ui hx hy h
 by_cases hf2:∃ l,a=.ax l
 . obtain⟨l,rfl⟩:=hf2
   simp only[Jj7,Qn,Kn,List.mem_map]at h ⊢
   obtain⟨z,⟨u,hu,rfl⟩,hz⟩:=h
   obtain⟨j,h1,h2⟩:=Ui hx hy hz
   exact⟨j,⟨u,hu,h1⟩,h2⟩
 have e1:Qn (Jj7 x y a)=mids1 (Jgz x y a):=by cases a <;> first | exact absurd ⟨_,_,rfl⟩ hf | exact absurd ⟨_,rfl⟩ hf2 | rfl
 have e2:Qn a=mids1 a:=by cases a <;> first | exact absurd ⟨_,_,rfl⟩ hf | exact absurd ⟨_,rfl⟩ hf2 | rfl
 rw[e1]at h
 rw[e2]
 exact Ui hx hy h
theorem JhV{b:ABlk}{i:Nat}(hx:x ≠ 0)(hy:y ≠ 0)(hp:JhE x y b=true)(h:i ∈ JK (JdH x y b)):∃ j,j ∈ JK b/\i=swp x y j:=by
 cases b with
 | box cells =>
  simp only[JdH,JK,Kn,List.mem_map]at h ⊢
  obtain⟨z,⟨u,hu,rfl⟩,hz⟩:=h
  obtain⟨j,h1,h2⟩:=Ui hx hy hz
  exact⟨j,⟨u,hu,h1⟩,h2⟩
 | pins n =>
  simp only[JhE,Kd,Nat.ble_eq]at hp
  simp only[JdH,JK,List.mem_range]at h ⊢
  exact⟨i,h,by unfold swp;rw[J0 (show i ≠ x by omega),J0 (show i ≠ y by omega)];rfl⟩
 | _=>simp[JdH,JK]at h
end
theorem Jd5(E:SE){S S':AS}{x y:Nat}(h:renS E.A x y S=some S'):Imp E S S':=fun V a w ⟨hwf,X,ρ,hg,hr⟩=>by
 unfold renS at h
 split at h
 . rename_i hb
   cases h
   rw[Kd]at hb
   obtain⟨hb,hpn⟩:=hb
   have hpl:∀ i,JhE x y (Jj S i)=true:=fun i=>by
    unfold Jj Jr
    cases hl:lk i S.b with
    | none=>rfl
    | some v =>
     obtain⟨u,hm,_⟩:=Ja0 hl
     exact List.all_eq_true.1 hpn _ hm
   have hP:∀ n,Jj S 0=.pins n->n<=x/\n<=y:=fun n e=>by
    have:=hpl 0
    rw[e]at this
    simpa only[JhE,Kd,Nat.ble_eq]using this
   simp only[Kd]at hb
   have hx:=Qx hb.1.1.1
   have hy:=Qx hb.1.1.2
   have hx0:x ≠ 0:=fun e=>by have:=hb.1.2.1;rw[e]at this;cases this
   have hy0:y ≠ 0:=fun e=>by have:=hb.1.2.2;rw[e]at this;cases this
   have hA:∀ i,i ∈ E.A->i ≠ x/\i ≠ y:=fun i hi=>⟨JcQ (by simpa using hb.2.1) i hi,JcQ (by simpa using hb.2.2) i hi⟩
   have e1:Ju (⟨JfV x y S.s,JdG x y S.b,S.n⟩:AS)=fun t=>(Ju S t).map (Jj7 x y):=by
    funext t;exact Je4 t S.s
   have e2:Jj (⟨JfV x y S.s,JdG x y S.b,S.n⟩:AS)=rB x y (Jj S):=Jhz S.b
   refine⟨⟨fun t av ht i hi=>?_,fun i ha=>?_,fun i ha j hj=>?_,fun ht=>hwf.zero ?_⟩,X,rρ x y ρ,hg,?_⟩
   . rw[e1]at ht
     simp only[Option.map_eq_some_iff]at ht
     obtain⟨v,hv,rfl⟩:=ht
     obtain⟨j,hj,rfl⟩:=Jkj hx0 hy0 hi
     exact Jhd hx hy (hwf.slots t v hv j hj)
   . rw[e2]at ha
     have:=hwf.alive _ (renB_alive.1 ha)
     rw[<- JR x y i]
     exact Jhd hx hy this
   . rw[e2]at ha hj
     obtain⟨k,hk,rfl⟩:=JhV hx0 hy0 (hpl _) hj
     exact Jhd hx hy (hwf.blks _ (renB_alive.1 ha) k hk)
   . rw[e2]at ht
     rw[Jbw hx0 hy0 _ rfl ht]
     exact ht
   rw[e1,e2]
   exact hr.ren hx0 hy0 hA hP
 cases h
def JbK:ABlk->Bool
 | .ready _ _ | .trace _ _ | .stop _ | .pins _=>true
 | _=>false
def Jk0:Nat->List AV->List (Nat × AV)
 | _,[]=>[]
 | i,v::l=>(i,v)::Jk0 (i+1) l
def JaP(args:List AV):AS:=⟨Jk0 0 args,[],1⟩
def Jco(l:Nat)(cap:List AV):AS:=⟨Jk0 0 (.yld l::cap),[(0,.ready l [])],1⟩
def Jj6(T:TT)(S:AS):ResultVar->Option AV
 | .tmp t=>match Ju S t with
  | some v=>XZ S.b v
  | none=>none
 | .cell t ty=>match Ju S t,lk ty T with
  | some (.ptr id off),some ti=>match Jr S.b id with
   | .box cells=>if(off+ti.size).ble cells.length then match Xp S.b ((cells.drop off).take ti.size)with
    | some l=>if ti.agg then some (.agg l)else match l with
     | [x]=>some x
     | _=>none
    | none=>none
    else none
   | _=>none
  | _,_=>none
def Jcw(T:TT)(S:AS):List ResultVar->Option (List AV)
 | []=>some []
 | r::l=>match Jj6 T S r,Jcw T S l with
  | some v,some m=>some (v::m)
  | _,_=>none
def retV:List AV->AV
 | [v]=>v
 | l=>.tup l
def retF(S:AS):List ResultVar->Option AV
 | [.tmp t]=>match Ju S t with
  | some (.own id _)=>match Jr S.b id with
   | .buf e k rows=>some (.fresh e k rows)
   | _=>none
  | some (.fn (.func g) [] [.ptr id 0])=>match Jr S.b id with
   | .box cells=>if cells.all XM then some (.fbox g cells)else none
   | _=>none
  | _=>none
 | _=>none
def Jpx(T:TT)(fn:Func)(S:AS):Option AV :=
 match retF S fn.results.toList with
 | some r=>some r
 | none=>match Jcw T S fn.results.toList with
  | some l=>some (retV l)
  | none=>none
section
variable {E : SE} {V : Env} {X : Nat → Prop} {ρ : Pl} {S : AS} {a : Act} {w : World}
theorem ResR.less{X X':Nat->Prop}{n:Nat}{v:Value}{r:AV}(h:ResR X' n w v r)(hX:∀ b,X b->X' b):ResR X n w v r:=by
 cases r with
 | fresh e k rows =>
  obtain⟨hk,hm,h | ⟨b,cap,cur,hb,hv,hh,hc1,hc2,hsz,hR⟩⟩:=h
  . exact⟨hk,hm,.inl h⟩
  exact⟨hk,hm,.inr ⟨b,cap,cur,hb,hv,hh,hc1,hc2,hsz,hR.mono fun u x hu=>⟨hu.1,Rep.mono (Kr _) (fun _ _ _=>rfl) (fun b _ hn hx=>hn (hx.elim (fun h=>.inl (hX b h)) .inr)) hu.2⟩⟩⟩
 | fbox g cells =>
  obtain⟨b,cs,T,hb,hv,hh,hsz,hc⟩:=h
  exact⟨b,cs,T,hb,hv,hh,hsz,fun j hj=>⟨(hc j hj).1,Rep.mono (Kr _) (fun _ _ _=>rfl) (fun b _ hn hx=>hn (hx.elim (fun h=>.inl (hX b h)) .inr)) (hc j hj).2⟩⟩
 | _=>exact Rep.mono (Kr _) (fun _ _ _=>rfl) (fun b _ hn hx=>hn (hX b hx)) h
theorem Jg1(h:RelW ((E.ctx V).withX X) ρ (Ju S) (Jj S) a w){av av':AV}{v:Value}(hs:XZ S.b av=some av')(hv:SRep ρ (Jj S) (XX X ρ (Jj S)) w v av):Rep X w v av' :=
 V9 h (fun _ hn hx=>hn (.inl hx)) (fun id b _ hal hr=>(h.live id b hal hr).2.1) hs (fun _ _=>rfl) hv
theorem JaM(h:RelW ((E.ctx V).withX X) ρ (Ju S) (Jj S) a w):∀ {l l':List AV} {vs:List Value},Xp S.b l=some l'->Z (CR ρ (Jj S) (XX X ρ (Jj S)) w) vs l->Z (CP X w) vs l'
 | [],l',vs,hs,hz=>by
  simp only[Xp]at hs
  cases hs
  match vs,hz.1 with
  | [],_=>exact Z.nil
 | x::l,l',vs,hs,hz=>by
  simp only[Xp]at hs
  split at hs
  . rename_i y m hy hm
    cases hs
    match vs,hz.1 with
    | v::vs,_ =>
     obtain⟨h1,h2⟩:=hz.uncons
     exact Z.cons ⟨h1.1,Jg1 h hy (SRep.of1 h1.2)⟩ (JaM h hm h2)
  cases hs
theorem Jj5(hE:E.OK)(h:RelW ((E.ctx V).withX X) ρ (Ju S) (Jj S) a w){r:ResultVar}{av:AV}(hr:Jj6 E.T S r=some av) :
 ∃ v,(match r with
  | .tmp t=>pure (a.tmps.getD t undef)
  | .cell t ty=>do loadVar ty (← asAddr (a.tmps.getD t undef)):Sem Value).run E.P w=.ok v w/\Rep X w v av:=by
 cases r with
 | tmp t =>
  simp only[Jj6]at hr
  split at hr
  . rename_i v hv
    exact⟨_,rfl,Jg1 h hr (h.slots t v hv).2⟩
  cases hr
 | cell t ty =>
  simp only[Jj6]at hr
  split at hr
  . rename_i id off ti hv hti
    split at hr
    . rename_i cells hB
      split at hr
      . rename_i hfit
        have hfit:=Kl hfit
        split at hr
        . rename_i l hl
          obtain⟨d,inf,z,kk⟩:=Jk (hE.tok ty ti hti)
          have hB':Jj S id=.box cells:=hB
          obtain⟨b,hρ,hval⟩:=(show SRep0 ρ (Jj S) (XX X ρ (Jj S)) w (a.tmps.getD t undef) (.ptr id off)from(h.slots t _ hv).2).2 cells hB'
          have hbl:=h.blks id
          unfold BlkOK at hbl
          rw[hB']at hbl
          obtain⟨b',cs,Ty,hρ',hh,hsz,hc⟩:=hbl
          rw[hρ]at hρ'
          cases hρ'
          have hz:Z (CR ρ (Jj S) (XX X ρ (Jj S)) w) cs.toList cells:=Z.of_getD hsz hc
          have hz2:=(hz.drop off).take ti.size
          have hz3:=JaM h hl hz2
          have hlen:((cs.toList.drop off).take ti.size).length=ti.size:=by
           simp only[Kg,Kh,Array.length_toList]
           omega
          have hcell:∀ j v,((cs.toList.drop off).take ti.size)[j]?=some v->w.cell? ⟨b,off+j,none⟩=some v:=by
           intro j v hj
           rw[cell_of_row w b _ cs Ty (0,0) hh]
           rw[List.getElem?_take]at hj
           split at hj
           . rw[List.getElem?_drop]at hj;simpa using hj
           cases hj
          have ha:ti.agg=true ∨ ti.size=1:=by
           by_cases hg:ti.agg=true
           . exact .inl hg
           refine .inr ?_
           simp only[hg,Bool.false_eq_true,if_false]at hr
           split at hr
           . have:=hz3.1
             rw[hlen]at this
             simpa using this
           cases hr
          have hrun:=Uc kk w b off _ hlen hcell ha
          refine⟨if ti.agg then .agg ((cs.toList.drop off).take ti.size).toArray else((cs.toList.drop off).take ti.size).headD undef,?_,?_⟩
          . simp only[hval]
            simpa[Instr.loadAt,Instr.sureAddr,asAddr]using hrun
          by_cases hg:ti.agg=true
          . simp only[hg,if_true]at hr ⊢
            cases hr
            exact Rep.agg_mk (by simpa using hz3)
          simp only[hg,Bool.false_eq_true,if_false]at hr ⊢
          split at hr
          . cases hr
            revert hz3
            generalize (cs.toList.drop off).take ti.size=vs
            intro hz3
            match vs,hz3.1 with
            | [v],_=>exact hz3.uncons.1.2
          cases hr
        cases hr
      cases hr
    cases hr
  cases hr
theorem Jcv(hE:E.OK)(h:RelW ((E.ctx V).withX X) ρ (Ju S) (Jj S) a w):∀ {l:List ResultVar} {m:List AV},Jcw E.T S l=some m →
 ∃ vs:List Value,(l.mapM (fun r:ResultVar=>match r with
  | .tmp t=>pure (a.tmps.getD t undef)
  | .cell t ty=>do loadVar ty (← asAddr (a.tmps.getD t undef)):ResultVar->Sem Value)).run E.P w=.ok vs w/\Z (Rep X w) vs m
 | [],m,hr=>by
  simp only[Jcw]at hr
  cases hr
  exact⟨[],rfl,Z.nil⟩
 | r::l,m,hr=>by
  simp only[Jcw]at hr
  split at hr
  . rename_i v m' h1 h2
    cases hr
    obtain⟨u,hu,hv⟩:=Jj5 hE h h1
    obtain⟨vs,hvs,hz⟩:=Jcv hE h h2
    refine⟨u::vs,?_,Z.cons hv hz⟩
    rw[List.mapM_cons]
    simp only[Ki,hu,Ke,hvs]
    rfl
  cases hr
theorem Q3{fn:Func}{vs:List Value}(hvs:(fn.results.toList.mapM (fun r:ResultVar=>match r with
      | .tmp t=>pure (a.tmps.getD t undef)
      | .cell t ty=>do loadVar ty (← asAddr (a.tmps.getD t undef)):ResultVar->Sem Value)).run E.P w=.ok vs w):(results fn a.tmps).run E.P w=.ok (if h:vs.toArray.size=1 then vs.toArray[0]else .tuple vs.toArray) w:=by
 unfold results
 rw[Array.mapM_eq_mapM_toList]
 rw[Ki,map_eq_pure_bind,Ki]
 exact(congrArg (fun r=>Result.andThen (Result.andThen r fun(l:List Value) w'=>(pure l.toArray:Sem (Array Value)).run E.P w') fun vs w'=>(pure (if h:vs.size=1 then vs[0]else .tuple vs):Sem Value).run E.P w') hvs).trans rfl
theorem Jnv(h:RelW ((E.ctx V).withX X) ρ (Ju S) (Jj S) a w)(hF:∀ b,¬ V.F b){fn:Func}{av:AV}(hr:retF S fn.results.toList=some av):∃ v,(results fn a.tmps).run E.P w=.ok v w/\ResR X V.w0.heap.size w v av:=by
 unfold retF at hr
 split at hr
 . rename_i t hfr
   split at hr
   . rename_i id n hs
     split at hr
     . rename_i e k rows hB
       cases hr
       have hB':Jj S id=.buf e k rows:=hB
       refine⟨a.tmps.getD t undef,(Q3 (vs:=[a.tmps.getD t undef]) (by rw[hfr];rfl)).trans rfl,?_⟩
       have hal:(Jj S id).alive:=by rw[hB'];trivial
       have hbl:=h.blks id
       unfold BlkOK at hbl
       rw[hB']at hbl
       obtain⟨hk,hm,hbl⟩:=hbl
       refine⟨hk,hm,?_⟩
       obtain⟨hn,hown⟩:=(show SRep0 ρ (Jj S) (XX X ρ (Jj S)) w (a.tmps.getD t undef) (.own id n)from(h.slots t _ hs).2).2 e k rows hB'
       rcases hown with⟨h3,h4⟩ | ⟨b,cap,cur,hp,hv,hh,hc1,hc2,hsz⟩
       . rcases hbl with⟨_,h5⟩ | ⟨b,cur,hp,_⟩
         . exact .inl ⟨h4,h5⟩
         rw[h3]at hp;cases hp
       rcases hbl with⟨h3,_⟩ | ⟨b',cur',hp',hh',hs',hc'⟩
       . rw[hp]at h3;cases h3
       rw[hp]at hp'
       cases hp'
       rw[hh]at hh'
       cases hh'
       subst hn
       refine .inr ⟨b,cap,cur,?_,hv,hh,hc1,hc2,hsz,hk,hs',fun i hi j hj=>⟨(hc' i hi j hj).1,Rep.mono (Kr _) (fun _ _ _=>rfl) (fun x _ hx=>?_) (hc' i hi j hj).2⟩⟩
       . exact((h.live id b hal hp).1).resolve_left (hF b)
       rintro(hx1 | rfl)
       . exact hx (.inl hx1)
       exact hx (.inr ⟨id,hal,hp⟩)
     cases hr
   . rename_i g id hs
     split at hr
     . rename_i cells hB
       split at hr
       . rename_i hp0
         cases hr
         have hB':Jj S id=.box cells:=hB
         refine⟨a.tmps.getD t undef,(Q3 (vs:=[a.tmps.getD t undef]) (by rw[hfr];rfl)).trans rfl,?_⟩
         have hal:(Jj S id).alive:=by rw[hB'];trivial
         have hbl:=h.blks id
         unfold BlkOK at hbl
         rw[hB']at hbl
         obtain⟨b,cs,T,hp,hh,hsz,hc⟩:=hbl
         obtain⟨fs,ks,hv,_,hk⟩:=(show SRep1 ρ (Jj S) (XX X ρ (Jj S)) w (a.tmps.getD t undef) (.fn (.func g) [] [.ptr id 0])from(h.slots t _ hs).2)
         have h0:=(show SRep0 ρ (Jj S) (XX X ρ (Jj S)) w (ks 0) (.ptr id 0)from hk 0 (by simp))
         obtain⟨b',hp',hv'⟩:=h0.2 cells hB'
         rw[hp]at hp'
         cases hp'
         refine⟨b,cs,T,((h.live id b hal hp).1).resolve_left (hF b),?_,hh,hsz,fun j hj=>⟨(hc j hj).1,Rep.mono (Kr _) (fun _ _ _=>rfl) (fun x _ hx=>?_) (SRep1.rep ?_ (hc j hj).2)⟩⟩
         . rw[hv]
           simp[hv']
         . rintro(hx1 | rfl)
           . exact hx (.inl hx1)
           exact hx (.inr ⟨id,hal,hp⟩)
         exact JdM (List.all_eq_true.1 hp0 _ (Qe hj))
       cases hr
     cases hr
   cases hr
 cases hr
theorem Jnu(hE:E.OK)(h:RelW ((E.ctx V).withX X) ρ (Ju S) (Jj S) a w)(hF:∀ b,¬ V.F b){fn:Func}{av:AV}(hr:Jpx E.T fn S=some av):∃ v,(results fn a.tmps).run E.P w=.ok v w/\ResR X V.w0.heap.size w v av:=by
 unfold Jpx at hr
 split at hr
 . rename_i r hr1
   cases hr
   exact Jnv h hF hr1
 split at hr
 . rename_i m hm
   cases hr
   obtain⟨vs,hvs,hz⟩:=Jcv hE h hm
   refine⟨_,Q3 hvs,.of_rep ?_⟩
   match vs,m,hz with
   | [v],[x],hz=>exact hz.uncons.1
   | [],[],hz=>exact Rep.tup_mk hz
   | _::_::_,_::_::_,hz=>exact Rep.tup_mk hz
   | [],_::_,hz=>exact absurd hz.1 (by simp)
   | _::_,[],hz=>exact absurd hz.1 (by simp)
   | [_],_::_::_,hz=>exact absurd hz.1 (by simp)
   | _::_::_,[_],hz=>exact absurd hz.1 (by simp)
 cases hr
theorem Jh2:∀ (l:List AV) (i t:Nat),lk t (Jk0 i l)=if i<=t then l[t-i]? else none
 | [],i,t=>by simp[Jk0,lk]
 | v::l,i,t=>by
  have ih:=Jh2 l (i+1) t
  simp only[Jk0,lk]
  by_cases e:i=t
  . subst e;simp
  rw[J0 e,ih]
  by_cases h:i<=t
  . have h2:i+1<=t:=by omega
    rw[if_pos h2,if_pos h]
    simp only[Bool.false_eq_true,if_false]
    have:t-i=(t-(i+1))+1:=by omega
    rw[this]
    simp
  have h2:¬ i+1<=t:=by omega
  rw[if_neg h2,if_neg h]
  simp
theorem Uh{X:Nat->Prop}{v:Value}{x:AV}(h:Rep X w v x):Qn x=[]:=by
 cases x with
 | gv _ _=>cases h
 | ax _=>cases h
 | _=>exact h.mids1
theorem JeJ{b:BL}{args:List AV}{vs:Array Value}(hA:E.A=[])(hw:V.w0=w)(hnt:args.length<=E.nt)(hvl:vs.size=args.length)(hX:∀ b,V.X0 b->b < w.heap.size)
 (hG:∀ g cells,lk g E.G=some cells->GlobOK V.X0 w g cells)(hF:∀ b,V.F b->V.X0 b)(hb:∀ id,¬ (Jr b id).alive)
 (hslots:∀ t av,args[t]?=some av->SRep (fun _=>none) (Jr b) V.X0 w (vs.getD t undef) av/\∀ id,id ∈ Qn av->id < 1)
 (htr:Tr (E.ctx V) (fun _=>none) (Jr b) w):Rel (E.ctx V) ⟨Jk0 0 args,b,1⟩ { tmps:=vs++Array.replicate (E.nt-vs.size) undef,defers:=[] } w:=by
 have hgetD:∀ t,t < args.length->(vs++Array.replicate (E.nt-vs.size) undef).getD t undef=vs.getD t undef:=by
  intro t ht
  have:t < vs.size:=by omega
  simp[Array.getD_eq_getD_getElem?,Array.getElem?_append,this]
 have hsl:∀ t av,Ju ⟨Jk0 0 args,b,1⟩ t=some av->args[t]?=some av:=by
  intro t av ht
  have:=Jh2 args 0 t
  simp only[Nat.zero_le,if_true,Nat.sub_zero]at this
  rw[<- this];exact ht
 have hxx:∀ b',¬ V.X0 b'->¬ XX V.X0 (fun _=>none) (Jr b) b':=fun b' hn hx=>hx.elim hn (fun⟨id,ha,_⟩=>hb id ha)
 refine⟨⟨fun t av ht i hi=>(hslots t av (hsl t av ht)).2 i hi,fun id ha=>(hb id ha).elim,fun id ha=>(hb id ha).elim,fun _=>Nat.one_pos⟩,V.X0,fun _=>none,⟨fun _ h=>h,fun _ h=>.inl h⟩,⟨[],rfl,List.nodup_nil,fun D hD=>(by cases hD),fun _=>rfl⟩,?_,?_,hX,fun g cells hg=>?_,
  fun id b ha=>(hb id ha).elim,fun id id' b ha=>(hb id ha).elim,fun id=>Jy (hb id),fun t av ht=>?_,htr,fun _=>rfl,fun i hi=>by
   have h0:i ∈ E.A:=hi
   rw[hA]at h0;exact absurd h0 (by simp),fun n e=>(hb 0 (by rw[show Jr b 0=.pins n from e];trivial)).elim⟩
 . show(vs++Array.replicate (E.nt-vs.size) undef).size=E.nt
   simp;omega
 . subst hw;exact Keeps.refl _ _ _
 . refine GlobOK.mono (Kr _) (fun _ _ _=>rfl) (fun b' hb' hn hx=>?_) (hG g cells hg)
   rcases hx with hx | hx | hx
   . exact hn hx
   . exact hn (hF b' hx)
   have:V.w0.heap.size<=b':=hx
   rw[hw]at this
   omega
 . have h1:=hsl t av ht
   have hlt:t < args.length:=(List.getElem?_eq_some_iff.1 h1).1
   refine⟨K0 hlt hnt,?_⟩
   show SRep (fun _=>none) (Jr b) (XX V.X0 (fun _=>none) (Jr b)) w ((vs++Array.replicate (E.nt-vs.size) undef).getD t undef) av
   rw[hgetD t hlt]
   exact SRep.mono (Kr _) (fun _ _ _=>rfl) (fun b' _ hn=>hxx b' hn) (fun i _ ha=>(hb i ha).elim) (fun _ _ _ _ h=>h) (hslots t av h1).1
theorem RelW.foreign{K:Ctx}{slot:Nat->Option AV}{B:Nat->ABlk}(h:RelW K ρ slot B a w){X':Nat->Prop}{w':World}{ds:List Deferred}(hk:Keeps K.F K.w0.heap.size w w')(hsame:∀ b,b < w.heap.size->¬ K.X0 b->w'.heap[b]?=w.heap[b]?)
 (hx1:∀ b,b < w.heap.size->X' b->K.X0 b)(hx2:∀ b,X' b->b < w'.heap.size)(hd:Marks (K.withX X') w' ds)(hz:¬ (B 0).tracey) :
 RelW (K.withX X') ρ slot B { a with defers:=ds } w':=by
 have hread:∀ b,b < w.heap.size->¬ XX K.X0 ρ B b->w'.heap[b]?=w.heap[b]?:=fun b hb hn=>hsame b hb (fun hx=>hn (.inl hx))
 have hX:∀ b,b < w.heap.size->¬ XX K.X0 ρ B b->¬ XX X' ρ B b:=fun b hb hn hx=>hx.elim (fun h=>hn (.inl (hx1 b hb h))) (fun h=>hn (.inr h))
 have hown:∀ i b,(B i).alive->ρ i=some b->w'.heap[b]?=w.heap[b]?:=fun i b ha hr=>hsame b (h.live i b ha hr).2.2 (h.live i b ha hr).2.1
 have hB:∀ i,(B i).alive->sameMake (B i) (B i)/\ρ i=ρ i/\∀ b,ρ i=some b->sameSize w w' b:=fun i ha =>
  ⟨sameMake.refl ha,rfl,fun b hr cur e hh=>⟨cur,by rw[hown i b ha hr];exact hh,rfl⟩⟩
 have hz':∀ {x:ABlk},B 0=x->x.tracey->False:=fun e ht=>hz (by rw[e];exact ht)
 have hR:∀ l k n bv,Yb B w l k n bv->Yb B w' l k n bv:=fun l k n bv _=>⟨fun rows e=>(hz' e trivial).elim,fun l' rows e=>(hz' e trivial).elim,fun l' rows e=>(hz' e trivial).elim⟩
 refine⟨hd,h.size,h.keeps.trans hk,hx2,fun g cells hg=>?_,fun i b ha hr=>⟨(h.live i b ha hr).1,fun hx=>(h.live i b ha hr).2.1 (hx1 b (h.live i b ha hr).2.2 hx),K0 (h.live i b ha hr).2.2 hk.size⟩,h.inj,fun i=>?_,fun t av ht=>⟨(h.slots t av ht).1,?_⟩,
  ⟨h.trc.stab,h.trc.yok,fun ht=>(hz ht).elim,fun l rows e=>(hz' e trivial).elim,fun l rows e=>(hz' e trivial).elim,fun l e=>(hz' e trivial).elim⟩,fun ht=>(hz ht).elim,h.anc,fun n e id h0 hlt ha=>⟨(h.pin n e id h0 hlt ha).1,fun b hr=>((h.pin n e id h0 hlt ha).2 b hr).trans (.of_eq (hown id b ha hr))⟩⟩
 . refine GlobOK.mono hk.size (fun b hlt hn=>?_) (fun b hlt hn=>?_) (h.glob g cells hg)
   . simp only[XG,not_or]at hn
     exact hsame b hlt hn.1
   simp only[XG,not_or]at hn ⊢
   exact⟨fun hx=>hn.1 (hx1 b hlt hx),hn.2⟩
 . by_cases ha:(B i).alive
   . exact BlkOK.mono hk.size hread hX rfl rfl (fun b hr=>hown i b ha hr) (fun j _=>hB j) hR (h.blks i)
   exact Jy ha
 . exact SRep.mono hk.size hread hX (fun i _=>hB i) hR (h.slots t av ht).2
theorem Vd{F:Fence}{n:Nat}{P:Program}{fn:Func}{tmps:Array Value}{R:Ending->World->Prop}:∀ (Ds:List Nat) (w:World),Ds.Nodup->(∀ D,D ∈ Ds->w.heap[D]?=some (.deferred (some []))) →
 (∀ w':World,w'.os=w.os->w'.tape=w.tape->w'.output=w.output->w'.heap.size=w.heap.size->(∀ b,b ∉ Ds->w'.heap[b]?=w.heap[b]?)->∃ v,(results fn tmps).run P w'=.ok v w'/\R (.returned v) w')->LeavesInM F n P fn tmps R (Ds.map Je9) .returning w
 | [],w,_,_,h=>h w rfl rfl rfl rfl (fun _ _=>rfl)
 | D::Ds,w,hnd,hD,h=>by
  have h0:=hD D (by simp)
  have hn:=List.nodup_cons.1 hnd
  refine⟨by simp,.inl ⟨D,w.putObj D (.deferred none),rfl,run_takeDeferred h0,Vd Ds _ hn.2 (fun D' hD'=>?_) fun w' h1 h2 h3 h4 h5=>?_⟩⟩
  . have hne:D' ≠ D:=fun e=>hn.1 (e ▸ hD')
    rw[World.putObj_heap_other hne]
    exact hD D' (by simp[hD'])
  refine h w' h1 h2 h3 (by rw[h4];simp[World.putObj]) fun b hb=>?_
  simp only[Kq,not_or]at hb
  rw[h5 b hb.2,World.putObj_heap_other hb.1]
theorem Jkp{fn:Func}{r:AV}(hE:E.OK){R:Ending->World->Prop}{F:Fence}{n:Nat}(hrel:Rel (E.ctx V) S a w)(hret:Jpx E.T fn S=some r)(hz:¬ (Jj S 0).tracey)(hF:∀ b,¬ V.F b)
 (hR:∀ v w' X,Keeps V.F V.w0.heap.size V.w0 w'->(∀ b,V.X0 b->X b)->ResR X V.w0.heap.size w' v r->R (.returned v) w'):LeavesInM F n E.P fn a.tmps R a.defers .returning w:=by
 obtain⟨hwf,X,ρ,hg,hr⟩:=hrel
 obtain⟨Ds,hds,hnd,hD,_⟩:=hr.defers
 rw[hds]
 refine Vd Ds w hnd (fun D hm=>(hD D hm).1) fun w' h1 h2 h3 h4 h5=>?_
 have hk:Keeps ((E.ctx V).withX X).F ((E.ctx V).withX X).w0.heap.size w w':=⟨h1,h2,h3,Nat.le_of_eq h4.symm,fun b hb _=>h5 b (fun hm=>by
  have h6:V.w0.heap.size<=b:=(hD b hm).2.1
  have h7:b < V.w0.heap.size:=hb
  omega)⟩
 have hr':=hr.foreign (X':=X) (ds:=[]) hk (fun b hb hx=>h5 b (fun hm=>hx (hD b hm).2.2)) (fun _ _ h=>h) (fun b hb=>by rw[h4];exact hr.x0 b hb) ⟨[],rfl,List.nodup_nil,fun D hD=>(by cases hD),fun _=>rfl⟩ hz
 obtain⟨v,hv,hrep⟩:=Jnu (V:=V) (X:=X) hE hr' hF hret
 exact⟨v,hv,hR v w' X hr'.keeps hg.1 hrep⟩
def noJ:Nat->List (List AV)->(Nat->Prop)->(Nat->Prop)->World->Prop:=fun _ _ _ _ _=>False
def noD:Nat->(Nat->Prop)->(Nat->Prop)->World->Prop:=fun _ _ _ _=>False
def QD(P:Program)(T:TT)(G:List (Nat × List AV))(nt:Nat)(L:List (List AV)):SE:=⟨P,T,G,nt,L,[],true⟩
theorem Wd{P:Program}{T:TT}{G:List (Nat × List AV)}{f:Nat}{fn:Func}{body:Code}{args:List AV}{r:AV}(hE:(QD P T G fn.ntmps []).OK)(hf:P.funcs[f]?=some fn)(hb:fn.body=some body)
 (hn : (fn.name == "runtime.NumGoroutine") = false) (hlen : args.length ≤ fn.ntmps)
 (h:Tri (QD P T G fn.ntmps []) body (JaP args) (fun e S'=>(e=.normal ∨ e=.ret)/\JbK (Jj S' 0)=false/\Jpx T fn S'=some r)):PCall P G f args r:=by
 refine⟨⟨fn,body,hf,hb,hn⟩,fun w X vs hX hG hz=>(callsIn_fen (r:=none) (n:=0)).1 (callsIn_of_wp_marks hf hb trivial ?_)⟩
 have hvl:vs.size=args.length:=by simpa using hz.1
 have hrel:Rel ((QD P T G fn.ntmps []).ctx ⟨w,X,fun _=>False,noJ,noD,fun _=>none⟩) (JaP args) { tmps:=vs++Array.replicate (fn.ntmps-vs.size) undef,defers:=[] } w:=by
  refine JeJ (E:=QD P T G fn.ntmps []) (V:=⟨w,X,fun _=>False,noJ,noD,fun _=>none⟩) rfl rfl hlen hvl hX hG (fun _ h=>h.elim) (fun id h=>h) (fun t av ht=>?_) ⟨⟨fun _ _ _ _ _ _ _ h=>h.elim,fun _ _ _ _ _ _ h=>h.elim⟩,fun _ _ _ _ _ _ _ _ _ h=>h.elim,fun h=>h.elim,fun _ _ h=>(by cases h),fun _ _ h=>(by cases h),fun _ h=>(by cases h)⟩
  have hlt:t < args.length:=(List.getElem?_eq_some_iff.1 ht).1
  have:=(hz.getD).2 t hlt
  rw[JV ht]at this
  exact⟨SRep.of_rep this,fun id hi=>by rw[Uh this]at hi;cases hi⟩
 refine wpIn_mono (h _ none 0 _ w (fun _=>rfl) hrel) fun e a' w' ⟨S',⟨he,htr,hret⟩,hrel'⟩=>?_
 have hz':¬ (Jj S' 0).tracey:=by
  cases hB:Jj S' 0 <;> rw[hB]at htr <;> first | exact fun h=>h | cases htr
 have hl:=Jkp (F:=fen none) (n:=0) hE hrel' hret hz' (fun _ h=>h) (R:=fun e w'=>∃ v',e=.returned v'/\Below w.heap.size w w'/\ResR X w.heap.size w' v' r)
  (fun v w' X' hk hXX hrep=>⟨v,rfl,Keeps.to_below hk,hrep.less hXX⟩)
 rcases he with rfl | rfl
 · exact hl
 · exact hl
end
def WK(args:List AV)(bs:List ABlk):AS:=⟨Jk0 0 args,Jn2 bs,bs.length+1⟩
def resP(T:TT)(S:AS):ResultVar->Option AV
 | .tmp t=>match Ju S t with
  | some v=>if JJ v then some v else none
  | none=>none
 | .cell t ty=>match Ju S t,lk ty T with
  | some (.ptr id off),some ti=>match Jr S.b id with
   | .box cells=>if(off+ti.size).ble cells.length && ((cells.drop off).take ti.size).all JJ then
    if ti.agg then some (.agg ((cells.drop off).take ti.size))else match(cells.drop off).take ti.size with
     | [x]=>some x
     | _=>none
    else none
   | _=>none
  | _,_=>none
def Jhx(T:TT)(S:AS):List ResultVar->Option (List AV)
 | []=>some []
 | r::l=>match resP T S r,Jhx T S l with
  | some v,some m=>some (v::m)
  | _,_=>none
def retR(S:AS):List ResultVar->Option AV
 | [.tmp t]=>match Ju S t with
  | some v=>if isG v then none else some v
  | none=>none
 | _=>none
def retX(T:TT)(S:AS):List ResultVar->Option AV
 | [.cell t ty]=>match Ju S t,lk ty T with
  | some (.ptr id off),some ti=>match Jr S.b id with
   | .box cells=>if(off+ti.size).ble cells.length && ti.agg then some (.ax ((cells.drop off).take ti.size))else none
   | _=>none
  | _,_=>none
 | _=>none
def Jnt(T:TT)(fn:Func)(S:AS):Option AV :=
 match retR S fn.results.toList with
 | some r=>some r
 | none=>match Jhx T S fn.results.toList with
  | some l=>some (retV l)
  | none=>retX T S fn.results.toList
def gW(k:Nat)(id:Nat):Nat:=if id.ble k then id else k+1
def leK(k i:Nat)(id:Nat):Bool:=!id.beq 0 && (id.ble k || id.beq i)
def finW(k:Nat)(S:AS)(r:AV):Option (AV × List ABlk) :=
 match QU ((Qn r++((List.range k).map fun c=>Jj S (c+1)).flatMap JK).filter fun i=>!i.ble k) []with
 | []=>if(Qn r).all (leK k 0) && ((List.range k).map fun c=>Jj S (c+1)).all (fun b=>(JK b).all (leK k 0))then some (r,(List.range k).map fun c=>Jj S (c+1))else none
 | [i]=>if(Qn r).all (leK k i) && (((List.range k).map fun c=>Jj S (c+1)).all (fun b=>(JK b).all (leK k i)) && (JK (Jj S i)).all (leK k i))then
  some (mapX (gW k) r,((List.range k).map fun c=>JM (gW k) (Jj S (c+1)))++[JM (gW k) (Jj S i)])else none
 | _=>none
def retW(T:TT)(fn:Func)(k:Nat)(S:AS):Option (AV × List ABlk):=match Jnt T fn S with
 | some r=>if JlY r then none else match Jj S 0 with
  | .pins n=>if n.beq (k+1)then finW k S r else none
  | _=>none
 | none=>none
section
variable {E : SE} {V : Env} {X : Nat → Prop} {ρ : Pl} {S : AS} {a : Act} {w : World}
theorem Jnw(hE:E.OK)(h:RelW ((E.ctx V).withX X) ρ (Ju S) (Jj S) a w){r:ResultVar}{av:AV}(hr:resP E.T S r=some av) :
 ∃ v,(match r with
  | .tmp t=>pure (a.tmps.getD t undef)
  | .cell t ty=>do loadVar ty (← asAddr (a.tmps.getD t undef)):Sem Value).run E.P w=.ok v w/\Rep (XX X ρ (Jj S)) w v av:=by
 cases r with
 | tmp t =>
  simp only[resP]at hr
  split at hr
  . rename_i v hv
    split at hr
    . rename_i hp
      cases hr
      exact⟨_,rfl,SRep.one1 hp (h.slots t _ hv).2⟩
    cases hr
  cases hr
 | cell t ty =>
  simp only[resP]at hr
  split at hr
  . rename_i id off ti hv hti
    split at hr
    . rename_i cells hB
      split at hr
      . rename_i hfit
        rw[Kd]at hfit
        obtain⟨hfit,hpu⟩:=hfit
        have hfit:=Kl hfit
        obtain⟨d,inf,z,kk⟩:=Jk (hE.tok ty ti hti)
        have hB':Jj S id=.box cells:=hB
        obtain⟨b,hρ,hval⟩:=(show SRep0 ρ (Jj S) (XX X ρ (Jj S)) w (a.tmps.getD t undef) (.ptr id off)from(h.slots t _ hv).2).2 cells hB'
        have hbl:=h.blks id
        unfold BlkOK at hbl
        rw[hB']at hbl
        obtain⟨b',cs,Ty,hρ',hh,hsz,hc⟩:=hbl
        rw[hρ]at hρ'
        cases hρ'
        have hz:Z (CR ρ (Jj S) (XX X ρ (Jj S)) w) cs.toList cells:=Z.of_getD hsz hc
        have hz2:=(hz.drop off).take ti.size
        have hz3:Z (CP (XX X ρ (Jj S)) w) ((cs.toList.drop off).take ti.size) ((cells.drop off).take ti.size):=hz2.mono_mem fun v x hm hx=>⟨hx.1,SRep1.rep (List.all_eq_true.1 hpu x hm) hx.2⟩
        have hlen:((cs.toList.drop off).take ti.size).length=ti.size:=by
         have:=hz.1
         simp only[Kg,Kh,Array.length_toList]at this ⊢
         omega
        have hcell:∀ j v,((cs.toList.drop off).take ti.size)[j]?=some v->w.cell? ⟨b,off+j,none⟩=some v:=by
         intro j v hj
         rw[cell_of_row w b _ cs Ty (0,0) hh]
         rw[List.getElem?_take]at hj
         split at hj
         . rw[List.getElem?_drop]at hj;simpa using hj
         cases hj
        have ha:ti.agg=true ∨ ti.size=1:=by
         by_cases hg:ti.agg=true
         . exact .inl hg
         refine .inr ?_
         simp only[hg,Bool.false_eq_true,if_false]at hr
         split at hr
         . rename_i x hx
           have h1:=hz3.1
           rw[hlen,hx]at h1
           simpa using h1
         cases hr
        have hrun:=Uc kk w b off _ hlen hcell ha
        refine⟨if ti.agg then .agg ((cs.toList.drop off).take ti.size).toArray else((cs.toList.drop off).take ti.size).headD undef,?_,?_⟩
        . simp only[hval]
          simpa[Instr.loadAt,Instr.sureAddr,asAddr]using hrun
        by_cases hg:ti.agg=true
        . simp only[hg,if_true]at hr ⊢
          cases hr
          exact Rep.agg_mk (by simpa using hz3)
        simp only[hg,Bool.false_eq_true,if_false]at hr ⊢
        split at hr
        . rename_i x hx
          cases hr
          rw[hx]at hz3
          revert hz3
          generalize (cs.toList.drop off).take ti.size=vs
          intro hz3
          match vs,hz3.1 with
          | [v],_=>exact hz3.uncons.1.2
        cases hr
      cases hr
    cases hr
  cases hr
theorem JeQ(hE:E.OK)(h:RelW ((E.ctx V).withX X) ρ (Ju S) (Jj S) a w):∀ {l:List ResultVar} {m:List AV},Jhx E.T S l=some m →
 ∃ vs:List Value,(l.mapM (fun r:ResultVar=>match r with
  | .tmp t=>pure (a.tmps.getD t undef)
  | .cell t ty=>do loadVar ty (← asAddr (a.tmps.getD t undef)):ResultVar->Sem Value)).run E.P w=.ok vs w/\Z (Rep (XX X ρ (Jj S)) w) vs m
 | [],m,hr=>by
  simp only[Jhx]at hr
  cases hr
  exact⟨[],rfl,Z.nil⟩
 | r::l,m,hr=>by
  simp only[Jhx]at hr
  split at hr
  . rename_i v m' h1 h2
    cases hr
    obtain⟨u,hu,hv⟩:=Jnw hE h h1
    obtain⟨vs,hvs,hz⟩:=JeQ hE h h2
    refine⟨u::vs,?_,Z.cons hv hz⟩
    rw[List.mapM_cons]
    simp only[Ki,hu,Ke,hvs]
    rfl
  cases hr
theorem Jns(hE:E.OK)(h:RelW ((E.ctx V).withX X) ρ (Ju S) (Jj S) a w){fn:Func}{av:AV}(hr:retX E.T S fn.results.toList=some av):∃ v,(results fn a.tmps).run E.P w=.ok v w/\SRep ρ (Jj S) (XX X ρ (Jj S)) w v av:=by
 unfold retX at hr
 split at hr
 . rename_i t ty hfr
   split at hr
   . rename_i id off ti hv hti
     split at hr
     . rename_i cells hB
       split at hr
       . rename_i hfit
         rw[Kd]at hfit
         obtain⟨hfit,hag⟩:=hfit
         have hfit:=Kl hfit
         obtain⟨d,inf,z,kk⟩:=Jk (hE.tok ty ti hti)
         have hB':Jj S id=.box cells:=hB
         obtain⟨b,hρ,hval⟩:=(show SRep0 ρ (Jj S) (XX X ρ (Jj S)) w (a.tmps.getD t undef) (.ptr id off)from(h.slots t _ hv).2).2 cells hB'
         have hbl:=h.blks id
         unfold BlkOK at hbl
         rw[hB']at hbl
         obtain⟨b',cs,Ty,hρ',hh,hsz,hc⟩:=hbl
         rw[hρ]at hρ'
         cases hρ'
         have hz:Z (CR ρ (Jj S) (XX X ρ (Jj S)) w) cs.toList cells:=Z.of_getD hsz hc
         have hz2:=(hz.drop off).take ti.size
         have hlen:((cs.toList.drop off).take ti.size).length=ti.size:=by
          have:=hz.1
          simp only[Kg,Kh,Array.length_toList]at this ⊢
          omega
         have hcell:∀ j v,((cs.toList.drop off).take ti.size)[j]?=some v->w.cell? ⟨b,off+j,none⟩=some v:=by
          intro j v hj
          rw[cell_of_row w b _ cs Ty (0,0) hh]
          rw[List.getElem?_take]at hj
          split at hj
          . rw[List.getElem?_drop]at hj;simpa using hj
          cases hj
         have hrun:=Uc kk w b off _ hlen hcell (.inl hag)
         cases hr
         have hvs:(fn.results.toList.mapM (fun r:ResultVar=>match r with
          | .tmp t=>pure (a.tmps.getD t undef)
          | .cell t ty=>do loadVar ty (← asAddr (a.tmps.getD t undef)):ResultVar->Sem Value)).run E.P w=.ok [Value.agg ((cs.toList.drop off).take ti.size).toArray] w:=by
          have h1:(do loadVar ty (← asAddr (a.tmps.getD t undef)):Sem Value).run E.P w=.ok (Value.agg ((cs.toList.drop off).take ti.size).toArray) w:=by
           simp only[hval]
           simpa[Instr.loadAt,Instr.sureAddr,asAddr,hag]using hrun
          rw[hfr,List.mapM_cons]
          simp only[Ki,h1,Ke]
          rfl
         refine⟨_,Q3 hvs,⟨_,rfl,?_⟩⟩
         rw[List.toList_toArray]
         exact hz2
       cases hr
     cases hr
   cases hr
 cases hr
theorem Jj3(hE:E.OK)(h:RelW ((E.ctx V).withX X) ρ (Ju S) (Jj S) a w){fn:Func}{av:AV}(hr:Jnt E.T fn S=some av):∃ v,(results fn a.tmps).run E.P w=.ok v w/\SRep ρ (Jj S) (XX X ρ (Jj S)) w v av:=by
 unfold Jnt at hr
 split at hr
 . rename_i r hr1
   cases hr
   unfold retR at hr1
   split at hr1
   . rename_i t hfr
     split at hr1
     . rename_i v hv
       split at hr1
       . cases hr1
       cases hr1
       exact⟨a.tmps.getD t undef,(Q3 (vs:=[a.tmps.getD t undef]) (by rw[hfr];rfl)).trans rfl,(h.slots t _ hv).2⟩
     cases hr1
   cases hr1
 split at hr
 . rename_i m hm
   cases hr
   obtain⟨vs,hvs,hz⟩:=JeQ hE h hm
   refine⟨_,Q3 hvs,.of_rep ?_⟩
   match vs,m,hz with
   | [v],[x],hz=>exact hz.uncons.1
   | [],[],hz=>exact Rep.tup_mk hz
   | _::_::_,_::_::_,hz=>exact Rep.tup_mk hz
   | [],_::_,hz=>exact absurd hz.1 (by simp)
   | _::_,[],hz=>exact absurd hz.1 (by simp)
   | [_],_::_::_,hz=>exact absurd hz.1 (by simp)
   | _::_::_,[_],hz=>exact absurd hz.1 (by simp)
 exact Jns hE h hr
end
theorem leK_iff{k i id:Nat}:leK k i id=true ↔ id ≠ 0/\(id<=k ∨ id=i):=by
 unfold leK
 rw[Kd,Bool.or_eq_true,Nat.ble_eq]
 constructor
 . rintro⟨h1,h2⟩
   refine⟨fun e=>?_,h2.imp (fun h=>h) Kc⟩
   rw[e]at h1;cases h1
 rintro⟨h1,h2⟩
 exact⟨by rw[nbeq h1];rfl,h2.imp _root_.id (fun e=>by rw[e];exact Nat.beq_refl _)⟩
theorem JfG{k:Nat}{f:Nat->ABlk}{l:List ABlk}{c:Nat}(h:c < k):OB (((List.range k).map f)++l) (c+1)=f c:=by
 rw[XU,Ka,K3 (by simpa using h)]
 simp[h]
theorem Joa{K:Ctx}{bs:List ABlk}{ρ0 ρ:Pl}{X X0:Nat->Prop}{S:AS}{a:Act}{w w':World}(hK:K.w0=w/\K.X0=X/\K.F=own ρ0 (HB bs)/\K.ρ0=ρ0)(hX:∀ b,X0 b->X b)
 (h:RelW K ρ (Ju S) (Jj S) a w')(hp:Jj S 0=.pins (bs.length+1)){v:Value}{r r':AV}{fin:List ABlk}(hg:JlY r=false)(hv:SRep ρ (Jj S) (XX X ρ (Jj S)) w' v r)(hf:finW bs.length S r=some (r',fin)) :
 ∃ ρ',HandPost bs X0 ρ0 w r' fin v w' ρ':=by
 obtain⟨k1,k2,k3,k4⟩:=hK
 have hkeeps:Keeps (own ρ0 (HB bs)) w.heap.size w w':=by rw[<- k1,<- k3];exact h.keeps
 have hpin:∀ id,id ≠ 0->id<=bs.length->(Jj S id).alive->ρ id=ρ0 id/\∀ b,ρ id=some b->sameSize w w' b:=fun id h0 hl ha=>by
  have:=h.pin _ hp id h0 (by omega) ha
  rw[k4,k1]at this
  exact this
 have hlive:∀ id b,(Jj S id).alive->ρ id=some b->(own ρ0 (HB bs) b ∨ w.heap.size<=b)/\¬ X0 b/\b < w'.heap.size:=fun id b ha hr=>by
  have:=h.live id b ha hr
  rw[k1,k2,k3]at this
  exact⟨this.1,fun hx=>this.2.1 (hX b hx),this.2.2⟩
 have hblks:∀ id,BlkOK ρ (Jj S) (XX X ρ (Jj S)) w' id:=fun id=>by
  have:=h.blks id
  rw[k2]at this
  exact this
 obtain⟨k,hk⟩:∃ k,bs.length=k:=⟨_,rfl⟩
 rw[hk]at hp hf hpin
 unfold finW at hf
 -- the general case: g is injective on what there is
 have key:∀ (g:Nat->Nat) (fin':List ABlk) (src:Nat->Nat),(∀ c,1<=c->c<=fin'.length->OB fin' c=JM g (Jj S (src c))/\g (src c)=c)->(∀ c,1<=c->c<=k->src c=c)->(∀ c c',1<=c->c<=fin'.length->1<=c'->c'<=fin'.length->src c=src c'->c=c') →
  (∀ c,1<=c->c<=fin'.length->∀ j,j ∈ JK (Jj S (src c))->j ≠ 0/\1<=g j/\g j<=fin'.length/\src (g j)=j)->(∀ j,j ∈ Qn r->j ≠ 0/\1<=g j/\g j<=fin'.length/\src (g j)=j)->k<=fin'.length →
  HandPost bs X0 ρ0 w (mapX g r) fin' v w' (fun c=>ρ (src c)):=by
  intro g fin' src h1 h2 h3 h4 h5 h6
  have hal:∀ c,(OB fin' c).alive->1<=c/\c<=fin'.length/\(Jj S (src c)).alive:=by
   intro c ha
   cases c with
   | zero=>rw[Jpt]at ha;exact ha.elim
   | succ c =>
    have hle:c+1<=fin'.length:=by
     refine Nat.lt_of_not_le fun hn=>?_
     rw[XU,Ka,List.getElem?_eq_none hn]at ha
     exact ha.elim
    refine⟨by omega,hle,?_⟩
    rw[(h1 (c+1) (by omega) hle).1]at ha
    exact mapNB_alive.1 ha
  have hxx:∀ b,b < w'.heap.size->¬ XX X ρ (Jj S) b->¬ XX X0 (fun c=>ρ (src c)) (OB fin') b:=by
   rintro b _ hn (hx | ⟨c,ha,hr⟩)
   . exact hn (.inl (hX b hx))
   exact hn (.inr ⟨src c,(hal c ha).2.2,hr⟩)
  refine⟨hkeeps,fun c hc ha=>?_,fun c b ha hr=>hlive (src c) b (hal c ha).2.2 hr,fun c c' b ha ha' hr hr'=>?_,fun c=>?_,?_⟩
  . rw[hk]at hc
    have e:=h2 (c+1) (by omega) (by omega)
    have ha':=(hal (c+1) ha).2.2
    rw[e]at ha'
    obtain⟨g1,g2⟩:=hpin (c+1) (by omega) (by omega) ha'
    show ρ (src (c+1))=ρ0 (c+1)/\_
    rw[e]
    exact⟨g1,fun b hr=>g2 b (g1.trans hr)⟩
  . obtain⟨g1,g2,g3⟩:=hal c ha
    obtain⟨g1',g2',g3'⟩:=hal c' ha'
    exact h3 c c' g1 g2 g1' g2' (h.inj _ _ b g3 g3' hr hr')
  . by_cases hc:1<=c/\c<=fin'.length
    . obtain⟨e1,e2⟩:=h1 c hc.1 hc.2
      have h0:0 ∉ JK (Jj S (src c)):=fun hm=>(h4 c hc.1 hc.2 0 hm).1 rfl
      have hB:OB fin' (g (src c))=JM g (Jj S (src c)):=by rw[e2];exact e1
      have hR:(fun c=>ρ (src c)) (g (src c))=ρ (src c):=by show ρ (src (g (src c)))=_;rw[e2]
      have:=BlkOK.mapN (g:=g) (B':=OB fin') (ρ':=fun c=>ρ (src c)) (X':=XX X0 (fun c=>ρ (src c)) (OB fin')) hB hR hxx h0
       (fun j hj _=>by
        obtain⟨_,q1,q2,q3⟩:=h4 c hc.1 hc.2 j hj
        have:=(h1 (g j) q1 q2).1
        rw[q3]at this
        exact⟨this,by show ρ (src (g j))=_;rw[q3]⟩) (hblks (src c))
      rw[e2]at this
      exact this
    refine Jy fun ha=>hc ⟨(hal c ha).1,(hal c ha).2.1⟩
  . exact SRep.mapX hg (fun hm=>(h5 0 hm).1 rfl) hxx (fun j hj _=>by
     obtain⟨_,q1,q2,q3⟩:=h5 j hj
     have:=(h1 (g j) q1 q2).1
     rw[q3]at this
     exact⟨this,by show ρ (src (g j))=_;rw[q3]⟩) hv
 have m_id:∀ x:AV,VW (fun i=>i) x=x:=by
  have m0:∀ x:AV,Jf3 (fun i=>i) x=x:=fun x=>by cases x <;> rfl
  intro x
  cases x <;> first | rfl | skip
  simp only[VW]
  rw[List.map_congr_left (fun y _=>m0 y),List.map_congr_left (g:=_root_.id) (fun y _=>m0 y),List.map_id]
  simp
 have mx_id:∀ x:AV,mapX (fun i=>i) x=x:=by
  intro x
  by_cases hx:∃ l,x=.ax l
  . obtain⟨l,rfl⟩:=hx
    simp only[mapX]
    rw[List.map_congr_left (g:=_root_.id) (fun y _=>m_id y),List.map_id]
  have e2:mapX (fun i=>i) x=VW (fun i=>i) x:=by cases x <;> first | rfl | exact absurd ⟨_,rfl⟩ hx
  rw[e2,m_id]
 have mb_id:∀ b:ABlk,JM (fun i=>i) b=b:=by
  intro b
  cases b <;> first | rfl | skip
  simp only[JM]
  rw[List.map_congr_left (g:=_root_.id) (fun y _=>m_id y),List.map_id]
 split at hf
 . split at hf
   . rename_i hb
     cases hf
     rw[Kd]at hb
     have hlen:((List.range k).map fun c=>Jj S (c+1)).length=k:=by simp
     refine⟨_,(mx_id r) ▸ key (fun i=>i) ((List.range k).map fun c=>Jj S (c+1)) (fun c=>c) (fun c hc1 hc2=>?_) (fun _ _ _=>rfl) (fun _ _ _ _ _ _ e=>e) (fun c hc1 hc2 j hj=>?_) (fun j hj=>?_) (by rw[hlen];exact Kr _)⟩
     . rw[hlen]at hc2
       obtain⟨d,rfl⟩:∃ d,c=d+1:=⟨c-1,by omega⟩
       have:=JfG (k:=k) (f:=fun c=>Jj S (c+1)) (l:=[]) (c:=d) (by omega)
       rw[List.append_nil]at this
       exact⟨by rw[this,mb_id],rfl⟩
     . rw[hlen]at hc2 ⊢
       have hm:Jj S c ∈ (List.range k).map fun c=>Jj S (c+1):=List.mem_map.2 ⟨c-1,List.mem_range.2 (by omega),by rw[show c-1+1=c by omega]⟩
       have:=leK_iff.1 (List.all_eq_true.1 (List.all_eq_true.1 hb.2 _ hm) j hj)
       exact⟨this.1,by omega,by omega,rfl⟩
     rw[hlen]
     have:=leK_iff.1 (List.all_eq_true.1 hb.1 j hj)
     exact⟨this.1,by omega,by omega,rfl⟩
   cases hf
 . rename_i i hi
   split at hf
   . rename_i hb
     cases hf
     rw[Kd,Kd]at hb
     obtain⟨b1,b2,b3⟩:=hb
     have hik:k < i:=by
      have:i ∈ QU ((Qn r++((List.range k).map fun c=>Jj S (c+1)).flatMap JK).filter fun i=>!i.ble k) []:=by rw[hi];simp
      rcases mem_addAll.1 this with h1 | h1
      . have:=(List.mem_filter.1 h1).2
        simp only[Ks]at this
        exact Nat.lt_of_not_le fun hle=>by rw[Nat.ble_eq_true_of_le hle]at this;cases this
      cases h1
     have gle:∀ j,j<=k->gW k j=j:=fun j hj=>by unfold gW;rw[if_pos (Nat.ble_eq_true_of_le hj)]
     have ggt:gW k i=k+1:=by
      unfold gW
      rw[if_neg]
      intro hc
      have:=Kl hc
      omega
     have hlen:(((List.range k).map fun c=>JM (gW k) (Jj S (c+1)))++[JM (gW k) (Jj S i)]).length=k+1:=by simp
     have hsrc:∀ j,leK k i j=true->j ≠ 0/\1<=gW k j/\gW k j<=k+1/\(if gW k j=k+1 then i else gW k j)=j:=by
      intro j hj
      obtain⟨q1,q2⟩:=leK_iff.1 hj
      rcases q2 with q2 | q2
      . rw[gle j q2,if_neg (by omega)]
        exact⟨q1,by omega,by omega,rfl⟩
      subst q2
      rw[ggt,if_pos rfl]
      exact⟨q1,by omega,by omega,rfl⟩
     refine⟨_,key (gW k) _ (fun c=>if c=k+1 then i else c) (fun c hc1 hc2=>?_) (fun c _ hc=>if_neg (by omega)) (fun c c' hc1 hc2 hc1' hc2' e=>?_) (fun c hc1 hc2 j hj=>?_) (fun j hj=>?_) (by rw[hlen];omega)⟩
     . rw[hlen]at hc2
       by_cases e:c=k+1
       . subst e
         simp only[if_true]
         refine⟨?_,ggt⟩
         rw[XU,Ka,K4 (by simp)]
         simp
       simp only[if_neg e]
       obtain⟨d,rfl⟩:∃ d,c=d+1:=⟨c-1,by omega⟩
       exact⟨JfG (by omega),gle _ (by omega)⟩
     . rw[hlen]at hc2 hc2'
       revert e
       show(if c=k+1 then i else c)=(if c'=k+1 then i else c')->c=c'
       split <;> split <;> omega
     . rw[hlen]at hc2 ⊢
       refine hsrc j ?_
       by_cases e:c=k+1
       . subst e
         simp only[if_true]at hj
         exact List.all_eq_true.1 b3 j hj
       simp only[if_neg e]at hj
       have hm:Jj S c ∈ (List.range k).map fun c=>Jj S (c+1):=List.mem_map.2 ⟨c-1,List.mem_range.2 (by omega),by rw[show c-1+1=c by omega]⟩
       exact List.all_eq_true.1 (List.all_eq_true.1 b2 _ hm) j hj
     rw[hlen]
     exact hsrc j (List.all_eq_true.1 b1 j hj)
   cases hf
 . cases hf
theorem Jb4{P:Program}{T:TT}{G:List (Nat × List AV)}{f:Nat}{fn:Func}{body:Code}{args:List AV}{bs:List ABlk}{r:AV}{fin:List ABlk}(hE:(QD P T G fn.ntmps []).OK)(hf:P.funcs[f]?=some fn)(hb:fn.body=some body)
 (hn : (fn.name == "runtime.NumGoroutine") = false) (hlen : args.length ≤ fn.ntmps) (hwf : wfB (bs.length + 1) (WK args bs) = true)
 (h:Tri (QD P T G fn.ntmps []) body (WK args bs) (fun e S'=>(e=.normal ∨ e=.ret)/\retW T fn bs.length S'=some (r,fin))):WCall P G f args bs r fin:=by
 refine⟨⟨fn,body,hf,hb,hn⟩,fun w X ρ vs hG p=>(callsIn_fen (r:=none) (n:=0)).1 (callsIn_of_wp_marks hf hb trivial ?_)⟩
 have hvl:vs.size=args.length:=by simpa using p.vals.1
 obtain⟨V,hV⟩:∃ V:Env,V=⟨w,X,own ρ (HB bs),noJ,noD,ρ⟩:=⟨_,rfl⟩
 have hgetD:∀ t,t < args.length->(vs++Array.replicate (fn.ntmps-vs.size) undef).getD t undef=vs.getD t undef:=by
  intro t ht
  have:t < vs.size:=by omega
  simp[Array.getD_eq_getD_getElem?,Array.getElem?_append,this]
 have hrel:Rel ((QD P T G fn.ntmps []).ctx V) (WK args bs) { tmps:=vs++Array.replicate (fn.ntmps-vs.size) undef,defers:=[] } w:=by
  subst hV
  refine⟨JlF hwf,X,ρ,⟨fun _ h=>h,fun _ h=>.inl h⟩,⟨[],rfl,List.nodup_nil,fun D hD=>(by cases hD),fun _=>rfl⟩,?_,Keeps.refl _ _ _,p.x0,fun g cells hg=>?_,fun id b ha hr=>⟨.inl ⟨id,ha,hr⟩,p.live id b ha hr⟩,p.inj,p.blks,fun t av ht=>?_,
   ⟨⟨fun _ _ _ _ _ _ _ h=>h.elim,fun _ _ _ _ _ _ h=>h.elim⟩,fun _ _ _ _ _ _ _ _ _ h=>h.elim,fun h=>h.elim,fun _ _ h=>(by cases h),fun _ _ h=>(by cases h),fun _ h=>(by cases h)⟩,fun _=>rfl,fun i hi=>absurd hi (by simp[QD,SE.ctx,Ctx.withX]),fun n e id h0 hlt ha=>⟨rfl,fun b _=>.refl _ _⟩⟩
  · show(vs++Array.replicate (fn.ntmps-vs.size) undef).size=fn.ntmps
    simp;omega
  · refine GlobOK.mono (Kr _) (fun _ _ _=>rfl) (fun b hb' hn hx=>?_) (hG g cells hg)
    rcases hx with hx | hx | hx
    · exact hn (.inl hx)
    · exact hn (.inr hx)
    have:w.heap.size<=b:=hx
    omega
  have h1:args[t]?=some av:=by
   have:=Jh2 args 0 t
   simp only[Nat.zero_le,if_true,Nat.sub_zero]at this
   rw[<- this];exact ht
  have hlt:t < args.length:=(List.getElem?_eq_some_iff.1 h1).1
  refine⟨K0 hlt hlen,?_⟩
  show SRep ρ (HB bs) (XX X ρ (HB bs)) w ((vs++Array.replicate (fn.ntmps-vs.size) undef).getD t undef) av
  rw[hgetD t hlt]
  have:=(p.vals.getD).2 t hlt
  rw[JV h1]at this
  exact this
 refine wpIn_mono (h V none 0 _ w (fun _=>rfl) hrel) fun e a' w' ⟨S',⟨he,hret⟩,hrel'⟩=>?_
 obtain⟨hwf',X',ρ',hg,hr⟩:=hrel'
 unfold retW at hret
 split at hret
 · rename_i r0 hr0
   split at hret
   · cases hret
   rename_i hrg
   split at hret
   · rename_i n hpn
     split at hret
     · rename_i hnk
       have hnk:=Kc hnk
       have hpn':Jj S' 0=.pins (bs.length+1):=by rw[hpn,hnk]
       obtain⟨Ds,hds,hnd,hD,_⟩:=hr.defers
       have hl:LeavesInM (fen none) 0 P fn a'.tmps (fun e w'=>∃ v ρ',e=.returned v/\HandPost bs X ρ w r fin v w' ρ') a'.defers .returning w':=by
        rw[hds]
        refine Vd Ds w' hnd (fun D hm=>(hD D hm).1) fun w2 h1 h2 h3 h4 h5=>?_
        have hk:Keeps (((QD P T G fn.ntmps []).ctx V).withX X').F (((QD P T G fn.ntmps []).ctx V).withX X').w0.heap.size w' w2:=⟨h1,h2,h3,Nat.le_of_eq h4.symm,fun b hb _=>h5 b (fun hm=>by
         have h6:V.w0.heap.size<=b:=(hD b hm).2.1
         have h7:b < V.w0.heap.size:=hb
         omega)⟩
        have hr':=hr.foreign (X':=X') (ds:=[]) hk (fun b hb hx=>h5 b (fun hm=>hx (hD b hm).2.2)) (fun _ _ h=>h) (fun b hb=>by rw[h4];exact hr.x0 b hb) ⟨[],rfl,List.nodup_nil,fun D hD=>(by cases hD),fun _=>rfl⟩ (by rw[hpn'];exact fun h=>h)
        obtain⟨v,hv,hrep⟩:=Jj3 (V:=V) (X:=X') hE hr' hr0
        obtain⟨ρ2,hp2⟩:=Joa (K:=((QD P T G fn.ntmps []).ctx V).withX X') (bs:=bs) (ρ0:=ρ) (X:=X') (X0:=X) (w:=w) ⟨by rw[hV];rfl,rfl,by rw[hV];rfl,by rw[hV];rfl⟩ (fun b hb=>hg.1 b (by rw[hV];exact hb)) hr' hpn' (by simpa using hrg) hrep hret
        exact⟨v,hv,v,ρ2,rfl,hp2⟩
       rcases he with rfl | rfl
       · exact hl
       exact hl
     cases hret
   cases hret
 · cases hret
end Go.Av
