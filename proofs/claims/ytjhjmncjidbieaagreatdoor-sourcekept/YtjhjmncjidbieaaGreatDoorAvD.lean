/-
  Ranges over functions: what a function hands over, and what the one does that ranges over it. Turns of the state that reach into variables: a slice that is never written again, a nil slice that is to be appended to. No condition but the theorems' own.
-/
import Derived.Test.YtjhjmncjidbieaaGreatDoorAvC
import Derived.Carry
import Derived.MakeChecks
import Derived.OpenShut
import Derived.RowKit
import Derived.WideShapes
import Derived.Handed
namespace Go.Av
open Go Go.RowKit
structure PSeq(P:Program)(G:List (Nat × List AV))(f:Nat)(cap:List AV)(L:List (List AV)):Prop where
 callable:VY P f
 run:∀ (n:Nat) (w:World) (X:Nat->Prop) (vs:Array Value) (l:Nat) (J:Nat->List (List AV)->(Nat->Prop)->(Nat->Prop)->World->Prop) (D:Nat->(Nat->Prop)->(Nat->Prop)->World->Prop),
  (∀ b,X b->b < w.heap.size) →
  (∀ g cells,lk g G=some cells->GlobOK X w g cells) →
  Z (Rep X w) vs.toList cap->X l->Stab J D->YOK P L J D->J l [] X (fun _=>False) w →
  CallsIn Fence.wide n P f (#[.func (.yield l) #[] #[]]++vs) w fun e w'=>∃ v X' Y',e=.returned v/\(∀ b,X b->X' b)/\(J l L X' Y' w' ∨ D l X' Y' w')
theorem Jao{P:Program}{fn:Func}(h:fn.results.toList=[])(tmps:Array Value)(w:World):∃ v,(results fn tmps).run P w=.ok v w:=by
 unfold results
 rw[Array.mapM_eq_mapM_toList,h]
 exact⟨_,rfl⟩
structure PSeqB(P:Program)(G:List (Nat × List AV))(f:Nat)(cells:List AV)(L:List (List AV)):Prop where
 callable:VY P f
 run:∀ (n:Nat) (w:World) (X:Nat->Prop) (b:Nat) (cs:Array Value) (T:Nat) (l:Nat) (J:Nat->List (List AV)->(Nat->Prop)->(Nat->Prop)->World->Prop) (D:Nat->(Nat->Prop)->(Nat->Prop)->World->Prop),
  (∀ b,X b->b < w.heap.size)->¬ X b →
  (∀ g cells,lk g G=some cells->GlobOK (fun x=>X x ∨ x=b) w g cells) →
  w.heap[b]?=some (.cells cs T (0,0))->cs.size=cells.length->(∀ j,j < cells.length->CP (fun x=>X x ∨ x=b) w (cs.getD j undef) (nth cells j)) →
  X l->Stab J D->YOK P L J D->J l [] X (fun x=>x=b) w →
  CallsIn Fence.wide n P f (#[.func (.yield l) #[] #[]]++#[.pointer (some ⟨b,0,none⟩)]) w fun e w'=>∃ v X' Y',e=.returned v/\(∀ b,X b->X' b)/\(J l L X' Y' w' ∨ D l X' Y' w')
def PSeqX(P:Program)(G:List (Nat × List AV))(f:Nat)(cap:List AV)(L:List (List AV)):Prop :=
 match cap with
 | [.fbox _ cells]=>PSeqB P G f cells L
 | cap=>PSeq P G f cap L
def Q1(l:Nat)(cells:List AV):AS:=⟨JiL 0 [.yld l,.ptr 1 0],[(0,.ready l []),(1,.box cells)],2⟩
theorem Jdr{P:Program}{T:TT}{G:List (Nat × List AV)}{f:Nat}{fn:Func}{body:Code}{cells:List AV}{L:List (List AV)}(hf:P.funcs[f]?=some fn)(hb:fn.body=some body)
 (hn : (fn.name == "runtime.NumGoroutine") = false) (hlen : 2 ≤ fn.ntmps) (hres : fn.results.toList = [])
 (h:∀ l,Tri (Qh P T G fn.ntmps L) body (Q1 l cells) (fun e S'=>(e=.normal ∨ e=.ret)/\(Jl S' 0=.ready l L ∨ Jl S' 0=.stop l))):PSeqB P G f cells L:=by
 refine⟨⟨fn,body,hf,hb,hn⟩,fun n w X b cs Ty l J D hX hXb hG hh hsz hc hXl hst hy hJ=>?_⟩
 show CallsIn (fen none) n P f _ w _
 refine callsIn_of_wp_marks hf hb trivial ?_
 have hlt:b < w.heap.size:=(Array.getElem?_eq_some_iff.1 hh).1
 obtain⟨ρ,hρ⟩:∃ ρ:Pl,ρ=upd (fun _=>none) 1 (some b):=⟨_,rfl⟩
 have hρ1:ρ 1=some b:=by rw[hρ];exact Je _ _ _
 have hρo:∀ i,i ≠ 1->ρ i=none:=fun i hi=>by rw[hρ];exact Jj _ _ hi
 have hal:∀ i,(Jl (Q1 l cells) i).alive->i=1:=by
  intro i ha
  unfold Jl Jw Q1 at ha
  simp only[lk]at ha
  split at ha
  · exact ha.elim
  split at ha
  · rename_i h2
    exact(Kc h2).symm
  exact ha.elim
 have hB1:Jl (Q1 l cells) 1=.box cells:=rfl
 have hown:own ρ (Jl (Q1 l cells))=fun x=>x=b:=by
  funext x
  refine propext ⟨fun⟨i,ha,hr⟩=>?_,fun e=>⟨1,by rw[hB1];trivial,by rw[hρ1,e]⟩⟩
  rw[hal i ha,hρ1]at hr
  exact(Option.some.inj hr).symm
 have hxx:XX X ρ (Jl (Q1 l cells))=fun x=>X x ∨ x=b:=by
  funext x
  have:=congrFun hown x
  unfold own at this
  unfold XX
  rw[this]
 have hrel:Rel ((Qh P T G fn.ntmps L).ctx ⟨w,X,fun x=>X x ∨ x=b,J,D,fun _=>none⟩) (Q1 l cells) { tmps:=(#[Value.func (.yield l) #[] #[]]++#[.pointer (some ⟨b,0,none⟩)])++Array.replicate (fn.ntmps-(#[Value.func (.yield l) #[] #[]]++#[Value.pointer (some ⟨b,0,none⟩)]).size) undef,defers:=[] } w:=by
  refine⟨⟨fun t av ht i hi=>?_,fun i ha=>?_,fun i ha j hj=>?_,fun _=>Nat.succ_pos 1⟩,X,ρ,Grow.refl _,⟨[],rfl,List.nodup_nil,fun D hD=>(by cases hD),fun _=>rfl⟩,?_,Keeps.refl _ _ _,hX,fun g cells' hg=>?_,fun i b' ha hr=>?_,fun i i' b' ha ha' _ _=>(hal i ha).trans (hal i' ha').symm,fun i=>?_,fun t av ht=>?_,
   ⟨hst,hy,fun _ b' hx _=>.inl hx,fun l' rows e=>?_,fun l' rows e=>(by cases e),fun l' e=>(by cases e)⟩,fun _=>rfl,fun i hi=>(by cases hi),fun n' e=>(by cases e)⟩
  · match t,ht with
    | 0,ht=>cases ht;simp[Qt,mids1,mids0]at hi;subst hi;exact Nat.succ_pos 1
    | 1,ht=>cases ht;simp[Qt,mids1,mids0]at hi;subst hi;exact Nat.lt_succ_self 1
    | t+2,ht=>exact absurd ht (by simp[Jy,Q1,JiL,lk])
  · rw[hal i ha];exact Nat.lt_succ_self 1
  · rw[hal i ha,hB1]at hj
    simp only[JN,Kn]at hj
    obtain⟨x,hx,hj⟩:=hj
    obtain⟨q,hq,rfl⟩:=List.mem_iff_getElem.1 hx
    have:=(hc q hq).2
    rw[J0 (Kj hq)]at this
    rw[this.mids1]at hj
    cases hj
  · show((#[Value.func (.yield l) #[] #[]]++#[Value.pointer (some ⟨b,0,none⟩)])++Array.replicate (fn.ntmps-(#[Value.func (.yield l) #[] #[]]++#[Value.pointer (some ⟨b,0,none⟩)]).size) undef).size=fn.ntmps
    simp
    omega
  · refine GlobOK.mono (Kr _) (fun _ _ _=>rfl) (fun b' hb' hn hx=>?_) (hG g cells' hg)
    rcases hx with hx | hx | hx
    · exact hn (.inl hx)
    · exact hn hx
    have:w.heap.size<=b':=hx
    omega
  · rw[hal i ha,hρ1]at hr
    cases hr
    exact⟨.inl (.inr rfl),hXb,hlt⟩
  · by_cases hi:i=1
    · subst hi
      unfold BlkOK
      rw[hB1]
      refine⟨b,cs,Ty,hρ1,hh,hsz,fun j hj=>⟨(hc j hj).1,SRep1.of_rep ?_⟩⟩
      show Rep (XX X ρ (Jl (Q1 l cells))) w _ _
      rw[hxx]
      exact(hc j hj).2
    by_cases h0:i=0
    · subst h0
      unfold BlkOK
      rw[show Jl (Q1 l cells) 0=.ready l []from rfl]
      trivial
    exact JD fun ha=>hi (hal i ha)
  · match t,ht with
    | 0,ht =>
     cases ht
     refine⟨K2 (by decide) hlen,?_⟩
     show((#[Value.func (.yield l) #[] #[]]++#[Value.pointer (some ⟨b,0,none⟩)])++Array.replicate _ undef).getD 0 undef=.func (.yield l) #[] #[]
     simp[Array.getD_eq_getD_getElem?,Array.getElem?_append]
    | 1,ht =>
     cases ht
     refine⟨hlen,?_⟩
     have e:((#[Value.func (.yield l) #[] #[]]++#[Value.pointer (some ⟨b,0,none⟩)])++Array.replicate (fn.ntmps-(#[Value.func (.yield l) #[] #[]]++#[Value.pointer (some ⟨b,0,none⟩)]).size) undef).getD 1 undef=.pointer (some ⟨b,0,none⟩):=by
      simp[Array.getD_eq_getD_getElem?,Array.getElem?_append]
     show SRep0 ρ (Jl (Q1 l cells)) (XX X ρ (Jl (Q1 l cells))) w (((#[Value.func (.yield l) #[] #[]]++#[Value.pointer (some ⟨b,0,none⟩)])++Array.replicate (fn.ntmps-(#[Value.func (.yield l) #[] #[]]++#[Value.pointer (some ⟨b,0,none⟩)]).size) undef).getD 1 undef) (.ptr 1 0)
     rw[e]
     exact⟨rfl,fun _ _=>⟨b,hρ1,rfl⟩⟩
    | t+2,ht=>exact absurd ht (by simp[Jy,Q1,JiL,lk])
  cases e
  refine⟨hXl,?_⟩
  show J l [] X (own ρ (Jl (Q1 l cells))) w
  rw[hown]
  exact hJ
 refine wpIn_mono (h l _ none n _ w (fun _=>rfl) hrel) fun e a' w' ⟨S',⟨he,htr⟩,hwf,X',ρ',hg,hr⟩=>?_
 have hd:a'.defers=[]:=hr.dt (by rcases htr with e | e <;> rw[e] <;> trivial)
 obtain⟨v,hv⟩:=Jao (P:=P) hres a'.tmps w'
 have hend:LeavesInM (fen none) n P fn a'.tmps (fun e w'=>∃ v X' Y',e=.returned v/\(∀ b,X b->X' b)/\(J l L X' Y' w' ∨ D l X' Y' w')) a'.defers .returning w':=by
  rw[hd]
  refine⟨v,hv,v,X',own ρ' (Jl S'),rfl,hg.1,?_⟩
  rcases htr with e | e
  · exact .inl (hr.trc.rd l L e).2
  exact .inr (hr.trc.st l e)
 rcases he with rfl | rfl
 · exact hend
 · exact hend
theorem JeI{P:Program}{T:TT}{G:List (Nat × List AV)}{f:Nat}{fn:Func}{body:Code}{cap:List AV}{L:List (List AV)}(hf:P.funcs[f]?=some fn)(hb:fn.body=some body)
 (hn : (fn.name == "runtime.NumGoroutine") = false) (hlen : cap.length + 1 ≤ fn.ntmps) (hres : fn.results.toList = [])
 (h:∀ l,Tri (Qh P T G fn.ntmps L) body (Jgd l cap) (fun e S'=>(e=.normal ∨ e=.ret)/\(Jl S' 0=.ready l L ∨ Jl S' 0=.stop l))):PSeq P G f cap L:=by
 refine⟨⟨fn,body,hf,hb,hn⟩,fun n w X vs l J D hX hG hz hXl hst hy hJ=>?_⟩
 show CallsIn (fen none) n P f _ w _
 refine callsIn_of_wp_marks hf hb trivial ?_
 have hvl:vs.size=cap.length:=by simpa using hz.1
 have hb0:∀ id,¬ (Jw [(0,ABlk.ready l [])] id).alive:=by
  intro id ha
  unfold Jw at ha
  simp only[lk]at ha
  split at ha
  · exact ha
  exact ha
 have hrel:Rel ((Qh P T G fn.ntmps L).ctx ⟨w,X,X,J,D,fun _=>none⟩) (Jgd l cap) { tmps:=(#[Value.func (.yield l) #[] #[]]++vs)++Array.replicate (fn.ntmps-(#[Value.func (.yield l) #[] #[]]++vs).size) undef,defers:=[] } w:=by
  refine Jgc (E:=Qh P T G fn.ntmps L) (V:=⟨w,X,X,J,D,fun _=>none⟩) (args:=.yld l::cap) (vs:=#[Value.func (.yield l) #[] #[]]++vs) rfl rfl (show(AV.yld l::cap).length<=fn.ntmps by simpa using hlen) (by simp[hvl,Nat.add_comm]) hX hG (fun _ h=>h) hb0 (fun t av ht=>?_)
   ⟨hst,hy,fun _ b hx _=>hx,fun l' rows e=>?_,fun l' rows e=>(by cases e),fun l' e=>(by cases e)⟩
  · cases t with
    | zero =>
     simp only[List.getElem?_cons_zero,Option.some.injEq]at ht
     subst ht
     refine⟨?_,fun id hi=>by simp[Qt,mids1,mids0]at hi;omega⟩
     show(#[Value.func (.yield l) #[] #[]]++vs).getD 0 undef=.func (.yield l) #[] #[]
     simp[Array.getD_eq_getD_getElem?,Array.getElem?_append]
    | succ t =>
     have ht':cap[t]?=some av:=by simpa using ht
     have hlt:t < cap.length:=(List.getElem?_eq_some_iff.1 ht').1
     have hr:=(hz.getD).2 t hlt
     rw[J0 ht']at hr
     have e:(#[Value.func (.yield l) #[] #[]]++vs).getD (t+1) undef=vs.getD t undef:=by
      simp[Array.getD_eq_getD_getElem?,Array.getElem?_append]
     rw[e]
     exact⟨SRep.of_rep hr,fun id hi=>by rw[UC hr]at hi;cases hi⟩
  cases e
  exact⟨hXl,hst.j _ _ _ _ _ _ _ hJ (.refl fun b ⟨id,ha,_⟩=>(hb0 id ha).elim)⟩
 refine wpIn_mono (h l _ none n _ w (fun _=>rfl) hrel) fun e a' w' ⟨S',⟨he,htr⟩,hwf,X',ρ,hg,hr⟩=>?_
 have hd:a'.defers=[]:=hr.dt (by rcases htr with e | e <;> rw[e] <;> trivial)
 obtain⟨v,hv⟩:=Jao (P:=P) hres a'.tmps w'
 have hend:LeavesInM (fen none) n P fn a'.tmps (fun e w'=>∃ v X' Y',e=.returned v/\(∀ b,X b->X' b)/\(J l L X' Y' w' ∨ D l X' Y' w')) a'.defers .returning w':=by
  rw[hd]
  refine⟨v,hv,v,X',own ρ (Jl S'),rfl,hg.1,?_⟩
  rcases htr with e | e
  · exact .inl (hr.trc.rd l L e).2
  exact .inr (hr.trc.st l e)
 rcases he with rfl | rfl
 · exact hend
 · exact hend
def UV:List Nat->List AV->List (Nat × AV)->List (Nat × AV)
 | p::ps,v::vs,s=>UV ps vs (JeH p v (V1 p s))
 | _,_,s=>s
def SE.rnd(E:SE)(A:List Nat):SE:={ E with L:=[],A:=A,nr:=false }
section
variable {E : SE} {V : Env} {K : Ctx} {ρ : Pl} {slot : Nat → Option AV} {B : Nat → ABlk} {a : Act} {w w' : World}
theorem RelW.rebase(h:RelW K ρ slot B a w)(hG:K.G=E.G)(hnt:K.nt=E.nt){X':Nat->Prop}{A:List Nat}(hs:w.heap.size<=w'.heap.size)(hsame:∀ b,b < w.heap.size->¬ K.X0 b->w'.heap[b]?=w.heap[b]?)
 (hx1:∀ b,b < w.heap.size->X' b->K.X0 b)(hx2:∀ b,X' b->b < w'.heap.size)(hz:¬ (B 0).tracey)(hA:∀ id,id ∈ A->∃ cells,B id=.box cells) :
 RelW ((E.rnd A).ctx ⟨w',X',own ρ B,noJ,noD,ρ⟩) ρ slot B { a with defers:=[] } w':=by
 have hread:∀ b,b < w.heap.size->¬ XX K.X0 ρ B b->w'.heap[b]?=w.heap[b]?:=fun b hb hn=>hsame b hb (fun hx=>hn (.inl hx))
 have hX:∀ b,b < w.heap.size->¬ XX K.X0 ρ B b->¬ XX X' ρ B b:=fun b hb hn hx=>hx.elim (fun h=>hn (.inl (hx1 b hb h))) (fun h=>hn (.inr h))
 have hown:∀ i b,(B i).alive->ρ i=some b->w'.heap[b]?=w.heap[b]?:=fun i b ha hr=>hsame b (h.live i b ha hr).2.2 (h.live i b ha hr).2.1
 have hB:∀ i,(B i).alive->sameMake (B i) (B i)/\ρ i=ρ i/\∀ b,ρ i=some b->sameSize w w' b:=fun i ha =>
  ⟨sameMake.refl ha,rfl,fun b hr cur e hh=>⟨cur,by rw[hown i b ha hr];exact hh,rfl⟩⟩
 have hz':∀ {x:ABlk},B 0=x->x.tracey->False:=fun e ht=>hz (by rw[e];exact ht)
 have hR:∀ l k n bv,Yb B w l k n bv->Yb B w' l k n bv:=fun l k n bv _=>⟨fun rows e=>(hz' e trivial).elim,fun l' rows e=>(hz' e trivial).elim,fun l' rows e=>(hz' e trivial).elim⟩
 refine⟨⟨[],rfl,List.nodup_nil,fun D hD=>(by cases hD),fun _=>rfl⟩,by rw[show({ a with defers:=[] }:Act).tmps=a.tmps from rfl,h.size];exact hnt,Keeps.refl _ _ _,hx2,fun g cells hg=>?_,
  fun i b ha hr=>⟨.inl ⟨i,ha,hr⟩,fun hx=>(h.live i b ha hr).2.1 (hx1 b (h.live i b ha hr).2.2 hx),K2 (h.live i b ha hr).2.2 hs⟩,h.inj,fun i=>?_,fun t av ht=>?_,
  ⟨⟨fun _ _ _ _ _ _ _ h=>h.elim,fun _ _ _ _ _ _ h=>h.elim⟩,fun _ _ _ _ _ _ _ _ _ h=>h.elim,fun ht=>(hz ht).elim,fun l rows e=>(hz' e trivial).elim,fun l rows e=>(hz' e trivial).elim,fun l e=>(hz' e trivial).elim⟩,fun ht=>(hz ht).elim,fun i hi=>⟨hA i hi,rfl⟩,fun n _ id _ _ _=>⟨rfl,fun b _=>.refl _ _⟩⟩
 . have hg':lk g K.G=some cells:=by rw[hG];exact hg
   refine GlobOK.mono hs (fun b hlt hn=>?_) (fun b hlt hn=>?_) (h.glob g cells hg')
   . simp only[XG,not_or]at hn
     exact hsame b hlt hn.1
   simp only[XG,not_or]at hn
   rintro(hx | ⟨i,ha,hr⟩ | hx)
   . exact hn.1 (hx1 b hlt hx)
   . exact(h.live i b ha hr).1.elim hn.2.1 hn.2.2
   have:w'.heap.size<=b:=hx
   omega
 . by_cases ha:(B i).alive
   . exact BlkOK.mono hs hread hX rfl rfl (fun b hr=>hown i b ha hr) (fun j _=>hB j) hR (h.blks i)
   exact JD ha
 . obtain⟨h1,h2⟩:=h.slots t av ht
   exact⟨show t < E.nt by rw[<- hnt];exact h1,SRep.mono hs hread hX (fun i _=>hB i) hR h2⟩
theorem RelW.unbase(h:RelW K ρ slot B a w){K5:Ctx}{ρ5:Pl}{slot5:Nat->Option AV}{B5:Nat->ABlk}{a5:Act}{W:World}(h5:RelW K5 ρ5 slot5 B5 a5 W){A:List Nat}{l:Nat}{rc:Loop}
 (hown:∀ b,own ρ5 B5 b->own ρ B b ∨ w.heap.size<=b)(hX:∀ b,K5.X0 b->K.X0 b ∨ w.heap.size<=b)(hX':∀ b,K.X0 b->K5.X0 b)(hl:K.X0 l)(hl0:K.w0.heap.size<=l)(hll:w.heap[l]?=some (.loop rc))
 (hsame:∀ b,b < w.heap.size->¬ own ρ B b->b ≠ l->W.heap[b]?=w.heap[b]?)(hs:w.heap.size<=W.heap.size)(hos:W.os=w.os)(htape:W.tape=w.tape)(hout:W.output=w.output)
 (hz:¬ (B5 0).tracey)(hzp:∀ n,B5 0 ≠ .pins n)(hKA:K.A=[])(hsl:∀ t av,slot t=some av->JR av=true ∨ ∃ id off,av=.ptr id off/\id ∈ A)
 (hA:∀ id,id ∈ A->(∃ cells,B id=.box cells)/\(∃ cells,B5 id=.box cells)/\ρ5 id=ρ id):RelW (K.withX K5.X0) ρ5 slot B5 a W:=by
 have hz':∀ {x:ABlk},B5 0=x->x.tracey->False:=fun e ht=>hz (by rw[e];exact ht)
 obtain⟨Ds,hd1,hd2,hd3,hd4⟩:=h.defers
 have hDs:∀ D,D ∈ Ds->W.heap[D]?=some (.deferred (some [])):=by
  intro D hD
  obtain⟨g1,g2,g3⟩:=hd3 D hD
  have hne:D ≠ l:=by rintro rfl;rw[hll]at g1;cases g1
  rw[hsame D (h.x0 D g3) (fun ho=>h.own_x0 ho g3) hne]
  exact g1
 refine⟨⟨Ds,hd1,hd2,fun D hD=>⟨hDs D hD,(hd3 D hD).2.1,hX' D (hd3 D hD).2.2⟩,hd4⟩,h.size,h.keeps.trans ⟨hos,htape,hout,hs,fun b hb hF=>?_⟩,h5.x0,fun g cells hg=>?_,fun i b ha hr=>?_,h5.inj,h5.blks,fun t av ht=>⟨(h.slots t av ht).1,?_⟩,
  ⟨h.trc.stab,h.trc.yok,fun ht=>(hz ht).elim,fun l rows e=>(hz' e trivial).elim,fun l rows e=>(hz' e trivial).elim,fun l e=>(hz' e trivial).elim⟩,fun ht=>(hz ht).elim,fun i hi=>by
   have h0:i ∈ K.A:=hi
   rw[hKA]at h0;exact absurd h0 (by simp),fun n e=>absurd e (hzp n)⟩
 . have hb':b < K.w0.heap.size:=hb
   refine hsame b (K2 hb' h.le_size) ?_ (by omega)
   rintro⟨i,ha,hr⟩
   rcases(h.live i b ha hr).1 with g | g
   . exact hF g
   omega
 . refine GlobOK.mono hs (fun b hlt hn=>?_) (fun b hlt hn=>?_) (h.glob g cells hg)
   . simp only[XG,not_or]at hn
     refine hsame b hlt ?_ (fun e=>hn.1 (e ▸ hl))
     rintro⟨i,ha,hr⟩
     exact(h.live i b ha hr).1.elim hn.2.1 hn.2.2
   simp only[XG,not_or]at hn ⊢
   exact⟨fun hx=>(hX b hx).elim hn.1 (fun h=>by omega),hn.2⟩
 . have h6:=h5.live i b ha hr
   refine⟨?_,h6.2.1,h6.2.2⟩
   rcases hown b ⟨i,ha,hr⟩with⟨j,ga,gr⟩ | g
   . exact(h.live j b ga gr).1
   exact .inr (Nat.le_trans h.le_size g)
 . have hs0:=(h.slots t av ht).2
   have hmono:∀ b,b < w.heap.size->¬ XX K.X0 ρ B b->W.heap[b]?=w.heap[b]?:=fun b hlt hn=>hsame b hlt (fun ho=>hn (.inr ho)) (fun e=>hn (.inl (e ▸ hl)))
   have hxx:∀ b,b < w.heap.size->¬ XX K.X0 ρ B b->¬ XX K5.X0 ρ5 B5 b:=by
    rintro b hlt hn (hx | hx)
    . exact(hX b hx).elim (fun h=>hn (.inl h)) (fun h=>by omega)
    exact(hown b hx).elim (fun h=>hn (.inr h)) (fun h=>by omega)
   rcases hsl t av ht with hp | ⟨id,off,rfl,hid⟩
   . exact SRep.of_rep (Rep.mono hs hmono hxx (SRep.one1 hp hs0))
   obtain⟨⟨c1,e1⟩,⟨_,e5⟩,er⟩:=hA id hid
   have h0:=(show SRep0 ρ B (XX K.X0 ρ B) w _ (.ptr id off)from hs0)
   exact⟨h0.1,fun cells _=>by rw[er];exact h0.2 c1 e1⟩
theorem RelW.puts:∀ {ps:List Nat} {x:List AV} {vs:List Value} {s:List (Nat × AV)} {a:Act},RelW K ρ (fun t=>lk t s) B a w->Z (SRep ρ B (XX K.X0 ρ B) w) vs x->(∀ p,p ∈ ps->p < K.nt)->ps.length=x.length →
 RelW K ρ (fun t=>lk t (UV ps x s)) B { a with tmps:=(ps.zip vs).foldl (fun tmps p=>tmps.setIfInBounds p.1 p.2) a.tmps } w
 | [],[],vs,s,a,h,_,_,_=>by simpa[UV]using h
 | [],_::_,_,_,_,_,_,_,hl=>by simp at hl
 | _::_,[],_,_,_,_,_,_,hl=>by simp at hl
 | p::ps,v::x,vs,s,a,h,hz,hp,hl=>by
  match vs,hz.1 with
  | u::vs,_ =>
   obtain⟨h1,h2⟩:=hz.uncons
   have h3:=h.put (d:=p) (hp p (by simp)) h1
   have e:upd (fun t=>lk t s) p (some v)=fun t=>lk t (JeH p v (V1 p s)):=by
    funext t
    rw[Xe]
    rfl
   rw[e]at h3
   have:=RelW.puts (ps:=ps) (x:=x) h3 h2 (fun q hq=>hp q (List.mem_cons_of_mem _ hq)) (by simpa using hl)
   simpa[UV,Act.put]using this
theorem JgJ:∀ {ps:List Nat} {x:List AV} {s:List (Nat × AV)} {t:Nat} {av:AV},lk t (UV ps x s)=some av->av ∈ x ∨ lk t s=some av
 | [],_,s,t,av,h=>.inr (by simpa[UV]using h)
 | _::_,[],s,t,av,h=>.inr (by simpa[UV]using h)
 | p::ps,v::x,s,t,av,h=>by
  simp only[UV]at h
  rcases JgJ h with h | h
  . exact .inl (by simp[h])
  rw[Xe]at h
  split at h
  . cases h;exact .inl (by simp)
  exact .inr h
def Jtz(Q:Exit->AS->Prop)(c:Code)(S:AS):Prop:=(c=.ret/\Q .ret S) ∨ (∃ id,c=.exit id/\Q (.exit id) S) ∨ (∃ t,c=.goto t/\Q (.goto t) S)
def roundQ(J:List (List AV)->AS->Prop)(S:AS)(rows:List (List AV))(Q:Exit->AS->Prop):Exit->AS->Prop
 | .normal,S'=>J rows ⟨S.s,S'.b,S'.n⟩
 | .ret,S'=>Q .ret ⟨S.s,S'.b,S'.n⟩
 | .exit id,S'=>Q (.exit id) ⟨S.s,S'.b,S'.n⟩
 | .goto t,S'=>Q (.goto t) ⟨S.s,S'.b,S'.n⟩
 | _,_=>False
theorem Jgx{b:ABlk}(h:JaH b=false):∀ n,b ≠ .pins n:=fun n e=>by rw[e]at h;cases h
theorem Ww{b:ABlk}(h:JaH b=false):¬ b.tracey:=by
 cases b <;> first | exact fun h=>h | cases h
def Core(E:SE)(V:Env)(S:AS)(A:List Nat)(ρ1:Pl)(a:Act)(w:World)(rc:Loop)(S1:AS)(X Y:Nat->Prop)(W:World):Prop :=
 ∃ (Xo:Nat->Prop) (ρ:Pl),WF S1/\S1.s=S.s/\JaH (Jl S1 0)=false/\(∀ id,id ∈ A->(∃ cells,Jl S1 id=.box cells)/\ρ id=ρ1 id) /\
  RelW ((E.ctx V).withX fun b=>Xo b ∨ (Y b/\b < W.heap.size)) ρ (Jy S1) (Jl S1) a W/\(∀ b,V.X0 b->Xo b)/\(∀ b,Xo b->V.X0 b ∨ V.w0.heap.size<=b) /\
  (∀ b,Xo b->X b)/\(∀ b,own ρ (Jl S1) b->X b)/\(∀ b,X b->¬ Y b/\b < W.heap.size)/\(∀ b,Y b->V.F b ∨ V.w0.heap.size<=b)/\Xo w.heap.size/\Xo (w.heap.size+1) /\
  W.heap[w.heap.size+1]?=some (.loop rc)/\W.heap[w.heap.size]?=some (.deferred (some []))/\V.w0.heap.size<=w.heap.size/\∀ D,JgM D ∈ a.defers->Xo D/\D < w.heap.size
theorem Core.step{S:AS}{A:List Nat}{ρ1:Pl}{a:Act}{w:World}{rc:Loop}{S1:AS}{X Y Y':Nat->Prop}{W W':World}(h:Core E V S A ρ1 a w rc S1 X Y W)(hs:WStep Y Y' W W'):Core E V S A ρ1 a w rc S1 X Y' W':=by
 obtain⟨Xo,ρ,h1,h2,h3,h4,h5,h6,h7,h8,h9,h10,h11,h12,h13,h14,h15,h16,h17⟩:=h
 have hXY:∀ b,Xo b->W'.heap[b]?=W.heap[b]?:=fun b hb=>hs.block b (h10 b (h8 b hb)).2 (h10 b (h8 b hb)).1
 refine⟨Xo,ρ,h1,h2,h3,h4,?_,h6,h7,h8,h9,fun b hb=>⟨fun hy=>(hs.own b hy).elim (h10 b hb).1 (fun h=>by have:=(h10 b hb).2;omega),K2 (h10 b hb).2 hs.size⟩,fun b hb=>(hs.own b hb).elim (h11 b) (fun h=>.inr (by have:=h5.le_size;have:V.w0.heap.size<=W.heap.size:=this;omega)),h12,h13,
  (hXY _ h13).trans h14,(hXY _ h12).trans h15,h16,h17⟩
 have hk:Keeps V.F V.w0.heap.size W W':=⟨hs.os,hs.tape,hs.output,hs.size,fun b hb hF=>hs.block b (K2 hb h5.le_size) (fun hy=>(h11 b hy).elim hF (fun h=>Nat.not_lt.2 h hb))⟩
 obtain⟨Ds,hd1,hd2,hd3,hd4⟩:=h5.defers
 have:=h5.foreign (X':=fun b=>Xo b ∨ (Y' b/\b < W'.heap.size)) (w':=W') (ds:=a.defers) hk (fun b hb hn=>hs.block b hb (fun hy=>hn (.inr ⟨hy,hb⟩)))
  (fun b hb hx=>hx.imp id (fun hy=>⟨(hs.own b hy.1).resolve_right (by omega),hb⟩)) (fun b hx=>hx.elim (fun h=>K2 (h10 b (h8 b h)).2 hs.size) And.right)
  ⟨Ds,hd1,hd2,fun D hD=>?_,hd4⟩ (Ww h3)
 . exact this
 obtain⟨g1,g2,g3⟩:=hd3 D hD
 have hlt:D < W.heap.size:=(Array.getElem?_eq_some_iff.1 g1).1
 have g3:=(h17 D (by rw[hd1];exact List.mem_map.2 ⟨D,hD,rfl⟩)).1
 exact⟨(hXY D g3).trans g1,g2,.inl g3⟩
theorem Jmn{ps:Array Tmp}{vs:Array Value}{t0:Array Value}:(ps.zip vs).foldl (fun tmps (t,a)=>tmps.setIfInBounds t a) t0=(ps.toList.zip vs.toList).foldl (fun tmps p=>tmps.setIfInBounds p.1 p.2) t0:=by
 rw[<- Array.foldl_toList,Array.toList_zip]
theorem rdy_of{W:World}{l:Nat}{rc:Loop}(h:W.heap[l]?=some (.loop rc)):rdy W l=(rc.state == .ready):=by
 unfold rdy
 rw[h]
def Jda(E:SE)(g:Operand)(gf:Nat)(L:List (List AV))(S S0:AS):Prop :=
 ∀ (V:Env) (X1:Nat->Prop) (ρ1:Pl) (a:Act) (w:World),RelW ((E.ctx V).withX X1) ρ1 (Jy S) (Jl S) a w →
  ∃ (vs:Array Value) (Y0:Nat->Prop),a.eval g=.func (.func gf) #[] vs/\RelW ((E.ctx V).withX fun b=>X1 b ∨ Y0 b) ρ1 (Jy S0) (Jl S0) a w /\
   (∀ b,Y0 b->(V.F b ∨ V.w0.heap.size<=b)/\b < w.heap.size/\¬ XX X1 ρ1 (Jl S0) b) /\
   ∀ (n:Nat) (W1:World) (Xi:Nat->Prop) (l:Nat) (J:Nat->List (List AV)->(Nat->Prop)->(Nat->Prop)->World->Prop) (D:Nat->(Nat->Prop)->(Nat->Prop)->World->Prop),
    w.heap.size<=W1.heap.size->(∀ b,b < w.heap.size->W1.heap[b]?=w.heap[b]?)->(∀ b,Xi b->b < W1.heap.size)->(∀ b,b < w.heap.size->Xi b->XX X1 ρ1 (Jl S0) b) →
    (∀ g cells,lk g E.G=some cells->GlobOK (fun b=>Xi b ∨ Y0 b) W1 g cells)->Xi l->Stab J D->YOK E.P L J D->J l [] Xi Y0 W1 →
    CallsIn Fence.wide n E.P gf (#[.func (.yield l) #[] #[]]++vs) W1 fun e w'=>∃ v X' Y',e=.returned v/\(∀ b,Xi b->X' b)/\(J l L X' Y' w' ∨ D l X' Y' w')
theorem V5{S0 S:AS}{Q:Exit->AS->Prop}(hnr:E.nr=true)(hEA:E.A=[]){g:Operand}{ps:Array Tmp}{assign body:Code}{A:List Nat}{gf:Nat}{L:List (List AV)}
 (hgc:VY E.P gf)(hwfS:WF S0->WF S)(hst:Jda E g gf L S0 S)
 (htr:JaH (Jl S 0)=false)(hA:∀ id,id ∈ A->∃ cells,Jl S id=.box cells)(hsl:∀ t av,Jy S t=some av->JR av=true ∨ ∃ id off,av=.ptr id off/\id ∈ A)
 (hps:∀ p,p ∈ ps.toList->p < E.nt)(hlen:∀ x,x ∈ L->x.length=ps.size)
 (J:List (List AV)->AS->Prop)(h0:J [] S)
 (hround:∀ pre x post S1,L=pre++x::post->J pre S1->Tri (E.rnd A) assign ⟨UV ps.toList x S.s,S1.b,S1.n⟩ (fun e S2=>e=.normal/\JaH (Jl S2 0)=false /\
  Tri (E.rnd A) body S2 (fun e S3=>JaH (Jl S3 0)=false/\roundQ J S (pre++[x]) Q e S3)))
 (hdone:∀ S1,J L S1->Q .normal S1):Tri E (.rangeFunc g ps assign body) S0 Q:=by
 intro V r n a w hrn hrel
 obtain rfl:r=none:=hrn hnr
 obtain⟨hwf0,X1,ρ1,hgr,hrS⟩:=hrel
 have hwf:=hwfS hwf0
 obtain⟨vs,Y0,hv,hr,hY0,hseq⟩:=hst V X1 ρ1 a w hrS
 refine wpIn_rangeFunc fun fn _=>?_
 obtain⟨rc,hrc⟩:∃ rc:LoopState->Option Code->Loop,rc=fun st pe=>{ state:=st,pending:=pe,fn,tmps:=a.tmps,params:=ps,assign,body,defers:=w.heap.size }:=⟨_,rfl⟩
 obtain⟨W1,hW1⟩:∃ W1,(w.alloc (.deferred (some []))).alloc (.loop (rc .ready none))=W1:=⟨_,rfl⟩
 have hsz1:W1.heap.size=w.heap.size+2:=by rw[<- hW1];simp
 have hb1:Below w.heap.size w W1:=by rw[<- hW1];exact((Below.refl _ w).alloc (Kr _) _).alloc (by simp) _
 have hL1:W1.heap[w.heap.size+1]?=some (.loop (rc .ready none)):=by
  rw[<- hW1];have:=World.alloc_heap_new (w.alloc (.deferred (some []))) (.loop (rc .ready none));rwa [World.size_alloc]at this
 have hD1:W1.heap[w.heap.size]?=some (.deferred (some [])):=by
  rw[<- hW1];exact(Below.heap_alloc _ _ _ (by simp)).trans (World.alloc_heap_new w _)
 have hw0:V.w0.heap.size<=w.heap.size:=hr.le_size
 obtain⟨Xi,hXi⟩:∃ Xi:Nat->Prop,Xi=fun b=>XX X1 ρ1 (Jl S) b ∨ b=w.heap.size ∨ b=w.heap.size+1:=⟨_,rfl⟩
 have hxlt:∀ b,XX X1 ρ1 (Jl S) b->b < w.heap.size:=fun b hb=>hr.xx_lt (show XX (fun b=>X1 b ∨ Y0 b) ρ1 (Jl S) b from hb.imp .inl id)
 obtain⟨gfn,gbody,hgf,hgb,hgn⟩:=hgc
 -- the invariants
 obtain⟨J',hJ'⟩:∃ J':Nat->List (List AV)->(Nat->Prop)->(Nat->Prop)->World->Prop,J'=fun l rows X Y W=>l=w.heap.size+1/\∃ S1,J rows S1/\Core E V S A ρ1 a w (rc .ready none) S1 X Y W:=⟨_,rfl⟩
 obtain⟨D',hD'⟩:∃ D':Nat->(Nat->Prop)->(Nat->Prop)->World->Prop,D'=fun l X Y W=>l=w.heap.size+1/\∃ c S1,Jtz Q c S1/\Core E V S A ρ1 a w (rc .done (some c)) S1 X Y W:=⟨_,rfl⟩
 have hstab:Stab J' D':=by
  rw[hJ',hD']
  exact⟨fun l rows X Y Y' W W' ⟨h1,S1,h2,h3⟩ hs=>⟨h1,S1,h2,h3.step hs⟩,fun l X Y Y' W W' ⟨h1,c,S1,h2,h3⟩ hs=>⟨h1,c,S1,h2,h3.step hs⟩⟩
 have hcore0:Core E V S A ρ1 a w (rc .ready none) S Xi Y0 W1:=by
  refine⟨fun b=>X1 b ∨ b=w.heap.size ∨ b=w.heap.size+1,ρ1,hwf,rfl,htr,fun id hid=>⟨hA id hid,rfl⟩,?_,fun b hb=>.inl (hgr.1 b hb),fun b hb=>?_,fun b hb=>?_,fun b hb=>?_,fun b hb=>⟨?_,?_⟩,fun b hb=>(hY0 b hb).1,.inr (.inl rfl),.inr (.inr rfl),hL1,hD1,hw0,fun D hD=>?_⟩
  . obtain⟨Ds,hd1,hd2,hd3,hd4⟩:=hrS.defers
    have hlt3:∀ D,D ∈ Ds->D < w.heap.size:=fun D hD=>(Array.getElem?_eq_some_iff.1 (hd3 D hD).1).1
    have:=hr.foreign (X':=fun b=>(X1 b ∨ b=w.heap.size ∨ b=w.heap.size+1) ∨ (Y0 b/\b < W1.heap.size)) (w':=W1) (ds:=a.defers) (Keeps.of_below hb1 hw0) (fun b hb _=>hb1.block b hb)
     (fun b hb hx=>by
      rcases hx with(hx | rfl | rfl) | hx
      . exact .inl hx
      . omega
      . omega
      . exact .inr hx.1)
     (fun b hx=>by
      rcases hx with(hx | rfl | rfl) | hx
      . exact K2 (hr.x0 b (.inl hx)) hb1.size
      . omega
      . omega
      . exact hx.2) ⟨Ds,hd1,hd2,fun D hD=>⟨(hb1.block D (hlt3 D hD)).trans (hd3 D hD).1,(hd3 D hD).2.1,.inl (.inl (hd3 D hD).2.2)⟩,hd4⟩ (Ww htr)
    exact this
  . rcases hb with hb | rfl | rfl
    . exact hgr.2 b hb
    . exact .inr hw0
    exact .inr (by omega)
  . rw[hXi]
    exact hb.imp (fun h=>.inl h) id
  . rw[hXi];exact .inl (.inr hb)
  . rw[hXi]at hb
    intro hy
    rcases hb with hb | rfl | rfl
    . exact(hY0 b hy).2.2 hb
    . have:=(hY0 _ hy).2.1;omega
    have:=(hY0 _ hy).2.1;omega
  . rw[hXi]at hb
    rcases hb with hb | rfl | rfl
    . exact K2 (hxlt b hb) hb1.size
    . omega
    omega
  obtain⟨Ds,hd1,hd2,hd3,hd4⟩:=hrS.defers
  rw[hd1]at hD
  obtain⟨D2,hD2,e⟩:=List.mem_map.1 hD
  have:D2=D:=by
   unfold JgM at e
   simpa using e
  subst this
  exact⟨.inl (hd3 D2 hD2).2.2,(Array.getElem?_eq_some_iff.1 (hd3 D2 hD2).1).1⟩
 -- one round
 have hyok:YOK E.P L J' D':=by
  rw[hJ',hD']
  rintro l rows X Y W args x post hLL ⟨rfl,S1,hj,Xo,ρ,h1,h2,h3,h4,h5,h6,h7,h8,h9,h10,h11,h12,h13,h14,h15,h16,h17⟩ hX hY hz
  have hxl:x.length=ps.size:=hlen x (by rw[hLL];simp)
  have hal:args.length=ps.size:=by rw[<- hxl];exact hz.1
  have hyield:=run_yield (P:=E.P) (args:=args.toArray) h14 (by rw[hrc];simpa using hal)
  rw[hrc]at hyield
  refine⟨fn,_,assign,body,hyield,fun n=>roundIn_of_wpIn trivial ?_⟩
  show assign.wpIn (fen (some (w.heap.size+1))) n E.P _ _ W
  have hS1:Jy S1=Jy S:=by unfold Jy;rw[h2]
  obtain⟨Xa,hXa⟩:∃ Xa:Nat->Prop,Xa=fun b=>Xo b ∨ (Y b/\b < W.heap.size):=⟨_,rfl⟩
  rw[<- hXa]at h5
  have hXaX:∀ b,XX Xa ρ (Jl S1) b->X b ∨ Y b:=by
   rw[hXa]
   rintro b ((hb | hb) | hb)
   . exact .inl (h8 b hb)
   . exact .inr hb.1
   exact .inl (h9 b hb)
  -- the round's frame
  have hbase:=h5.rebase (E:=E) (w':=W) (X':=Xa) (A:=A) rfl rfl (Kr _) (fun _ _ _=>rfl) (fun _ _ h=>h) h5.x0 (Ww h3) (fun id hid=>(h4 id hid).1)
  have hputs:=hbase.puts (s:=S1.s) (ps:=ps.toList) (x:=x) (vs:=args) (hz.mono fun v y hv=>SRep.of_rep (Rep.mono (Kr _) (fun _ _ _=>rfl) (fun b _ hn hx=>hn (hXaX b hx)) hv)) hps (by simpa using hxl.symm)
  have hrel1:Rel ((E.rnd A).ctx ⟨W,Xa,own ρ (Jl S1),noJ,noD,ρ⟩) ⟨UV ps.toList x S.s,S1.b,S1.n⟩ { tmps:=(ps.zip args.toArray).foldl (fun tmps (t,a)=>tmps.setIfInBounds t a) a.tmps,defers:=[] } W:=by
   refine⟨⟨fun t av ht i hi=>?_,h1.alive,h1.blks,h1.zero⟩,Xa,ρ,Grow.refl _,?_⟩
   . rcases JgJ (show lk t (UV ps.toList x S.s)=some av from ht)with hm | hm
     . obtain⟨q,hq,rfl⟩:=List.mem_iff_getElem.1 hm
       obtain⟨v,_,hv⟩:=hz.at hq
       rw[J0 (Kj hq)]at hv
       rw[UC hv]at hi;cases hi
     rcases hsl t av hm with hp | ⟨id,off,rfl,hid⟩
     . have hs2:=(h5.slots t av (by rw[hS1];exact hm)).2
       rw[UC (SRep.one1 hp hs2)]at hi;cases hi
     obtain⟨⟨cells,hc⟩,_⟩:=h4 id hid
     simp only[Qt,mids1,mids0,List.mem_singleton]at hi
     subst hi
     exact h1.alive _ (by rw[hc];trivial)
   rw[Jmn,<- h2]
   exact hputs
  refine wpIn_mono (hround rows x post S1 hLL hj _ (some (w.heap.size+1)) n _ W (fun h=>by cases h) hrel1) ?_
  rintro e a2 W2 ⟨S2,⟨rfl,ht2,hbody⟩,hwf2,X2,ρ2,hgr2,hr2⟩
  -- the round begins
  have hsame2:∀ b,b < W.heap.size->¬ own ρ (Jl S1) b->W2.heap[b]?=W.heap[b]?:=fun b hb hn=>hr2.keeps.block b hb hn
  have hnotown:∀ b,Xo b->¬ own ρ (Jl S1) b:=fun b hb ho=>h5.own_x0 ho (show Xa b by rw[hXa];exact .inl hb)
  have hl2:W2.heap[w.heap.size+1]?=some (.loop (rc .ready none)):=(hsame2 _ (h10 _ (h8 _ h13)).2 (hnotown _ h13)).trans h14
  have hlW2:w.heap.size+1 < W2.heap.size:=(Array.getElem?_eq_some_iff.1 hl2).1
  have hX2l:X2 (w.heap.size+1):=hgr2.1 _ (show Xa _ by rw[hXa];exact .inl h13)
  refine⟨W2.putObj (w.heap.size+1) (.loop { rc .ready none with state:=.busy }),run_beginRound hl2 (by rw[hrc]),?_⟩
  obtain⟨W3,hW3⟩:∃ W3,W2.putObj (w.heap.size+1) (.loop { rc .ready none with state:=.busy })=W3:=⟨_,rfl⟩
  rw[hW3]
  have hl3:W3.heap[w.heap.size+1]?=some (.loop { rc .ready none with state:=.busy }):=by rw[<- hW3];exact World.putObj_heap_same hlW2
  have hsz3:W3.heap.size=W2.heap.size:=by rw[<- hW3];simp
  have ho3:∀ b,b ≠ w.heap.size+1->W3.heap[b]?=W2.heap[b]?:=fun b hb=>by rw[<- hW3];exact World.putObj_heap_other hb
  have hbase3:=hr2.rebase (E:=E) (w':=W3) (X':=X2) (A:=A) rfl rfl (Nat.le_of_eq hsz3.symm) (fun b hb hx=>ho3 b (fun e=>hx (e ▸ hX2l))) (fun _ _ h=>h) (fun b hb=>by rw[hsz3];exact hr2.x0 b hb) (Ww ht2) (fun id hid=>(hr2.anc id hid).1)
  have hrel3:Rel ((E.rnd A).ctx ⟨W3,X2,own ρ2 (Jl S2),noJ,noD,ρ2⟩) S2 { a2 with defers:=[] } W3:=⟨hwf2,X2,ρ2,Grow.refl _,hbase3⟩
  have ha2:a2.defers=[]:=by
   obtain⟨_,_,_,_,hd⟩:=hr2.defers
   exact hd rfl
  have hrel3':Rel ((E.rnd A).ctx ⟨W3,X2,own ρ2 (Jl S2),noJ,noD,ρ2⟩) S2 a2 W3:=by
   rw[show a2={ a2 with defers:=[] } by cases a2;simp at ha2;rw[ha2]]
   exact hrel3
  refine wpIn_mono (hbody _ (some (w.heap.size+1)) n _ W3 (fun h=>by cases h) hrel3') ?_
  rintro e a4 W4 ⟨S4,⟨ht4,hq4⟩,hwf4,X4,ρ4,hgr4,hr4⟩
  -- the round ends
  have hsame4:∀ b,b < W3.heap.size->¬ own ρ2 (Jl S2) b->W4.heap[b]?=W3.heap[b]?:=fun b hb hn=>hr4.keeps.block b hb hn
  have hnot2:∀ b,X2 b->¬ own ρ2 (Jl S2) b:=fun b hb ho=>hr2.own_x0 ho hb
  have hl4:W4.heap[w.heap.size+1]?=some (.loop { rc .ready none with state:=.busy }):=(hsame4 _ (by rw[hsz3];exact hlW2) (hnot2 _ hX2l)).trans hl3
  have hlW4:w.heap.size+1 < W4.heap.size:=(Array.getElem?_eq_some_iff.1 hl4).1
  have hX4l:X4 (w.heap.size+1):=hgr4.1 _ hX2l
  have hle2:W.heap.size<=W2.heap.size:=hr2.keeps.size
  have hle4:W3.heap.size<=W4.heap.size:=hr4.keeps.size
  have hown2:∀ b,own ρ2 (Jl S2) b->own ρ (Jl S1) b ∨ W.heap.size<=b:=fun b ⟨i,ha,hr⟩=>(hr2.live i b ha hr).1
  have hown4:∀ b,own ρ4 (Jl S4) b->own ρ (Jl S1) b ∨ W.heap.size<=b:=fun b ⟨i,ha,hr⟩=>(hr4.live i b ha hr).1.elim (fun h=>hown2 b h) (fun h=>.inr (by have:W3.heap.size<=b:=h;omega))
  have hX24:∀ b,X4 b->Xa b ∨ W.heap.size<=b:=fun b hb=>(hgr4.2 b hb).elim (fun h=>hgr2.2 b h) (fun h=>.inr (by have:W3.heap.size<=b:=h;omega))
  have hXa4:∀ b,Xa b->X4 b:=fun b hb=>hgr4.1 b (hgr2.1 b hb)
  -- what becomes of the frame
  have hend:∀ (st:LoopState) (pe:Option Code),Core E V S A ρ1 a w { rc .ready none with state:=st,pending:=pe } ⟨S.s,S4.b,S4.n⟩ (fun b=>X b ∨ (W.heap.size<=b/\b < W4.heap.size)) Y (W4.putObj (w.heap.size+1) (.loop { rc .ready none with state:=st,pending:=pe })):=by
   intro st pe
   obtain⟨W5,hW5⟩:∃ W5,W4.putObj (w.heap.size+1) (.loop { rc .ready none with state:=st,pending:=pe })=W5:=⟨_,rfl⟩
   rw[hW5]
   have hl5:W5.heap[w.heap.size+1]?=some (.loop { rc .ready none with state:=st,pending:=pe }):=by rw[<- hW5];exact World.putObj_heap_same hlW4
   have hsz5:W5.heap.size=W4.heap.size:=by rw[<- hW5];simp
   have ho5:∀ b,b ≠ w.heap.size+1->W5.heap[b]?=W4.heap[b]?:=fun b hb=>by rw[<- hW5];exact World.putObj_heap_other hb
   have hbase5:=hr4.rebase (E:=E) (w':=W5) (X':=X4) (A:=A) rfl rfl (Nat.le_of_eq hsz5.symm) (fun b hb hx=>ho5 b (fun e=>hx (e ▸ hX4l))) (fun _ _ h=>h) (fun b hb=>by rw[hsz5];exact hr4.x0 b hb) (Ww ht4) (fun id hid=>(hr4.anc id hid).1)
   have hsame5:∀ b,b < W.heap.size->¬ own ρ (Jl S1) b->b ≠ w.heap.size+1->W5.heap[b]?=W.heap[b]?:=by
    intro b hb hn hne
    have hn2:¬ own ρ2 (Jl S2) b:=fun h=>(hown2 b h).elim hn (fun h=>by omega)
    rw[ho5 b hne,hsame4 b (by omega) hn2,ho3 b hne,hsame2 b hb hn]
   have hA4:∀ id,id ∈ A->(∃ cells,Jl S1 id=.box cells)/\(∃ cells,Jl S4 id=.box cells)/\ρ4 id=ρ id:=by
    intro id hid
    obtain⟨g1,g2⟩:=hr4.anc id hid
    obtain⟨g3,g4⟩:=hr2.anc id hid
    exact⟨(h4 id hid).1,g1,g2.trans g4⟩
   have hpo:W5.os=W4.os/\W5.tape=W4.tape/\W5.output=W4.output:=by rw[<- hW5];exact⟨rfl,rfl,rfl⟩
   have hp3:W3.os=W2.os/\W3.tape=W2.tape/\W3.output=W2.output:=by rw[<- hW3];exact⟨rfl,rfl,rfl⟩
   have hub:=h5.unbase (h5:=hbase5) (A:=A) (l:=w.heap.size+1) (rc:=rc .ready none) hown4 hX24 hXa4 (show Xa _ by rw[hXa];exact .inl h13) (show V.w0.heap.size<=w.heap.size+1 by omega) h14 hsame5 (by omega)
    (hpo.1.trans ((show W4.os=W3.os from hr4.keeps.os).trans (hp3.1.trans hr2.keeps.os)))
    (hpo.2.1.trans ((show W4.tape=W3.tape from hr4.keeps.tape).trans (hp3.2.1.trans hr2.keeps.tape)))
    (hpo.2.2.trans ((show W4.output=W3.output from hr4.keeps.output).trans (hp3.2.2.trans hr2.keeps.output)))
    (Ww ht4) (Jgx ht4) hEA (fun t av ht=>hsl t av (by rw[<- hS1];exact ht)) hA4
   have hXeq:(fun b=>(X4 b/\¬ Y b) ∨ (Y b/\b < W5.heap.size))=X4:=by
    funext b
    refine propext ⟨?_,fun hb=>?_⟩
    . rintro(hb | hb)
      . exact hb.1
      exact hXa4 b (by rw[hXa];exact .inr ⟨hb.1,(hY b hb.1).1⟩)
    by_cases hyb:Y b
    . exact .inr ⟨hyb,by rw[hsz5];exact hr4.x0 b hb⟩
    exact .inl ⟨hb,hyb⟩
   have hXo4:∀ b,Xo b->X4 b/\¬ Y b:=fun b hb=>⟨hXa4 b (by rw[hXa];exact .inl hb),(h10 b (h8 b hb)).1⟩
   have hXa':∀ b,X4 b->¬ Y b->Xo b ∨ W.heap.size<=b:=fun b hb hy=>(hX24 b hb).imp (fun h=>by rw[hXa]at h;exact h.resolve_right (fun h=>hy h.1)) id
   refine⟨fun b=>X4 b/\¬ Y b,ρ4,⟨fun t av ht i hi=>?_,hwf4.alive,hwf4.blks,hwf4.zero⟩,rfl,ht4,fun id hid=>⟨(hA4 id hid).2.1,(hA4 id hid).2.2.trans (h4 id hid).2⟩,?_,fun b hb=>hXo4 b (h6 b hb),fun b hb=>?_,fun b hb=>?_,fun b hb=>?_,fun b hb=>?_,h11,hXo4 _ h12,hXo4 _ h13,hl5,?_,h16,fun D hD=>⟨hXo4 D (h17 D hD).1,(h17 D hD).2⟩⟩
   . rcases hsl t av ht with hp | ⟨id,off,rfl,hid⟩
     . have hs2:=(h5.slots t av (by rw[hS1];exact ht)).2
       rw[UC (SRep.one1 hp hs2)]at hi;cases hi
     obtain⟨cells,hc⟩:=(hA4 id hid).2.1
     simp only[Qt,mids1,mids0,List.mem_singleton]at hi
     subst hi
     exact hwf4.alive _ (by rw[hc];trivial)
   . rw[hXeq]
     rw[hS1]at hub
     exact hub
   . have hw0W:V.w0.heap.size<=W.heap.size:=h5.le_size
     rcases hXa' b hb.1 hb.2 with h | h
     . exact h7 b h
     exact .inr (by omega)
   . rcases hXa' b hb.1 hb.2 with h | h
     . exact .inl (h8 b h)
     exact .inr ⟨h,hr4.x0 b hb.1⟩
   . rcases hown4 b hb with h | h
     . exact .inl (h9 b h)
     obtain⟨i,ha,hr⟩:=hb
     exact .inr ⟨h,(hr4.live i b ha hr).2.2⟩
   . rcases hb with hb | hb
     . exact⟨(h10 b hb).1,by have:=(h10 b hb).2;omega⟩
     exact⟨fun hy=>by have:=(hY b hy).1;omega,by rw[hsz5];exact hb.2⟩
   rw[hsame5 _ (h10 _ (h8 _ h12)).2 (hnotown _ h12) (by omega)]
   exact h15
  have hfin:∀ (jump:Option Code),∃ v w',(Instr.endRound (w.heap.size+1) jump).run E.P W4=.ok v w'/\v=.bool jump.isNone/\rdy w' (w.heap.size+1)=jump.isNone/\w'.os=W.os/\w'.tape=W.tape/\w'.output=W.output/\W.heap.size<=w'.heap.size/\w'.heap.size=W4.heap.size /\
   (∀ b,b < W.heap.size->¬ X b->w'.heap[b]?=W.heap[b]?)/\Core E V S A ρ1 a w { rc .ready none with state:=if jump.isNone then .ready else .done,pending:=jump } ⟨S.s,S4.b,S4.n⟩ (fun b=>X b ∨ (W.heap.size<=b/\b < W4.heap.size)) Y w':=by
   intro jump
   refine⟨_,_,run_endRound jump hl4,rfl,?_,?_,?_,?_,by simp;omega,by simp,fun b hb hn=>?_,hend _ _⟩
   . rw[rdy_of (World.putObj_heap_same hlW4)]
     cases jump <;> rfl
   . have hp3:W3.os=W2.os:=by rw[<- hW3];rfl
     exact(show W4.os=W3.os from hr4.keeps.os).trans (hp3.trans hr2.keeps.os)
   . have hp3:W3.tape=W2.tape:=by rw[<- hW3];rfl
     exact(show W4.tape=W3.tape from hr4.keeps.tape).trans (hp3.trans hr2.keeps.tape)
   . have hp3:W3.output=W2.output:=by rw[<- hW3];rfl
     exact(show W4.output=W3.output from hr4.keeps.output).trans (hp3.trans hr2.keeps.output)
   . have hne:b ≠ w.heap.size+1:=fun e=>hn (e ▸ h8 _ h13)
     have hno:¬ own ρ (Jl S1) b:=fun h=>hn (h9 b h)
     have hn2:¬ own ρ2 (Jl S2) b:=fun h=>(hown2 b h).elim hno (fun h=>by omega)
     rw[World.putObj_heap_other hne,hsame4 b (by omega) hn2,ho3 b hne,hsame2 b hb hno]
  have hX'1:∀ b,X b->X b ∨ (W.heap.size<=b/\b < W4.heap.size):=fun b h=>.inl h
  have hX'2:∀ b,X b ∨ (W.heap.size<=b/\b < W4.heap.size)->X b ∨ W.heap.size<=b:=fun b h=>h.imp id And.left
  have hX'3:∀ b,X b ∨ (W.heap.size<=b/\b < W4.heap.size)->b < W4.heap.size:=fun b h=>h.elim (fun h=>by have:=hX b h;omega) And.right
  have hleave:∀ c,Jtz Q c ⟨S.s,S4.b,S4.n⟩->∃ v w',(Instr.endRound (w.heap.size+1) (some c)).run E.P W4=.ok v w'/\∃ X':Nat->Prop,Ending.returned v=.returned (.bool (rdy w' (w.heap.size+1)))/\w'.os=W.os/\w'.tape=W.tape/\w'.output=W.output/\W.heap.size<=w'.heap.size /\
   (∀ b,X b->X' b)/\(∀ b,X' b->X b ∨ W.heap.size<=b)/\(∀ b,X' b->b < w'.heap.size)/\(∀ b,b < W.heap.size->¬ X b->w'.heap[b]?=W.heap[b]?) /\
   (rdy w' (w.heap.size+1)=true->(w.heap.size+1=w.heap.size+1/\∃ S1,J (rows++[x]) S1/\Core E V S A ρ1 a w (rc .ready none) S1 X' Y w'))/\(rdy w' (w.heap.size+1)=false->(w.heap.size+1=w.heap.size+1/\∃ c S1,Jtz Q c S1/\Core E V S A ρ1 a w (rc .done (some c)) S1 X' Y w')):=by
   intro c hc
   obtain⟨v,w',g1,g2,g3,g4,g5,g6,g7,g8,g9,g10⟩:=hfin (some c)
   refine⟨v,w',g1,_,by rw[g2,g3],g4,g5,g6,g7,hX'1,hX'2,fun b h=>by rw[g8];exact hX'3 b h,g9,fun h=>(by rw[g3]at h;cases h),fun _=>⟨rfl,c,_,hc,?_⟩⟩
   rw[hrc]
   rw[hrc]at g10
   exact g10
  cases e with
  | normal =>
   obtain⟨v,w',g1,g2,g3,g4,g5,g6,g7,g8,g9,g10⟩:=hfin none
   refine⟨v,w',g1,_,by rw[g2,g3],g4,g5,g6,g7,hX'1,hX'2,fun b h=>by rw[g8];exact hX'3 b h,g9,fun _=>⟨rfl,_,hq4,?_⟩,fun h=>(by rw[g3]at h;cases h)⟩
   rw[hrc]
   rw[hrc]at g10
   exact g10
  | ret=>exact hleave .ret (.inl ⟨rfl,hq4⟩)
  | exit id=>exact hleave (.exit id) (.inr (.inl ⟨id,rfl,hq4⟩))
  | goto t=>exact hleave (.goto t) (.inr (.inr ⟨t,rfl,hq4⟩))
  | panic _=>exact hq4.elim
  | outgrown=>exact hq4.elim
 -- the function is called
 have hrun:(callFunc gf (#[Value.func (.yield (w.heap.size+1)) #[] #[]]++vs)).run E.P W1=.ok (.enter gf (#[Value.func (.yield (w.heap.size+1)) #[] #[]]++vs)) W1:=by
  simp only[callFunc,Ki,run_program,Ke,hgf]
  rw[if_neg (by simp[hgn])]
  simp[hgb]
 refine⟨w.heap.size+1,[{ target:=.collected w.heap.size,args:=#[] }],W1,{ target:=.fn (.func gf) vs,args:=#[.func (.yield (w.heap.size+1)) #[] #[]] },W1,gf,
  #[.func (.yield (w.heap.size + 1)) #[] #[]] ++ vs, W1, ?_, ?_, fun _ _ => trivial, ?_, fun h => (by simp [fen, Fence.wide] at h), ?_⟩
 . rw[<- hW1,hrc];exact run_enterLoop_outer _ _ _ _ _
 . simp only[resolve,hv]
   simp[go_sem]
 . simpa[invoke]using hrun
 . have hcall:=hseq (n-1) W1 Xi (w.heap.size+1) J' D' hb1.size (fun b hb=>hb1.block b hb) (fun b hb=>?_) (fun b hlt hb=>?_) (fun gg cells hgg=>?_) (by rw[hXi];exact .inr (.inr rfl)) hstab hyok (by rw[hJ'];exact⟨rfl,S,h0,hcore0⟩)
   . refine CallsIn.mono (show CallsIn (fen none) (n-1) E.P gf _ W1 _ from hcall) ?_
     rintro e w3 ⟨v,X',Y',rfl,hXX,hend⟩
     have hleave:∀ {rc':Loop} {S1:AS} {o':Obj},Core E V S A ρ1 a w rc' S1 X' Y' w3->Rel (E.ctx V) S1 { a with defers:=[{ target:=.collected w.heap.size,args:=#[] }]++a.defers } (w3.putObj (w.heap.size+1) o'):=by
      rintro rc' S1 o' ⟨Xo,ρ,h1,h2,h3,h4,h5,h6,h7,h8,h9,h10,h11,h12,h13,h14,h15,h16,h17⟩
      refine⟨h1,fun b=>Xo b ∨ (Y' b/\b < w3.heap.size/\V.w0.heap.size<=b),ρ,⟨fun b hb=>.inl (h6 b hb),fun b hb=>hb.elim (h7 b) (fun h=>.inr h.2.2)⟩,?_⟩
      obtain⟨Ds,hd1,hd2,hd3,hd4⟩:=h5.defers
      have hother:∀ b,b ≠ w.heap.size+1->(w3.putObj (w.heap.size+1) o').heap[b]?=w3.heap[b]?:=fun b hb=>World.putObj_heap_other hb
      have hml:∀ D,D ∈ Ds->D < w.heap.size:=fun D hD=>(h17 D (by rw[hd1];exact List.mem_map.2 ⟨D,hD,rfl⟩)).2
      refine h5.foreign (X':=fun b=>Xo b ∨ (Y' b/\b < w3.heap.size/\V.w0.heap.size<=b)) (w':=w3.putObj (w.heap.size+1) o') (ds:=[{ target:=.collected w.heap.size,args:=#[] }]++a.defers) ⟨rfl,rfl,rfl,by simp,fun b hb _=>hother b (by have:b < V.w0.heap.size:=hb;omega)⟩ (fun b hb hn=>hother b (fun e=>hn (.inl (e ▸ h13)))) (fun _ _ h=>h.imp id fun h=>⟨h.1,h.2.1⟩) (fun b hb=>by simpa using h5.x0 b (hb.imp id fun h=>⟨h.1,h.2.1⟩))
       ⟨w.heap.size::Ds,by rw[hd1];rfl,List.nodup_cons.2 ⟨fun hm=>by have:=hml _ hm;omega,hd2⟩,fun D hD=>?_,fun h=>?_⟩ (Ww h3)
      . rcases List.mem_cons.1 hD with rfl | hD
        . exact⟨(hother _ (by omega)).trans h15,h16,.inl h12⟩
        obtain⟨g1,g2,g3⟩:=hd3 D hD
        exact⟨(hother _ (by have:=hml D hD;omega)).trans g1,g2,.inl (h17 D (by rw[hd1];exact List.mem_map.2 ⟨D,hD,rfl⟩)).1⟩
      have h:E.nr=false:=h
      rw[hnr]at h;cases h
     rcases hend with hend | hend
     . rw[hJ']at hend
       obtain⟨_,S1,hj,hc⟩:=hend
       obtain⟨Xo,ρ,h1,h2,h3,h4,h5,h6,h7,h8,h9,h10,h11,h12,h13,h14,_⟩:=id hc
       refine⟨none,w3.putObj (w.heap.size+1) (.loop { rc .ready none with state:=.exhausted }),?_,S1,hdone S1 hj,hleave hc⟩
       have:=run_endLoop (P:=E.P) h14 (by rw[hrc];simp)
       refine this.trans ?_
       rw[hrc]
     rw[hD']at hend
     obtain⟨_,c,S1,hq,hc⟩:=hend
     obtain⟨Xo,ρ,h1,h2,h3,h4,h5,h6,h7,h8,h9,h10,h11,h12,h13,h14,_⟩:=id hc
     refine⟨some c,w3.putObj (w.heap.size+1) (.loop { rc .done (some c)with state:=.exhausted }),?_,?_⟩
     . have:=run_endLoop (P:=E.P) h14 (by rw[hrc];simp)
       refine this.trans ?_
       rw[hrc]
     have hl:=hleave (o':=.loop { rc .done (some c)with state:=.exhausted }) hc
     rcases hq with⟨rfl,hq⟩ | ⟨id,rfl,hq⟩ | ⟨t,rfl,hq⟩
     . exact wpIn_ret ⟨S1,hq,hl⟩
     . exact wpIn_exit ⟨S1,hq,hl⟩
     exact wpIn_goto ⟨S1,hq,hl⟩
   . rw[hXi]at hb
     rcases hb with hb | rfl | rfl
     . exact K2 (hxlt b hb) hb1.size
     . omega
     omega
   . rw[hXi]at hb
     rcases hb with hb | rfl | rfl
     . exact hb
     . omega
     omega
   refine GlobOK.mono hb1.size (fun b hlt _=>hb1.block b hlt) (fun b hlt hn=>?_) (hr.glob' hgg)
   rw[hXi]
   rintro((hx | rfl | rfl) | hx)
   . exact hn (hx.imp .inl id)
   . omega
   . omega
   exact hn (.inl (.inr hx))
theorem JmD{S:AS}{g:Operand}{gf:Nat}{cap:List AV}{L:List (List AV)}(hg:Je1 E.G (Jy S) g=some (.fn (.func gf) [] cap))(hcap:cap.all X7=true)(hseq:PSeq E.P E.G gf cap L):Jda E g gf L S S:=by
 intro V X1 ρ1 a w hr
 have hgv:=Jaw (K:=(E.ctx V).withX X1) hr hg
 obtain⟨fs,cs,hv,_,hcs⟩:=(show SRep1 ρ1 (Jl S) (XX X1 ρ1 (Jl S)) w (a.eval g) (.fn (.func gf) [] cap)from hgv)
 refine⟨((List.range cap.length).map cs).toArray,fun _=>False,by simpa using hv,?_,fun b hb=>hb.elim,fun n W1 Xi l J' D' hs hb hXi hXs hG hl hst hy hJ=>?_⟩
 . rw[show(fun b=>X1 b ∨ False)=X1 from funext fun b=>propext ⟨fun h=>h.elim id False.elim,.inl⟩]
   exact hr
 refine hseq.run n W1 Xi _ l J' D' hXi (fun g cells hg=>?_) ?_ hl hst hy hJ
 . have:=hG g cells hg
   rwa [show(fun b=>Xi b ∨ False)=Xi from funext fun b=>propext ⟨fun h=>h.elim id False.elim,.inl⟩]at this
 refine⟨by simp,fun i v x hv hx=>?_⟩
 have hlt:i < cap.length:=(List.getElem?_eq_some_iff.1 hx).1
 simp only[]at hv
 rw[Kk,List.getElem?_range hlt]at hv
 simp at hv
 subst hv
 have h1:=hcs i hlt
 rw[J0 hx]at h1
 have h2:=SRep0.rep (List.all_eq_true.1 hcap x (List.mem_of_getElem? hx)) h1
 exact Rep.mono hs (fun b hlt _=>hb b hlt) (fun b hlt hn hx=>hn (hXs b hlt hx)) h2
theorem RelW.kill(h:RelW K ρ slot B a w){slot':Nat->Option AV}(hsub:∀ t av,slot' t=some av->slot t=some av){id b:Nat}(hal:(B id).alive)(hp:ρ id=some b)(hz:¬ (B 0).tracey)(hzp:∀ n,B 0 ≠ .pins n)(hA:id ∉ K.A) :
 RelW (K.withX fun x=>K.X0 x ∨ x=b) ρ slot' (upd B id .dead) a w:=by
 obtain⟨X',hX'⟩:∃ X':Nat->Prop,X'=fun x=>K.X0 x ∨ x=b:=⟨_,rfl⟩
 rw[<- hX']
 have hB0:upd B id .dead 0=B 0 ∨ upd B id .dead 0=.dead:=by
  by_cases e:0=id
  . subst e;exact .inr (Je _ _ _)
  exact .inl (Jj _ _ e)
 have hBo:∀ i,(upd B id .dead i).alive->i ≠ id/\upd B id .dead i=B i:=by
  intro i ha
  by_cases e:i=id
  . subst e;rw[Je]at ha;exact ha.elim
  exact⟨e,Jj _ _ e⟩
 have hxx:∀ x,XX X' ρ (upd B id .dead) x->XX K.X0 ρ B x:=by
  rintro x (hx | ⟨i,ha,hr⟩)
  . rw[hX']at hx
    rcases hx with hx | rfl
    . exact .inl hx
    exact .inr ⟨id,hal,hp⟩
  obtain⟨_,e⟩:=hBo i ha
  rw[e]at ha
  exact .inr ⟨i,ha,hr⟩
 have hz':∀ {x:ABlk},upd B id .dead 0=x->x.tracey->False:=fun e ht=>hB0.elim (fun h=>hz (by rw[<- h,e];exact ht)) (fun h=>by rw[<- e,h]at ht;exact ht)
 have hR:∀ l k n bv,Yb B w l k n bv->Yb (upd B id .dead) w l k n bv:=fun l k n bv _=>⟨fun rows e=>(hz' e trivial).elim,fun l' rows e=>(hz' e trivial).elim,fun l' rows e=>(hz' e trivial).elim⟩
 have hB:∀ i,(upd B id .dead i).alive->sameMake (B i) (upd B id .dead i)/\ρ i=ρ i/\∀ b,ρ i=some b->sameSize w w b:=fun i ha=>by
  obtain⟨_,e⟩:=hBo i ha
  rw[e]at ha ⊢
  exact⟨sameMake.refl ha,rfl,fun b _=>.refl _ _⟩
 obtain⟨Ds,hd1,hd2,hd3,hd4⟩:=h.defers
 refine⟨⟨Ds,hd1,hd2,fun D hD=>⟨(hd3 D hD).1,(hd3 D hD).2.1,by rw[show(K.withX X').X0=X' from rfl,hX'];exact .inl (hd3 D hD).2.2⟩,hd4⟩,h.size,h.keeps,fun x hx=>?_,fun g cells hg=>?_,fun i b' ha hr=>?_,fun i i' b' ha ha' hr hr'=>?_,fun i=>?_,fun t av ht=>⟨(h.slots t av (hsub t av ht)).1,?_⟩,
  ⟨h.trc.stab,h.trc.yok,fun ht=>(hz' rfl ht).elim,fun l rows e=>(hz' e trivial).elim,fun l rows e=>(hz' e trivial).elim,fun l e=>(hz' e trivial).elim⟩,fun ht=>(hz' rfl ht).elim,fun i hi=>?_,fun n e=>hB0.elim (fun h=>absurd (h.symm.trans e) (hzp n)) (fun h=>by have:=h.symm.trans e;cases this)⟩
 . have hx:X' x:=hx
   rw[hX']at hx
   rcases hx with hx | rfl
   . exact h.x0 x hx
   exact(h.live id _ hal hp).2.2
 . refine GlobOK.mono (Kr _) (fun _ _ _=>rfl) (fun x _ hn hx=>?_) (h.glob g cells hg)
   rcases hx with hx | hx
   . have hx:X' x:=hx
     rw[hX']at hx
     rcases hx with hx | rfl
     . exact hn (.inl hx)
     exact hn (.inr (h.live id _ hal hp).1)
   exact hn (.inr hx)
 . obtain⟨hne,e⟩:=hBo i ha
   rw[e]at ha
   have h6:=h.live i b' ha hr
   refine⟨h6.1,fun hx=>?_,h6.2.2⟩
   have hx:X' b':=hx
   rw[hX']at hx
   rcases hx with hx | rfl
   . exact h6.2.1 hx
   exact hne (h.inj i id _ ha hal hr hp)
 . obtain⟨_,e⟩:=hBo i ha
   obtain⟨_,e'⟩:=hBo i' ha'
   rw[e]at ha
   rw[e']at ha'
   exact h.inj i i' b' ha ha' hr hr'
 . by_cases ha:(upd B id .dead i).alive
   . obtain⟨_,e⟩:=hBo i ha
     exact BlkOK.mono (Kr _) (fun _ _ _=>rfl) (fun x _ hn hx=>hn (hxx x hx)) e rfl (fun b hr=>rfl) (fun j _=>hB j) hR (h.blks i)
   exact JD ha
 . exact SRep.mono (Kr _) (fun _ _ _=>rfl) (fun x _ hn hx=>hn (hxx x hx)) (fun i _=>hB i) hR (h.slots t av (hsub t av ht)).2
 . obtain⟨g1,g2⟩:=h.anc i hi
   have hne:i ≠ id:=fun e=>hA (e ▸ hi)
   rw[Jj _ _ hne]
   exact⟨g1,g2⟩
theorem rf_box{S0 S:AS}(hEA:E.A=[]){g:Operand}{gf id:Nat}{cells:List AV}{L:List (List AV)}(hg:Je1 E.G (Jy S0) g=some (.fn (.func gf) [] [.ptr id 0]))(hB:Jl S0 id=.box cells)(hc:cells.all X7=true)
 (hseq:PSeqB E.P E.G gf cells L)(htr:JaH (Jl S0 0)=false)(hsub:∀ t av,Jy S t=some av->Jy S0 t=some av)(hb:Jl S=upd (Jl S0) id .dead):Jda E g gf L S0 S:=by
 intro V X1 ρ1 a w hr
 have hgv:=Jaw (K:=(E.ctx V).withX X1) hr hg
 obtain⟨fs,cs,hv,_,hcs⟩:=(show SRep1 ρ1 (Jl S0) (XX X1 ρ1 (Jl S0)) w (a.eval g) (.fn (.func gf) [] [.ptr id 0])from hgv)
 have h1:=(show SRep0 ρ1 (Jl S0) (XX X1 ρ1 (Jl S0)) w (cs 0) (.ptr id 0)from hcs 0 (by simp))
 obtain⟨b,hp,hv0⟩:=h1.2 cells hB
 have hal:(Jl S0 id).alive:=by rw[hB];trivial
 have hbl:=hr.blks id
 unfold BlkOK at hbl
 rw[hB]at hbl
 obtain⟨b',arr,Ty,hp',hh,hsz,hcc⟩:=hbl
 rw[hp]at hp'
 cases hp'
 have hl:=hr.live id b hal hp
 have hk:=hr.kill hsub hal hp (Ww htr) (Jgx htr) (by rw[show((E.ctx V).withX X1).A=E.A from rfl,hEA];simp)
 have hnx:¬ XX X1 ρ1 (Jl S) b:=by
  rw[hb]
  rintro(hx | ⟨i,ha,hri⟩)
  . exact hl.2.1 hx
  by_cases e:i=id
  . subst e;rw[Je]at ha;exact ha
  rw[Jj _ _ e]at ha
  exact e (hr.inj i id b ha hal hri hp)
 refine⟨#[.pointer (some ⟨b,0,none⟩)],fun x=>x=b,by rw[hv];simp[hv0],?_,fun x hx=>?_,fun n W1 Xi l J' D' hsz1 hbe hXi hXs hG hXl hst hy hJ=>?_⟩
 . rw[hb]
   exact hk
 . subst hx
   exact⟨hl.1,hl.2.2,hnx⟩
 . refine hseq.run n W1 Xi b arr Ty l J' D' hXi (fun hx=>hnx (hXs b hl.2.2 hx)) hG ((hbe b hl.2.2).trans hh) hsz (fun j hj=>⟨(hcc j hj).1,?_⟩) hXl hst hy hJ
   have h2:=SRep1.rep (ρ:=ρ1) (B:=Jl S0) (JeY (List.all_eq_true.1 hc _ (Qk hj))) (hcc j hj).2
   refine Rep.mono hsz1 (fun x hlt _=>hbe x hlt) (fun x hlt hn hx=>?_) h2
   rcases hx with hx | rfl
   . have h3:=hXs x hlt hx
     rw[hb]at h3
     rcases h3 with h3 | ⟨i,ha,hri⟩
     . exact hn (.inl h3)
     by_cases e:i=id
     . subst e;rw[Je]at ha;exact ha
     rw[Jj _ _ e]at ha
     exact hn (.inr ⟨i,ha,hri⟩)
   exact hn (.inr ⟨id,hal,hp⟩)
end
section
variable {K : Ctx} {ρ : Pl} {slot slot' : Nat → Option AV} {B B' : Nat → ABlk} {a : Act} {w : World}
theorem RelW.turn(h:RelW K ρ slot B a w)(hT:∀ x,B' 0=x->x.tracey->B 0=x)(hal:∀ i,(B' i).alive->(B i).alive)(hA:∀ i,i ∈ K.A->∃ c,B' i=.box c)(hP:∀ n,B' 0=.pins n->B 0=.pins n)
 (hbl:∀ i,(B' i).alive->BlkOK ρ B' (XX K.X0 ρ B') w i)(hsl:∀ t av,slot' t=some av->t < K.nt/\SRep ρ B' (XX K.X0 ρ B') w (a.tmps.getD t undef) av):RelW K ρ slot' B' a w :=
 have hst:WStep (own ρ B) (own ρ B') w w:=.refl fun b ⟨i,ha,hr⟩=>⟨i,hal i ha,hr⟩
 ⟨h.defers,h.size,h.keeps,h.x0,h.glob,fun id b ha hr=>h.live id b (hal id ha) hr,fun id id' b ha ha' hr hr'=>h.inj id id' b (hal id ha) (hal id' ha') hr hr',fun id=>by
  by_cases ha:(B' id).alive
  . exact hbl id ha
  . exact JD ha,hsl,h.trc_mono hT hst,fun ht=>h.dt (by rw[hT _ rfl ht];exact ht),fun id hid=>⟨hA id hid,(h.anc id hid).2⟩,fun n e id h0 hlt ha=>h.pin n (hP n e) id h0 hlt (hal id ha)⟩
theorem Jb1{X0:Nat->Prop}(hal:∀ i,(B' i).alive->(B i).alive){b:Nat}(hn:¬ XX X0 ρ B b):¬ XX X0 ρ B' b:=by
 rintro(hx | ⟨i,ha,hi⟩)
 . exact hn (.inl hx)
 exact hn (.inr ⟨i,hal i ha,hi⟩)
end
def JrP(bs:BL)(id:Nat):List AV->Option (List AV)
 | []=>some []
 | v::l=>match JcF bs id v,JrP bs id l with
  | some v',some l'=>some (v'::l')
  | _,_=>none
def Jfj(bs:BL)(id:Nat):BL->Option BL
 | []=>some []
 | (i,.box c)::l=>match JrP bs id c,Jfj bs id l with
  | some c',some l'=>some ((i,.box c')::l')
  | _,_=>none
 | (i,b)::l=>match Jfj bs id l with
  | some l'=>some ((i,b)::l')
  | none=>none
def Jh3(A:List Nat)(id:Nat)(S:AS):Option AS :=
 if inA A id then none else match Jfj S.b id (V1 id S.b)with
  | some b'=>some { S with s:=Jl6 (JcF S.b id) S.s,b:=b' }
  | none=>none
theorem JcG{bs:BL}{id:Nat}:∀ {c c':List AV},JrP bs id c=some c'->c'.length=c.length/\∀ j,j < c.length->JcF bs id (nth c j)=some (nth c' j)
 | [],c',h=>by cases h;exact⟨rfl,fun j hj=>absurd hj (K9 j)⟩
 | v::l,c',h=>by
  simp only[JrP]at h
  split at h
  . rename_i v' l' h1 h2
    cases h
    obtain⟨h3,h4⟩:=JcG h2
    refine⟨by simp[h3],fun j hj=>?_⟩
    cases j with
    | zero=>exact h1
    | succ j=>exact h4 j (by simpa using hj)
  cases h
theorem JcH{bs:BL}{id:Nat}:∀ {l l':BL},Jfj bs id l=some l'->∀ i,(lk i l'=lk i l/\∀ c,lk i l ≠ some (.box c)) ∨ ∃ c c',lk i l=some (.box c)/\lk i l'=some (.box c')/\JrP bs id c=some c'
 | [],l',h,i=>by cases h;exact .inl ⟨rfl,fun c h=>by cases h⟩
 | (u,x)::l,l',h,i=>by
  have other:∀ {m:BL},Jfj bs id l=some m->l'=(u,x)::m->(∀ c,x ≠ .box c)->(lk i l'=lk i ((u,x)::l)/\∀ c,lk i ((u,x)::l) ≠ some (.box c)) ∨ ∃ c c',lk i ((u,x)::l)=some (.box c)/\lk i l'=some (.box c')/\JrP bs id c=some c':=by
   intro m hm e hx
   subst e
   by_cases hu:u=i
   . subst hu
     refine .inl ⟨by simp[lk],fun c hc=>?_⟩
     simp[lk]at hc
     exact hx c hc
   have hne:¬ (u.beq i)=true:=by rw[J6 hu];decide
   simp only[lk,hne]
   simpa using JcH hm i
  cases x with
  | box c =>
   simp only[Jfj]at h
   split at h
   . rename_i c' m h1 h2
     cases h
     by_cases hu:u=i
     . subst hu
       exact .inr ⟨c,c',by simp[lk],by simp[lk],h1⟩
     have hne:¬ (u.beq i)=true:=by rw[J6 hu];decide
     simp only[lk,hne]
     simpa using JcH h2 i
   cases h
  | _ =>
   simp only[Jfj]at h
   split at h
   . rename_i m hm
     cases h
     exact other hm rfl (by simp)
   cases h
theorem Jay{c:List AV}{i:Nat}(h:i ∈ JN (.box c)):∃ j,j < c.length/\i ∈ mids1 (nth c j):=by
 simp only[JN,Kn]at h
 obtain⟨x,hx,hi⟩:=h
 obtain⟨j,hj,rfl⟩:=List.getElem_of_mem hx
 exact⟨j,hj,by rwa [J0 (Kj hj)]⟩
theorem Jf4{bs:BL}{v:AV}{g:Bool}{y:AV}(h:Vm bs v=some (.gv g y)):False:=by
 have key:∀ x:AV,(if JR x=true then some x else none)=some (.gv g y)->False:=fun x hx=>by
  split at hx
  . rename_i hp
    cases hx
    cases hp
  cases hx
 cases v with
 | own id n =>
  simp only[Vm]at h
  split at h <;> cases h
 | ptr id n =>
  simp only[Vm]at h
  split at h
  . split at h <;> cases h
  cases h
 | _=>unfold Vm at h;exact key _ h
theorem Jf5{bs:BL}{v:AV}{l:List AV}(h:Vm bs v=some (.ax l)):False:=by
 have key:∀ x:AV,(if JR x=true then some x else none)=some (.ax l)->False:=fun x hx=>by
  split at hx
  . rename_i hp
    cases hx
    cases hp
  cases hx
 cases v with
 | own id n =>
  simp only[Vm]at h
  split at h <;> cases h
 | ptr id n =>
  simp only[Vm]at h
  split at h
  . split at h <;> cases h
  cases h
 | _=>unfold Vm at h;exact key _ h
theorem Jhz{bs:BL}{v v':AV}(h:Vm bs v=some v'):mids1 v'=[]:=by
 have h1:=W6 h
 cases v' with
 | gv g y=>exact(Jf4 h).elim
 | ax l=>exact(Jf5 h).elim
 | _=>exact h1
theorem WQ(E:SE){S S':AS}{id:Nat}(h:Jh3 E.A id S=some S'):Imp E S S':=fun V a w ⟨hwf,X,ρ,hg,hr⟩=>by
 unfold Jh3 at h
 split at h
 . cases h
 rename_i hA
 have hA:inA E.A id=false:=by simpa using hA
 split at h
 . rename_i b' hb'
   cases h
   have hk:=XN id S
   have hkt:=WO id S
   have hslot:∀ t av,lk t (Jl6 (JcF S.b id) S.s)=some av->∃ v,Jy S t=some v/\JcF S.b id v=some av:=by
    intro t av ht
    rw[Jkr]at ht
    cases hl:lk t S.s with
    | none=>rw[hl]at ht;cases ht
    | some v=>rw[hl]at ht;exact⟨v,hl,ht⟩
   let S':AS:={ S with s:=Jl6 (JcF S.b id) S.s,b:=b' }
   have hb:∀ i,(Jl S' i=Jl (Vz id S) i/\∀ c,Jl (Vz id S) i ≠ .box c) ∨ ∃ c c',Jl (Vz id S) i=.box c/\Jl S' i=.box c'/\JrP S.b id c=some c':=by
    intro i
    rcases JcH hb' i with⟨h1,h2⟩ | ⟨c,c',h1,h2,h3⟩
    . refine .inl ⟨by show(lk i b').getD .dead=(lk i (V1 id S.b)).getD .dead;rw[h1],fun c hc=>?_⟩
      have hc:(lk i (V1 id S.b)).getD .dead=.box c:=hc
      cases hl:lk i (V1 id S.b)with
      | none=>rw[hl]at hc;cases hc
      | some x=>rw[hl]at hc;exact h2 c (by rw[hl];exact congrArg some hc)
    exact .inr ⟨c,c',by show(lk i (V1 id S.b)).getD .dead=_;rw[h1];rfl,by show(lk i b').getD .dead=_;rw[h2];rfl,h3⟩
   have hka:∀ i,(Jl S' i).alive->(Jl (Vz id S) i).alive:=fun i ha=>by
    rcases hb i with⟨h1,_⟩ | ⟨c,c',h1,h2,_⟩
    . rwa [h1]at ha
    rw[h1];trivial
   have hal:∀ i,(Jl S' i).alive->(Jl S i).alive:=fun i ha=>(hk i (hka i ha)).2 ▸ hka i ha
   have hT:∀ x,Jl S' 0=x->x.tracey->Jl S 0=x:=fun x e ht=>by
    rcases hb 0 with⟨h1,_⟩ | ⟨c,c',h1,h2,_⟩
    . exact hkt x (h1 ▸ e) ht
    rw[<- e,h2]at ht;exact ht.elim
   have hm1:∀ {v v':AV},JcF S.b id v=some v'->∀ i,i ∈ Qt v'->i ∈ Qt v:=fun hf i hi=>by
    rcases Xg hf with⟨rfl,_⟩ | ⟨h1,_⟩
    . exact hi
    rw[W6 h1]at hi;cases hi
   have hX:∀ b,¬ XX X ρ (Jl S) b->¬ XX X ρ (Jl S') b:=fun b hn=>Jb1 hal hn
   have hB':∀ i,(Jl S' i).alive->sameMake (Jl S i) (Jl S' i)/\ρ i=ρ i/\∀ b,ρ i=some b->sameSize w w b:=fun i ha=>by
    refine⟨?_,rfl,fun b _ cur e hh=>⟨cur,hh,rfl⟩⟩
    have e2:=(hk i (hka i ha)).2
    rcases hb i with⟨h1,_⟩ | ⟨c,c',h1,h2,_⟩
    . rw[h1,e2];exact sameMake.refl (hal i ha)
    rw[<- e2,h1,h2];trivial
   have hst:WStep (own ρ (Jl S)) (own ρ (Jl S')) w w:=.refl fun b ⟨i,ha,hri⟩=>⟨i,hal i ha,hri⟩
   have hR:=hr.hR hT hst
   have hview:∀ {v:Value} {x x':AV},JcF S.b id x=some x'->SRep ρ (Jl S) (XX X ρ (Jl S)) w v x->SRep ρ (Jl S') (XX X ρ (Jl S')) w v x':=fun {v x x'} hf hs=>by
    rcases Xg hf with⟨rfl,hn⟩ | ⟨h1,h2⟩
    . exact SRep.mono (Kr _) (fun _ _ _=>rfl) (fun b _ hb=>hX b hb) (fun i _ ha=>hB' i ha) hR hs
    refine SRep.of_rep (Ur hr hX (fun i b hi hal' hri hx=>?_) h1 (fun _ _=>rfl) hs)
    rw[h2]at hi
    simp only[List.mem_singleton]at hi
    subst hi
    exact JcI hr hal' hri hk (by
     rcases hx with hx | ⟨i,ha,hi⟩
     . exact .inl hx
     . exact .inr ⟨i,hka i ha,hi⟩)
   refine⟨⟨fun t av ht i hi=>?_,fun i ha=>hwf.alive i (hal i ha),fun i ha j hj=>?_,fun ht=>hwf.zero (by rw[hT _ rfl ht];exact ht)⟩,X,ρ,hg,hr.turn hT hal (fun i hi=>?_) (fun n e=>?_) (fun i ha=>?_) fun t av ht=>?_⟩
   . obtain⟨v,hv,hf⟩:=hslot t av ht
     exact hwf.slots t v hv i (hm1 hf i hi)
   . have e2:=(hk i (hka i ha)).2
     rcases hb i with⟨h1,_⟩ | ⟨c,c',h1,h2,h3⟩
     . have hj':j ∈ JN (Jl S' i):=hj
       rw[h1,e2]at hj'
       exact hwf.blks i (hal i ha) j hj'
     have hj':j ∈ JN (Jl S' i):=hj
     rw[h2]at hj'
     obtain⟨q,hq,hm⟩:=Jay hj'
     obtain⟨h4,h5⟩:=JcG h3
     have h6:=h5 q (by omega)
     refine hwf.blks i (hal i ha) j ?_
     rw[<- e2,h1]
     simp only[JN,Kn]
     refine⟨nth c q,?_,?_⟩
     . rw[J0 (Kj (show q < c.length by omega))]
       exact List.getElem_mem _
     rcases Xg h6 with⟨h7,_⟩ | ⟨h7,_⟩
     . rwa [h7]at hm
     rw[Jhz h7]at hm;cases hm
   . have hr1:=(hr.anc i hi).1
     obtain⟨c,hc⟩:=hr1
     have hne:i ≠ id:=JdP hA i hi
     have e2:Jl (Vz id S) i=.box c:=by rw[JcA hne];exact hc
     rcases hb i with⟨_,h2⟩ | ⟨c1,c',h1,h2,_⟩
     . exact absurd e2 (h2 c)
     exact⟨c',h2⟩
   . have e:Jl S' 0=.pins n:=e
     have e2:=(hk 0 (hka 0 (by rw[e];trivial))).2
     rcases hb 0 with⟨h1,_⟩ | ⟨c,c',_,h2,_⟩
     . rw[<- e2,<- h1,e]
     rw[h2]at e;cases e
   . have e2:=(hk i (hka i ha)).2
     rcases hb i with⟨h1,_⟩ | ⟨c,c',h1,h2,h3⟩
     . exact BlkOK.mono (Kr _) (fun _ _ _=>rfl) (fun b _ hn=>hX b hn) (h1.trans e2) rfl (fun _ _=>rfl) (fun i _ ha=>hB' i ha) hR (hr.blks i)
     have hbl:=hr.blks i
     unfold BlkOK at hbl ⊢
     rw[show Jl S i=.box c by rw[<- e2];exact h1]at hbl
     rw[show Jl ({ S with s:=Jl6 (JcF S.b id) S.s,b:=b' }:AS) i=.box c' from h2]
     obtain⟨b,cs,T,g1,g2,g3,g4⟩:=hbl
     obtain⟨h4,h5⟩:=JcG h3
     refine⟨b,cs,T,g1,g2,by rw[g3,h4],fun j hj=>⟨(g4 j (by omega)).1,?_⟩⟩
     have:=hview (h5 j (by omega)) (SRep.of1 (g4 j (by omega)).2)
     revert this
     cases hx:nth c' j with
     | gv g y =>
      intro _
      rcases Xg (h5 j (by omega))with⟨h7,_⟩ | ⟨h7,_⟩
      . have h8:=(g4 j (by omega)).2
        rw[<- h7,hx]at h8
        simp[SRep1,SRep0]at h8
      rw[hx]at h7
      exact(Jf4 h7).elim
     | ax l =>
      intro _
      rcases Xg (h5 j (by omega))with⟨h7,_⟩ | ⟨h7,_⟩
      . have h8:=(g4 j (by omega)).2
        rw[<- h7,hx]at h8
        exact(SRep0.ax (ρ:=ρ) (B:=Jl S) h8).elim
      rw[hx]at h7
      exact(Jf5 h7).elim
     | _=>exact fun h=>h
   obtain⟨v,hv,hf⟩:=hslot t av ht
   obtain⟨hlt,hs⟩:=hr.slots t v hv
   exact⟨hlt,hview hf hs⟩
 cases h
def ownB(i j e k:Nat)(S:AS):Option AS :=
 match Jl S i with
 | .box c=>match nth c j with
  | .ex v=>if Qp v && (j.blt c.length && i.blt S.n)then some ⟨S.s,wrL [(i,.box (c.set j (.own S.n 0))),(S.n,.buf e k [])] S.b,S.n+1⟩else none
  | _=>none
 | _=>none
theorem Jnc(E:SE){S S':AS}{i j e k:Nat}(h:ownB i j e k S=some S'):Imp E S S':=fun V a w ⟨hwf,X,ρ,hg,hr⟩=>by
 unfold ownB at h
 split at h
 . rename_i c hc
   split at h
   . rename_i v hv
     split at h
     . rename_i hn
       simp only[Kd]at hn
       cases h
       have e0:=JJ hn.1
       have hj:=QN hn.2.1
       have hi:i < S.n:=QN hn.2.2
       have hal0:(Jl S i).alive:=by rw[hc];trivial
       obtain⟨ρ',hr',hs'⟩:=Jcr hr hwf.fresh e k
       have hne:i ≠ S.n:=by omega
       have eB:Jl (⟨S.s,wrL [(i,.box (c.set j (.own S.n 0))),(S.n,.buf e k [])] S.b,S.n+1⟩:AS)=wrB (Jl S) [(i,.box (c.set j (.own S.n 0))),(S.n,.buf e k [])]:=Vq _ _
       have eB':∀ q,wrB (Jl S) [(i,.box (c.set j (.own S.n 0))),(S.n,.buf e k [])] q=if q=i then .box (c.set j (.own S.n 0))else wrB (Jl S) [(S.n,.buf e k [])] q:=fun q=>by
        simp only[wrB,upd]
       have e1:wrB (Jl S) [(S.n,.buf e k [])] i=.box c:=by simp only[wrB,upd,if_neg hne];exact hc
       have hap:WF (QO ⟨none,none,[(S.n,.buf e k [])]⟩ S):=hwf.apply (by
        simp[Jh9,JfF,JN,Nat.blt])
       have eA:∀ q,Jl (QO ⟨none,none,[(S.n,.buf e k [])]⟩ S) q=wrB (Jl S) [(S.n,.buf e k [])] q:=fun q=>congrFun (Vq [(S.n,.buf e k [])] S.b) q
       generalize hB1:wrB (Jl S) [(S.n,.buf e k [])]=B1 at *
       have hBq:∀ q,Jl (⟨S.s,wrL [(i,.box (c.set j (.own S.n 0))),(S.n,.buf e k [])] S.b,S.n+1⟩:AS) q=if q=i then .box (c.set j (.own S.n 0))else B1 q:=fun q=>by rw[eB];exact eB' q
       generalize hB2:Jl (⟨S.s,wrL [(i,.box (c.set j (.own S.n 0))),(S.n,.buf e k [])] S.b,S.n+1⟩:AS)=B2 at *
       have hal:∀ q,(B2 q).alive->(B1 q).alive:=fun q ha=>by
        rw[hBq]at ha
        split at ha
        . rename_i e2;rw[e2,e1];trivial
        exact ha
       have hT:∀ x,B2 0=x->x.tracey->B1 0=x:=fun x e2 ht=>by
        rw[hBq]at e2
        split at e2
        . rw[<- e2]at ht;exact ht.elim
        exact e2
       have hX:∀ b,¬ XX X ρ' B1 b->¬ XX X ρ' B2 b:=fun b hn=>Jb1 hal hn
       have hB':∀ q,(B2 q).alive->sameMake (B1 q) (B2 q)/\ρ' q=ρ' q/\∀ b,ρ' q=some b->sameSize w w b:=fun q ha=>by
        refine⟨?_,rfl,fun b _ cur e hh=>⟨cur,hh,rfl⟩⟩
        have ha1:=hal q ha
        rw[hBq]
        split
        . rename_i e2;rw[e2,e1];trivial
        exact sameMake.refl ha1
       have hst:WStep (own ρ' B1) (own ρ' B2) w w:=.refl fun b ⟨q,ha,hri⟩=>⟨q,hal q ha,hri⟩
       have hR:=hr'.hR hT hst
       have hm:∀ {v:Value} {x:AV},SRep ρ' B1 (XX X ρ' B1) w v x->SRep ρ' B2 (XX X ρ' B2) w v x:=fun hs =>
        SRep.mono (Kr _) (fun _ _ _=>rfl) (fun b _ hb=>hX b hb) (fun q _ ha=>hB' q ha) hR hs
       have hm1:∀ {v:Value} {x:AV},SRep1 ρ' B1 (XX X ρ' B1) w v x->SRep1 ρ' B2 (XX X ρ' B2) w v x:=fun hs =>
        SRep1.mono (Kr _) (fun _ _ _=>rfl) (fun b _ hb=>hX b hb) (fun q _ ha=>hB' q ha) hR hs
       refine⟨⟨fun t av ht q hq=>Nat.lt_succ_of_lt (hwf.slots t av ht q hq),fun q ha=>?_,fun q ha r hq=>?_,fun ht=>Nat.lt_succ_of_lt (hwf.zero ?_)⟩,X,ρ',hg,?_⟩
       . rw[hB2]at ha
         exact hap.alive q (by rw[eA];exact hal q ha)
       . rw[hB2]at ha hq
         rw[hBq]at hq
         split at hq
         . obtain⟨p,hp,hx⟩:=Jay hq
           rw[K4]at hp
           by_cases e3:p=j
           . subst e3
             rw[show nth (c.set p (.own S.n 0)) p=.own S.n 0 by simp[nth,List.getD_eq_getElem?_getD,hp]]at hx
             simp[mids1,mids0]at hx
             show r < S.n+1
             omega
           rw[show nth (c.set j (.own S.n 0)) p=nth c p by simp[nth,List.getD_eq_getElem?_getD,show ¬ j=p by omega]]at hx
           refine Nat.lt_succ_of_lt (hwf.blks i hal0 r ?_)
           rw[hc]
           simp only[JN,Kn]
           refine⟨nth c p,?_,hx⟩
           rw[J0 (Kj hp)]
           exact List.getElem_mem _
         exact hap.blks q (by rw[eA];exact hal q ha) r (by rw[eA];exact hq)
       . rw[hB2]at ht
         have h2:=hT _ rfl ht
         rw[<- hB1]at h2
         rw[<- h2]at ht
         simp only[wrB,upd]at ht h2
         split at ht
         . exact ht.elim
         exact ht
       rw[hB2]
       refine hr'.turn hT hal (fun q hq=>?_) (fun n e=>?_) (fun q ha=>?_) fun t av ht=>?_
       . obtain⟨c1,hc1⟩:=(hr'.anc q hq).1
         rw[hBq]
         split
         . exact⟨_,rfl⟩
         exact⟨c1,hc1⟩
       . rw[hBq]at e
         split at e
         . cases e
         exact e
       . by_cases e2:q=i
         . subst e2
           have hbl:=hr'.blks q
           unfold BlkOK at hbl ⊢
           rw[e1]at hbl
           rw[hBq,if_pos rfl]
           obtain⟨b,cs,T,g1,g2,g3,g4⟩:=hbl
           refine⟨b,cs,T,g1,g2,by rw[g3,K4],fun p hp=>⟨(g4 p (by simpa using hp)).1,?_⟩⟩
           have hp':p < c.length:=by simpa using hp
           by_cases e3:p=j
           . subst e3
             rw[show nth (c.set p (.own S.n 0)) p=.own S.n 0 by simp[nth,List.getD_eq_getElem?_getD,hp']]
             have h5:=(g4 p hp').2
             rw[hv]at h5
             have h6:cs.getD p undef=v:=by
              have h7:Rep (XX X ρ' B1) w (cs.getD p undef) (.ex v):=h5
              generalize hgen:cs.getD p undef=u at h7
              cases h7
              rfl
             rw[h6,e0]
             have:=hm hs'
             exact this
           rw[show nth (c.set j (.own S.n 0)) p=nth c p by simp[nth,List.getD_eq_getElem?_getD,show ¬ j=p by omega]]
           exact hm1 (g4 p hp').2
         refine BlkOK.mono (Kr _) (fun _ _ _=>rfl) (fun b _ hn=>hX b hn) (by rw[hBq,if_neg e2]) rfl (fun _ _=>rfl) (fun q _ ha=>hB' q ha) hR (hr'.blks q)
       obtain⟨hlt,hs⟩:=hr'.slots t av ht
       exact⟨hlt,hm hs⟩
     cases h
   cases h
 cases h
def nilB(i j k:Nat)(S:AS):Option AS :=
 match Jl S i with
 | .box c=>match nth c j with
  | .ex v=>if Qp v && (j.blt c.length && i.blt S.n)then some ⟨S.s,wrL [(i,.box (c.set j (.sl k [])))] S.b,S.n⟩else none
  | _=>none
 | .buf e q [r]=>match nth r j with
  | .ex v=>if Qp v && (j.blt r.length && i.blt S.n)then some ⟨S.s,wrL [(i,.buf e q [r.set j (.sl k [])])] S.b,S.n⟩else none
  | _=>none
 | _=>none
theorem JkK(E:SE){S:AS}{i:Nat}{b2:ABlk}(hi:i < S.n)(_:JgN b2=false)(hal0:(Jl S i).alive)(htr:¬ b2.tracey)(hpn:∀ n,b2 ≠ .pins n)(hsm:sameMake (Jl S i) b2)(hmid:∀ r,r ∈ JN b2->r ∈ JN (Jl S i))(hanc:(∃ c,Jl S i=.box c)->∃ c,b2=.box c)
 (hok:∀ ρ B2 X X' w,B2 i=b2->(∀ v x,SRep1 ρ (Jl S) X w v x->SRep1 ρ B2 X' w v x)->(∀ v x,Rep X w v x->Rep X' w v x)->BlkOK ρ (Jl S) X w i->BlkOK ρ B2 X' w i) :
 Imp E S ⟨S.s,wrL [(i,b2)] S.b,S.n⟩:=fun V a w ⟨hwf,X,ρ,hg,hr⟩=>by
 have hBq:∀ q,Jl (⟨S.s,wrL [(i,b2)] S.b,S.n⟩:AS) q=if q=i then b2 else Jl S q:=fun q=>by
  rw[show Jl (⟨S.s,wrL [(i,b2)] S.b,S.n⟩:AS)=wrB (Jl S) [(i,b2)]from Vq _ _]
  simp only[wrB,upd]
 generalize hB2:Jl (⟨S.s,wrL [(i,b2)] S.b,S.n⟩:AS)=B2 at *
 have hal:∀ q,(B2 q).alive->(Jl S q).alive:=fun q ha=>by
  rw[hBq]at ha
  split at ha
  . rename_i e2;rw[e2];exact hal0
  exact ha
 have hT:∀ x,B2 0=x->x.tracey->Jl S 0=x:=fun x e2 ht=>by
  rw[hBq]at e2
  split at e2
  . rw[<- e2]at ht;exact absurd ht htr
  exact e2
 have hX:∀ b,¬ XX X ρ (Jl S) b->¬ XX X ρ B2 b:=fun b hn=>Jb1 hal hn
 have hB':∀ q,(B2 q).alive->sameMake (Jl S q) (B2 q)/\ρ q=ρ q/\∀ b,ρ q=some b->sameSize w w b:=fun q ha=>by
  refine⟨?_,rfl,fun b _ cur e hh=>⟨cur,hh,rfl⟩⟩
  have ha1:=hal q ha
  rw[hBq]
  split
  . rename_i e2;rw[e2];exact hsm
  exact sameMake.refl ha1
 have hst:WStep (own ρ (Jl S)) (own ρ B2) w w:=.refl fun b ⟨q,ha,hri⟩=>⟨q,hal q ha,hri⟩
 have hR:=hr.hR hT hst
 have hm:∀ {v:Value} {x:AV},SRep ρ (Jl S) (XX X ρ (Jl S)) w v x->SRep ρ B2 (XX X ρ B2) w v x:=fun hs =>
  SRep.mono (Kr _) (fun _ _ _=>rfl) (fun b _ hb=>hX b hb) (fun q _ ha=>hB' q ha) hR hs
 have hm1:∀ {v:Value} {x:AV},SRep1 ρ (Jl S) (XX X ρ (Jl S)) w v x->SRep1 ρ B2 (XX X ρ B2) w v x:=fun hs =>
  SRep1.mono (Kr _) (fun _ _ _=>rfl) (fun b _ hb=>hX b hb) (fun q _ ha=>hB' q ha) hR hs
 refine⟨⟨fun t av ht q hq=>hwf.slots t av ht q hq,fun q ha=>?_,fun q ha r hq=>?_,fun ht=>hwf.zero ?_⟩,X,ρ,hg,?_⟩
 . rw[hB2]at ha
   exact hwf.alive q (hal q ha)
 . rw[hB2]at ha hq
   rw[hBq]at hq
   split at hq
   . exact hwf.blks i hal0 r (hmid r hq)
   exact hwf.blks q (hal q ha) r hq
 . rw[hB2]at ht
   have h2:=hT _ rfl ht
   rw[h2]
   exact ht
 . rw[hB2]
   refine hr.turn hT hal (fun q hq=>?_) (fun n e=>?_) (fun q ha=>?_) fun t av ht=>?_
   . obtain⟨c1,hc1⟩:=(hr.anc q hq).1
     rw[hBq]
     split
     . rename_i e2;subst e2;exact hanc ⟨c1,hc1⟩
     exact⟨c1,hc1⟩
   . rw[hBq]at e
     split at e
     . exact absurd e (hpn n)
     exact e
   . by_cases e2:q=i
     . subst e2
       exact hok ρ B2 _ _ w (by rw[hBq,if_pos rfl]) (fun v x h=>hm1 h) (fun v x h=>Rep.mono (Kr _) (fun _ _ _=>rfl) (fun b _ hb=>hX b hb) h) (hr.blks q)
     refine BlkOK.mono (Kr _) (fun _ _ _=>rfl) (fun b _ hn=>hX b hn) (by rw[hBq,if_neg e2]) rfl (fun _ _=>rfl) (fun q _ ha=>hB' q ha) hR (hr.blks q)
   obtain⟨hlt,hs⟩:=hr.slots t av ht
   exact⟨hlt,hm hs⟩
theorem Je6{c:List AV}{j p:Nat}{x:AV}(h:j < c.length):nth (c.set j x) p=if p=j then x else nth c p:=by
 by_cases e:p=j
 . subst e
   rw[if_pos rfl]
   simp[nth,List.getD_eq_getElem?_getD,h]
 rw[if_neg e]
 simp[nth,List.getD_eq_getElem?_getD,show ¬ j=p by omega]
theorem Jne(E:SE){S S':AS}{i j k:Nat}(h:nilB i j k S=some S'):Imp E S S':=by
 unfold nilB at h
 split at h
 . rename_i c hc
   split at h
   . rename_i v hv
     split at h
     . rename_i hn
       simp only[Kd]at hn
       cases h
       have e0:=JJ hn.1
       have hj:=QN hn.2.1
       refine JkK E (QN hn.2.2) rfl (by rw[hc];trivial) (fun h=>h) (fun n e=>by cases e) (by rw[hc];trivial) (fun r hq=>?_) (fun _=>⟨_,rfl⟩) fun ρ B2 X X' w e2 hm1 _ hbl=>?_
       . obtain⟨p,hp,hx⟩:=Jay hq
         rw[K4]at hp
         rw[Je6 hj]at hx
         split at hx
         . simp[mids1,mids0]at hx
         rw[hc]
         simp only[JN,Kn]
         refine⟨nth c p,?_,hx⟩
         rw[J0 (Kj hp)]
         exact List.getElem_mem _
       unfold BlkOK at hbl ⊢
       rw[hc]at hbl
       rw[e2]
       obtain⟨b,cs,T,g1,g2,g3,g4⟩:=hbl
       refine⟨b,cs,T,g1,g2,by rw[g3,K4],fun p hp=>⟨(g4 p (by simpa using hp)).1,?_⟩⟩
       have hp':p < c.length:=by simpa using hp
       rw[Je6 hj]
       split
       . rename_i e3
         subst e3
         have h5:=(g4 p hp').2
         rw[hv]at h5
         have h6:cs.getD p undef=v:=by
          have h7:Rep X w (cs.getD p undef) (.ex v):=h5
          generalize hgen:cs.getD p undef=u at h7
          cases h7
          rfl
         rw[h6,e0]
         exact SRep1.of_rep (.slE none 0 k)
       exact hm1 _ _ (g4 p hp').2
     cases h
   cases h
 . rename_i e q r hc
   split at h
   . rename_i v hv
     split at h
     . rename_i hn
       simp only[Kd]at hn
       cases h
       have e0:=JJ hn.1
       have hj:=QN hn.2.1
       refine JkK E (QN hn.2.2) rfl (by rw[hc];trivial) (fun h=>h) (fun n e=>by cases e) (by rw[hc];simp[sameMake]) (fun r hq=>by simp[JN]at hq) (fun⟨c,h⟩=>by rw[hc]at h;cases h) fun ρ B2 X X' w e2 _ hm hbl=>?_
       unfold BlkOK at hbl ⊢
       rw[hc]at hbl
       rw[e2]
       obtain⟨g1,g2,g3⟩:=hbl
       refine⟨fun p hp=>?_,g2,?_⟩
       . have hp0:p=0:=by simpa using hp
         subst hp0
         have:=g1 0 (by simp)
         simpa[Jn]using this
       rcases g3 with⟨_,g4⟩ | ⟨b,cur,g4,g5,g6,g7⟩
       . cases g4
       refine .inr ⟨b,cur,g4,g5,g6,fun p hp t ht=>?_⟩
       have hp0:p=0:=by simpa using hp
       subst hp0
       obtain⟨h1,h2⟩:=g7 0 (by simp) t ht
       refine⟨h1,?_⟩
       rw[show Jn [r.set j (.sl k [])] 0=r.set j (.sl k [])from rfl,Je6 hj]
       split
       . rename_i e3
         subst e3
         rw[show Jn [r] 0=r from rfl,hv]at h2
         generalize hgen:cur.getD (0 * q+t) undef=u at h2
         cases h2
         rw[e0]
         exact .slE none 0 k
       exact hm _ _ h2
     cases h
   cases h
 cases h
structure RA where
 ans:List An:=[]
 c:Nat:=1000000
 ex:List Nat:=[]
 fz:List Nat:=[]
 deriving Inhabited
def VL(bs:BL):List AV->Option (Nat × List AV)
 | .fn (.func f) fst cap::args =>
  if(fst++args++cap).all JR then some (f,fst++args++cap)else match Xy bs (fst++args++cap)with
   | some l=>some (f,l)
   | none=>none
 | _=>none
def JaI:AV->Bool
 | .gv _ (.tup (_::_))=>true
 | _=>false
def Wc(bs:BL):List AV->Option (Nat × List AV × List ABlk)
 | .fn (.func f) fst cap::args =>
  some (f,(fst++args++cap).map (Uf (Jbn (Wj bs 2 (Q4 ((AV.fn (.func f) fst cap::args).flatMap mids1) [])))),
   (Wj bs 2 (Q4 ((AV.fn (.func f) fst cap::args).flatMap mids1) [])).map fun id=>JS (Jbn (Wj bs 2 (Q4 ((AV.fn (.func f) fst cap::args).flatMap mids1) []))) (Jw bs id))
 | _=>none
theorem Jih{nid:Nat}{bs:BL}{g:Bool}{r:AV}{fin:List AV}{ins:List AV}{ou:Out}{f:Nat}{l:List AV}{b:List ABlk}(ht:Wc bs ins=some (f,l,b))(h:JfH nid bs (.gv g (.tup (r::fin))) ins=some ou):ou.obl=[.hand f l b r (fin.map Jr0)]:=by
 unfold JfH at h
 split at h
 . rename_i f' fst cap args
   simp only[Wc,Option.some.injEq,Prod.mk.injEq]at ht
   obtain⟨rfl,rfl,rfl⟩:=ht
   simp only at h
   unfold JcD at h
   split at h
   . split at h
     . cases h;rfl
     cases h
   cases h
 . simp[Wc]at ht
 cases h
theorem Jlz{nid:Nat}{bs:BL}{res:AV}{ins:List AV}{ou:Out}(hr:JaI res=false)(hy:∀ l,ins.head? ≠ some (.yld l))(h:JfH nid bs res ins=some ou):∃ f l,VL bs ins=some (f,l)/\ou.obl=[.call f l res]:=by
 unfold JfH at h
 split at h
 . rename_i f fst cap args
   split at h
   . cases hr
   unfold JfA at h
   split at h
   . rename_i hp
     have key:VL bs (.fn (.func f) fst cap::args)=some (f,fst++args++cap):=by simp only[VL,hp,if_true]
     split at h
     . cases h
       exact⟨f,_,key,rfl⟩
     . cases h
       exact⟨f,_,key,rfl⟩
     split at h
     . cases h
       exact⟨f,_,key,rfl⟩
     cases h
   rename_i hp
   split at h
   . rename_i l hl
     have key:VL bs (.fn (.func f) fst cap::args)=some (f,l):=by
      simp only[VL,hl]
      rw[if_neg hp]
     split at h
     . split at h
       . cases h
         exact⟨f,l,key,rfl⟩
       cases h
     split at h
     . cases h
       exact⟨f,l,key,rfl⟩
     cases h
   cases h
 . rename_i l args
   exact absurd rfl (hy l)
 cases h
def JhW:Op->Bool
 | .call c=>match c.callee with
  | .value _=>true
  | _=>false
 | _=>false
def Jd7(G:List (Nat × List AV))(S:AS)(ops:Array Oper)(o:Oper):Option (Nat × List AV) :=
 if JhW o.op then match gOf ops o (Jy S)with
  | some (some false)=>none
  | _=>match QT o.op with
   | some xs=>match QW G (Jy S) xs with
    | some ins=>VL S.b ins
    | none=>none
   | none=>none
 else none
def JgP(G:List (Nat × List AV))(S:AS)(ops:Array Oper)(o:Oper):Option (Nat × List AV × List ABlk) :=
 if JhW o.op then match gOf ops o (Jy S)with
  | some (some false)=>none
  | _=>match QT o.op with
   | some xs=>match QW G (Jy S) xs with
    | some ins=>Wc S.b ins
    | none=>none
   | none=>none
 else none
def allC(l:List Cd):Bool:=l.all fun c=>@decide c.p c.d
theorem Jlt:∀ {l:List Cd},allC l=true->All l
 | [],_=>trivial
 | ⟨p,d⟩::l,h=>by
  simp only[allC,List.all_cons,Kd]at h
  exact⟨@of_decide_eq_true p d h.1,Jlt h.2⟩
def JnB(an:An)(r:AV):An:={ an with res:=r,sym:=false,rd:=fun _=>none,rdb:=fun _ _=>none }
def W0(rec:Nat->List AV->Option AV)(an:An):Option (Nat × List AV)->Option (An × Bool)
 | some (f,args)=>match rec f args with
  | some r=>if JaI r then none else some (JnB an (if an.fr then r else U0 r),true)
  | none=>none
 | none=>some (JnB an .any,false)
def Jf3(rw:Nat->List AV->List ABlk->Option (AV × List AV))(rec:Nat->List AV->Option AV)(an:An)(t:Option (Nat × List AV)):Option (Nat × List AV × List ABlk)->Option (An × Bool)
 | some (f,args,bs)=>match rw f args bs with
  | some (r,fin)=>some (JnB an (.gv true (.tup (r::fin))),true)
  | none=>W0 rec an t
 | none=>W0 rec an t
def Jk1(G:List (Nat × List AV))(T:TT)(nt:Nat)(ops:Array Oper)(rw:Nat->List AV->List ABlk->Option (AV × List AV))(rec:Nat->List AV->Option AV):List An->List Oper->AS->Option (List An × List Eff × AS)
 | _,[],S=>some ([],[],S)
 | ans,o::l,S =>
  match Jf3 rw rec (ans.headD {}) (Jd7 G S ops o) (JgP G S ops o)with
  | some (an,ok)=>match Ui G T nt S.n an ops o (Jy S) S.b with
   | some (e,cs,obs)=>if Jh9 (S.n+1) e && allC cs && (obs.isEmpty || ok)then
    match Jk1 G T nt ops rw rec ans.tail l (QO e S)with
    | some (as,es,S')=>some (an::as,e::es,S')
    | none=>none
    else none
   | none=>none
  | none=>none
theorem Jk2{G:List (Nat × List AV)}{T:TT}{nt nid:Nat}{an:An}{ops:Array Oper}{o:Oper}{S:AS}{e:Eff}{cs:List Cd}{obs:List GObl}{f:Nat}{args:List AV}
 (hs:an.sym=false)(hrd:an.at S.b=fun _=>none)(hh:JaI an.res=false)(hc:Jd7 G S ops o=some (f,args))(h:Ui G T nt nid an ops o (Jy S) S.b=some (e,cs,obs)):∀ ob,ob ∈ obs->ob.o=.call f args an.res:=by
 unfold Jd7 at hc
 split at hc
 . rename_i hv
   have hplain:Ux G T nt nid an o (Jy S) S.b=some (e,cs,obs):=by
    unfold Ui at h
    split at h
    . exact h
    . rename_i g hg
      rw[hg]at hc
      rw[hs]at h
      simp only[Bool.false_eq_true,if_false]at h
      cases g with
      | true=>exact h
      | false=>cases hc
    cases h
   have hc':(match QT o.op with
    | some xs=>match QW G (Jy S) xs with
     | some ins=>VL S.b ins
     | none=>none
    | none=>none)=some (f,args):=by
    split at hc
    . cases hc
    . exact hc
   unfold Ux at hplain
   split at hplain
   . rename_i xs hx
     rw[hx]at hc'
     simp only at hc'
     split at hplain
     . rename_i ins hi
       rw[hi]at hc'
       simp only at hc'
       split at hplain
       . rename_i ou hou
         have hobl:ou.obl=[.call f args an.res]:=by
          cases ho:o.op with
          | call c =>
           rw[ho]at hv hou
           simp only[JhW]at hv
           cases hcc:c.callee with
           | value x =>
            simp only[Jbq,hcc]at hou
            obtain⟨f',l',h1,h2⟩:=Jlz hh (fun l e=>by
             match ins,e,hc' with
             | .yld _::_,_,hc'=>cases hc') hou
            rw[h1]at hc'
            cases hc'
            exact h2
           | builtin _=>rw[hcc]at hv;cases hv
           | invoke _ _=>rw[hcc]at hv;cases hv
          | _=>rw[ho]at hv;cases hv
         unfold Jnu at hplain
         split at hplain
         . cases hplain
           intro ob hm
           obtain⟨ob',hm',rfl⟩:=List.mem_map.1 hm
           have:ob' ∈ ou.obl:=by
            revert hm'
            rw[hrd]
            show ob' ∈ (if an.fz=true then Wf nid ou else ou).obl->_
            split
            . rw[JkS];exact fun h=>h
            exact fun h=>h
           rw[hobl]at this
           simpa using this
         cases hplain
       cases hplain
     cases hplain
   cases hplain
 . cases hc
theorem Jh8{G:List (Nat × List AV)}{T:TT}{nt nid:Nat}{an:An}{ops:Array Oper}{o:Oper}{S:AS}{e:Eff}{cs:List Cd}{obs:List GObl}{f:Nat}{args:List AV}{bs:List ABlk}{g:Bool}{r:AV}{fin:List AV}
 (hs:an.sym=false)(hrd:an.at S.b=fun _=>none)(hh:an.res=.gv g (.tup (r::fin)))(hc:JgP G S ops o=some (f,args,bs))(h:Ui G T nt nid an ops o (Jy S) S.b=some (e,cs,obs)):∀ ob,ob ∈ obs->ob.o=.hand f args bs r (fin.map Jr0):=by
 unfold JgP at hc
 split at hc
 . rename_i hv
   have hplain:Ux G T nt nid an o (Jy S) S.b=some (e,cs,obs):=by
    unfold Ui at h
    split at h
    . exact h
    . rename_i g hg
      rw[hg]at hc
      rw[hs]at h
      simp only[Bool.false_eq_true,if_false]at h
      cases g with
      | true=>exact h
      | false=>cases hc
    cases h
   have hc':(match QT o.op with
    | some xs=>match QW G (Jy S) xs with
     | some ins=>Wc S.b ins
     | none=>none
    | none=>none)=some (f,args,bs):=by
    split at hc
    . cases hc
    . exact hc
   unfold Ux at hplain
   split at hplain
   . rename_i xs hx
     rw[hx]at hc'
     simp only at hc'
     split at hplain
     . rename_i ins hi
       rw[hi]at hc'
       simp only at hc'
       split at hplain
       . rename_i ou hou
         have hobl:ou.obl=[.hand f args bs r (fin.map Jr0)]:=by
          cases ho:o.op with
          | call c =>
           rw[ho]at hv hou
           simp only[JhW]at hv
           cases hcc:c.callee with
           | value x =>
            simp only[Jbq,hcc]at hou
            rw[hh]at hou
            exact Jih hc' hou
           | builtin _=>rw[hcc]at hv;cases hv
           | invoke _ _=>rw[hcc]at hv;cases hv
          | _=>rw[ho]at hv;cases hv
         unfold Jnu at hplain
         split at hplain
         . cases hplain
           intro ob hm
           obtain⟨ob',hm',rfl⟩:=List.mem_map.1 hm
           have:ob' ∈ ou.obl:=by
            revert hm'
            rw[hrd]
            show ob' ∈ (if an.fz=true then Wf nid ou else ou).obl->_
            split
            . rw[JkS];exact fun h=>h
            exact fun h=>h
           rw[hobl]at this
           simpa using this
         cases hplain
       cases hplain
     cases hplain
   cases hplain
 . cases hc
theorem JgU{G:List (Nat × List AV)}{T:TT}{nt:Nat}{ops:Array Oper}{rw:Nat->List AV->List ABlk->Option (AV × List AV)}{rec:Nat->List AV->Option AV}:∀ {l:List Oper} {ans:List An} {S:AS} {as:List An} {es:List Eff} {S':AS},
 Jk1 G T nt ops rw rec ans l S=some (as,es,S')->∃ cs obs,UP G T nt ops as l S=some (es,cs,obs)/\All cs/\(∀ ob:GObl,ob ∈ obs->(∃ f args r,(ob.o=.call f args r ∨ ob.o=.call f args (U0 r))/\rec f args=some r) ∨ ∃ f args bs r fin,ob.o=.hand f args bs r (fin.map Jr0)/\rw f args bs=some (r,fin))/\S'=JiJ es S
 | [],ans,S,as,es,S',h=>by
  simp only[Jk1]at h
  cases h
  exact⟨[],[],rfl,trivial,by simp,rfl⟩
 | o::l,ans,S,as,es,S',h=>by
  simp only[Jk1]at h
  split at h
  . rename_i an ok han
    split at h
    . rename_i e cs1 obs1 h1
      split at h
      . rename_i hb
        simp only[Kd]at hb
        split at h
        . rename_i as2 es2 S2 h2
          cases h
          obtain⟨cs2,obs2,g1,g2,g3,g4⟩:=JgU h2
          refine⟨cs1++cs2,obs1++obs2,?_,?_,fun ob hm=>?_,g4⟩
          . simp only[UP,List.headD_cons,h1,hb.1.1,if_true,List.tail_cons,g1]
          . have:=Jlt hb.1.2
            revert this
            generalize cs1=cs
            intro hcs
            induction cs with
            | nil=>exact g2
            | cons c cs ih=>obtain⟨p,d⟩:=c;exact⟨hcs.1,ih hcs.2⟩
          rcases List.mem_append.1 hm with hm | hm
          . have hres:W0 rec (ans.headD {}) (Jd7 G S ops o)=some (an,ok)->∃ f args r,(ob.o=.call f args r ∨ ob.o=.call f args (U0 r))/\rec f args=some r:=by
             intro han
             cases hc:Jd7 G S ops o with
             | none =>
              rw[hc]at han
              simp only[W0,Option.some.injEq,Prod.mk.injEq]at han
              rw[<- han.2]at hb
              simp only[Bool.or_false,List.isEmpty_iff]at hb
              rw[hb.2]at hm
              cases hm
             | some p =>
              obtain⟨f,args⟩:=p
              rw[hc]at han
              simp only[W0]at han
              split at han
              . rename_i r hr
                split at han
                . cases han
                rename_i hh
                cases han
                have hh2:JaI (if(ans.headD {}).fr then r else U0 r)=false:=by
                 have hh:JaI r=false:=by simpa using hh
                 split
                 . exact hh
                 cases r <;> first | exact hh | rfl
                have:=Jk2 (by rfl) (by rfl) hh2 hc h1 ob hm
                refine⟨f,args,r,?_,hr⟩
                simp only[JnB]at this
                split at this
                . exact .inl this
                exact .inr this
              cases han
            cases hd:JgP G S ops o with
            | none =>
             rw[hd]at han
             exact .inl (hres han)
            | some p =>
             obtain⟨f,args,bs⟩:=p
             rw[hd]at han
             simp only[Jf3]at han
             split at han
             . rename_i r fin hr
               cases han
               exact .inr ⟨f,args,bs,r,fin,Jh8 (by rfl) (by rfl) rfl hd h1 ob hm,hr⟩
             exact .inl (hres han)
          exact g3 ob hm
        cases h
      cases h
    cases h
  cases h
def Jh2(A:List Nat):List Nat->AS->Option AS
 | [],S=>some S
 | t::l,S=>match Jy S t with
  | some (.ptr id _)=>match frzS A id S with
   | some S'=>Jh2 A l S'
   | none=>none
  | some (.own id _)=>match frzS A id S with
   | some S'=>Jh2 A l S'
   | none=>none
  | _=>Jh2 A l S
theorem UL(E:SE):∀ {l:List Nat} {S S':AS},Jh2 E.A l S=some S'->Imp E S S'
 | [],S,S',h=>by cases h;exact Imp.refl E S
 | t::l,S,S',h=>by
  simp only[Jh2]at h
  split at h
  . split at h
    . rename_i h1
      exact(Jfh E h1).trans (UL E h)
    cases h
  . split at h
    . rename_i h1
      exact(Jfh E h1).trans (UL E h)
    cases h
  exact UL E h
def fzCs(A:List Nat):List AV->AS->Option AS
 | [],S=>some S
 | .own i _::l,S=>match Jh3 A i S with
  | some S'=>fzCs A l S'
  | none=>none
 | _::l,S=>fzCs A l S
def Jh1(A:List Nat):List Nat->AS->Option AS
 | [],S=>some S
 | t::l,S=>match Jy S t with
  | some (.ptr id _)=>match Jw S.b id with
   | .box cells=>match fzCs A cells S with
    | some S'=>Jh1 A l S'
    | none=>none
   | _=>Jh1 A l S
  | _=>Jh1 A l S
theorem JcB(E:SE):∀ {l:List AV} {S S':AS},fzCs E.A l S=some S'->Imp E S S'
 | [],S,S',h=>by cases h;exact Imp.refl E S
 | x::l,S,S',h=>by
  unfold fzCs at h
  split at h
  . rename_i h1;cases h1
  . rename_i h1
    cases h1
    split at h
    . rename_i h2
      exact(WQ E h2).trans (JcB E h)
    cases h
  rename_i h1
  cases h1
  exact JcB E h
theorem UK(E:SE):∀ {l:List Nat} {S S':AS},Jh1 E.A l S=some S'->Imp E S S'
 | [],S,S',h=>by cases h;exact Imp.refl E S
 | t::l,S,S',h=>by
  simp only[Jh1]at h
  split at h
  . split at h
    . split at h
      . rename_i h1
        exact(JcB E h1).trans (UK E h)
      cases h
    exact UK E h
  exact UK E h
def preZ:List Nat->List Nat
 | []=>[]
 | t::l=>if Nat.ble 100000 t then(t-100000)::preZ l else preZ l
def Jrs:List Nat->List Nat
 | []=>[]
 | t::l=>if Nat.ble 100000 t then Jrs l else t::Jrs l
def Jan(f:AS->List AV->Option (Exit × AS)):List (List AV)->AS->Option (Exit × AS)
 | [],S=>some (.normal,S)
 | x::L,S=>match f S x with
  | some (.normal,S')=>Jan f L S'
  | r=>r
def Vd:BL->List Nat
 | []=>[]
 | (i,.box _)::l=>i::Vd l
 | _::l=>Vd l
def Jm3(A:List Nat)(v:AV):Bool:=match v with
 | .ptr id _=>inA A id
 | v=>JR v
def JiH(A:List Nat):List (Nat × AV)->List (Nat × AV)
 | []=>[]
 | (t,v)::l=>if Jm3 A v then(t,v)::JiH A l else V1 t (JiH A l)
def Jj2:BL->Bool
 | []=>true
 | (i,_)::l=>l.all (fun p=>!p.1.beq i) && Jj2 l
def Jpd:Exit->Bool
 | .normal | .ret | .exit _ | .goto _=>true
 | _=>false
def Jdu(id:Nat)(S:AS):AS:=⟨JiH (Vd (V1 id S.b)) S.s,V1 id S.b,S.n⟩
def rfSt(E:SE)(g:Operand)(ps:Array Tmp)(S:AS):Option (Nat × List AV × AS) :=
 match Je1 E.G (Jy S) g with
 | some (.fn (.func gf) [] [.ptr id 0])=>match Jw S.b id with
  | .box cells=>if E.nr && (E.A.isEmpty && (cells.all X7 && (ps.toList.all (fun p=>p.blt E.nt) && (!JaH (Jw S.b 0) && Jj2 (V1 id S.b)))))then some (gf,[.fbox 0 cells],Jdu id S)else none
  | _=>none
 | some (.fn (.func gf) [] cap)=>if E.nr && (E.A.isEmpty && (cap.all X7 && (ps.toList.all (fun p=>p.blt E.nt) && (!JaH (Jw S.b 0) && Jj2 S.b))))then some (gf,cap,⟨JiH (Vd S.b) S.s,S.b,S.n⟩)else none
 | _=>none
def JjC(E:SE)(seq:Nat->List AV->Option (List (List AV)))(g:Operand)(ps:Array Tmp)(S:AS):Option (List Nat × List (List AV) × AS) :=
 match rfSt E g ps S with
 | some (gf,cap,S1)=>match seq gf cap with
  | some L=>if L.all (fun x=>x.length.beq ps.size)then some (Vd S1.b,L,S1)else none
  | none=>none
 | none=>none
def UA(f:SE->Code->AS->Option (Exit × AS))(E:SE)(ps:List Nat)(assign body:Code)(s:List (Nat × AV))(S1:AS)(x:List AV):Option (Exit × AS) :=
 match f E assign ⟨UV ps x s,S1.b,S1.n⟩with
 | some (.normal,S2)=>if JaH (Jl S2 0)then none else match f E body S2 with
  | some (e,S3)=>if JaH (Jl S3 0) || !Jpd e then none else some (e,⟨s,S3.b,S3.n⟩)
  | none=>none
 | _=>none
theorem Je2{f:SE->Code->AS->Option (Exit × AS)}{E:SE}{ps:List Nat}{assign body:Code}{s:List (Nat × AV)}{S1:AS}{x:List AV}{e:Exit}{S4:AS}(h:UA f E ps assign body s S1 x=some (e,S4)) :
 ∃ S2 S3,f E assign ⟨UV ps x s,S1.b,S1.n⟩=some (.normal,S2)/\JaH (Jl S2 0)=false/\f E body S2=some (e,S3)/\JaH (Jl S3 0)=false/\Jpd e=true/\S4=⟨s,S3.b,S3.n⟩:=by
 unfold UA at h
 split at h
 . rename_i S2 h2
   split at h
   . cases h
   rename_i t2
   split at h
   . rename_i e3 S3 h3
     split at h
     . cases h
     rename_i t3
     cases h
     simp only[Bool.or_eq_true,not_or,Bool.not_eq_true,Bool.not_eq_false,Kt]at t3
     exact⟨S2,S3,h2,by simpa using t2,h3,t3.1,by simpa using t3.2,rfl⟩
   cases h
 . cases h
def run(ra:Nat->RA)(rw:Nat->List AV->List ABlk->Option (AV × List AV))(rec:Nat->List AV->Option AV)(seq:Nat->List AV->Option (List (List AV))):Nat->SE->Code->AS->Option (Exit × AS)
 | 0,_,_,_=>none
 | n+1,E,c,S =>
  match c with
  | .skip=>some (.normal,S)
  | .label _=>some (.normal,S)
  | .ret=>some (.ret,S)
  | .exit id=>some (.exit id,S)
  | .region id ops draw =>
   match Jh1 E.A (preZ (ra id).fz) S with
   | some S=>match Jk1 E.G E.T E.nt ops rw rec (ra id).ans ops.toList S with
    | some (_,es,S')=>if !draw || JgZ E.G ops es S then match Jh2 E.A (Jrs (ra id).fz) (Jnr (ra id).c (ra id).ex S')with
     | some S2=>some (.normal,S2)
     | none=>none
     else none
    | none=>none
   | none=>none
  | .seq x y =>
   match run ra rw rec seq n E x S with
   | some (.normal,S')=>run ra rw rec seq n E y S'
   | r=>r
  | .cond c x y =>
   match Je1 E.G (Jy S) c with
   | some (.bool b)=>match b with
    | true=>run ra rw rec seq n E x S
    | false=>run ra rw rec seq n E y S
   | _=>none
  | .block id b =>
   match run ra rw rec seq n E b S with
   | some (.exit id',S')=>if id'.beq id then some (.normal,S')else some (.exit id',S')
   | r=>r
  | .loop b =>
   match run ra rw rec seq n E b S with
   | some (.normal,S')=>run ra rw rec seq n E (.loop b) S'
   | r=>r
  | .scope b =>
   match run ra rw rec seq n E b S with
   | some (.goto _,_)=>none
   | r=>r
  | .rangeFunc g ps assign body =>
   match JjC E seq g ps S with
   | some (A,L,S0)=>Jan (UA (run ra rw rec seq n) (E.rnd A) ps.toList assign body S0.s) L S0
   | none=>none
  | _=>none
def Jfm(e:Exit)(S:AS):Exit->AS->Prop:=fun e' S'=>e'=e/\S'=S
theorem Uc{A:List Nat}{t:Nat}{av:AV}:∀ {l:List (Nat × AV)},lk t (JiH A l)=some av->lk t l=some av/\(JR av=true ∨ ∃ id off,av=.ptr id off/\id ∈ A)
 | [],h=>by simp[JiH,lk]at h
 | (u,v)::l,h=>by
  simp only[JiH]at h
  split at h
  . rename_i hb
    simp only[lk]at h ⊢
    split at h
    . rename_i e
      cases h
      rw[if_pos e]
      refine⟨rfl,?_⟩
      unfold Jm3 at hb
      split at hb
      . rename_i id off
        obtain⟨i,h1,h2⟩:=List.any_eq_true.1 hb
        have:=Kc h2
        subst this
        exact .inr ⟨_,off,rfl,h1⟩
      exact .inl hb
    rename_i e
    rw[if_neg e]
    exact Uc h
  rw[Xt]at h
  split at h
  . cases h
  rename_i e
  obtain⟨h1,h2⟩:=Uc h
  exact⟨by simp only[lk,J6 (fun e2:u=t=>e e2.symm)];exact h1,h2⟩
theorem JdC{A:List Nat}{t:Nat}{av:AV}:∀ {l:List (Nat × AV)},lk t l=some av->Jm3 A av=true->lk t (JiH A l)=some av
 | (u,v)::l,h,hk=>by
  simp only[lk]at h
  simp only[JiH]
  by_cases e:u=t
  . subst e
    rw[if_pos (JE u)]at h
    cases h
    rw[if_pos hk]
    simp only[lk,JE,if_true]
  rw[J6 e]at h
  have ih:=JdC h hk
  split
  . simp only[lk,J6 e]
    exact ih
  rw[Xt,if_neg (fun e2=>e e2.symm)]
  exact ih
theorem US{id:Nat}:∀ {l:BL},id ∈ Vd l->∃ cells,(id,ABlk.box cells) ∈ l
 | [],h=>by simp[Vd]at h
 | (i,b)::l,h=>by
  cases b with
  | box cells =>
   simp only[Vd,Kq]at h
   rcases h with rfl | h
   . exact⟨cells,by simp⟩
   obtain⟨c,hc⟩:=US h
   exact⟨c,by simp[hc]⟩
  | _ =>
   simp only[Vd]at h
   obtain⟨c,hc⟩:=US h
   exact⟨c,by simp[hc]⟩
theorem Je3{id:Nat}{b:ABlk}:∀ {l:BL},Jj2 l=true->(id,b) ∈ l->lk id l=some b
 | (i,c)::l,h,hm=>by
  simp only[Jj2,Kd,List.all_eq_true,Kt]at h
  simp only[lk]
  rcases List.mem_cons.1 hm with e | hm
  . cases e;rw[if_pos (JE _)]
  have:=h.1 _ hm
  have hne:i ≠ id:=fun e=>by rw[e]at this;rw[JE]at this;cases this
  rw[if_neg (by rw[J6 hne];simp)]
  exact Je3 h.2 hm
theorem Jnd(E:SE)(S:AS)(A:List Nat):Imp E S ⟨JiH A S.s,S.b,S.n⟩:=fun _ _ _ ⟨hwf,X,ρ,hg,hr⟩ =>
 ⟨⟨fun t av ht=>hwf.slots t av (Uc ht).1,hwf.alive,hwf.blks,hwf.zero⟩,X,ρ,hg,hr.weaken (fun _ _ ht=>(Uc ht).1) (fun _ _=>rfl) (fun _ h _=>h) (fun _ _=>rfl)⟩
theorem Jgl{E:SE}(hE:E.OK)(A:List Nat):(E.rnd A).OK:=⟨hE.tok,hE.mix⟩
theorem PSeqX.plain{P:Program}{G:List (Nat × List AV)}{f:Nat}{cap:List AV}{L:List (List AV)}(h:PSeqX P G f cap L)(hc:cap.all X7=true):PSeq P G f cap L:=by
 unfold PSeqX at h
 split at h
 . simp[X7]at hc
 exact h
theorem JjD{E:SE}{g:Operand}{ps:Array Tmp}{S:AS}{gf:Nat}{cap:List AV}{S1:AS}(h:rfSt E g ps S=some (gf,cap,S1)){L:List (List AV)}(hq:PSeqX E.P E.G gf cap L) :
 ∃ S0,Imp E S S0/\VY E.P gf/\(WF S0->WF S1)/\Jda E g gf L S0 S1/\E.nr=true/\E.A=[]/\(∀ p,p ∈ ps.toList->p < E.nt)/\JaH (Jl S1 0)=false /\
  (∀ id,id ∈ Vd S1.b->∃ cells,Jl S1 id=.box cells)/\∀ t av,Jy S1 t=some av->JR av=true ∨ ∃ id off,av=.ptr id off/\id ∈ Vd S1.b:=by
 unfold rfSt at h
 split at h
 . rename_i gf' id hg
   split at h
   . rename_i cells hB
     split at h
     . rename_i hb
       cases h
       simp only[Kd,Kt,List.isEmpty_iff]at hb
       obtain⟨b1,b2,b3,b4,b6,b7⟩:=hb
       have hq:PSeqB E.P E.G gf cells L:=hq
       have hblk:Jl (Jdu id S)=upd (Jl S) id .dead:=by
        funext i
        show(lk i (V1 id S.b)).getD .dead=_
        rw[Xt]
        by_cases e:i=id
        . subst e;rw[if_pos rfl,Je];rfl
        rw[if_neg e,Jj _ _ e];rfl
       have hsub:∀ t av,Jy (Jdu id S) t=some av->Jy S t=some av:=fun t av ht=>(Uc ht).1
       have hal:∀ i,(Jl (Jdu id S) i).alive->Jl (Jdu id S) i=Jl S i:=by
        intro i ha
        rw[hblk]at ha ⊢
        by_cases e:i=id
        . subst e;rw[Je]at ha;exact ha.elim
        exact Jj _ _ e
       refine⟨S,Imp.refl _ _,hq.callable,fun hwf=>⟨fun t av ht=>hwf.slots t av (hsub t av ht),fun i ha=>hwf.alive i (by rw[<- hal i ha];exact ha),fun i ha=>by have e:=hal i ha;rw[e]at ha ⊢;exact hwf.blks i ha,fun ht=>?_⟩,
        rf_box b2 hg hB b3 hq b6 hsub hblk,b1,b2,fun p hp=>QN (List.all_eq_true.1 b4 p hp),?_,fun i hi=>?_,fun t av ht=>(Uc ht).2⟩
       . rw[hblk]at ht
         by_cases e:0=id
         . subst e;rw[Je]at ht;exact ht.elim
         rw[Jj _ _ e]at ht
         exact hwf.zero ht
       . rw[hblk]
         by_cases e:0=id
         . subst e;rw[Je];rfl
         rw[Jj _ _ e];exact b6
       obtain⟨cells,hc⟩:=US hi
       refine⟨cells,?_⟩
       show(lk i (V1 id S.b)).getD .dead=_
       rw[Je3 b7 hc]
       rfl
     cases h
   cases h
 . rename_i gf' cap' _ hg
   split at h
   . rename_i hb
     cases h
     simp only[Kd,Kt,List.isEmpty_iff]at hb
     obtain⟨b1,b2,b3,b4,b6,b7⟩:=hb
     have hq:=hq.plain b3
     have hgk:Je1 E.G (Jy ⟨JiH (Vd S.b) S.s,S.b,S.n⟩) g=some (.fn (.func gf) [] cap):=by
      cases g with
      | tmp t=>exact JdC hg (by simp[Jm3,JR,b3])
      | _=>exact hg
     refine⟨⟨JiH (Vd S.b) S.s,S.b,S.n⟩,Jnd E S _,hq.callable,id,JmD hgk b3 hq,b1,b2,fun p hp=>QN (List.all_eq_true.1 b4 p hp),b6,fun i hi=>?_,fun t av ht=>(Uc ht).2⟩
     obtain⟨cells,hc⟩:=US hi
     refine⟨cells,?_⟩
     show(lk i S.b).getD .dead=_
     rw[Je3 b7 hc]
     rfl
   cases h
 . cases h
theorem Jo3{P:Program}{G:List (Nat × List AV)}{ra:Nat->RA}{rw:Nat->List AV->List ABlk->Option (AV × List AV)}{rec:Nat->List AV->Option AV}{seq:Nat->List AV->Option (List (List AV))}(hrw:∀ f args bs r fin,rw f args bs=some (r,fin)->WCall P G f args bs r (fin.map Jr0))(hrec:∀ f args r,rec f args=some r->PCall P G f args r)(hseq:∀ f cap L,seq f cap=some L->PSeqX P G f cap L) :
 ∀ (n:Nat) (E:SE) (c:Code) (S:AS) (e:Exit) (S':AS),E.OK->E.P=P->E.G=G->run ra rw rec seq n E c S=some (e,S')->Tri E c S (Jfm e S'):=by
 intro n
 induction n using Nat.strongRecOn with
 | _ n ih =>
  intro E c S e S' hE hP hG h
  match n,h with
  | n+1,h =>
   have ihn:=fun c S e S'=>ih n (by omega) E c S e S' hE hP hG
   cases c with
   | skip=>cases h;exact Jf7 ⟨rfl,rfl⟩
   | label l=>cases h;exact Jdh ⟨rfl,rfl⟩
   | ret=>cases h;exact Ji8 ⟨rfl,rfl⟩
   | exit id=>cases h;exact Jf8 ⟨rfl,rfl⟩
   | region id ops draw =>
    simp only[run]at h
    split at h
    case h_2=>cases h
    rename_i S0 hpre
    refine Imp.pre (UK E hpre) ?_
    revert h
    clear hpre
    generalize S0=S
    intro h
    split at h
    . rename_i as es S1 h1
      split at h
      . rename_i hd
        split at h
        case h_2=>cases h
        rename_i S2 hfz
        cases h
        obtain⟨cs,obs,g1,g2,g3,rfl⟩:=JgU h1
        refine Imp.post (Jby hE (Q:=Jfm .normal (JiJ es S)) g1 g2 (fun ob hm _=>?_) (fun e=>?_) ⟨rfl,rfl⟩) fun e S' ⟨h1,h2⟩=>?_
        . rcases g3 ob hm with⟨f,args,r,k1,k2⟩ | ⟨f,args,bs,r,fin,k1,k2⟩
          case inr =>
           rw[k1]
           show WCall E.P E.G f args bs r (fin.map Jr0)
           rw[hP,hG]
           exact hrw _ _ _ _ _ k2
          have hp:PCall E.P E.G f args r:=by
           rw[hP,hG]
           exact hrec _ _ _ k2
          rcases k1 with k1 | k1
          . rw[k1];exact hp
          rw[k1];exact hp.un
        . subst e;simpa using hd
        subst h2
        exact⟨_,(JcC E _ _ _).trans (UL E hfz),h1,rfl⟩
      cases h
    cases h
   | seq x y =>
    simp only[run]at h
    cases h1:run ra rw rec seq n E x S with
    | none=>rw[h1]at h;cases h
    | some p =>
     obtain⟨e1,S1⟩:=p
     rw[h1]at h
     have hx:=ihn x S e1 S1 h1
     refine JeB (fun T=>e1=.normal/\T=S1) (hx.mono fun e2 S2 ⟨g1,g2⟩=>?_) fun T ⟨g1,g2⟩=>?_
     . subst g1;subst g2
       cases e2 with
       | normal=>exact⟨rfl,rfl⟩
       | _=>cases h;exact⟨rfl,rfl⟩
     subst g1;subst g2
     exact ihn y T e S' h
   | cond c x y =>
    simp only[run]at h
    split at h
    . rename_i b hb
      refine WJ hb (fun e1=>?_) (fun e1=>?_)
      . subst e1;exact ihn x S e S' h
      subst e1;exact ihn y S e S' h
    cases h
   | block id b =>
    simp only[run]at h
    cases h1:run ra rw rec seq n E b S with
    | none=>rw[h1]at h;cases h
    | some p =>
     obtain⟨e1,S1⟩:=p
     rw[h1]at h
     refine Jdi ((ihn b S e1 S1 h1).mono fun e2 S2 ⟨g1,g2⟩=>?_)
     subst g1;subst g2
     cases e2 with
     | exit id' =>
      simp only at h
      simp only[inQ]
      split at h
      . rename_i hb
        rw[if_pos (Kc hb)]
        cases h;exact⟨rfl,rfl⟩
      rename_i hb
      rw[if_neg (fun e=>hb (by rw[e];exact JE id))]
      cases h;exact⟨rfl,rfl⟩
     | _=>cases h;exact⟨rfl,rfl⟩
   | scope b =>
    simp only[run]at h
    have hne:∀ l,e ≠ .goto l:=fun l he=>by
     subst he
     split at h
     . cases h
     rename_i hx;exact hx _ _ h
    have h1:run ra rw rec seq n E b S=some (e,S'):=by
     split at h
     . cases h
     exact h
    exact Jdg (ihn b S e S' h1) fun l T ⟨g1,_⟩=>hne l g1.symm
   | loop b =>
    refine WI (fun k T=>k<=n+1/\run ra rw rec seq k E (.loop b) T=some (e,S')) (fun k T ⟨hk,hJ⟩=>?_) (n:=n+1) ⟨Kr _,h⟩
    match k,hk,hJ with
    | k+1,hk,hJ =>
     simp only[run]at hJ
     cases h1:run ra rw rec seq k E b T with
     | none=>rw[h1]at hJ;cases hJ
     | some p =>
      obtain⟨e1,S1⟩:=p
      rw[h1]at hJ
      refine(ih k (by omega) E b T e1 S1 hE hP hG h1).mono fun e2 S2 ⟨g1,g2⟩=>?_
      subst g1;subst g2
      cases e2 with
      | normal=>exact⟨k,by omega,by omega,hJ⟩
      | _=>cases hJ;exact⟨rfl,rfl⟩
   | rangeFunc g ps assign body =>
    simp only[run]at h
    split at h
    . rename_i A L S0 h0
      unfold JjC at h0
      split at h0
      . rename_i gf cap S1 hst
        split at h0
        . rename_i L' hL
          split at h0
          . rename_i b5
            cases h0
            obtain⟨Sa,hS,hgc,hwf,hrs,b1,b2,b4,b6,hA,hsl⟩:=JjD hst (L:=L) (show PSeqX E.P E.G gf cap L by rw[hP,hG];exact hseq _ _ _ hL)
            refine Imp.pre hS (V5 (A:=Vd S0.b) b1 b2 hgc hwf hrs b6 hA hsl b4 (fun x hx=>Kc (List.all_eq_true.1 b5 x hx))
             (fun pre S1=>∃ post,L=pre++post/\Jan (UA (run ra rw rec seq n) (E.rnd (Vd S0.b)) ps.toList assign body S0.s) post S1=some (e,S')) ⟨L,rfl,h⟩ (fun pre x post S1 hLL hj=>?_) (fun S1 hj=>?_))
            . obtain⟨post',h1,h2⟩:=hj
              have hp:post'=x::post:=List.append_cancel_left (h1.symm.trans hLL)
              subst hp
              simp only[Jan]at h2
              cases h3:UA (run ra rw rec seq n) (E.rnd (Vd S0.b)) ps.toList assign body S0.s S1 x with
              | none=>rw[h3]at h2;cases h2
              | some p =>
               obtain⟨e3,S4⟩:=p
               rw[h3]at h2
               obtain⟨S2,S3,k1,k2,k3,k4,k5,rfl⟩:=Je2 h3
               refine(ih n (by omega) _ _ _ _ _ (Jgl hE _) hP hG k1).mono fun e2 S2' ⟨g1,g2⟩=>?_
               subst g1;subst g2
               refine⟨rfl,k2,(ih n (by omega) _ _ _ _ _ (Jgl hE _) hP hG k3).mono fun e4 S3' ⟨g3,g4⟩=>?_⟩
               subst g3;subst g4
               refine⟨k4,?_⟩
               cases e4 with
               | normal=>exact⟨post,by rw[hLL];simp,h2⟩
               | ret=>cases h2;exact⟨rfl,rfl⟩
               | exit _=>cases h2;exact⟨rfl,rfl⟩
               | goto _=>cases h2;exact⟨rfl,rfl⟩
               | panic _=>cases k5
               | outgrown=>cases k5
            obtain⟨post',h1,h2⟩:=hj
            have hp:post'=[]:=by simpa using h1
            subst hp
            simp only[Jan]at h2
            cases h2
            exact⟨rfl,rfl⟩
          cases h0
        cases h0
      cases h0
    cases h
   | _=>simp only[run]at h;cases h
abbrev FT:=List (Nat × List (Nat × RA))
def Jrx:Nat->List Func->Option Func
 | _,[]=>none
 | n,x::l=>match n with
  | 0=>some x
  | n+1=>Jrx n l
theorem Jj6:∀ {n:Nat} {l:List Func} {fn:Func},Jrx n l=some fn->l[n]?=some fn
 | _,[],_,h=>by simp[Jrx]at h
 | 0,x::l,fn,h=>by simpa[Jrx]using h
 | n+1,x::l,fn,h=>by
  simp only[Jrx]at h
  simpa using Jj6 h
def Jpf(P:Program)(f:Nat):Bool:=match Jrx f P.funcs.toList with
 | some fn => !(fn.name == "runtime.NumGoroutine")
 | none=>true
def FTOK(P:Program)(F:FT):Prop:=F.all (fun p=>Jpf P p.1)=true
def Uy{α:Type}(l:List (Nat × α)):List Nat->List (Nat × α)
 | []=>[]
 | t::ts=>match lk t l with
  | some v=>(t,v)::Uy l ts
  | none=>Uy l ts
theorem QU{α:Type}{l:List (Nat × α)}{t:Nat}{v:α}:∀ {ts:List Nat},lk t (Uy l ts)=some v->lk t l=some v
 | [],h=>by cases h
 | u::ts,h=>by
  simp only[Uy]at h
  split at h
  . rename_i x hx
    simp only[lk]at h
    split at h
    . rename_i e
      cases h
      rw[<- Kc e]
      exact hx
    exact QU h
  exact QU h
theorem Jfb{α:Type}{l:List (Nat × α)}{t:Nat}:∀ {ts:List Nat},t ∈ ts->lk t (Uy l ts)=lk t l
 | u::ts,h=>by
  simp only[Uy]
  by_cases e:u=t
  . subst e
    split
    . rename_i x hx
      simp only[lk,JE,if_true]
      exact hx.symm
    rename_i hx
    rw[hx]
    cases hk:lk u (Uy l ts)with
    | none=>rfl
    | some v=>rw[QU hk]at hx;cases hx
  have hm:t ∈ ts:=(List.mem_cons.1 h).resolve_left (fun e2=>e e2.symm)
  split
  . simp only[lk,J6 e]
    exact Jfb hm
  exact Jfb hm
def JjV(ts ids:List Nat)(S:AS):AS:=⟨Uy S.s ts,Uy S.b ids,S.n⟩
theorem Jav{ts ids:List Nat}{S:AS}{id:Nat}{x:ABlk}(h:Jl (JjV ts ids S) id=x)(hx:x ≠ .dead):Jl S id=x:=by
 unfold Jl Jw at h ⊢
 show(lk id S.b).getD .dead=x
 have h:(lk id (Uy S.b ids)).getD .dead=x:=h
 cases hk:lk id (Uy S.b ids)with
 | none=>rw[hk]at h;exact absurd h.symm hx
 | some v=>rw[hk]at h;rw[QU hk];exact h
theorem JnL{x:ABlk}(h:x.alive):x ≠ .dead:=fun e=>by rw[e]at h;exact h
theorem Jdj{x:ABlk}(h:x.tracey):x ≠ .dead:=fun e=>by rw[e]at h;exact h
theorem Jnb(E:SE)(S:AS){ts ids:List Nat}(hA:(E.A.all fun i=>inA ids i)=true):Imp E S (JjV ts ids S):=fun _ _ _ ⟨hwf,X,ρ,hg,hr⟩ =>
 have hB:∀ id,(Jl (JjV ts ids S) id).alive->Jl (JjV ts ids S) id=Jl S id:=fun _ ha=>(Jav rfl (JnL ha)).symm
 ⟨⟨fun t av ht=>hwf.slots t av (QU ht),fun i ha=>hwf.alive i (hB i ha ▸ ha),fun i ha=>hB i ha ▸ hwf.blks i (hB i ha ▸ ha),fun ht=>hwf.zero (by rw[Jav rfl (Jdj ht)];exact ht)⟩,X,ρ,hg,
   hr.weaken (fun _ _ ht=>QU ht) hB (fun x h ht=>Jav h (Jdj ht)) (fun i hi=>by
    obtain⟨j,hj,e⟩:=List.any_eq_true.1 (List.all_eq_true.1 hA i hi)
    have e:=Kc e
    subst e
    show(lk j (Uy S.b ids)).getD .dead=(lk j S.b).getD .dead
    rw[Jfb hj])⟩
inductive GS where
 | drop(c:Nat)(ex:List Nat)
 | kill(id:Nat)
 | bound(n:Nat)
 | frz(id:Nat)
 | own(t e k:Nat)
 | nil(t k:Nat)
 | ren(x y:Nat)
 | keep(ts ids:List Nat)
 | frz2(id:Nat)
 | ownb(i j e k:Nat)
 | reno(t x:Nat)
 | frzo(t:Nat)
 | frzc(i j:Nat)
 | renc(i j x:Nat)
 | nilb(i j k:Nat)
def idOf:Option AV->Option Nat
 | some (.own id _)=>some id
 | some (.ptr id _)=>some id
 | _=>none
def cellF(S:AS)(i j:Nat):Option AV:=match Jl S i with
 | .box c=>some (nth c j)
 | _=>none
def gs1(A:List Nat):GS->AS->Option AS
 | .drop c ex,S=>some (Jnr c ex S)
 | .kill id,S=>if inA A id then none else some (Vz id S)
 | .bound n,S=>setN n S
 | .frz id,S=>frzS A id S
 | .own t e k,S=>JjY t e k S
 | .nil t k,S=>JqW t k S
 | .ren x y,S=>renS A x y S
 | .keep ts ids,S=>if A.all (fun i=>inA ids i)then some (JjV ts ids S)else none
 | .frz2 id,S=>Jh3 A id S
 | .ownb i j e k,S=>ownB i j e k S
 | .nilb i j k,S=>nilB i j k S
 | .reno t x,S=>match idOf (Jy S t)with
  | some id=>if id.beq x then some S else renS A x id S
  | none=>none
 | .frzo t,S=>match idOf (Jy S t)with
  | some id=>Jh3 A id S
  | none=>none
 | .frzc i j,S=>match idOf (cellF S i j)with
  | some id=>Jh3 A id S
  | none=>none
 | .renc i j x,S=>match idOf (cellF S i j)with
  | some id=>if id.beq x then some S else renS A x id S
  | none=>none
def JaL(A:List Nat):List GS->AS->Option AS
 | [],S=>some S
 | g::l,S=>match gs1 A g S with
  | some S'=>JaL A l S'
  | none=>none
theorem JrH(E:SE){g:GS}{S S':AS}(h:gs1 E.A g S=some S'):Imp E S S':=by
 cases g with
 | drop c ex=>cases h;exact JcC E S c ex
 | kill id =>
  simp only[gs1]at h
  split at h
  . cases h
  rename_i hA
  cases h
  exact Jnf E S id (Bool.eq_false_iff.2 hA)
 | bound n=>exact Jna E h
 | frz id=>exact Jfh E h
 | own t e k=>exact Jh0 E h
 | nil t k=>exact JkJ E h
 | ren x y=>exact Jfg E h
 | frz2 id=>exact WQ E h
 | ownb i j e k=>exact Jnc E h
 | nilb i j k=>exact Jne E h
 | reno t x =>
  simp only[gs1]at h
  split at h
  . split at h
    . cases h;exact Imp.refl E S
    exact Jfg E h
  cases h
 | frzo t =>
  simp only[gs1]at h
  split at h
  . exact WQ E h
  cases h
 | frzc i j =>
  simp only[gs1]at h
  split at h
  . exact WQ E h
  cases h
 | renc i j x =>
  simp only[gs1]at h
  split at h
  . split at h
    . cases h;exact Imp.refl E S
    exact Jfg E h
  cases h
 | keep ts ids =>
  simp only[gs1]at h
  split at h
  . rename_i hA
    cases h
    exact Jnb E S hA
  cases h
theorem Qq(E:SE):∀ {l:List GS} {S S':AS},JaL E.A l S=some S'->Imp E S S'
 | [],S,S',h=>by cases h;exact Imp.refl E S
 | g::l,S,S',h=>by
  simp only[JaL]at h
  split at h
  . rename_i h1;exact(JrH E h1).trans (Qq E h)
  cases h
structure LA where
 pre:List GS
 post:List GS
 Gh:Type
 st:Gh->AS
 ok:Gh->Prop
 ms:Gh->Nat
 rel:Option (Gh->Gh->Prop):=none
 it:Option Nat:=none
 sx:Option (AS->Gh->AS):=none
def LA.sa(L:LA)(S0:AS):L.Gh->AS:=match L.sx with
 | none=>L.st
 | some f=>f S0
structure FA where
 X:Type
 xs:List X
 enc:X->List AV
 post:List GS
 Gh:Type
 st:Gh->AS
 ok:List X->Gh->Prop
structure BA where
 ra:Nat->RA
 gs:Nat->List GS
 la:Nat->Option LA
 fa:Option FA
 spec:Nat->List AV->Option AV
 bx:Nat->List GS:=fun _=>[]
 split:Nat->Nat:=fun _=>0
 cl:Operand->Bool:=fun _=>false
 cut:Nat->Option (AS->AS):=fun _=>none
 cs:Nat->Option (List ((AS->Prop) × (AS->AS))):=fun _=>none
 hs:Nat->List AV->List ABlk->Option AV:=fun _ _ _=>none
def Jjn(spec:Nat->List AV->Option AV)(an:An):Option (Nat × List AV)->An
 | some (f,args)=>match spec f args with
  | some r=>{ an with res:=r }
  | none=>an
 | none=>an
def JfB(G:List (Nat × List AV))(S:AS)(o:Oper):Option (Nat × List AV) :=
 if JhW o.op then match QT o.op with
  | some xs=>match QW G (Jy S) xs with
   | some ins=>VL S.b (ins.map JiE)
   | none=>none
  | none=>none
 else none
def Jfi(G:List (Nat × List AV))(S:AS)(o:Oper):Option (Nat × List AV × List ABlk) :=
 if JhW o.op then match QT o.op with
  | some xs=>match QW G (Jy S) xs with
   | some ins=>Wc S.b (ins.map JiE)
   | none=>none
  | none=>none
 else none
def Jcf(hs:Nat->List AV->List ABlk->Option AV)(spec:Nat->List AV->Option AV)(an:An)(t:Option (Nat × List AV)):Option (Nat × List AV × List ABlk)->An
 | some (f,args,bs)=>match hs f args bs with
  | some r=>{ an with res:=r }
  | none=>Jjn spec an t
 | none=>Jjn spec an t
def fillA(G:List (Nat × List AV))(T:TT)(nt:Nat)(ops:Array Oper)(hs:Nat->List AV->List ABlk->Option AV)(spec:Nat->List AV->Option AV):List An->List Oper->AS->List An
 | _,[],_=>[]
 | ans,o::l,S =>
  let an:=Jcf hs spec (ans.headD {}) (JfB G S o) (Jfi G S o)
  match Ui G T nt S.n an ops o (Jy S) S.b with
  | some (e,_,_)=>an::fillA G T nt ops hs spec ans.tail l (QO e S)
  | none=>[]
def andC:List Cd->Prop->Prop
 | [],p=>p
 | c::l,p=>c.p/\andC l p
def Wx:Bool->Prop->Prop
 | true,p=>p
 | false,_=>True
theorem impB_iff{g:Bool}{p:Prop}:Wx g p ↔ (g=true->p):=by
 cases g <;> simp[Wx]
def oblP(E:SE)(ob:GObl):Prop:=Wx ob.g (ob.o.ok E.P E.G E.L)
def andO(E:SE):List GObl->Prop->Prop
 | [],p=>p
 | ob::l,p=>oblP E ob/\andO E l p
theorem JfC:∀ {l:List Cd} {p:Prop},andC l p->All l/\p
 | [],_,h=>⟨trivial,h⟩
 | ⟨_,_⟩::_,_,h=>⟨⟨h.1,(JfC h.2).1⟩,(JfC h.2).2⟩
theorem Jls{E:SE}:∀ {l:List GObl} {p:Prop},andO E l p->(∀ ob,ob ∈ l->ob.g=true->ob.o.ok E.P E.G E.L)/\p
 | [],_,h=>⟨by simp,h⟩
 | ob::l,_,h=>by
  obtain⟨h1,h2⟩:=Jls h.2
  refine⟨fun o ho=>?_,h2⟩
  rcases List.mem_cons.1 ho with rfl | ho
  . exact impB_iff.1 h.1
  exact h1 o ho
def Jro(E:SE)(B:BA)(id:Nat)(ops:Array Oper)(draw:Bool)(ans:List An)(S:AS)(R:AS->Prop):Prop :=
 match UP E.G E.T E.nt ops (fillA E.G E.T E.nt ops B.hs B.spec ans ops.toList S) ops.toList S with
 | some (es,cs,obs)=>match !draw || JgZ E.G ops es S with
  | true=>match JaL E.A (B.gs id) (Jnr (B.ra id).c (B.ra id).ex (JiJ es S))with
   | some S2=>andC cs (andO E obs (R S2))
   | none=>False
  | false=>False
 | none=>False
def valAt(G:List (Nat × List AV))(T:TT)(nt:Nat)(ops:Array Oper)(hs:Nat->List AV->List ABlk->Option AV)(spec:Nat->List AV->Option AV):Nat->List An->List Oper->AS->Option AV
 | _,_,[],_=>none
 | 0,ans,o::_,S=>match Ui G T nt S.n (Jcf hs spec (ans.headD {}) (JfB G S o) (Jfi G S o)) ops o (Jy S) S.b with
  | some (e,_,_)=>e.v
  | none=>none
 | k+1,ans,o::l,S=>match Ui G T nt S.n (Jcf hs spec (ans.headD {}) (JfB G S o) (Jfi G S o)) ops o (Jy S) S.b with
  | some (e,_,_)=>valAt G T nt ops hs spec k ans.tail l (QO e S)
  | none=>none
def insN(k:Nat):List Nat->List Nat
 | []=>[k]
 | x::l=>if k.beq x then x::l else if k.blt x then k::x::l else x::insN k l
def WR:List Oper->List Nat
 | []=>[]
 | o::l=>match o.guard with
  | some (j,_)=>insN j (WR l)
  | none=>WR l
def Jgi(b:Bool):Nat->List An->List An
 | 0,[]=>[{ rd:=fun _=>some (.bool b) }]
 | 0,a::l=>{ a with rd:=fun _=>some (.bool b) }::l
 | k+1,[]=>{}::Jgi b k []
 | k+1,a::l=>a::Jgi b k l
def Jl3(E:SE)(B:BA)(id:Nat)(ops:Array Oper)(draw:Bool)(S:AS)(R:AS->Prop):List Nat->List An->Prop
 | [],ans=>Jro E B id ops draw ans S R
 | k::ks,ans=>match valAt E.G E.T E.nt ops B.hs B.spec k ans ops.toList S with
  | some (.bool c)=>(c=true->Jl3 E B id ops draw S R ks (Jgi true k ans))/\(c=false->Jl3 E B id ops draw S R ks (Jgi false k ans))
  | _=>Jl3 E B id ops draw S R ks ans
def Jo8(E:SE)(B:BA)(id:Nat)(ops:Array Oper)(draw:Bool)(S:AS)(R:AS->Prop):Prop :=
 match B.split id with
 | 0=>Jro E B id ops draw (B.ra id).ans S R
 | 1=>Jl3 E B id ops draw S R (WR ops.toList) ((B.ra id).ans.map fun a=>{ a with sym:=false })
 | _=>Jl3 E B id ops draw S R (WR ops.toList++[ops.toList.length-1]) ((B.ra id).ans.map fun a=>{ a with sym:=false })
def rndV(A:List Nat)(F:FA)(S:AS)(pre:List F.X)(x:F.X)(Q:Exit->AS->Prop):Exit->AS->Prop
 | .normal,S'=>match JaL A F.post S' with
  | some S2=>JaH (Jl S2 0)=false/\∃ g':F.Gh,F.ok (pre++[x]) g'/\AS.mk S.s S2.b S2.n=F.st g'
  | none=>False
 | .ret,S'=>JaH (Jl S' 0)=false/\Q .ret ⟨S.s,S'.b,S'.n⟩
 | .exit id,S'=>JaH (Jl S' 0)=false/\Q (.exit id) ⟨S.s,S'.b,S'.n⟩
 | _,_=>False
def bxQ(E:SE)(B:BA)(id:Nat)(Q:Exit->AS->Prop):Exit->AS->Prop
 | .exit id',S=>if id'=id then match JaL E.A (B.bx id) S with
  | some S2=>Q .normal S2
  | none=>False
  else Q (.exit id') S
 | .normal,S=>match JaL E.A (B.bx id) S with
  | some S2=>Q .normal S2
  | none=>False
 | e,S=>Q e S
theorem bxQ_ok{E:SE}{B:BA}{id:Nat}{Q:Exit->AS->Prop}{e:Exit}{S:AS}(h:bxQ E B id Q e S):∃ S',Imp E S S'/\inQ id Q e S':=by
 cases e with
 | exit id' =>
  simp only[bxQ]at h
  split at h
  . rename_i e1
    split at h
    . rename_i S2 h2
      exact⟨S2,Qq E h2,by simp only[inQ,if_pos e1];exact h⟩
    exact h.elim
  rename_i e1
  exact⟨S,Imp.refl E S,by simp only[inQ,if_neg e1];exact h⟩
 | normal =>
  simp only[bxQ]at h
  split at h
  . rename_i S2 h2
    exact⟨S2,Qq E h2,h⟩
  exact h.elim
 | _=>exact⟨S,Imp.refl E S,h⟩
def JjF(id:Nat)(x:ABlk):BL->BL
 | []=>[]
 | (i,b)::l=>if i.beq id then(i,x)::l else(i,b)::JjF id x l
theorem U8{id:Nat}{x:ABlk}:∀ {l:BL},lk id l=some x->JjF id x l=l
 | (i,b)::l,h=>by
  simp only[lk]at h
  simp only[JjF]
  split
  . rename_i e
    rw[if_pos e]at h
    cases h
    rfl
  rename_i e
  rw[if_neg e]at h
  rw[U8 h]
def itV(it:Option Nat)(S:AS)(R:AS->Prop):Prop :=
 match it with
 | none=>R S
 | some id=>match lk id S.b with
  | some (.iter l pos)=>(∀ c r,l=c::r->R ⟨S.s,JjF id (.iter (c::r) pos) S.b,S.n⟩)/\(l=[]->R ⟨S.s,JjF id (.iter [] pos) S.b,S.n⟩)
  | _=>False
theorem Jpk{it:Option Nat}{S:AS}{R:AS->Prop}(h:itV it S R):R S:=by
 unfold itV at h
 split at h
 . exact h
 rename_i id
 split at h
 . rename_i l pos hl
   cases l with
   | nil =>
    have:=h.2 rfl
    rw[U8 hl]at this
    exact this
   | cons c r =>
    have:=h.1 c r rfl
    rw[U8 hl]at this
    exact this
 exact h.elim
def orC(S:AS):List ((AS->Prop) × (AS->AS))->AS->Prop
 | [],_=>False
 | x::l,S2=>(x.1 S/\S2=x.2 S) ∨ orC S l S2
def allS(S:AS):List ((AS->Prop) × (AS->AS))->(AS->Prop)->Prop
 | [],_=>True
 | x::l,R=>(x.1 S->R (x.2 S))/\allS S l R
theorem Jj0{S S2:AS}{R:AS->Prop}:∀ {l:List ((AS->Prop) × (AS->AS))},orC S l S2->allS S l R->R S2
 | [],h,_=>h.elim
 | _::_,h,h2=>by
  rcases h with⟨h,rfl⟩ | h
  . exact h2.1 h
  exact Jj0 h h2.2
def VC(E:SE)(B:BA):Nat->Nat->Code->AS->(Exit->AS->Prop)->Prop
 | 0,_,_,_,_=>False
 | n+1,bl,c,S,Q =>
  match c with
  | .skip=>Q .normal S
  | .label _=>Q .normal S
  | .ret=>Q .ret S
  | .exit id=>Q (.exit id) S
  | .region id ops draw=>match B.cut id with
   | none=>match B.cs id with
    | none=>Jo8 E B id ops draw S (Q .normal)
    | some l=>Jo8 E B id ops draw S (fun S2=>orC S l S2)/\allS S l (Q .normal)
   | some f=>Jo8 E B id ops draw S (fun S2=>S2=f S)/\Q .normal (f S)
  | .seq x y=>VC E B n bl x S (U1 (fun S'=>VC E B n bl y S' Q) Q)
  | .cond c x y =>
   match Je1 E.G (Jy S) c with
   | some (.bool b)=>match B.cl c with
    | false=>(b=true->VC E B n bl x S Q)/\(b=false->VC E B n bl y S Q)
    | true=>match b with
     | true=>VC E B n bl x S Q
     | false=>VC E B n bl y S Q
   | some (.yb l k neg)=>match Jl S 0 with
    | .trace l' rows=>l'=l/\rows.length=k/\VC E B n bl (if neg then y else x) (WC (.ready l rows) S) Q/\VC E B n bl (if neg then x else y) (WC (.stop l) S) Q
    | _=>False
   | _=>False
  | .block id b=>VC E B n id b S (bxQ E B id Q)
  | .scope b=>VC E B n bl b S (fun e S'=>match e with
   | .goto _=>False
   | e=>Q e S')
  | .loop b =>
   match B.la bl with
   | some L=>match JaL E.A L.pre S with
    | some S0=>match L.rel with
     | none=>(∃ g:L.Gh,L.ok g/\S0=L.sa S0 g)/\∀ g:L.Gh,L.ok g →
       itV L.it (L.sa S0 g) fun SI=>VC E B n bl b SI (U1 (fun S'=>match JaL E.A L.post S' with
        | some S2=>∃ g':L.Gh,L.ok g'/\L.ms g' < L.ms g/\S2=L.sa S0 g'
        | none=>False) Q)
     | some r=>∃ g0:L.Gh,L.ok g0/\r g0 g0/\S0=L.sa S0 g0/\∀ g:L.Gh,L.ok g->r g0 g →
       itV L.it (L.sa S0 g) fun SI=>VC E B n bl b SI (U1 (fun S'=>match JaL E.A L.post S' with
        | some S2=>∃ g':L.Gh,L.ok g'/\r g0 g'/\L.ms g' < L.ms g/\S2=L.sa S0 g'
        | none=>False) Q)
    | none=>False
   | none=>VC E B n bl b S (U1 (fun S'=>VC E B n bl (.loop b) S' Q) Q)
  | .rangeFunc f ps assign body =>
   match B.fa with
   | some F=>match rfSt E f ps S with
    | some (gf,cap,S1) =>
     PSeqX E.P E.G gf cap (F.xs.map F.enc)/\(∀ x:F.X,(F.enc x).length=ps.size) /\
     (∃ g:F.Gh,F.ok [] g/\S1=F.st g) /\
     (∀ (pre:List F.X) (x:F.X) (post:List F.X) (g:F.Gh),F.xs=pre++x::post->F.ok pre g →
      VC (E.rnd (Vd S1.b)) B n bl assign ⟨UV ps.toList (F.enc x) S1.s,(F.st g).b,(F.st g).n⟩ (fun e S2=>e=.normal/\JaH (Jl S2 0)=false /\
       VC (E.rnd (Vd S1.b)) B n bl body S2 (rndV (Vd S1.b) F S1 pre x Q))) /\
     (∀ g:F.Gh,F.ok F.xs g->Q .normal (F.st g))
    | none=>False
   | none=>False
  | _=>False
theorem Jej{p q:Prop}(h:p->q):∀ {l:List Cd},andC l p->andC l q
 | [],h1=>h h1
 | _::_,h1=>⟨h1.1,Jej h h1.2⟩
theorem Jei{E:SE}{p q:Prop}(h:p->q):∀ {l:List GObl},andO E l p->andO E l q
 | [],h1=>h h1
 | _::_,h1=>⟨h1.1,Jei h h1.2⟩
theorem Jdz{E:SE}{B:BA}{id:Nat}{ops:Array Oper}{draw:Bool}{ans:List An}{S:AS}{R R':AS->Prop}(hR:∀ S,R S->R' S)(h:Jro E B id ops draw ans S R):Jro E B id ops draw ans S R':=by
 unfold Jro at h ⊢
 split at h
 . rename_i es cs obs he
   split at h
   . rename_i hd
     split at h
     . rename_i S2 hg
       exact Jej (Jei (hR S2)) h
     exact h.elim
   exact h.elim
 exact h.elim
theorem Vt{E:SE}{B:BA}{id:Nat}{ops:Array Oper}{draw:Bool}{S:AS}{R R':AS->Prop}(hR:∀ S,R S->R' S):∀ {ks:List Nat} {ans:List An},Jl3 E B id ops draw S R ks ans->Jl3 E B id ops draw S R' ks ans
 | [],_,h=>Jdz hR h
 | k::ks,ans,h=>by
  unfold Jl3 at h ⊢
  split at h
  . rename_i c hc
    exact⟨fun e=>Vt hR (h.1 e),fun e=>Vt hR (h.2 e)⟩
  exact Vt hR h
theorem JdA{E:SE}{B:BA}{id:Nat}{ops:Array Oper}{draw:Bool}{S:AS}{R R':AS->Prop}(hR:∀ S,R S->R' S)(h:Jo8 E B id ops draw S R):Jo8 E B id ops draw S R':=by
 unfold Jo8 at h ⊢
 split at h
 . exact Jdz hR h
 . exact Vt hR h
 exact Vt hR h
theorem JjJ{E:SE}(hE:E.OK){B:BA}{id:Nat}{ops:Array Oper}{draw:Bool}{ans:List An}{S:AS}{Q:Exit->AS->Prop}(h:Jro E B id ops draw ans S (Q .normal)):Tri E (.region id ops draw) S Q:=by
 unfold Jro at h
 split at h
 . rename_i es cs obs he
   split at h
   . rename_i hd
     split at h
     . rename_i S2 hg
       obtain⟨h1,h2⟩:=JfC h
       obtain⟨h3,h4⟩:=Jls h2
       refine Imp.post (Jby hE (Q:=Jfm .normal (JiJ es S)) he h1 (fun ob hm hob=>h3 ob hm hob) (fun e=>?_) ⟨rfl,rfl⟩) fun e S' ⟨g1,g2⟩=>?_
       . subst e;simpa using hd
       subst g1;subst g2
       exact⟨S2,(JcC E _ _ _).trans (Qq E hg),h4⟩
     exact h.elim
   exact h.elim
 exact h.elim
theorem Jas{E:SE}(hE:E.OK){B:BA}{id:Nat}{ops:Array Oper}{draw:Bool}{S:AS}{Q:Exit->AS->Prop}:∀ {ks:List Nat} {ans:List An},Jl3 E B id ops draw S (Q .normal) ks ans->Tri E (.region id ops draw) S Q
 | [],_,h=>JjJ hE h
 | k::ks,ans,h=>by
  simp only[Jl3]at h
  split at h
  . rename_i c hc
    cases c with
    | true=>exact Jas hE (h.1 rfl)
    | false=>exact Jas hE (h.2 rfl)
  exact Jas hE h
theorem JeT{E:SE}(hE:E.OK){B:BA}{id:Nat}{ops:Array Oper}{draw:Bool}{S:AS}{Q:Exit->AS->Prop}(h:Jo8 E B id ops draw S (Q .normal)):Tri E (.region id ops draw) S Q:=by
 unfold Jo8 at h
 split at h
 . exact JjJ hE h
 . exact Jas hE h
 exact Jas hE h
theorem Jbf:∀ (n:Nat) {E:SE} (_:E.OK) {B:BA} (bl:Nat) (c:Code) (S:AS) (Q:Exit->AS->Prop),VC E B n bl c S Q->Tri E c S Q
 | 0,_,_,_,_,_,_,_,h=>h.elim
 | n+1,E,hE,B,bl,c,S,Q,h=>by
  have ih:=fun bl c S Q=>Jbf n hE (B:=B) bl c S Q
  cases c with
  | skip=>exact Jf7 h
  | label l=>exact Jdh h
  | ret=>exact Ji8 h
  | exit id=>exact Jf8 h
  | region id ops draw =>
   simp only[VC]at h
   split at h
   . split at h
     . exact JeT hE h
     rename_i l hl
     refine(JeT hE (Q:=fun e S2=>e=.normal/\orC S l S2) (B:=B) (JdA (fun S2 h2=>⟨rfl,h2⟩) h.1)).mono fun e S2 ⟨h1,h2⟩=>?_
     subst h1
     exact Jj0 h2 h.2
   rename_i f hf
   refine(JeT hE (Q:=fun e S2=>e=.normal/\S2=f S) (B:=B) (JdA (fun S2 h2=>⟨rfl,h2⟩) h.1)).mono fun e S2 ⟨h1,h2⟩=>?_
   subst h1;subst h2
   exact h.2
  | seq x y=>exact JeB _ (ih bl x S _ h) fun S' hS'=>ih bl y S' Q hS'
  | cond c x y =>
   simp only[VC]at h
   split at h
   . rename_i b hb
     split at h
     . exact WJ hb (fun e=>ih bl x S Q (h.1 e)) (fun e=>ih bl y S Q (h.2 e))
     cases b with
     | true=>exact WJ hb (fun _=>ih bl x S Q h) (fun e=>by cases e)
     | false=>exact WJ hb (fun e=>by cases e) (fun _=>ih bl y S Q h)
   . rename_i l k neg hb
     split at h
     . rename_i l' rows hB
       obtain⟨rfl,h2,h3,h4⟩:=h
       exact JhA hb hB h2 (ih bl _ _ Q h3) (ih bl _ _ Q h4)
     exact h.elim
   exact h.elim
  | block id b=>exact Jdi (Imp.post (ih id b S _ h) fun e S' hq=>bxQ_ok hq)
  | scope b =>
   simp only[VC]at h
   refine(Jdg (ih bl b S _ h) (fun l S' hq=>hq)).mono fun e S' hq=>?_
   cases e with
   | goto l=>exact hq.elim
   | _=>exact hq
  | loop b =>
   simp only[VC]at h
   split at h
   . rename_i L hL
     split at h
     . rename_i S0 h0
       split at h
       . rename_i hrel
         obtain⟨⟨g0,hg0,hs0⟩,hround⟩:=h
         refine Imp.pre (Qq E h0) (WI (fun k T=>∃ g:L.Gh,L.ok g/\L.ms g=k/\T=L.sa S0 g) (fun k T ⟨g,h1,h2,h3⟩=>?_) (n:=L.ms g0) ⟨g0,hg0,rfl,hs0⟩)
         subst h2;subst h3
         refine Imp.post (ih bl b (L.sa S0 g) _ (Jpk (R:=fun SI=>VC E B n bl b SI _) (hround g h1))) fun e S' hS'=>?_
         cases e with
         | normal =>
          simp only[U1]at hS'
          split at hS'
          . rename_i S2 h2
            obtain⟨g',h3,h4,h5⟩:=hS'
            exact⟨S2,Qq E h2,L.ms g',h4,g',h3,rfl,h5⟩
          exact hS'.elim
         | _=>exact⟨S',Imp.refl E S',hS'⟩
       rename_i r hrel
       obtain⟨g0,hg0,hr0,hs0,hround⟩:=h
       refine Imp.pre (Qq E h0) (WI (fun k T=>∃ g:L.Gh,L.ok g/\r g0 g/\L.ms g=k/\T=L.sa S0 g) (fun k T ⟨g,h1,h1',h2,h3⟩=>?_) (n:=L.ms g0) ⟨g0,hg0,hr0,rfl,hs0⟩)
       subst h2;subst h3
       refine Imp.post (ih bl b (L.sa S0 g) _ (Jpk (R:=fun SI=>VC E B n bl b SI _) (hround g h1 h1'))) fun e S' hS'=>?_
       cases e with
       | normal =>
        simp only[U1]at hS'
        split at hS'
        . rename_i S2 h2
          obtain⟨g',h3,h3',h4,h5⟩:=hS'
          exact⟨S2,Qq E h2,L.ms g',h4,g',h3,h3',rfl,h5⟩
        exact hS'.elim
       | _=>exact⟨S',Imp.refl E S',hS'⟩
     exact h.elim
   refine WI (fun k T=>k<=n+1/\VC E B k bl (.loop b) T Q) (fun k T ⟨hk,hJ⟩=>?_) (n:=n+1) ⟨Kr _,by simp only[VC];split;rename_i hL;simp_all;exact h⟩
   match k,hk,hJ with
   | k+1,hk,hJ =>
    simp only[VC]at hJ
    split at hJ
    . simp_all
    exact(Jbf k hE (B:=B) bl b T _ hJ).mono fun e S' hS'=>by
     cases e with
     | normal=>exact⟨k,by omega,by omega,hS'⟩
     | _=>exact hS'
  | rangeFunc f ps assign body =>
   simp only[VC]at h
   split at h
   . rename_i F hF
     split at h
     . rename_i gf cap Sb hrf
       obtain⟨h1,h2,⟨g0,hg0,hst⟩,h3,h4⟩:=h
       obtain⟨Sa,hS,hgc,hwf,hrs,b1,b2,b4,b6,hA,hsl⟩:=JjD hrf h1
       refine Imp.pre hS (V5 b1 b2 hgc hwf hrs b6 hA hsl b4 (fun x hx=>?_)
             (fun rows S1=>∃ p q g,F.xs=p++q/\rows=p.map F.enc/\F.ok p g/\S1=F.st g) ⟨[],F.xs,g0,rfl,rfl,hg0,hst⟩ (fun pre x post S1 hL hj=>?_) (fun S1 hj=>?_))
       . obtain⟨y,_,rfl⟩:=List.mem_map.1 hx
         exact h2 y
       . obtain⟨p,q,g,hxs,rfl,hok,rfl⟩:=hj
         rw[hxs,Db]at hL
         have hq:=List.append_cancel_left hL
         cases q with
         | nil=>cases hq
         | cons y q =>
          simp only[List.map_cons,List.cons.injEq]at hq
          obtain⟨rfl,rfl⟩:=hq
          refine(Jbf n (Jgl hE _) bl _ _ _ (h3 p y q g hxs hok)).mono fun e S2 ⟨g1,g2,g3⟩=>⟨g1,g2,?_⟩
          refine Imp.post (Jbf n (Jgl hE _) bl _ _ _ g3) fun e S3 hS3=>?_
          cases e with
          | normal =>
           simp only[rndV]at hS3
           split at hS3
           . rename_i S4 hS4
             obtain⟨k1,g',k2,k3⟩:=hS3
             exact⟨S4,Qq _ hS4,k1,p++[y],q,g',by rw[hxs];simp,by simp,k2,k3⟩
           exact hS3.elim
          | ret=>exact⟨S3,Imp.refl _ _,hS3⟩
          | exit id=>exact⟨S3,Imp.refl _ _,hS3⟩
          | _=>exact hS3.elim
       obtain⟨p,q,g,hxs,hL,hok,rfl⟩:=hj
       have hq:q=[]:=by
        have:=congrArg List.length hL
        rw[hxs]at this
        simp at this
        exact this
       subst hq
       refine h4 g ?_
       rw[hxs,List.append_nil]
       exact hok
     exact h.elim
   exact h.elim
  | _=>exact h.elim
def Jo6(T:TT)(fn:Func)(R:AV->Prop):Exit->AS->Prop
 | .normal,S=>match JaH (Jl S 0)with
  | true=>False
  | false=>match Jo5 T fn S with
   | some r=>R r
   | none=>False
 | .ret,S=>match JaH (Jl S 0)with
  | true=>False
  | false=>match Jo5 T fn S with
   | some r=>R r
   | none=>False
 | _,_=>False
theorem Jic{P:Program}{T:TT}{G:List (Nat × List AV)}{f:Nat}{fn:Func}{body:Code}{args:List AV}{r:AV}(hT:TOK P T)(hm:P.follows .mixedOrders=true)(hf:P.funcs[f]?=some fn)(hb:fn.body=some body)
 (hn : (fn.name == "runtime.NumGoroutine") = false) (hlen : args.length ≤ fn.ntmps) (B : BA)
 (h:VC (Qh P T G fn.ntmps []) B 10000 0 body (Jae args) (Jo6 T fn fun v=>v=r)):PCall P G f args r:=by
 have hE:(Qh P T G fn.ntmps []).OK:=⟨hT,hm⟩
 refine Xw hE hf hb hn hlen ((Jbf _ hE _ _ _ _ h).mono fun e S' hq=>?_)
 cases e with
 | normal =>
  simp only[Jo6]at hq
  split at hq
  · exact hq.elim
  rename_i h1
  split at hq
  · rename_i hr;subst hq;exact⟨.inl rfl,h1,hr⟩
  exact hq.elim
 | ret =>
  simp only[Jo6]at hq
  split at hq
  · exact hq.elim
  rename_i h1
  split at hq
  · rename_i hr;subst hq;exact⟨.inr rfl,h1,hr⟩
  exact hq.elim
 | _=>exact hq.elim
def seqQ(l:Nat)(L:List (List AV)):Exit->AS->Prop
 | .normal,S=>Jl S 0=.ready l L ∨ Jl S 0=.stop l
 | .ret,S=>Jl S 0=.ready l L ∨ Jl S 0=.stop l
 | _,_=>False
theorem Jjv{P:Program}{T:TT}{G:List (Nat × List AV)}{f:Nat}{fn:Func}{body:Code}{cap:List AV}{L:List (List AV)}(hT:TOK P T)(hm:P.follows .mixedOrders=true)(hf:P.funcs[f]?=some fn)(hb:fn.body=some body)
 (hn : (fn.name == "runtime.NumGoroutine") = false) (hlen : cap.length + 1 ≤ fn.ntmps) (hres : fn.results.toList = []) (B : Nat → BA)
 (h:∀ l,VC (Qh P T G fn.ntmps L) (B l) 10000 0 body (Jgd l cap) (seqQ l L)):PSeq P G f cap L:=by
 have hE:(Qh P T G fn.ntmps L).OK:=⟨hT,hm⟩
 refine JeI hf hb hn hlen hres fun l=>(Jbf _ hE _ _ _ _ (h l)).mono fun e S' hq=>?_
 cases e with
 | normal=>exact⟨.inl rfl,hq⟩
 | ret=>exact⟨.inr rfl,hq⟩
 | _=>exact hq.elim
theorem JhE{P:Program}{T:TT}{G:List (Nat × List AV)}{f:Nat}{fn:Func}{body:Code}{cells:List AV}{L:List (List AV)}(hT:TOK P T)(hm:P.follows .mixedOrders=true)(hf:P.funcs[f]?=some fn)(hb:fn.body=some body)
 (hn : (fn.name == "runtime.NumGoroutine") = false) (hlen : 2 ≤ fn.ntmps) (hres : fn.results.toList = []) (B : Nat → BA)
 (h:∀ l,VC (Qh P T G fn.ntmps L) (B l) 10000 0 body (Q1 l cells) (seqQ l L)):PSeqB P G f cells L:=by
 have hE:(Qh P T G fn.ntmps L).OK:=⟨hT,hm⟩
 refine Jdr hf hb hn hlen hres fun l=>(Jbf _ hE _ _ _ _ (h l)).mono fun e S' hq=>?_
 cases e with
 | normal=>exact⟨.inl rfl,hq⟩
 | ret=>exact⟨.inr rfl,hq⟩
 | _=>exact hq.elim
def JmF(T:TT)(fn:Func)(k:Nat)(r:AV)(fin:List ABlk):Exit->AS->Prop
 | .normal,S=>match retW T fn k S with
  | some (r',fin')=>r'=r/\fin'=fin
  | none=>False
 | .ret,S=>match retW T fn k S with
  | some (r',fin')=>r'=r/\fin'=fin
  | none=>False
 | _,_=>False
theorem Jfz{P:Program}{T:TT}{G:List (Nat × List AV)}{f:Nat}{fn:Func}{body:Code}{args:List AV}{bs:List ABlk}{r:AV}{fin:List ABlk}(hT:TOK P T)(hm:P.follows .mixedOrders=true)(hf:P.funcs[f]?=some fn)(hb:fn.body=some body)
 (hn : (fn.name == "runtime.NumGoroutine") = false) (hlen : args.length ≤ fn.ntmps) (hwf : wfB (bs.length + 1) (Jad args bs) = true) (B : BA)
 (h:VC (Qh P T G fn.ntmps []) B 10000 0 body (Jad args bs) (JmF T fn bs.length r fin)):WCall P G f args bs r fin:=by
 have hE:(Qh P T G fn.ntmps []).OK:=⟨hT,hm⟩
 refine JcV hE hf hb hn hlen hwf ((Jbf _ hE _ _ _ _ h).mono fun e S' hq=>?_)
 cases e with
 | normal =>
  simp only[JmF]at hq
  split at hq
  · rename_i r' fin' h1
    obtain⟨rfl,rfl⟩:=hq
    exact⟨.inl rfl,h1⟩
  exact hq.elim
 | ret =>
  simp only[JmF]at hq
  split at hq
  · rename_i r' fin' h1
    obtain⟨rfl,rfl⟩:=hq
    exact⟨.inr rfl,h1⟩
  exact hq.elim
 | _=>exact hq.elim
def VB:Code->List Code
 | .seq a b=>VB a++VB b
 | c=>[c]
def JuH(E:SE)(Q:Exit->AS->Prop):List Code->AS->Prop
 | [],S=>Q .normal S
 | c::l,S=>Tri E c S (U1 (fun S'=>JuH E Q l S') Q)
theorem Ji9{E:SE}{Q:Exit->AS->Prop}:∀ (c:Code) (l:List Code) (S:AS),JuH E Q (VB c++l) S->Tri E c S (U1 (fun S'=>JuH E Q l S') Q):=by
 intro c
 induction c with
 | seq a b iha ihb =>
  intro l S h
  rw[VB,List.append_assoc]at h
  refine JeB (fun S'=>JuH E Q (VB b++l) S') ((iha _ _ h).mono fun e S' hq=>?_) (fun S' hs=>ihb _ _ hs)
  cases e <;> exact hq
 | _=>intro l S h;exact h
theorem JqN{E:SE}{Q:Exit->AS->Prop}{c:Code}{S:AS}(h:JuH E Q (VB c) S):Tri E c S Q :=
 (Ji9 c [] S (by rw[List.append_nil];exact h)).mono fun e S' hq=>by
  cases e <;> exact hq
def Jb5(A:List Nat)(g:List GS)(M:AS)(S:AS):Prop:=match JaL A g S with
 | some S2=>S2=M
 | none=>False
def JrU(f:AV->AV->Bool):List AV->List AV->Bool
 | [],[]=>true
 | a::l,b::m=>f a b && JrU f l m
 | _,_=>false
def eqRF(f:AV->AV->Bool):List (List AV)->List (List AV)->Bool
 | [],[]=>true
 | a::l,b::m=>JrU f a b && eqRF f l m
 | _,_=>false
def eqKd(a b:IntKind):Bool:=decide (a=b)
def eqV:Nat->AV->AV->Bool
 | 0,_,_=>false
 | n+1,a,b=>match a,b with
  | .int k x,.int k' y=>decide (x=y) && eqKd k k'
  | .bool x,.bool y=>x == y
  | .str l,.str m=>l == m
  | .agg l,.agg m=>JrU (eqV n) l m
  | .tup l,.tup m=>JrU (eqV n) l m
  | .sl k l,.sl k' m=>k.beq k' && eqRF (eqV n) l m
  | .elt k l i j,.elt k' m i' j'=>k.beq k' && (i.beq i' && (j.beq j' && eqRF (eqV n) l m))
  | .ex v,.ex w=>Qp v && Qp w
  | _,_=>false
theorem JaP{f:AV->AV->Bool}(hf:∀ a b,f a b=true->a=b):∀ {l m:List AV},JrU f l m=true->l=m
 | [],[],_=>rfl
 | a::l,b::m,h=>by
  simp only[JrU,Kd]at h
  rw[hf _ _ h.1,JaP hf h.2]
theorem Jfp{f:AV->AV->Bool}(hf:∀ a b,f a b=true->a=b):∀ {l m:List (List AV)},eqRF f l m=true->l=m
 | [],[],_=>rfl
 | a::l,b::m,h=>by
  simp only[eqRF,Kd]at h
  rw[JaP hf h.1,Jfp hf h.2]
theorem Jj9{v:Value}(h:Qp v=true):v=.slice none 0 0:=by
 unfold Qp at h
 split at h
 . rfl
 cases h
theorem Jpt:∀ {n:Nat} {a b:AV},eqV n a b=true->a=b
 | n+1,a,b,h=>by
  have ih:∀ a b,eqV n a b=true->a=b:=fun a b h=>Jpt h
  unfold eqV at h
  split at h
  . simp only[eqKd,Kd,Ko]at h
    rw[h.1,h.2]
  . rw[eq_of_beq h]
  . rw[eq_of_beq h]
  . rw[JaP ih h]
  . rw[JaP ih h]
  . simp only[Kd]at h
    rw[Kc h.1,Jfp ih h.2]
  . simp only[Kd]at h
    rw[Kc h.1,Kc h.2.1,Kc h.2.2.1,Jfp ih h.2.2.2]
  . simp only[Kd]at h
    rw[Jj9 h.1,Jj9 h.2]
  cases h
structure Mem where
 f:Nat
 a:List AV
 r:AV
def orcM:List Mem->Nat->List AV->Option AV
 | [],_,_=>none
 | m::l,f,a=>if m.f.beq f && JrU (eqV 40) m.a a then some m.r else orcM l f a
def KnownM(P:Program)(G:List (Nat × List AV))(l:List Mem):Prop:=∀ m,m ∈ l->PCall P G m.f m.a m.r
theorem KnownM.nil{P:Program}{G:List (Nat × List AV)}:KnownM P G []:=fun _ h=>by cases h
theorem KnownM.cons{P:Program}{G:List (Nat × List AV)}{l:List Mem}{f:Nat}{a:List AV}{r:AV}(h:PCall P G f a r)(hl:KnownM P G l):KnownM P G (⟨f,a,r⟩::l):=fun m hm=>by
 rcases List.mem_cons.1 hm with rfl | hm
 . exact h
 exact hl m hm
theorem KnownM.append{P:Program}{G:List (Nat × List AV)}{l m:List Mem}(hl:KnownM P G l)(hm:KnownM P G m):KnownM P G (l++m):=fun x hx=>by
 rcases List.mem_append.1 hx with h | h
 . exact hl x h
 exact hm x h
theorem JjZ{P:Program}{G:List (Nat × List AV)}:∀ {l:List Mem},KnownM P G l->∀ f a r,orcM l f a=some r->PCall P G f a r
 | [],_,_,_,_,h=>by cases h
 | m::l,hl,f,a,r,h=>by
  simp only[orcM]at h
  split at h
  . rename_i hb
    simp only[Kd]at hb
    cases h
    have h1:=Kc hb.1
    have h2:=JaP (fun _ _ h=>Jpt h) hb.2
    subst h1;subst h2
    exact hl m (by simp)
  exact JjZ (fun m hm=>hl m (by simp[hm])) f a r h
def Jll(P:Program)(T:TT)(G:List (Nat × List AV))(F:FT)(orc:Nat->List AV->Option AV)(sq:(Nat->List AV->Option AV)->Nat->List AV->Option (List (List AV)))(fu:Nat):Nat->Nat->List AV->Option AV
 | 0,_,_=>none
 | n+1,f,args =>
  match orc f args with
  | some r=>some r
  | none=>match lk f F with
   | some ra=>match Jrx f P.funcs.toList with
    | some fn=>match fn.body with
     | some body=>if args.length.ble fn.ntmps then
      match run (fun i=>(lk i ra).getD {}) (fun _ _ _=>none) (Jll P T G F orc sq fu n) (sq (Jll P T G F orc sq fu n)) fu (Qh P T G fn.ntmps []) body (Jae args)with
      | some (.normal,S')=>if JaH (Jl S' 0)then none else Jo5 T fn S'
      | some (.ret,S')=>if JaH (Jl S' 0)then none else Jo5 T fn S'
      | _=>none
      else none
     | none=>none
    | none=>none
   | none=>none
theorem Jg4{P:Program}{T:TT}{G:List (Nat × List AV)}{F:FT}{orc:Nat->List AV->Option AV}{sq:(Nat->List AV->Option AV)->Nat->List AV->Option (List (List AV))}{fu:Nat}(hT:TOK P T)(hm:P.follows .mixedOrders=true)(hF:FTOK P F)
 (ho:∀ f args r,orc f args=some r->PCall P G f args r)(hsq:∀ rec,(∀ f args r,rec f args=some r->PCall P G f args r)->∀ f cap L,sq rec f cap=some L->PSeqX P G f cap L):∀ (n f:Nat) (args:List AV) (r:AV),Jll P T G F orc sq fu n f args=some r->PCall P G f args r
 | 0,f,args,r,h=>by cases h
 | n+1,f,args,r,h=>by
  simp only[Jll]at h
  split at h
  . rename_i r' hr
    cases h
    exact ho f args _ hr
  split at h
  . rename_i ra hra
    split at h
    . rename_i fn hfn
      split at h
      . rename_i body hbody
        split at h
        . rename_i hlen
          have h1:P.funcs[f]?=some fn:=by simpa using Jj6 hfn
          obtain⟨u,hu,rfl⟩:=JaF hra
          have h3:=List.all_eq_true.1 hF _ hu
          simp only[Jpf,hfn,Kt]at h3
          have hE:(Qh P T G fn.ntmps []).OK:=⟨hT,hm⟩
          have hrec:=Jg4 (fu:=fu) hT hm hF ho hsq n
          split at h
          . rename_i S' hr
            split at h
            . cases h
            rename_i htr
            refine Xw hE h1 hbody h3 (Kl hlen) ((Jo3 (fun _ _ _ _ _ h=>by cases h) hrec (hsq _ hrec) _ _ _ _ _ _ hE rfl rfl hr).mono fun e S'' ⟨g1,g2⟩=>?_)
            subst g2
            exact⟨.inl g1,by simpa using htr,h⟩
          . rename_i S' hr
            split at h
            . cases h
            rename_i htr
            refine Xw hE h1 hbody h3 (Kl hlen) ((Jo3 (fun _ _ _ _ _ h=>by cases h) hrec (hsq _ hrec) _ _ _ _ _ _ hE rfl rfl hr).mono fun e S'' ⟨g1,g2⟩=>?_)
            subst g2
            exact⟨.inr g1,by simpa using htr,h⟩
          cases h
        cases h
      cases h
    cases h
  cases h
end Go.Av
namespace Go.Av
open Go Go.RowKit Go.ChangeShapes Go.WideShapes
def VJ:List (Nat × Nat × Nat)->Nat->Nat->Bool
 | [],off,tot=>off.beq tot
 | (o,_,s)::l,off,tot=>o.beq off && VJ l (off+s) tot
def J1(T:TT):Nat->Nat->Bool
 | 0,_=>false
 | n+1,t=>match lk t T with
  | some ti=>match ti.k with
   | .int _ | .bool | .str=>ti.size.beq 1
   | .slice e es _=>J1 T n e && !(es.beq 0) && ti.size.beq 1
   | .arr m e es=>J1 T n e && VJ ((List.range m).map fun i=>(i * es,e,es)) 0 ti.size
   | .struct fs=>fs.all (fun f=>J1 T n f.2.1) && VJ fs 0 ti.size
   | _=>false
  | none=>false
def Jau(T:TT):Nat->Nat->Bool
 | 0,_=>false
 | n+1,t=>match lk t T with
  | some ti=>match ti.k with
   | .int _ | .bool | .str=>true
   | .arr _ e _=>Jau T n e
   | .struct fs=>fs.all (fun f=>Jau T n f.2.1)
   | _=>false
  | none=>false
def ASh(T:TT):Nat->Nat->List AV->Prop
 | 0,_,_=>False
 | n+1,t,l=>match lk t T with
  | some ti=>match ti.k with
   | .int k=>∃ x,l=[.int k x]/\(Lit.int k x).wf=true
   | .bool=>∃ b,l=[.bool b]
   | .str=>∃ s,l=[.str s]/\s.length<=maxLen
   | .slice e es _=>∃ rows,l=[.sl es rows]/\rows.length<=maxLen/\∀ r,r ∈ rows->ASh T n e r
   | .arr m e es=>l.length=ti.size/\∀ i,i < m->ASh T n e ((l.drop (i * es)).take es)
   | .struct fs=>l.length=ti.size/\∀ f,f ∈ fs->ASh T n f.2.1 ((l.drop f.1).take f.2.2)
   | _=>False
  | none=>False
def avD{H:Type}:Nat->DataW H->List AV
 | 0,_=>[]
 | n+1,d=>match d with
  | .lit (.int k x)=>[.int k x]
  | .lit (.bool b)=>[.bool b]
  | .lit (.string s)=>[.str s]
  | .agg ps=>ps.flatMap (avD n)
  | _=>[]
def NoX:Nat->Prop:=fun _=>False
def RepL(w:World)(cs:List Value)(l:List AV):Prop:=l.length=cs.length/\∀ (i:Nat) (c:Value),cs[i]?=some c->Rep NoX w c (nth l i)/\c.oneCell'=true
theorem RepL.nil{w:World}:RepL w [] []:=⟨rfl,fun i c h=>by simp at h⟩
theorem RepL.one{w:World}{c:Value}{a:AV}(h:Rep NoX w c a)(h1:c.oneCell'=true):RepL w [c] [a]:=⟨rfl,fun i c' hc=>by
 match i,hc with
 | 0,hc=>cases hc;exact⟨h,h1⟩⟩
theorem RepL.append{w:World}{cs cs':List Value}{l l':List AV}(h:RepL w cs l)(h':RepL w cs' l'):RepL w (cs++cs') (l++l'):=by
 refine⟨by simp[h.1,h'.1],fun i c hc=>?_⟩
 by_cases hi:i < cs.length
 . rw[K6 hi]at hc
   have:=h.2 i c hc
   rw[show nth (l++l') i=nth l i by simp[nth,List.getD_eq_getElem?_getD,List.getElem?_append_left (show i < l.length by rw[h.1];exact hi)]]
   exact this
 rw[K7 (by omega)]at hc
 have:=h'.2 (i-cs.length) c hc
 rw[show nth (l++l') i=nth l' (i-cs.length) by simp[nth,List.getD_eq_getElem?_getD,List.getElem?_append_right (show l.length<=i by rw[h.1];omega),h.1]]
 exact this
theorem JaT:∀ {l:List (Nat × Nat × Nat)} {off tot:Nat},VJ l off tot=true->off<=tot
 | [],off,tot,h=>Nat.le_of_eq (Kc h)
 | (o,t,s)::l,off,tot,h=>by
  simp only[VJ,Kd]at h
  have:=JaT h.2
  omega
theorem JbW:∀ {l:List (Nat × Nat × Nat)} {off tot:Nat},VJ l off tot=true->∀ f,f ∈ l->off<=f.1/\f.1+f.2.2<=tot
 | (o,t,s)::l,off,tot,h,f,hf=>by
  simp only[VJ,Kd]at h
  have e:=Kc h.1
  subst e
  rcases List.mem_cons.1 hf with rfl | hf
  . exact⟨Kr _,JaT h.2⟩
  have:=JbW h.2 f hf
  omega
theorem JeJ{H:Type}{Q:Nat->List AV->Prop}{w:World}{cs:List Value}{sl:Bool}{g:DataW H->List AV}:∀ (L:List (Nat × Nat × Nat)) (ds:List (DataW H)) (off:Nat),
 (∀ (i:Nat) (s:Nat × Nat × Nat),L[i]?=some s->∃ d l,ds[i]?=some d/\Q s.2.1 l/\RepL w ((cs.drop s.1).take s.2.2) l/\(sl=true->l=g d))->ds.length=L.length →
 VJ L off cs.length=true->∃ l,(∀ s,s ∈ L->Q s.2.1 ((l.drop (s.1-off)).take s.2.2))/\RepL w (cs.drop off) l/\(sl=true->l=ds.flatMap g)
 | [],ds,off,_,hlen,hc=>by
  have e:=Kc hc
  refine⟨[],by simp,?_,fun _=>?_⟩
  . rw[List.drop_eq_nil_of_le (by omega)]
    exact RepL.nil
  match ds,hlen with
  | [],_=>rfl
 | (o,t,s)::L,ds,off,hL,hlen,hc=>by
  match ds,hlen,hL with
  | d::ds,hlen,hL =>
   have hc0:=hc
   simp only[VJ,Kd]at hc
   have e:=Kc hc.1
   subst e
   obtain⟨d',l1,hd',hq1,hr1,hg1⟩:=hL 0 _ rfl
   simp only[List.getElem?_cons_zero,Option.some.injEq]at hd'
   subst hd'
   have hle:=JaT hc.2
   have hlen1:l1.length=s:=by
    rw[hr1.1,Kg,Kh]
    show min s (cs.length-o)=s
    omega
   obtain⟨l2,hq2,hr2,hg2⟩:=JeJ L ds (o+s) (fun i x hx=>hL (i+1) x (by simpa using hx)) (by simpa using hlen) hc.2
   refine⟨l1++l2,fun x hx=>?_,?_,fun hs=>?_⟩
   . rcases List.mem_cons.1 hx with rfl | hx
     . rw[Nat.sub_self,List.drop_zero]
       show Q t ((l1++l2).take s)
       rw[<- hlen1,List.take_left']
       . exact hq1
       rfl
     have:=JbW hc.2 x hx
     have h2:=hq2 x hx
     rw[List.drop_append,List.drop_eq_nil_of_le (show l1.length<=x.1-o by omega),List.nil_append,hlen1,show x.1-o-s=x.1-(o+s) by omega]
     exact h2
   . have e2:cs.drop o=(cs.drop o).take s++cs.drop (o+s):=by
      rw[<- List.drop_drop,List.take_append_drop]
     rw[e2]
     exact hr1.append hr2
   rw[hg1 hs,hg2 hs]
   rfl
theorem VU{P:Program}{t:Nat}{i:TypeInfo}(h:P.info? t=some i):P.cellsOf t=i.size:=by simp[Program.cellsOf,h]
theorem Jkg{α β:Type}{f:α->Option β}:∀ {l:List α} {r:List β},l.mapM f=some r->∀ (i:Nat) (y:β),r[i]?=some y->∃ x,l[i]?=some x/\f x=some y:=by
 intro l r h i y hy
 have hlen:=mapM_some_length h
 have hi:i < l.length:=by
  have:=(List.getElem?_eq_some_iff.1 hy).1
  omega
 refine⟨l[i],by simp[hi],?_⟩
 rw[mapM_some_get h i l[i] (by simp[hi]),hy]
theorem JaX{w:World}{base:Nat}{a:Addr}{n:Nat}{cs:List Value}(h:w.cells? base a n=some cs):cs.length=n/\∀ j,j < n->w.cell? (a.add j)=cs[j]?:=by
 unfold World.cells? at h
 split at h
 . refine⟨by simpa using mapM_some_length h,fun j hj=>?_⟩
   exact mapM_some_get h j j (by simp[hj])
 cases h
theorem Jjk{w:World}{a:Addr}{v:Value}(h:w.cell? a=some v):a.spot=none/\a.block < w.heap.size:=by
 unfold World.cell? at h
 split at h
 . rename_i c t f hb
   split at h
   . cases h
   rename_i hs
   exact⟨by simpa using hs,(Array.getElem?_eq_some_iff.1 hb).1⟩
 cases h
theorem JaV{Q:List AV->Nat->Prop}:∀ (n:Nat),(∀ i,i < n->∃ l,Q l i)->∃ rows:List (List AV),rows.length=n/\∀ i,i < n->Q (Jn rows i) i
 | 0,_=>⟨[],rfl,fun i h=>absurd h (K9 i)⟩
 | n+1,h=>by
  obtain⟨rows,h1,h2⟩:=JaV n (fun i hi=>h i (by omega))
  obtain⟨l,hl⟩:=h n (by omega)
  refine⟨rows++[l],by simp[h1],fun i hi=>?_⟩
  by_cases e:i < n
  . rw[show Jn (rows++[l]) i=Jn rows i by simp[Jn,List.getD_eq_getElem?_getD,List.getElem?_append_left (show i < rows.length by omega)]]
    exact h2 i e
  have e2:i=n:=by omega
  subst e2
  rw[show Jn (rows++[l]) i=l by simp[Jn,List.getD_eq_getElem?_getD,<- h1]]
  exact hl
theorem Us{H:Type}{enc:TypeId × Value->H}{P:Program}{T:TT}(hT:TOK P T){w:World}{base:Nat}{sp:Nat->Bool}{held:Bool}:∀ (n t:Nat) (cs:List Value) (m:Nat) (x:DataW H × List MemPlace),
 J1 T n t=true->DataW.trod enc P w base sp held m t cs=some x->∃ l,ASh T n t l/\RepL w cs l/\(Jau T n t=true->l=avD n x.1)
 | 0,_,_,_,_,h,_=>by cases h
 | n+1,t,cs,m,x,h,hx=>by
  unfold J1 at h
  unfold ASh Jau
  cases hti:lk t T with
  | none=>rw[hti]at h;cases h
  | some ti =>
   rw[hti]at h
   simp only at h
   obtain⟨d,inf,z,kk⟩:=Jo (hT t ti hti)
   have hu:=kk.und
   have hkind:=kk.kind
   have hsz:P.cellsOf t=ti.size:=by rw[VU kk.info,kk.size]
   cases hk:ti.k with
   | int k =>
    simp only[hk]
    have hd:=kk.intKind hk
    subst hd
    obtain⟨y,rfl,rfl,hw⟩:=DataW.trod_int hu hx
    exact⟨_,⟨y,rfl,hw⟩,.one (.int k y) rfl,fun _=>rfl⟩
   | bool =>
    simp only[hk]
    rw[hk]at hkind
    have hd:d=.bool:=by
     cases d <;> simp only[JY,reduceCtorEq,false_and,and_false,exists_false]at hkind
     rfl
    subst hd
    obtain⟨y,rfl,rfl⟩:=DataW.trod_bool hu hx
    exact⟨_,⟨y,rfl⟩,.one (.bool y) rfl,fun _=>rfl⟩
   | str =>
    simp only[hk]
    have hd:=kk.strKind hk
    subst hd
    obtain⟨s,rfl,rfl,hl⟩:=DataW.trod_string hu hx
    exact⟨_,⟨s.data.toList,rfl,by simpa using hl⟩,.one (by
     have:=Rep.str (X:=NoX) (w:=w) s.data.toList
     rwa [show(⟨s.data.toList.toArray⟩:ByteArray)=s by simp]at this) rfl,fun _=>rfl⟩
   | slice e es eb =>
    simp only[hk]
    rw[hk]at h
    simp only[Kd,Kt]at h
    obtain⟨rfl,ei,hei,rfl,rfl⟩:=kk.sliceKind hk
    have hes:P.cellsOf e=ei.size:=VU hei
    have hne:ei.size ≠ 0:=fun e0=>by rw[e0]at h;exact absurd h.1.2 (by decide)
    refine Exists.imp (fun l hl=>⟨hl.1,hl.2,fun hf=>by cases hf⟩) (?_:∃ l,(∃ rows,l=[AV.sl ei.size rows]/\rows.length<=maxLen/\∀ r,r ∈ rows->ASh T n e r)/\RepL w cs l)
    rcases DataW.trod_slice hu hx with⟨rfl,_⟩ | ⟨a,len,cap,elems,rest,m',_,rfl,_,hb,hl,hm,hlen,hel,_,_⟩
    . exact⟨_,⟨[],rfl,Nat.zero_le _,by simp⟩,.one (.slE none 0 ei.size) rfl⟩
    have hrow:∀ i,i < len->∃ l:List AV,ASh T n e l/\∃ cs':List Value,w.cells? base (a.add (i * ei.size)) ei.size=some cs'/\RepL w cs' l:=by
     intro i hi
     have h1:=hel i hi
     rw[hes,Kj (by omega)]at h1
     obtain⟨cs',hcs',h2⟩:=Option.bind_eq_some_iff.1 h1
     obtain⟨l,h3,h4,_⟩:=Us hT n e cs' m' _ h.1.1 h2
     exact⟨l,h3,cs',hcs',h4⟩
    obtain⟨rows,hr1,hr2⟩:=JaV len hrow
    refine⟨_,⟨rows,rfl,by omega,fun r hr=>?_⟩,?_⟩
    . obtain⟨i,hi,rfl⟩:=List.getElem_of_mem hr
      have:=(hr2 i (by omega)).1
      rwa [show Jn rows i=rows[i] by simp[Jn,List.getD_eq_getElem?_getD,hi]]at this
    rcases Nat.eq_zero_or_pos len with h0 | h0
    . subst h0
      have:rows=[]:=List.eq_nil_of_length_eq_zero hr1
      subst this
      exact .one (.slE (some a) cap ei.size) rfl
    obtain⟨_,cs0,hcs0,_⟩:=hr2 0 h0
    obtain⟨hl0,hc0⟩:=JaX hcs0
    have hcell0:w.cell? ((a.add (0 * ei.size)).add 0)=some cs0[0]:=by rw[hc0 0 (by omega)];simp
    obtain⟨hs,hbk⟩:=Jjk hcell0
    obtain⟨b,o,spot⟩:=a
    have hs':spot=none:=by simpa[Addr.add]using hs
    subst hs'
    have key:∀ i,i < rows.length->∀ j,j < ei.size->∃ v,w.cell? ⟨b,o+i * ei.size+j,none⟩=some v/\Rep NoX w v (nth (Jn rows i) j)/\v.oneCell'=true:=fun i hi j hj=>by
     obtain⟨_,cs',hcs',hrl⟩:=hr2 i (by omega)
     obtain⟨hl',hc'⟩:=JaX hcs'
     have:=hc' j hj
     rw[Kj (by omega)]at this
     refine⟨_,?_,hrl.2 j _ (Kj (by omega))⟩
     rw[Qr,Qr]at this
     exact this
    have hrep:Rep NoX w (.slice (some ⟨b,o,none⟩) rows.length cap) (.sl ei.size rows):=by
     refine .sl b o cap ei.size rows (fun i j=>(w.cell? ⟨b,o+i * ei.size+j,none⟩).getD undef) (by simpa[Addr.add]using hbk) (fun h=>h) (by omega) (by omega) (fun i hi=>?_) (fun i hi j hj=>?_) (fun i hi j hj=>?_) (fun i hi j hj=>?_)
     . obtain⟨_,cs',hcs',hrl⟩:=hr2 i (by omega)
       rw[hrl.1,(JaX hcs').1]
     . obtain⟨v,h1,_,_⟩:=key i hi j hj
       rw[h1];rfl
     . obtain⟨v,h1,h2,_⟩:=key i hi j hj
       simp only[h1,Option.getD_some];exact h2
     obtain⟨v,h1,_,h3⟩:=key i hi j hj
     simp only[h1,Option.getD_some];exact h3
    rw[hr1]at hrep
    exact .one hrep rfl
   | arr k e es =>
    simp only[hk]
    rw[hk]at h
    simp only[Kd]at h
    obtain⟨rfl,_,ei,hei,rfl⟩:=kk.arrKind hk
    have hes:P.cellsOf e=ei.size:=VU hei
    obtain⟨xs,m',_,rfl,hl,hxl,hel⟩:=DataW.trod_array hu hx
    have:=JeJ (Q:=ASh T n) (w:=w) (cs:=cs) (sl:=Jau T n e) (g:=avD n) ((List.range k).map fun i=>(i * ei.size,e,ei.size)) (xs.map (·.1)) 0 (fun i s hs=>by
     rw[Kk]at hs
     obtain⟨i',hi',rfl⟩:=Option.map_eq_some_iff.1 hs
     have hik:i < k:=by
      have:=(List.getElem?_eq_some_iff.1 hi').1
      simpa using this
     have e1:i'=i:=by simp[hik]at hi';exact hi'.symm
     subst e1
     have h1:=hel i' hik
     rw[hes,Kj (by omega)]at h1
     obtain⟨l,h3,h4,h5⟩:=Us hT n e _ m' _ h.1 h1
     exact⟨xs[i'].1,l,by simp[List.getElem?_eq_getElem (show i' < xs.length by omega)],h3,h4,h5⟩) (by simp[hxl]) (by rw[hl,hsz];exact h.2)
    obtain⟨l,h1,h2,h3⟩:=this
    refine⟨l,⟨by rw[h2.1];simpa[hsz]using hl,fun i hi=>?_⟩,by simpa using h2,fun hf=>?_⟩
    . have:=h1 (i * ei.size,e,ei.size) (List.mem_map.2 ⟨i,by simpa using hi,rfl⟩)
      simpa using this
    rw[h3 hf]
    simp[avD]
   | struct fs =>
    simp only[hk]
    rw[hk]at h hkind
    simp only[Kd]at h
    cases d <;> simp only[JY,reduceCtorEq,false_and,and_false,exists_false]at hkind
    case struct fields =>
     obtain⟨_,_,l0,hl0,hfs⟩:=hkind
     simp only[TK.struct.injEq]at hfs
     subst hfs
     obtain⟨xs,m',_,rfl,hl,hxl,hel⟩:=DataW.trod_struct hu hx
     have hfl:fs.length=fields.size:=by simpa using mapM_some_length hl0
     have:=JeJ (Q:=ASh T n) (w:=w) (cs:=cs) (sl:=fs.all (fun f=>Jau T n f.2.1)) (g:=avD n) fs (xs.map (·.1)) 0 (fun i s hs=>by
      obtain⟨f,hf,hfi⟩:=Jkg hl0 i s hs
      obtain⟨fi,hfi',rfl⟩:=Option.map_eq_some_iff.1 hfi
      have hi:i < fs.length:=(List.getElem?_eq_some_iff.1 hs).1
      have h1:=hel i f (by simpa using hf)
      rw[VU hfi',Kj (by omega)]at h1
      have hpl:=List.all_eq_true.1 h.1 _ (List.mem_of_getElem? hs)
      obtain⟨l,h3,h4,h5⟩:=Us hT n f.type _ m' _ hpl h1
      exact⟨xs[i].1,l,by simp[List.getElem?_eq_getElem (show i < xs.length by omega)],h3,h4,fun hsl=>h5 (List.all_eq_true.1 hsl _ (List.mem_of_getElem? hs))⟩) (by simp[hxl,hfl]) (by rw[hl,hsz];exact h.2)
     obtain⟨l,h1,h2,h3⟩:=this
     refine⟨l,⟨by rw[h2.1];simpa[hsz]using hl,fun f hf=>?_⟩,by simpa using h2,fun hf=>?_⟩
     . simpa using h1 f hf
     rw[h3 hf]
     simp[avD]
   | map _ _=>rw[hk]at h;cases h
   | other=>rw[hk]at h;cases h
def JiD(T:TT)(n t:Nat)(a:AV):Prop:=match lk t T with
 | some ti=>if ti.agg then ∃ l,a=.agg l/\ASh T n t l else ASh T n t [a]
 | none=>False
def AShs(T:TT)(n:Nat):List Nat->List AV->Prop
 | [],[]=>True
 | t::ts,a::l=>JiD T n t a/\AShs T n ts l
 | _,_=>False
theorem JqO{l:List Value}:l=(List.range l.length).map fun i=>l.getD i undef:=by
 refine List.ext_getElem (by simp) fun i h1 h2=>?_
 simp[List.getD_eq_getElem?_getD,h1]
theorem Jr9{H:Type}{enc:TypeId × Value->H}{P:Program}{T:TT}(hT:TOK P T){W:World}{r:Reach}{base base':Nat}{sp:Nat->Bool}{held:Bool}{n t:Nat}{v:Value}{d:DataW H}{ps:List MemPlace}
 (hp:J1 T n t=true)(hok:Value.okWide P W r base t v)(h:DataW.Trod enc P W base' sp held t v d ps):∃ a,JiD T n t a/\Rep NoX W v a:=by
 obtain⟨m,hm⟩:=h
 obtain⟨l,h1,h2,_⟩:=Us hT n t _ m _ hp hm
 unfold JiD
 have hp':=hp
 cases n with
 | zero=>cases hp
 | succ n =>
  unfold J1 at hp
  cases hti:lk t T with
  | none=>rw[hti]at hp;cases hp
  | some ti =>
   rw[hti]at hp
   simp only at hp
   obtain⟨de,inf,z,kk⟩:=Jo (hT t ti hti)
   have hu:=kk.und
   have hkind:=kk.kind
   have agg:∀ cs,v=.agg cs->∃ a,(∃ l,a=AV.agg l/\ASh T (n+1) t l)/\Rep NoX W v a:=by
    intro cs hv
    subst hv
    simp only[Value.cells]at h2
    refine⟨.agg l,⟨l,rfl,h1⟩,?_⟩
    have key:=Rep.agg (X:=NoX) (w:=W) (fun i=>cs.toList.getD i undef) l (fun i hi=>?_) (fun i hi=>?_)
    . have e:((List.range l.length).map fun i=>cs.toList.getD i undef).toArray=cs:=by
       rw[h2.1]
       rw[<- JqO]
      rw[e]at key
      exact key
    . have hi':i < cs.toList.length:=by rw[<- h2.1];exact hi
      have:=(h2.2 i cs.toList[i] (by simp)).1
      rwa [show cs.toList.getD i undef=cs.toList[i] by simp only[Ka,Kj hi',Option.getD_some]]
    have hi':i < cs.toList.length:=by rw[<- h2.1];exact hi
    have:=(h2.2 i cs.toList[i] (by simp)).2
    rwa [show cs.toList.getD i undef=cs.toList[i] by simp only[Ka,Kj hi',Option.getD_some]]
   have one:ti.agg=false->v.cells=#[v]->∃ a,(if ti.agg then ∃ l,a=AV.agg l/\ASh T (n+1) t l else ASh T (n+1) t [a])/\Rep NoX W v a:=by
    intro ha hv
    rw[hv]at h2
    have:l.length=1:=by simpa using h2.1
    match l,this with
    | [a],_ =>
     refine⟨a,by rw[ha];simpa using h1,?_⟩
     exact(h2.2 0 v rfl).1
   cases hk:ti.k with
   | int k =>
    have hd:=kk.intKind hk
    subst hd
    obtain⟨x,rfl⟩:=okWide_int hu hok
    exact one hkind.2 rfl
   | bool =>
    rw[hk]at hkind
    have hd:de=.bool:=by
     cases de <;> simp only[JY,reduceCtorEq,false_and,and_false,exists_false]at hkind
     rfl
    subst hd
    obtain⟨x,rfl⟩:=okWide_bool hu hok
    exact one hkind.2 rfl
   | str =>
    have hd:=kk.strKind hk
    subst hd
    obtain⟨x,rfl⟩:=okWide_string hu hok
    exact one hkind.2 rfl
   | slice e es eb =>
    obtain⟨rfl,ei,hei,rfl,rfl⟩:=kk.sliceKind hk
    obtain⟨a,len,cap,rfl⟩:=okWide_slice hu hok
    exact one hkind.1 rfl
   | arr k e es =>
    obtain⟨rfl,hagg,_⟩:=kk.arrKind hk
    have:∃ cs,v=.agg cs:=by
     unfold Value.okWide at hok
     rw[hu]at hok
     obtain⟨cs,h,_⟩:=hok
     exact⟨cs,h⟩
    obtain⟨cs,hv⟩:=this
    simp only[hagg,if_true]
    exact agg cs hv
   | struct fs =>
    rw[hk]at hkind
    cases de <;> simp only[JY,reduceCtorEq,false_and,and_false,exists_false]at hkind
    case struct fields =>
     have:∃ cs,v=.agg cs:=by
      unfold Value.okWide at hok
      rw[hu]at hok
      obtain⟨cs,h,_⟩:=hok
      exact⟨cs,h⟩
     obtain⟨cs,hv⟩:=this
     simp only[hkind.1,if_true]
     exact agg cs hv
   | map _ _=>rw[hk]at hp;cases hp
   | other=>rw[hk]at hp;cases hp
theorem Jhe{H:Type}{enc:TypeId × Value->H}{P:Program}{T:TT}(hT:TOK P T){W:World}{r:Reach}{base base':Nat}{sp:Nat->Bool}{held:Bool}{n:Nat}:∀ {ts:List Nat} {vs:List Value} {ds:List (DataW H)} {ps:List MemPlace},
 ts.all (J1 T n)=true->(∀ (j:Nat) t v,ts[j]?=some t->vs[j]?=some v->Value.okWide P W r base t v)->DataW.TrodAll enc P W base' sp held ts vs ds ps->∃ l,AShs T n ts l/\Z (Rep NoX W) vs l
 | [],vs,ds,ps,_,_,h=>by
  obtain⟨rfl,rfl,rfl⟩:=trodAll_nil h
  exact⟨[],trivial,rfl,fun i v a hv=>by simp at hv⟩
 | t::ts,vs,ds,ps,hp,hok,h=>by
  obtain⟨v,vs',d,ds',p,q,rfl,rfl,rfl,hd,hrest⟩:=trodAll_cons h
  simp only[List.all_cons,Kd]at hp
  obtain⟨a,h1,h2⟩:=Jr9 hT hp.1 (hok 0 t v rfl rfl) hd
  obtain⟨l,h3,h4⟩:=Jhe hT hp.2 (fun j t' v' ht hv=>hok (j+1) t' v' (by simpa using ht) (by simpa using hv)) hrest
  refine⟨a::l,⟨h1,h3⟩,by simp[h4.1],fun i v' a' hv ha=>?_⟩
  match i,hv,ha with
  | 0,hv,ha=>cases hv;cases ha;exact h2
  | i+1,hv,ha=>exact h4.2 i v' a' (by simpa using hv) (by simpa using ha)
theorem UH{P:Program}{T:TT}(hT:TOK P T){w:World}{n:Nat}{name:String}{d:DataW Unit}{g t:Nat}{cells:List AV}(hg:P.globalNamed name=some g)(ht:(P.globals[g]?).map (·.type)=some t)(hp:J1 T n t=true)(hf:Jau T n t=true)(hd:avD n d=cells)(hne:cells ≠ []) :
 ∀ {laid:List (String × DataW Unit)} {ps:List MemPlace},(name,d) ∈ laid->DataW.LaidVars P w laid ps->GlobOK NoX w g cells
 | (n',d')::laid,ps,hm,h=>by
  obtain⟨g',t',cs,fuel,p,q,hg',ht',hv,htr,hrest,_⟩:=h
  by_cases e:(name,d)=(n',d')
  . cases e
    obtain rfl:=Option.some.inj (hg.symm.trans hg')
    obtain rfl:=Option.some.inj (ht.symm.trans ht')
    obtain⟨l,_,h2,h3⟩:=Us hT n t _ fuel _ hp htr
    have e1:l=cells:=(h3 hf).trans hd
    subst e1
    have hlen:cs.size=l.length:=by rw[h2.1];simp
    unfold World.var? at hv
    rw[hg]at hv
    simp only[Option.bind_some]at hv
    split at hv
    . rename_i cs' ty fr hb
      cases hv
      have hbs:g < w.heap.size:=(Array.getElem?_eq_some_iff.1 hb).1
      have hcell:∀ j,j < l.length->w.cell? ⟨g,j,none⟩=some (cs.getD j undef):=fun j hj=>by
       unfold World.cell?
       rw[hb]
       simp[Array.getD,show j < cs.size by omega]
      refine⟨?_,cs,ty,fr,hb,hlen⟩
      have key:=Rep.elt (X:=NoX) (w:=w) g 0 l.length [l] 0 0 (fun i j=>cs.getD j undef) hbs (fun h=>h) (by simp) (fun i hi=>?_) (fun i hi j hj=>?_) (fun i hi j hj=>?_) (fun i hi j hj=>?_)
      . simpa using key
      . have:i=0:=by simp at hi;exact hi
        subst this
        rfl
      . have:i=0:=by simp at hi;exact hi
        subst this
        simpa using hcell j hj
      . have:i=0:=by simp at hi;exact hi
        subst this
        have:=(h2.2 j (cs.getD j undef) (by simp[Array.getD,show j < cs.size by omega])).1
        simpa[Jn]using this
      exact(h2.2 j (cs.getD j undef) (by simp[Array.getD,show j < cs.size by omega])).2
    cases hv
  rcases List.mem_cons.1 hm with e2 | hm
  . exact absurd e2 e
  exact UH hT hg ht hp hf hd hne hm hrest
theorem Jm1{H:Type}{enc:TypeId × Value->H}{P:Program}{T:TT}{G:List (Nat × List AV)}(hT:TOK P T){f:Nat}{fn:Func}{s:ChangeSpec}{n tb:Nat}(hlaid:laidOutB P=true)(hvars:s.vars=[])
 (hres:fn.resultTypes=#[tb])(htb:P.underlying tb=some .bool)(htys:fn.params.toList.all (fun t=>J1 T n t && P.readableRec t && decide (t < P.types.size))=true)
 (hfn:∀ ds:List (DataW H),ds.length=fn.params.toList.length->s.fn H ds={ results:=[.lit (.bool true)],args:=ds })
 (main:∀ l,AShs T n fn.params.toList l->PCall P G f l (.bool true))
 {W:World}{base:Nat}{args:Array Value}{ds gs:List (DataW H)}{before:List MemPlace}
 (hval:∀ (j:Nat) t v,fn.params[j]?=some t->args[j]?=some v->Value.okWide P W .any base t v)
 (hW:DataW.Whole enc P fn.params.toList s.vars false W args.toList ds gs before)
 (hG:∀ g cells,lk g G=some cells->GlobOK NoX W g cells) :
 Calls P f args W fun e W'=>∃ v,e=.returned v/\s.post enc P fn false true false false W args v W':=by
 have hW':=hW
 obtain⟨p,q,hA,hV,rfl,_,_⟩:=hW
 rw[hvars]at hV
 obtain⟨rfl,rfl⟩:=trodVars_none hV
 have hpl:fn.params.toList.all (J1 T n)=true:=List.all_eq_true.2 fun t ht=>by
  have:=List.all_eq_true.1 htys t ht
  simp only[Kd]at this
  exact this.1.1
 obtain⟨l,h1,h2⟩:=Jhe hT hpl (fun j t v ht hv=>hval j t v (by simpa using ht) (by simpa using hv)) hA
 have hds:ds.length=fn.params.toList.length:=by
  have:∀ {ts:List Nat} {vs:List Value} {ds:List (DataW H)} {ps:List MemPlace},DataW.TrodAll enc P W 0 (fun _=>true) true ts vs ds ps->ds.length=ts.length:=by
   intro ts
   induction ts with
   | nil=>intro vs ds ps h;obtain⟨_,rfl,_⟩:=trodAll_nil h;rfl
   | cons t ts ih =>
    intro vs ds ps h
    obtain⟨v,vs',d,ds',p,q,rfl,rfl,rfl,hd,hrest⟩:=trodAll_cons h
    simp[ih hrest]
  exact this hA
 refine((main l h1).run W NoX args (fun b h=>h.elim) hG h2).mono fun e W' ⟨v,he,hb,hr⟩=>⟨v,he,?_⟩
 have hv:v=.bool true:=by
  have:Rep NoX W' v (.bool true):=hr
  cases this
  rfl
 subst hv
 have hlt:∀ x ∈ p,x.block < W.heap.size:=fun x hx=>by simpa using hW'.lt x (by simp[hx])
 have hargs:∀ {ts:List Nat} {vs:List Value} {ds:List (DataW H)} {ps:List MemPlace},ts.all (fun t=>J1 T n t && P.readableRec t && decide (t < P.types.size))=true->(∀ x ∈ ps,x.block < W.heap.size) →
  DataW.TrodAll enc P W 0 (fun _=>true) true ts vs ds ps->DataW.TrodAll enc P W' 0 (fun b=>decide (b < W.heap.size)) true ts vs ds ps:=by
  intro ts
  induction ts with
  | nil =>
   intro vs ds ps _ _ h
   obtain⟨rfl,rfl,rfl⟩:=trodAll_nil h
   rfl
  | cons t ts ih =>
   intro vs ds ps hall hps h
   obtain⟨v,vs',d,ds',p,q,rfl,rfl,rfl,hd,hrest⟩:=trodAll_cons h
   simp only[List.all_cons,Kd,Ko]at hall
   refine⟨p,q,?_,ih (by simpa only[Kd,Ko]using hall.2) (fun x hx=>hps x (by simp[hx])) hrest,rfl⟩
   exact Below.trod hlaid hall.1.1.2 hall.1.2 hd hb (fun x hx=>hps x (by simp[hx]))
 have hs:=hfn ds hds
 have hs':s.fn H (ds++[])={ results:=[.lit (.bool true)],args:=ds }:=by rw[List.append_nil];exact hs
 refine⟨ds,[],p++[],[],p,[],hW',?_,?_,?_,?_,fun h=>by cases h⟩
 . rw[hs',hres]
   exact trodAll_mk1 (shut_bool htb true)
 . rw[hs']
   exact hargs htys hlt hA
 . rw[hs',hvars]
   rfl
 . exact hb.frame _
end Go.Av
namespace Go.Av
open Go Go.RowKit
inductive SC where
 | int(k:IntKind)
 | bool
 | str
 | sl(n e es:Nat)
def QM(T:TT):Nat->Nat->List SC
 | 0,_=>[]
 | n+1,t=>match lk t T with
  | some ti=>match ti.k with
   | .int k=>[.int k]
   | .bool=>[.bool]
   | .str=>[.str]
   | .slice e es _=>[.sl n e es]
   | .arr m e _=>(List.range m).flatMap fun _=>QM T n e
   | .struct fs=>fs.flatMap fun f=>QM T n f.2.1
   | _=>[]
  | none=>[]
def SC.ok(T:TT):SC->AV->Prop
 | .int k,a=>∃ x,a=.int k x/\(Lit.int k x).wf=true
 | .bool,a=>∃ b,a=.bool b
 | .str,a=>∃ s,a=.str s/\s.length<=maxLen
 | .sl n e es,a=>∃ rows,a=.sl es rows/\rows.length<=maxLen/\∀ r,r ∈ rows->ASh T n e r
def ShL(T:TT):List SC->List AV->Prop
 | [],l=>l=[]
 | c::cs,l=>∃ a m,l=a::m/\c.ok T a/\ShL T cs m
theorem ShL.append{T:TT}:∀ {cs cs':List SC} {l l':List AV},ShL T cs l->ShL T cs' l'->ShL T (cs++cs') (l++l')
 | [],_,_,_,h,h'=>by
  have:_=[]:=h
  subst this
  exact h'
 | c::cs,cs',l,l',h,h'=>by
  obtain⟨a,m,rfl,h1,h2⟩:=h
  exact⟨a,m++l',rfl,h1,ShL.append h2 h'⟩
theorem U5{T:TT}{n:Nat}{l:List AV}(ih:∀ t m,J1 T n t=true->ASh T n t m->ShL T (QM T n t) m):∀ (fs:List (Nat × Nat × Nat)) (off:Nat),VJ fs off l.length=true->(∀ f,f ∈ fs->J1 T n f.2.1=true) →
 (∀ f,f ∈ fs->ASh T n f.2.1 ((l.drop f.1).take f.2.2))->ShL T (fs.flatMap fun f=>QM T n f.2.1) (l.drop off)
 | [],off,hc,_,_=>by
  have e:=Kc hc
  exact List.drop_eq_nil_of_le (by omega)
 | (o,t,s)::fs,off,hc,hp,h=>by
  simp only[VJ,Kd]at hc
  have e:=Kc hc.1
  subst e
  have e2:l.drop o=(l.drop o).take s++l.drop (o+s):=by
   rw[<- List.drop_drop,List.take_append_drop]
  rw[e2,List.flatMap_cons]
  exact(ih t _ (hp (o,t,s) (by simp)) (h (o,t,s) (by simp))).append (U5 ih fs (o+s) hc.2 (fun f hf=>hp f (by simp[hf])) (fun f hf=>h f (by simp[hf])))
theorem QH{T:TT}:∀ (n t:Nat) (l:List AV),J1 T n t=true->ASh T n t l->ShL T (QM T n t) l
 | 0,_,_,h,_=>by cases h
 | n+1,t,l,h,hl=>by
  unfold J1 at h
  unfold ASh at hl
  unfold QM
  cases hti:lk t T with
  | none=>rw[hti]at h;cases h
  | some ti =>
   rw[hti]at h hl
   simp only at h hl ⊢
   cases hk:ti.k with
   | int k =>
    rw[hk]at hl
    obtain⟨x,rfl,hw⟩:=hl
    exact⟨_,_,rfl,⟨x,rfl,hw⟩,rfl⟩
   | bool =>
    rw[hk]at hl
    obtain⟨x,rfl⟩:=hl
    exact⟨_,_,rfl,⟨x,rfl⟩,rfl⟩
   | str =>
    rw[hk]at hl
    obtain⟨x,rfl,hw⟩:=hl
    exact⟨_,_,rfl,⟨x,rfl,hw⟩,rfl⟩
   | slice e es eb =>
    rw[hk]at hl
    obtain⟨rows,rfl,h1,h2⟩:=hl
    exact⟨_,_,rfl,⟨rows,rfl,h1,h2⟩,rfl⟩
   | arr m e es =>
    rw[hk]at hl h
    simp only[Kd]at h hl
    have:=U5 (T:=T) (n:=n) (l:=l) (fun t m=>QH n t m) ((List.range m).map fun i=>(i * es,e,es)) 0 (by rw[hl.1];exact h.2) (fun f hf=>by
     obtain⟨i,_,rfl⟩:=List.mem_map.1 hf
     exact h.1) (fun f hf=>by
     obtain⟨i,hi,rfl⟩:=List.mem_map.1 hf
     exact hl.2 i (by simpa using hi))
    rw[List.flatMap_map]at this
    simpa using this
   | struct fs =>
    rw[hk]at hl h
    simp only[Kd]at h hl
    have:=U5 (T:=T) (n:=n) (l:=l) (fun t m=>QH n t m) fs 0 (by rw[hl.1];exact h.2) (fun f hf=>List.all_eq_true.1 h.1 f hf) hl.2
    simpa using this
   | map _ _=>rw[hk]at h;cases h
   | other=>rw[hk]at h;cases h
theorem Jhc{T:TT}{n t:Nat}{a:AV}{ti:TI}(hti:lk t T=some ti)(hagg:ti.agg=false)(hp:J1 T n t=true){c:SC}(hs:QM T n t=[c])(h:JiD T n t a):c.ok T a:=by
 unfold JiD at h
 rw[hti]at h
 simp only[hagg]at h
 have:=QH n t _ hp h
 rw[hs]at this
 obtain⟨x,m,e,h1,_⟩:=this
 cases e
 exact h1
theorem JnJ{T:TT}{n t:Nat}{a:AV}{ti:TI}(hti:lk t T=some ti)(hagg:ti.agg=true)(hp:J1 T n t=true){cs:List SC}(hs:QM T n t=cs)(h:JiD T n t a):∃ l,a=.agg l/\ShL T cs l:=by
 unfold JiD at h
 rw[hti]at h
 simp only[hagg,if_true]at h
 obtain⟨l,rfl,h⟩:=h
 have:=QH n t _ hp h
 rw[hs]at this
 exact⟨l,rfl,this⟩
theorem Xr{α:Type}{enc:α->List AV}{Q:α->Prop}:∀ {rows:List (List AV)},(∀ r,r ∈ rows->∃ x,r=enc x/\Q x)->∃ l:List α,rows=l.map enc/\∀ x,x ∈ l->Q x
 | [],_=>⟨[],rfl,by simp⟩
 | r::rows,h=>by
  obtain⟨x,rfl,hx⟩:=h r (by simp)
  obtain⟨l,rfl,hl⟩:=Xr (rows:=rows) (fun r hr=>h r (by simp[hr]))
  exact⟨x::l,rfl,fun y hy=>by
   rcases List.mem_cons.1 hy with rfl | hy
   . exact hx
   . exact hl y hy⟩
def JbI(E:SE)(B:BA)(Q:Exit->AS->Prop):List Code->List (Option (List GS × AS × Prop))->AS->Prop
 | [],_,S=>Q .normal S
 | c::cs,ms,S=>match ms with
  | some (g,M,p)::ms=>VC E B 10000 0 c S (U1 (fun S'=>Jb5 E.A g M S'/\p) Q)/\(p->JbI E B Q cs ms M)
  | none::ms=>VC E B 10000 0 c S (U1 (fun S'=>JbI E B Q cs ms S') Q)
  | []=>VC E B 10000 0 c S (U1 (fun S'=>JbI E B Q cs [] S') Q)
theorem Uz{E:SE}(hE:E.OK){B:BA}{Q:Exit->AS->Prop}:∀ {cs:List Code} {ms:List (Option (List GS × AS × Prop))} {S:AS},JbI E B Q cs ms S->JuH E Q cs S
 | [],_,_,h=>h
 | c::cs,some (g,M,p)::ms,S,h=>by
  refine Imp.post (Jbf _ hE _ _ _ _ h.1) fun e S' hq=>?_
  cases e with
  | normal =>
   have hq:Jb5 E.A g M S'/\p:=hq
   obtain⟨hq,hp⟩:=hq
   unfold Jb5 at hq
   split at hq
   . rename_i S2 h2
     subst hq
     exact⟨_,Qq E h2,Uz hE (h.2 hp)⟩
   exact hq.elim
  | _=>exact⟨S',Imp.refl E S',hq⟩
 | c::cs,none::ms,S,h=>by
  refine(Jbf _ hE _ _ _ _ h).mono fun e S' hq=>?_
  cases e with
  | normal=>exact Uz hE (ms:=ms) hq
  | _=>exact hq
 | c::cs,[],S,h=>by
  refine(Jbf _ hE _ _ _ _ h).mono fun e S' hq=>?_
  cases e with
  | normal=>exact Uz hE (ms:=[]) hq
  | _=>exact hq
theorem Jbo{P:Program}{T:TT}{G:List (Nat × List AV)}{f:Nat}{fn:Func}{body:Code}{args:List AV}{r:AV}(hT:TOK P T)(hm:P.follows .mixedOrders=true)(hf:P.funcs[f]?=some fn)(hb:fn.body=some body)
 (hn : (fn.name == "runtime.NumGoroutine") = false) (hlen : args.length ≤ fn.ntmps) (B : BA) (ms : List (Option (List GS × AS × Prop)))
 (h:JbI (Qh P T G fn.ntmps []) B (Jo6 T fn fun v=>v=r) (VB body) ms (Jae args)):PCall P G f args r:=by
 have hE:(Qh P T G fn.ntmps []).OK:=⟨hT,hm⟩
 refine Xw hE hf hb hn hlen ((JqN (Uz hE h)).mono fun e S' hq=>?_)
 cases e with
 | normal =>
  simp only[Jo6]at hq
  split at hq
  · exact hq.elim
  rename_i h1
  split at hq
  · rename_i hr;subst hq;exact⟨.inl rfl,h1,hr⟩
  exact hq.elim
 | ret =>
  simp only[Jo6]at hq
  split at hq
  · exact hq.elim
  rename_i h1
  split at hq
  · rename_i hr;subst hq;exact⟨.inr rfl,h1,hr⟩
  exact hq.elim
 | _=>exact hq.elim
end Go.Av
