/-
  Ranges over functions: what a function hands over, and what the one does that ranges over it. Turns of the state that reach into variables: a slice that is never written again, a nil slice that is to be appended to. No condition but the theorems' own.
-/
import Derived.Test.YthkngjifljcocaaGreatDoorAvC
import Derived.Carry
import Derived.MakeChecks
import Derived.OpenShut
import Derived.RowKit
import Derived.WideShapes
import Derived.Handed
namespace Go.Av
open Go Go.RowKit
structure PSeq(P:Program)(G:List (Nat × List AV))(f:Nat)(cap:List AV)(L:List (List AV)):Prop where
 callable:VB P f
 run:∀ (n:Nat) (w:World) (X:Nat->Prop) (vs:Array Value) (l:Nat) (J:Nat->List (List AV)->(Nat->Prop)->(Nat->Prop)->World->Prop) (D:Nat->(Nat->Prop)->(Nat->Prop)->World->Prop),
  (∀ b,X b->b < w.heap.size) →
  (∀ g cells,lk g G=some cells->GlobOK X w g cells) →
  Z (Rep X w) vs.toList cap->X l->Stab J D->YOK P L J D->J l [] X (fun _=>False) w →
  CallsIn Fence.wide n P f (#[.func (.yield l) #[] #[]]++vs) w fun e w'=>∃ v X' Y',e=.returned v/\(∀ b,X b->X' b)/\(J l L X' Y' w' ∨ D l X' Y' w')
theorem JdF{P:Program}{fn:Func}(h:fn.results.toList=[])(tmps:Array Value)(w:World):∃ v,(results fn tmps).run P w=.ok v w:=by
 unfold results
 rw[Array.mapM_eq_mapM_toList,h]
 exact⟨_,rfl⟩
structure PSeqB(P:Program)(G:List (Nat × List AV))(f:Nat)(cells:List AV)(L:List (List AV)):Prop where
 callable:VB P f
 run:∀ (n:Nat) (w:World) (X:Nat->Prop) (b:Nat) (cs:Array Value) (T:Nat) (l:Nat) (J:Nat->List (List AV)->(Nat->Prop)->(Nat->Prop)->World->Prop) (D:Nat->(Nat->Prop)->(Nat->Prop)->World->Prop),
  (∀ b,X b->b < w.heap.size)->¬ X b →
  (∀ g cells,lk g G=some cells->GlobOK (fun x=>X x ∨ x=b) w g cells) →
  w.heap[b]?=some (.cells cs T (0,0))->cs.size=cells.length->(∀ j,j < cells.length->CP (fun x=>X x ∨ x=b) w (cs.getD j undef) (nth cells j)) →
  X l->Stab J D->YOK P L J D->J l [] X (fun x=>x=b) w →
  CallsIn Fence.wide n P f (#[.func (.yield l) #[] #[]]++#[.pointer (some ⟨b,0,none⟩)]) w fun e w'=>∃ v X' Y',e=.returned v/\(∀ b,X b->X' b)/\(J l L X' Y' w' ∨ D l X' Y' w')
def PSeqX(P:Program)(G:List (Nat × List AV))(f:Nat)(cap:List AV)(L:List (List AV)):Prop :=
 match cap with
 | [.fbox _ cells]=>PSeqB P G f cells L
 | cap=>PSeq P G f cap L
theorem Jdx{P:Program}{T:TT}{G:List (Nat × List AV)}{f:Nat}{fn:Func}{body:Code}{cap:List AV}{L:List (List AV)}(hf:P.funcs[f]?=some fn)(hb:fn.body=some body)
 (hn : (fn.name == "runtime.NumGoroutine") = false) (hlen : cap.length + 1 ≤ fn.ntmps) (hres : fn.results.toList = [])
 (h:∀ l,Tri (QD P T G fn.ntmps L) body (Jco l cap) (fun e S'=>(e=.normal ∨ e=.ret)/\(Jj S' 0=.ready l L ∨ Jj S' 0=.stop l))):PSeq P G f cap L:=by
 refine⟨⟨fn,body,hf,hb,hn⟩,fun n w X vs l J D hX hG hz hXl hst hy hJ=>?_⟩
 show CallsIn (fen none) n P f _ w _
 refine callsIn_of_wp_marks hf hb trivial ?_
 have hvl:vs.size=cap.length:=by simpa using hz.1
 have hb0:∀ id,¬ (Jr [(0,ABlk.ready l [])] id).alive:=by
  intro id ha
  unfold Jr at ha
  simp only[lk]at ha
  split at ha
  · exact ha
  exact ha
 have hrel:Rel ((QD P T G fn.ntmps L).ctx ⟨w,X,X,J,D,fun _=>none⟩) (Jco l cap) { tmps:=(#[Value.func (.yield l) #[] #[]]++vs)++Array.replicate (fn.ntmps-(#[Value.func (.yield l) #[] #[]]++vs).size) undef,defers:=[] } w:=by
  refine JeJ (E:=QD P T G fn.ntmps L) (V:=⟨w,X,X,J,D,fun _=>none⟩) (args:=.yld l::cap) (vs:=#[Value.func (.yield l) #[] #[]]++vs) rfl rfl (show(AV.yld l::cap).length<=fn.ntmps by simpa using hlen) (by simp[hvl,Nat.add_comm]) hX hG (fun _ h=>h) hb0 (fun t av ht=>?_)
   ⟨hst,hy,fun _ b hx _=>hx,fun l' rows e=>?_,fun l' rows e=>(by cases e),fun l' e=>(by cases e)⟩
  · cases t with
    | zero =>
     simp only[List.getElem?_cons_zero,Option.some.injEq]at ht
     subst ht
     refine⟨?_,fun id hi=>by simp[Qn,mids1,mids0]at hi;omega⟩
     show(#[Value.func (.yield l) #[] #[]]++vs).getD 0 undef=.func (.yield l) #[] #[]
     simp[Array.getD_eq_getD_getElem?,Array.getElem?_append]
    | succ t =>
     have ht':cap[t]?=some av:=by simpa using ht
     have hlt:t < cap.length:=(List.getElem?_eq_some_iff.1 ht').1
     have hr:=(hz.getD).2 t hlt
     rw[JV ht']at hr
     have e:(#[Value.func (.yield l) #[] #[]]++vs).getD (t+1) undef=vs.getD t undef:=by
      simp[Array.getD_eq_getD_getElem?,Array.getElem?_append]
     rw[e]
     exact⟨SRep.of_rep hr,fun id hi=>by rw[Uh hr]at hi;cases hi⟩
  cases e
  exact⟨hXl,hst.j _ _ _ _ _ _ _ hJ (.refl fun b ⟨id,ha,_⟩=>(hb0 id ha).elim)⟩
 refine wpIn_mono (h l _ none n _ w (fun _=>rfl) hrel) fun e a' w' ⟨S',⟨he,htr⟩,hwf,X',ρ,hg,hr⟩=>?_
 have hd:a'.defers=[]:=hr.dt (by rcases htr with e | e <;> rw[e] <;> trivial)
 obtain⟨v,hv⟩:=JdF (P:=P) hres a'.tmps w'
 have hend:LeavesInM (fen none) n P fn a'.tmps (fun e w'=>∃ v X' Y',e=.returned v/\(∀ b,X b->X' b)/\(J l L X' Y' w' ∨ D l X' Y' w')) a'.defers .returning w':=by
  rw[hd]
  refine⟨v,hv,v,X',own ρ (Jj S'),rfl,hg.1,?_⟩
  rcases htr with e | e
  · exact .inl (hr.trc.rd l L e).2
  exact .inr (hr.trc.st l e)
 rcases he with rfl | rfl
 · exact hend
 · exact hend
def UW:List Nat->List AV->List (Nat × AV)->List (Nat × AV)
 | p::ps,v::vs,s=>UW ps vs (Jdw p v (Vu p s))
 | _,_,s=>s
def SE.rnd(E:SE)(A:List Nat):SE:={ E with L:=[],A:=A,nr:=false }
section
variable {E : SE} {V : Env} {K : Ctx} {ρ : Pl} {slot : Nat → Option AV} {B : Nat → ABlk} {a : Act} {w w' : World}
theorem RelW.rebase(h:RelW K ρ slot B a w)(hG:K.G=E.G)(hnt:K.nt=E.nt){X':Nat->Prop}{A:List Nat}(hs:w.heap.size<=w'.heap.size)(hsame:∀ b,b < w.heap.size->¬ K.X0 b->w'.heap[b]?=w.heap[b]?)
 (hx1:∀ b,b < w.heap.size->X' b->K.X0 b)(hx2:∀ b,X' b->b < w'.heap.size)(hz:¬ (B 0).tracey)(hA:∀ id,id ∈ A->∃ cells,B id=.box cells) :
 RelW ((E.rnd A).ctx ⟨w',X',own ρ B,noJ,noD,ρ⟩) ρ slot B { a with defers:=[] } w':=by
 have hread:∀ b,b < w.heap.size->¬ XX K.X0 ρ B b->w'.heap[b]?=w.heap[b]?:=fun b hb hn=>hsame b hb (fun hx=>hn (.inl hx))
 have hX:∀ b,b < w.heap.size->¬ XX K.X0 ρ B b->¬ XX X' ρ B b:=fun b hb hn hx=>hx.elim (fun h=>hn (.inl (hx1 b hb h))) (fun h=>hn (.inr h))
 have hown:∀ i b,(B i).alive->ρ i=some b->w'.heap[b]?=w.heap[b]?:=fun i b ha hr=>hsame b (h.live i b ha hr).2.2 (h.live i b ha hr).2.1
 have hB:∀ i,(B i).alive->sameMake (B i) (B i)/\ρ i=ρ i/\∀ b,ρ i=some b->sameSize w w' b:=fun i ha =>
  ⟨sameMake.refl ha,rfl,fun b hr cur e hh=>⟨cur,by rw[hown i b ha hr];exact hh,rfl⟩⟩
 have hz':∀ {x:ABlk},B 0=x->x.tracey->False:=fun e ht=>hz (by rw[e];exact ht)
 have hR:∀ l k n bv,Yb B w l k n bv->Yb B w' l k n bv:=fun l k n bv _=>⟨fun rows e=>(hz' e trivial).elim,fun l' rows e=>(hz' e trivial).elim,fun l' rows e=>(hz' e trivial).elim⟩
 refine⟨⟨[],rfl,List.nodup_nil,fun D hD=>(by cases hD),fun _=>rfl⟩,by rw[show({ a with defers:=[] }:Act).tmps=a.tmps from rfl,h.size];exact hnt,Keeps.refl _ _ _,hx2,fun g cells hg=>?_,
  fun i b ha hr=>⟨.inl ⟨i,ha,hr⟩,fun hx=>(h.live i b ha hr).2.1 (hx1 b (h.live i b ha hr).2.2 hx),K0 (h.live i b ha hr).2.2 hs⟩,h.inj,fun i=>?_,fun t av ht=>?_,
  ⟨⟨fun _ _ _ _ _ _ _ h=>h.elim,fun _ _ _ _ _ _ h=>h.elim⟩,fun _ _ _ _ _ _ _ _ _ h=>h.elim,fun ht=>(hz ht).elim,fun l rows e=>(hz' e trivial).elim,fun l rows e=>(hz' e trivial).elim,fun l e=>(hz' e trivial).elim⟩,fun ht=>(hz ht).elim,fun i hi=>⟨hA i hi,rfl⟩,fun n _ id _ _ _=>⟨rfl,fun b _=>.refl _ _⟩⟩
 . have hg':lk g K.G=some cells:=by rw[hG];exact hg
   refine GlobOK.mono hs (fun b hlt hn=>?_) (fun b hlt hn=>?_) (h.glob g cells hg')
   . simp only[XG,not_or]at hn
     exact hsame b hlt hn.1
   simp only[XG,not_or]at hn
   rintro(hx | ⟨i,ha,hr⟩ | hx)
   . exact hn.1 (hx1 b hlt hx)
   . exact(h.live i b ha hr).1.elim hn.2.1 hn.2.2
   have:w'.heap.size<=b:=hx
   omega
 . by_cases ha:(B i).alive
   . exact BlkOK.mono hs hread hX rfl rfl (fun b hr=>hown i b ha hr) (fun j _=>hB j) hR (h.blks i)
   exact Jy ha
 . obtain⟨h1,h2⟩:=h.slots t av ht
   exact⟨show t < E.nt by rw[<- hnt];exact h1,SRep.mono hs hread hX (fun i _=>hB i) hR h2⟩
theorem RelW.unbase(h:RelW K ρ slot B a w){K5:Ctx}{ρ5:Pl}{slot5:Nat->Option AV}{B5:Nat->ABlk}{a5:Act}{W:World}(h5:RelW K5 ρ5 slot5 B5 a5 W){A:List Nat}{l:Nat}{rc:Loop}
 (hown:∀ b,own ρ5 B5 b->own ρ B b ∨ w.heap.size<=b)(hX:∀ b,K5.X0 b->K.X0 b ∨ w.heap.size<=b)(hX':∀ b,K.X0 b->K5.X0 b)(hl:K.X0 l)(hl0:K.w0.heap.size<=l)(hll:w.heap[l]?=some (.loop rc))
 (hsame:∀ b,b < w.heap.size->¬ own ρ B b->b ≠ l->W.heap[b]?=w.heap[b]?)(hs:w.heap.size<=W.heap.size)(hos:W.os=w.os)(htape:W.tape=w.tape)(hout:W.output=w.output)
 (hz:¬ (B5 0).tracey)(hzp:∀ n,B5 0 ≠ .pins n)(hKA:K.A=[])(hsl:∀ t av,slot t=some av->JJ av=true ∨ ∃ id off,av=.ptr id off/\id ∈ A)
 (hA:∀ id,id ∈ A->(∃ cells,B id=.box cells)/\(∃ cells,B5 id=.box cells)/\ρ5 id=ρ id):RelW (K.withX K5.X0) ρ5 slot B5 a W:=by
 have hz':∀ {x:ABlk},B5 0=x->x.tracey->False:=fun e ht=>hz (by rw[e];exact ht)
 obtain⟨Ds,hd1,hd2,hd3,hd4⟩:=h.defers
 have hDs:∀ D,D ∈ Ds->W.heap[D]?=some (.deferred (some [])):=by
  intro D hD
  obtain⟨g1,g2,g3⟩:=hd3 D hD
  have hne:D ≠ l:=by rintro rfl;rw[hll]at g1;cases g1
  rw[hsame D (h.x0 D g3) (fun ho=>h.own_x0 ho g3) hne]
  exact g1
 refine⟨⟨Ds,hd1,hd2,fun D hD=>⟨hDs D hD,(hd3 D hD).2.1,hX' D (hd3 D hD).2.2⟩,hd4⟩,h.size,h.keeps.trans ⟨hos,htape,hout,hs,fun b hb hF=>?_⟩,h5.x0,fun g cells hg=>?_,fun i b ha hr=>?_,h5.inj,h5.blks,fun t av ht=>⟨(h.slots t av ht).1,?_⟩,
  ⟨h.trc.stab,h.trc.yok,fun ht=>(hz ht).elim,fun l rows e=>(hz' e trivial).elim,fun l rows e=>(hz' e trivial).elim,fun l e=>(hz' e trivial).elim⟩,fun ht=>(hz ht).elim,fun i hi=>by
   have h0:i ∈ K.A:=hi
   rw[hKA]at h0;exact absurd h0 (by simp),fun n e=>absurd e (hzp n)⟩
 . have hb':b < K.w0.heap.size:=hb
   refine hsame b (K0 hb' h.le_size) ?_ (by omega)
   rintro⟨i,ha,hr⟩
   rcases(h.live i b ha hr).1 with g | g
   . exact hF g
   omega
 . refine GlobOK.mono hs (fun b hlt hn=>?_) (fun b hlt hn=>?_) (h.glob g cells hg)
   . simp only[XG,not_or]at hn
     refine hsame b hlt ?_ (fun e=>hn.1 (e ▸ hl))
     rintro⟨i,ha,hr⟩
     exact(h.live i b ha hr).1.elim hn.2.1 hn.2.2
   simp only[XG,not_or]at hn ⊢
   exact⟨fun hx=>(hX b hx).elim hn.1 (fun h=>by omega),hn.2⟩
 . have h6:=h5.live i b ha hr
   refine⟨?_,h6.2.1,h6.2.2⟩
   rcases hown b ⟨i,ha,hr⟩with⟨j,ga,gr⟩ | g
   . exact(h.live j b ga gr).1
   exact .inr (Nat.le_trans h.le_size g)
 . have hs0:=(h.slots t av ht).2
   have hmono:∀ b,b < w.heap.size->¬ XX K.X0 ρ B b->W.heap[b]?=w.heap[b]?:=fun b hlt hn=>hsame b hlt (fun ho=>hn (.inr ho)) (fun e=>hn (.inl (e ▸ hl)))
   have hxx:∀ b,b < w.heap.size->¬ XX K.X0 ρ B b->¬ XX K5.X0 ρ5 B5 b:=by
    rintro b hlt hn (hx | hx)
    . exact(hX b hx).elim (fun h=>hn (.inl h)) (fun h=>by omega)
    exact(hown b hx).elim (fun h=>hn (.inr h)) (fun h=>by omega)
   rcases hsl t av ht with hp | ⟨id,off,rfl,hid⟩
   . exact SRep.of_rep (Rep.mono hs hmono hxx (SRep.one1 hp hs0))
   obtain⟨⟨c1,e1⟩,⟨_,e5⟩,er⟩:=hA id hid
   have h0:=(show SRep0 ρ B (XX K.X0 ρ B) w _ (.ptr id off)from hs0)
   exact⟨h0.1,fun cells _=>by rw[er];exact h0.2 c1 e1⟩
theorem RelW.puts:∀ {ps:List Nat} {x:List AV} {vs:List Value} {s:List (Nat × AV)} {a:Act},RelW K ρ (fun t=>lk t s) B a w->Z (SRep ρ B (XX K.X0 ρ B) w) vs x->(∀ p,p ∈ ps->p < K.nt)->ps.length=x.length →
 RelW K ρ (fun t=>lk t (UW ps x s)) B { a with tmps:=(ps.zip vs).foldl (fun tmps p=>tmps.setIfInBounds p.1 p.2) a.tmps } w
 | [],[],vs,s,a,h,_,_,_=>by simpa[UW]using h
 | [],_::_,_,_,_,_,_,_,hl=>by simp at hl
 | _::_,[],_,_,_,_,_,_,hl=>by simp at hl
 | p::ps,v::x,vs,s,a,h,hz,hp,hl=>by
  match vs,hz.1 with
  | u::vs,_ =>
   obtain⟨h1,h2⟩:=hz.uncons
   have h3:=h.put (d:=p) (hp p (by simp)) h1
   have e:upd (fun t=>lk t s) p (some v)=fun t=>lk t (Jdw p v (Vu p s)):=by
    funext t
    rw[Q5]
    rfl
   rw[e]at h3
   have:=RelW.puts (ps:=ps) (x:=x) h3 h2 (fun q hq=>hp q (List.mem_cons_of_mem _ hq)) (by simpa using hl)
   simpa[UW,Act.put]using this
theorem Je6:∀ {ps:List Nat} {x:List AV} {s:List (Nat × AV)} {t:Nat} {av:AV},lk t (UW ps x s)=some av->av ∈ x ∨ lk t s=some av
 | [],_,s,t,av,h=>.inr (by simpa[UW]using h)
 | _::_,[],s,t,av,h=>.inr (by simpa[UW]using h)
 | p::ps,v::x,s,t,av,h=>by
  simp only[UW]at h
  rcases Je6 h with h | h
  . exact .inl (by simp[h])
  rw[Q5]at h
  split at h
  . cases h;exact .inl (by simp)
  exact .inr h
def Jpv(Q:Exit->AS->Prop)(c:Code)(S:AS):Prop:=(c=.ret/\Q .ret S) ∨ (∃ id,c=.exit id/\Q (.exit id) S) ∨ (∃ t,c=.goto t/\Q (.goto t) S)
def roundQ(J:List (List AV)->AS->Prop)(S:AS)(rows:List (List AV))(Q:Exit->AS->Prop):Exit->AS->Prop
 | .normal,S'=>J rows ⟨S.s,S'.b,S'.n⟩
 | .ret,S'=>Q .ret ⟨S.s,S'.b,S'.n⟩
 | .exit id,S'=>Q (.exit id) ⟨S.s,S'.b,S'.n⟩
 | .goto t,S'=>Q (.goto t) ⟨S.s,S'.b,S'.n⟩
 | _,_=>False
theorem JeZ{b:ABlk}(h:JbK b=false):∀ n,b ≠ .pins n:=fun n e=>by rw[e]at h;cases h
theorem U6{b:ABlk}(h:JbK b=false):¬ b.tracey:=by
 cases b <;> first | exact fun h=>h | cases h
def Core(E:SE)(V:Env)(S:AS)(A:List Nat)(ρ1:Pl)(a:Act)(w:World)(rc:Loop)(S1:AS)(X Y:Nat->Prop)(W:World):Prop :=
 ∃ (Xo:Nat->Prop) (ρ:Pl),WF S1/\S1.s=S.s/\JbK (Jj S1 0)=false/\(∀ id,id ∈ A->(∃ cells,Jj S1 id=.box cells)/\ρ id=ρ1 id) /\
  RelW ((E.ctx V).withX fun b=>Xo b ∨ (Y b/\b < W.heap.size)) ρ (Ju S1) (Jj S1) a W/\(∀ b,V.X0 b->Xo b)/\(∀ b,Xo b->V.X0 b ∨ V.w0.heap.size<=b) /\
  (∀ b,Xo b->X b)/\(∀ b,own ρ (Jj S1) b->X b)/\(∀ b,X b->¬ Y b/\b < W.heap.size)/\(∀ b,Y b->V.F b ∨ V.w0.heap.size<=b)/\Xo w.heap.size/\Xo (w.heap.size+1) /\
  W.heap[w.heap.size+1]?=some (.loop rc)/\W.heap[w.heap.size]?=some (.deferred (some []))/\V.w0.heap.size<=w.heap.size/\∀ D,Je9 D ∈ a.defers->Xo D/\D < w.heap.size
theorem Core.step{S:AS}{A:List Nat}{ρ1:Pl}{a:Act}{w:World}{rc:Loop}{S1:AS}{X Y Y':Nat->Prop}{W W':World}(h:Core E V S A ρ1 a w rc S1 X Y W)(hs:WStep Y Y' W W'):Core E V S A ρ1 a w rc S1 X Y' W':=by
 obtain⟨Xo,ρ,h1,h2,h3,h4,h5,h6,h7,h8,h9,h10,h11,h12,h13,h14,h15,h16,h17⟩:=h
 have hXY:∀ b,Xo b->W'.heap[b]?=W.heap[b]?:=fun b hb=>hs.block b (h10 b (h8 b hb)).2 (h10 b (h8 b hb)).1
 refine⟨Xo,ρ,h1,h2,h3,h4,?_,h6,h7,h8,h9,fun b hb=>⟨fun hy=>(hs.own b hy).elim (h10 b hb).1 (fun h=>by have:=(h10 b hb).2;omega),K0 (h10 b hb).2 hs.size⟩,fun b hb=>(hs.own b hb).elim (h11 b) (fun h=>.inr (by have:=h5.le_size;have:V.w0.heap.size<=W.heap.size:=this;omega)),h12,h13,
  (hXY _ h13).trans h14,(hXY _ h12).trans h15,h16,h17⟩
 have hk:Keeps V.F V.w0.heap.size W W':=⟨hs.os,hs.tape,hs.output,hs.size,fun b hb hF=>hs.block b (K0 hb h5.le_size) (fun hy=>(h11 b hy).elim hF (fun h=>Nat.not_lt.2 h hb))⟩
 obtain⟨Ds,hd1,hd2,hd3,hd4⟩:=h5.defers
 have:=h5.foreign (X':=fun b=>Xo b ∨ (Y' b/\b < W'.heap.size)) (w':=W') (ds:=a.defers) hk (fun b hb hn=>hs.block b hb (fun hy=>hn (.inr ⟨hy,hb⟩)))
  (fun b hb hx=>hx.imp id (fun hy=>⟨(hs.own b hy.1).resolve_right (by omega),hb⟩)) (fun b hx=>hx.elim (fun h=>K0 (h10 b (h8 b h)).2 hs.size) And.right)
  ⟨Ds,hd1,hd2,fun D hD=>?_,hd4⟩ (U6 h3)
 . exact this
 obtain⟨g1,g2,g3⟩:=hd3 D hD
 have hlt:D < W.heap.size:=(Array.getElem?_eq_some_iff.1 g1).1
 have g3:=(h17 D (by rw[hd1];exact List.mem_map.2 ⟨D,hD,rfl⟩)).1
 exact⟨(hXY D g3).trans g1,g2,.inl g3⟩
theorem JjB{ps:Array Tmp}{vs:Array Value}{t0:Array Value}:(ps.zip vs).foldl (fun tmps (t,a)=>tmps.setIfInBounds t a) t0=(ps.toList.zip vs.toList).foldl (fun tmps p=>tmps.setIfInBounds p.1 p.2) t0:=by
 rw[<- Array.foldl_toList,Array.toList_zip]
theorem rdy_of{W:World}{l:Nat}{rc:Loop}(h:W.heap[l]?=some (.loop rc)):rdy W l=(rc.state == .ready):=by
 unfold rdy
 rw[h]
def Jci(E:SE)(g:Operand)(gf:Nat)(L:List (List AV))(S S0:AS):Prop :=
 ∀ (V:Env) (X1:Nat->Prop) (ρ1:Pl) (a:Act) (w:World),RelW ((E.ctx V).withX X1) ρ1 (Ju S) (Jj S) a w →
  ∃ (vs:Array Value) (Y0:Nat->Prop),a.eval g=.func (.func gf) #[] vs/\RelW ((E.ctx V).withX fun b=>X1 b ∨ Y0 b) ρ1 (Ju S0) (Jj S0) a w /\
   (∀ b,Y0 b->(V.F b ∨ V.w0.heap.size<=b)/\b < w.heap.size/\¬ XX X1 ρ1 (Jj S0) b) /\
   ∀ (n:Nat) (W1:World) (Xi:Nat->Prop) (l:Nat) (J:Nat->List (List AV)->(Nat->Prop)->(Nat->Prop)->World->Prop) (D:Nat->(Nat->Prop)->(Nat->Prop)->World->Prop),
    w.heap.size<=W1.heap.size->(∀ b,b < w.heap.size->W1.heap[b]?=w.heap[b]?)->(∀ b,Xi b->b < W1.heap.size)->(∀ b,b < w.heap.size->Xi b->XX X1 ρ1 (Jj S0) b) →
    (∀ g cells,lk g E.G=some cells->GlobOK (fun b=>Xi b ∨ Y0 b) W1 g cells)->Xi l->Stab J D->YOK E.P L J D->J l [] Xi Y0 W1 →
    CallsIn Fence.wide n E.P gf (#[.func (.yield l) #[] #[]]++vs) W1 fun e w'=>∃ v X' Y',e=.returned v/\(∀ b,Xi b->X' b)/\(J l L X' Y' w' ∨ D l X' Y' w')
theorem JaD{S0 S:AS}{Q:Exit->AS->Prop}(hnr:E.nr=true)(hEA:E.A=[]){g:Operand}{ps:Array Tmp}{assign body:Code}{A:List Nat}{gf:Nat}{L:List (List AV)}
 (hgc:VB E.P gf)(hwfS:WF S0->WF S)(hst:Jci E g gf L S0 S)
 (htr:JbK (Jj S 0)=false)(hA:∀ id,id ∈ A->∃ cells,Jj S id=.box cells)(hsl:∀ t av,Ju S t=some av->JJ av=true ∨ ∃ id off,av=.ptr id off/\id ∈ A)
 (hps:∀ p,p ∈ ps.toList->p < E.nt)(hlen:∀ x,x ∈ L->x.length=ps.size)
 (J:List (List AV)->AS->Prop)(h0:J [] S)
 (hround:∀ pre x post S1,L=pre++x::post->J pre S1->Tri (E.rnd A) assign ⟨UW ps.toList x S.s,S1.b,S1.n⟩ (fun e S2=>e=.normal/\JbK (Jj S2 0)=false /\
  Tri (E.rnd A) body S2 (fun e S3=>JbK (Jj S3 0)=false/\roundQ J S (pre++[x]) Q e S3)))
 (hdone:∀ S1,J L S1->Q .normal S1):Tri E (.rangeFunc g ps assign body) S0 Q:=by
 intro V r n a w hrn hrel
 obtain rfl:r=none:=hrn hnr
 obtain⟨hwf0,X1,ρ1,hgr,hrS⟩:=hrel
 have hwf:=hwfS hwf0
 obtain⟨vs,Y0,hv,hr,hY0,hseq⟩:=hst V X1 ρ1 a w hrS
 refine wpIn_rangeFunc fun fn _=>?_
 obtain⟨rc,hrc⟩:∃ rc:LoopState->Option Code->Loop,rc=fun st pe=>{ state:=st,pending:=pe,fn,tmps:=a.tmps,params:=ps,assign,body,defers:=w.heap.size }:=⟨_,rfl⟩
 obtain⟨W1,hW1⟩:∃ W1,(w.alloc (.deferred (some []))).alloc (.loop (rc .ready none))=W1:=⟨_,rfl⟩
 have hsz1:W1.heap.size=w.heap.size+2:=by rw[<- hW1];simp
 have hb1:Below w.heap.size w W1:=by rw[<- hW1];exact((Below.refl _ w).alloc (Kr _) _).alloc (by simp) _
 have hL1:W1.heap[w.heap.size+1]?=some (.loop (rc .ready none)):=by
  rw[<- hW1];have:=World.alloc_heap_new (w.alloc (.deferred (some []))) (.loop (rc .ready none));rwa [World.size_alloc]at this
 have hD1:W1.heap[w.heap.size]?=some (.deferred (some [])):=by
  rw[<- hW1];exact(Below.heap_alloc _ _ _ (by simp)).trans (World.alloc_heap_new w _)
 have hw0:V.w0.heap.size<=w.heap.size:=hr.le_size
 obtain⟨Xi,hXi⟩:∃ Xi:Nat->Prop,Xi=fun b=>XX X1 ρ1 (Jj S) b ∨ b=w.heap.size ∨ b=w.heap.size+1:=⟨_,rfl⟩
 have hxlt:∀ b,XX X1 ρ1 (Jj S) b->b < w.heap.size:=fun b hb=>hr.xx_lt (show XX (fun b=>X1 b ∨ Y0 b) ρ1 (Jj S) b from hb.imp .inl id)
 obtain⟨gfn,gbody,hgf,hgb,hgn⟩:=hgc
 -- the invariants
 obtain⟨J',hJ'⟩:∃ J':Nat->List (List AV)->(Nat->Prop)->(Nat->Prop)->World->Prop,J'=fun l rows X Y W=>l=w.heap.size+1/\∃ S1,J rows S1/\Core E V S A ρ1 a w (rc .ready none) S1 X Y W:=⟨_,rfl⟩
 obtain⟨D',hD'⟩:∃ D':Nat->(Nat->Prop)->(Nat->Prop)->World->Prop,D'=fun l X Y W=>l=w.heap.size+1/\∃ c S1,Jpv Q c S1/\Core E V S A ρ1 a w (rc .done (some c)) S1 X Y W:=⟨_,rfl⟩
 have hstab:Stab J' D':=by
  rw[hJ',hD']
  exact⟨fun l rows X Y Y' W W' ⟨h1,S1,h2,h3⟩ hs=>⟨h1,S1,h2,h3.step hs⟩,fun l X Y Y' W W' ⟨h1,c,S1,h2,h3⟩ hs=>⟨h1,c,S1,h2,h3.step hs⟩⟩
 have hcore0:Core E V S A ρ1 a w (rc .ready none) S Xi Y0 W1:=by
  refine⟨fun b=>X1 b ∨ b=w.heap.size ∨ b=w.heap.size+1,ρ1,hwf,rfl,htr,fun id hid=>⟨hA id hid,rfl⟩,?_,fun b hb=>.inl (hgr.1 b hb),fun b hb=>?_,fun b hb=>?_,fun b hb=>?_,fun b hb=>⟨?_,?_⟩,fun b hb=>(hY0 b hb).1,.inr (.inl rfl),.inr (.inr rfl),hL1,hD1,hw0,fun D hD=>?_⟩
  . obtain⟨Ds,hd1,hd2,hd3,hd4⟩:=hrS.defers
    have hlt3:∀ D,D ∈ Ds->D < w.heap.size:=fun D hD=>(Array.getElem?_eq_some_iff.1 (hd3 D hD).1).1
    have:=hr.foreign (X':=fun b=>(X1 b ∨ b=w.heap.size ∨ b=w.heap.size+1) ∨ (Y0 b/\b < W1.heap.size)) (w':=W1) (ds:=a.defers) (Keeps.of_below hb1 hw0) (fun b hb _=>hb1.block b hb)
     (fun b hb hx=>by
      rcases hx with(hx | rfl | rfl) | hx
      . exact .inl hx
      . omega
      . omega
      . exact .inr hx.1)
     (fun b hx=>by
      rcases hx with(hx | rfl | rfl) | hx
      . exact K0 (hr.x0 b (.inl hx)) hb1.size
      . omega
      . omega
      . exact hx.2) ⟨Ds,hd1,hd2,fun D hD=>⟨(hb1.block D (hlt3 D hD)).trans (hd3 D hD).1,(hd3 D hD).2.1,.inl (.inl (hd3 D hD).2.2)⟩,hd4⟩ (U6 htr)
    exact this
  . rcases hb with hb | rfl | rfl
    . exact hgr.2 b hb
    . exact .inr hw0
    exact .inr (by omega)
  . rw[hXi]
    exact hb.imp (fun h=>.inl h) id
  . rw[hXi];exact .inl (.inr hb)
  . rw[hXi]at hb
    intro hy
    rcases hb with hb | rfl | rfl
    . exact(hY0 b hy).2.2 hb
    . have:=(hY0 _ hy).2.1;omega
    have:=(hY0 _ hy).2.1;omega
  . rw[hXi]at hb
    rcases hb with hb | rfl | rfl
    . exact K0 (hxlt b hb) hb1.size
    . omega
    omega
  obtain⟨Ds,hd1,hd2,hd3,hd4⟩:=hrS.defers
  rw[hd1]at hD
  obtain⟨D2,hD2,e⟩:=List.mem_map.1 hD
  have:D2=D:=by
   unfold Je9 at e
   simpa using e
  subst this
  exact⟨.inl (hd3 D2 hD2).2.2,(Array.getElem?_eq_some_iff.1 (hd3 D2 hD2).1).1⟩
 -- one round
 have hyok:YOK E.P L J' D':=by
  rw[hJ',hD']
  rintro l rows X Y W args x post hLL ⟨rfl,S1,hj,Xo,ρ,h1,h2,h3,h4,h5,h6,h7,h8,h9,h10,h11,h12,h13,h14,h15,h16,h17⟩ hX hY hz
  have hxl:x.length=ps.size:=hlen x (by rw[hLL];simp)
  have hal:args.length=ps.size:=by rw[<- hxl];exact hz.1
  have hyield:=run_yield (P:=E.P) (args:=args.toArray) h14 (by rw[hrc];simpa using hal)
  rw[hrc]at hyield
  refine⟨fn,_,assign,body,hyield,fun n=>roundIn_of_wpIn trivial ?_⟩
  show assign.wpIn (fen (some (w.heap.size+1))) n E.P _ _ W
  have hS1:Ju S1=Ju S:=by unfold Ju;rw[h2]
  obtain⟨Xa,hXa⟩:∃ Xa:Nat->Prop,Xa=fun b=>Xo b ∨ (Y b/\b < W.heap.size):=⟨_,rfl⟩
  rw[<- hXa]at h5
  have hXaX:∀ b,XX Xa ρ (Jj S1) b->X b ∨ Y b:=by
   rw[hXa]
   rintro b ((hb | hb) | hb)
   . exact .inl (h8 b hb)
   . exact .inr hb.1
   exact .inl (h9 b hb)
  -- the round's frame
  have hbase:=h5.rebase (E:=E) (w':=W) (X':=Xa) (A:=A) rfl rfl (Kr _) (fun _ _ _=>rfl) (fun _ _ h=>h) h5.x0 (U6 h3) (fun id hid=>(h4 id hid).1)
  have hputs:=hbase.puts (s:=S1.s) (ps:=ps.toList) (x:=x) (vs:=args) (hz.mono fun v y hv=>SRep.of_rep (Rep.mono (Kr _) (fun _ _ _=>rfl) (fun b _ hn hx=>hn (hXaX b hx)) hv)) hps (by simpa using hxl.symm)
  have hrel1:Rel ((E.rnd A).ctx ⟨W,Xa,own ρ (Jj S1),noJ,noD,ρ⟩) ⟨UW ps.toList x S.s,S1.b,S1.n⟩ { tmps:=(ps.zip args.toArray).foldl (fun tmps (t,a)=>tmps.setIfInBounds t a) a.tmps,defers:=[] } W:=by
   refine⟨⟨fun t av ht i hi=>?_,h1.alive,h1.blks,h1.zero⟩,Xa,ρ,Grow.refl _,?_⟩
   . rcases Je6 (show lk t (UW ps.toList x S.s)=some av from ht)with hm | hm
     . obtain⟨q,hq,rfl⟩:=List.mem_iff_getElem.1 hm
       obtain⟨v,_,hv⟩:=hz.at hq
       rw[JV (Kj hq)]at hv
       rw[Uh hv]at hi;cases hi
     rcases hsl t av hm with hp | ⟨id,off,rfl,hid⟩
     . have hs2:=(h5.slots t av (by rw[hS1];exact hm)).2
       rw[Uh (SRep.one1 hp hs2)]at hi;cases hi
     obtain⟨⟨cells,hc⟩,_⟩:=h4 id hid
     simp only[Qn,mids1,mids0,List.mem_singleton]at hi
     subst hi
     exact h1.alive _ (by rw[hc];trivial)
   rw[JjB,<- h2]
   exact hputs
  refine wpIn_mono (hround rows x post S1 hLL hj _ (some (w.heap.size+1)) n _ W (fun h=>by cases h) hrel1) ?_
  rintro e a2 W2 ⟨S2,⟨rfl,ht2,hbody⟩,hwf2,X2,ρ2,hgr2,hr2⟩
  -- the round begins
  have hsame2:∀ b,b < W.heap.size->¬ own ρ (Jj S1) b->W2.heap[b]?=W.heap[b]?:=fun b hb hn=>hr2.keeps.block b hb hn
  have hnotown:∀ b,Xo b->¬ own ρ (Jj S1) b:=fun b hb ho=>h5.own_x0 ho (show Xa b by rw[hXa];exact .inl hb)
  have hl2:W2.heap[w.heap.size+1]?=some (.loop (rc .ready none)):=(hsame2 _ (h10 _ (h8 _ h13)).2 (hnotown _ h13)).trans h14
  have hlW2:w.heap.size+1 < W2.heap.size:=(Array.getElem?_eq_some_iff.1 hl2).1
  have hX2l:X2 (w.heap.size+1):=hgr2.1 _ (show Xa _ by rw[hXa];exact .inl h13)
  refine⟨W2.putObj (w.heap.size+1) (.loop { rc .ready none with state:=.busy }),run_beginRound hl2 (by rw[hrc]),?_⟩
  obtain⟨W3,hW3⟩:∃ W3,W2.putObj (w.heap.size+1) (.loop { rc .ready none with state:=.busy })=W3:=⟨_,rfl⟩
  rw[hW3]
  have hl3:W3.heap[w.heap.size+1]?=some (.loop { rc .ready none with state:=.busy }):=by rw[<- hW3];exact World.putObj_heap_same hlW2
  have hsz3:W3.heap.size=W2.heap.size:=by rw[<- hW3];simp
  have ho3:∀ b,b ≠ w.heap.size+1->W3.heap[b]?=W2.heap[b]?:=fun b hb=>by rw[<- hW3];exact World.putObj_heap_other hb
  have hbase3:=hr2.rebase (E:=E) (w':=W3) (X':=X2) (A:=A) rfl rfl (Nat.le_of_eq hsz3.symm) (fun b hb hx=>ho3 b (fun e=>hx (e ▸ hX2l))) (fun _ _ h=>h) (fun b hb=>by rw[hsz3];exact hr2.x0 b hb) (U6 ht2) (fun id hid=>(hr2.anc id hid).1)
  have hrel3:Rel ((E.rnd A).ctx ⟨W3,X2,own ρ2 (Jj S2),noJ,noD,ρ2⟩) S2 { a2 with defers:=[] } W3:=⟨hwf2,X2,ρ2,Grow.refl _,hbase3⟩
  have ha2:a2.defers=[]:=by
   obtain⟨_,_,_,_,hd⟩:=hr2.defers
   exact hd rfl
  have hrel3':Rel ((E.rnd A).ctx ⟨W3,X2,own ρ2 (Jj S2),noJ,noD,ρ2⟩) S2 a2 W3:=by
   rw[show a2={ a2 with defers:=[] } by cases a2;simp at ha2;rw[ha2]]
   exact hrel3
  refine wpIn_mono (hbody _ (some (w.heap.size+1)) n _ W3 (fun h=>by cases h) hrel3') ?_
  rintro e a4 W4 ⟨S4,⟨ht4,hq4⟩,hwf4,X4,ρ4,hgr4,hr4⟩
  -- the round ends
  have hsame4:∀ b,b < W3.heap.size->¬ own ρ2 (Jj S2) b->W4.heap[b]?=W3.heap[b]?:=fun b hb hn=>hr4.keeps.block b hb hn
  have hnot2:∀ b,X2 b->¬ own ρ2 (Jj S2) b:=fun b hb ho=>hr2.own_x0 ho hb
  have hl4:W4.heap[w.heap.size+1]?=some (.loop { rc .ready none with state:=.busy }):=(hsame4 _ (by rw[hsz3];exact hlW2) (hnot2 _ hX2l)).trans hl3
  have hlW4:w.heap.size+1 < W4.heap.size:=(Array.getElem?_eq_some_iff.1 hl4).1
  have hX4l:X4 (w.heap.size+1):=hgr4.1 _ hX2l
  have hle2:W.heap.size<=W2.heap.size:=hr2.keeps.size
  have hle4:W3.heap.size<=W4.heap.size:=hr4.keeps.size
  have hown2:∀ b,own ρ2 (Jj S2) b->own ρ (Jj S1) b ∨ W.heap.size<=b:=fun b ⟨i,ha,hr⟩=>(hr2.live i b ha hr).1
  have hown4:∀ b,own ρ4 (Jj S4) b->own ρ (Jj S1) b ∨ W.heap.size<=b:=fun b ⟨i,ha,hr⟩=>(hr4.live i b ha hr).1.elim (fun h=>hown2 b h) (fun h=>.inr (by have:W3.heap.size<=b:=h;omega))
  have hX24:∀ b,X4 b->Xa b ∨ W.heap.size<=b:=fun b hb=>(hgr4.2 b hb).elim (fun h=>hgr2.2 b h) (fun h=>.inr (by have:W3.heap.size<=b:=h;omega))
  have hXa4:∀ b,Xa b->X4 b:=fun b hb=>hgr4.1 b (hgr2.1 b hb)
  -- what becomes of the frame
  have hend:∀ (st:LoopState) (pe:Option Code),Core E V S A ρ1 a w { rc .ready none with state:=st,pending:=pe } ⟨S.s,S4.b,S4.n⟩ (fun b=>X b ∨ (W.heap.size<=b/\b < W4.heap.size)) Y (W4.putObj (w.heap.size+1) (.loop { rc .ready none with state:=st,pending:=pe })):=by
   intro st pe
   obtain⟨W5,hW5⟩:∃ W5,W4.putObj (w.heap.size+1) (.loop { rc .ready none with state:=st,pending:=pe })=W5:=⟨_,rfl⟩
   rw[hW5]
   have hl5:W5.heap[w.heap.size+1]?=some (.loop { rc .ready none with state:=st,pending:=pe }):=by rw[<- hW5];exact World.putObj_heap_same hlW4
   have hsz5:W5.heap.size=W4.heap.size:=by rw[<- hW5];simp
   have ho5:∀ b,b ≠ w.heap.size+1->W5.heap[b]?=W4.heap[b]?:=fun b hb=>by rw[<- hW5];exact World.putObj_heap_other hb
   have hbase5:=hr4.rebase (E:=E) (w':=W5) (X':=X4) (A:=A) rfl rfl (Nat.le_of_eq hsz5.symm) (fun b hb hx=>ho5 b (fun e=>hx (e ▸ hX4l))) (fun _ _ h=>h) (fun b hb=>by rw[hsz5];exact hr4.x0 b hb) (U6 ht4) (fun id hid=>(hr4.anc id hid).1)
   have hsame5:∀ b,b < W.heap.size->¬ own ρ (Jj S1) b->b ≠ w.heap.size+1->W5.heap[b]?=W.heap[b]?:=by
    intro b hb hn hne
    have hn2:¬ own ρ2 (Jj S2) b:=fun h=>(hown2 b h).elim hn (fun h=>by omega)
    rw[ho5 b hne,hsame4 b (by omega) hn2,ho3 b hne,hsame2 b hb hn]
   have hA4:∀ id,id ∈ A->(∃ cells,Jj S1 id=.box cells)/\(∃ cells,Jj S4 id=.box cells)/\ρ4 id=ρ id:=by
    intro id hid
    obtain⟨g1,g2⟩:=hr4.anc id hid
    obtain⟨g3,g4⟩:=hr2.anc id hid
    exact⟨(h4 id hid).1,g1,g2.trans g4⟩
   have hpo:W5.os=W4.os/\W5.tape=W4.tape/\W5.output=W4.output:=by rw[<- hW5];exact⟨rfl,rfl,rfl⟩
   have hp3:W3.os=W2.os/\W3.tape=W2.tape/\W3.output=W2.output:=by rw[<- hW3];exact⟨rfl,rfl,rfl⟩
   have hub:=h5.unbase (h5:=hbase5) (A:=A) (l:=w.heap.size+1) (rc:=rc .ready none) hown4 hX24 hXa4 (show Xa _ by rw[hXa];exact .inl h13) (show V.w0.heap.size<=w.heap.size+1 by omega) h14 hsame5 (by omega)
    (hpo.1.trans ((show W4.os=W3.os from hr4.keeps.os).trans (hp3.1.trans hr2.keeps.os)))
    (hpo.2.1.trans ((show W4.tape=W3.tape from hr4.keeps.tape).trans (hp3.2.1.trans hr2.keeps.tape)))
    (hpo.2.2.trans ((show W4.output=W3.output from hr4.keeps.output).trans (hp3.2.2.trans hr2.keeps.output)))
    (U6 ht4) (JeZ ht4) hEA (fun t av ht=>hsl t av (by rw[<- hS1];exact ht)) hA4
   have hXeq:(fun b=>(X4 b/\¬ Y b) ∨ (Y b/\b < W5.heap.size))=X4:=by
    funext b
    refine propext ⟨?_,fun hb=>?_⟩
    . rintro(hb | hb)
      . exact hb.1
      exact hXa4 b (by rw[hXa];exact .inr ⟨hb.1,(hY b hb.1).1⟩)
    by_cases hyb:Y b
    . exact .inr ⟨hyb,by rw[hsz5];exact hr4.x0 b hb⟩
    exact .inl ⟨hb,hyb⟩
   have hXo4:∀ b,Xo b->X4 b/\¬ Y b:=fun b hb=>⟨hXa4 b (by rw[hXa];exact .inl hb),(h10 b (h8 b hb)).1⟩
   have hXa':∀ b,X4 b->¬ Y b->Xo b ∨ W.heap.size<=b:=fun b hb hy=>(hX24 b hb).imp (fun h=>by rw[hXa]at h;exact h.resolve_right (fun h=>hy h.1)) id
   refine⟨fun b=>X4 b/\¬ Y b,ρ4,⟨fun t av ht i hi=>?_,hwf4.alive,hwf4.blks,hwf4.zero⟩,rfl,ht4,fun id hid=>⟨(hA4 id hid).2.1,(hA4 id hid).2.2.trans (h4 id hid).2⟩,?_,fun b hb=>hXo4 b (h6 b hb),fun b hb=>?_,fun b hb=>?_,fun b hb=>?_,fun b hb=>?_,h11,hXo4 _ h12,hXo4 _ h13,hl5,?_,h16,fun D hD=>⟨hXo4 D (h17 D hD).1,(h17 D hD).2⟩⟩
   . rcases hsl t av ht with hp | ⟨id,off,rfl,hid⟩
     . have hs2:=(h5.slots t av (by rw[hS1];exact ht)).2
       rw[Uh (SRep.one1 hp hs2)]at hi;cases hi
     obtain⟨cells,hc⟩:=(hA4 id hid).2.1
     simp only[Qn,mids1,mids0,List.mem_singleton]at hi
     subst hi
     exact hwf4.alive _ (by rw[hc];trivial)
   . rw[hXeq]
     rw[hS1]at hub
     exact hub
   . have hw0W:V.w0.heap.size<=W.heap.size:=h5.le_size
     rcases hXa' b hb.1 hb.2 with h | h
     . exact h7 b h
     exact .inr (by omega)
   . rcases hXa' b hb.1 hb.2 with h | h
     . exact .inl (h8 b h)
     exact .inr ⟨h,hr4.x0 b hb.1⟩
   . rcases hown4 b hb with h | h
     . exact .inl (h9 b h)
     obtain⟨i,ha,hr⟩:=hb
     exact .inr ⟨h,(hr4.live i b ha hr).2.2⟩
   . rcases hb with hb | hb
     . exact⟨(h10 b hb).1,by have:=(h10 b hb).2;omega⟩
     exact⟨fun hy=>by have:=(hY b hy).1;omega,by rw[hsz5];exact hb.2⟩
   rw[hsame5 _ (h10 _ (h8 _ h12)).2 (hnotown _ h12) (by omega)]
   exact h15
  have hfin:∀ (jump:Option Code),∃ v w',(Instr.endRound (w.heap.size+1) jump).run E.P W4=.ok v w'/\v=.bool jump.isNone/\rdy w' (w.heap.size+1)=jump.isNone/\w'.os=W.os/\w'.tape=W.tape/\w'.output=W.output/\W.heap.size<=w'.heap.size/\w'.heap.size=W4.heap.size /\
   (∀ b,b < W.heap.size->¬ X b->w'.heap[b]?=W.heap[b]?)/\Core E V S A ρ1 a w { rc .ready none with state:=if jump.isNone then .ready else .done,pending:=jump } ⟨S.s,S4.b,S4.n⟩ (fun b=>X b ∨ (W.heap.size<=b/\b < W4.heap.size)) Y w':=by
   intro jump
   refine⟨_,_,run_endRound jump hl4,rfl,?_,?_,?_,?_,by simp;omega,by simp,fun b hb hn=>?_,hend _ _⟩
   . rw[rdy_of (World.putObj_heap_same hlW4)]
     cases jump <;> rfl
   . have hp3:W3.os=W2.os:=by rw[<- hW3];rfl
     exact(show W4.os=W3.os from hr4.keeps.os).trans (hp3.trans hr2.keeps.os)
   . have hp3:W3.tape=W2.tape:=by rw[<- hW3];rfl
     exact(show W4.tape=W3.tape from hr4.keeps.tape).trans (hp3.trans hr2.keeps.tape)
   . have hp3:W3.output=W2.output:=by rw[<- hW3];rfl
     exact(show W4.output=W3.output from hr4.keeps.output).trans (hp3.trans hr2.keeps.output)
   . have hne:b ≠ w.heap.size+1:=fun e=>hn (e ▸ h8 _ h13)
     have hno:¬ own ρ (Jj S1) b:=fun h=>hn (h9 b h)
     have hn2:¬ own ρ2 (Jj S2) b:=fun h=>(hown2 b h).elim hno (fun h=>by omega)
     rw[World.putObj_heap_other hne,hsame4 b (by omega) hn2,ho3 b hne,hsame2 b hb hno]
  have hX'1:∀ b,X b->X b ∨ (W.heap.size<=b/\b < W4.heap.size):=fun b h=>.inl h
  have hX'2:∀ b,X b ∨ (W.heap.size<=b/\b < W4.heap.size)->X b ∨ W.heap.size<=b:=fun b h=>h.imp id And.left
  have hX'3:∀ b,X b ∨ (W.heap.size<=b/\b < W4.heap.size)->b < W4.heap.size:=fun b h=>h.elim (fun h=>by have:=hX b h;omega) And.right
  have hleave:∀ c,Jpv Q c ⟨S.s,S4.b,S4.n⟩->∃ v w',(Instr.endRound (w.heap.size+1) (some c)).run E.P W4=.ok v w'/\∃ X':Nat->Prop,Ending.returned v=.returned (.bool (rdy w' (w.heap.size+1)))/\w'.os=W.os/\w'.tape=W.tape/\w'.output=W.output/\W.heap.size<=w'.heap.size /\
   (∀ b,X b->X' b)/\(∀ b,X' b->X b ∨ W.heap.size<=b)/\(∀ b,X' b->b < w'.heap.size)/\(∀ b,b < W.heap.size->¬ X b->w'.heap[b]?=W.heap[b]?) /\
   (rdy w' (w.heap.size+1)=true->(w.heap.size+1=w.heap.size+1/\∃ S1,J (rows++[x]) S1/\Core E V S A ρ1 a w (rc .ready none) S1 X' Y w'))/\(rdy w' (w.heap.size+1)=false->(w.heap.size+1=w.heap.size+1/\∃ c S1,Jpv Q c S1/\Core E V S A ρ1 a w (rc .done (some c)) S1 X' Y w')):=by
   intro c hc
   obtain⟨v,w',g1,g2,g3,g4,g5,g6,g7,g8,g9,g10⟩:=hfin (some c)
   refine⟨v,w',g1,_,by rw[g2,g3],g4,g5,g6,g7,hX'1,hX'2,fun b h=>by rw[g8];exact hX'3 b h,g9,fun h=>(by rw[g3]at h;cases h),fun _=>⟨rfl,c,_,hc,?_⟩⟩
   rw[hrc]
   rw[hrc]at g10
   exact g10
  cases e with
  | normal =>
   obtain⟨v,w',g1,g2,g3,g4,g5,g6,g7,g8,g9,g10⟩:=hfin none
   refine⟨v,w',g1,_,by rw[g2,g3],g4,g5,g6,g7,hX'1,hX'2,fun b h=>by rw[g8];exact hX'3 b h,g9,fun _=>⟨rfl,_,hq4,?_⟩,fun h=>(by rw[g3]at h;cases h)⟩
   rw[hrc]
   rw[hrc]at g10
   exact g10
  | ret=>exact hleave .ret (.inl ⟨rfl,hq4⟩)
  | exit id=>exact hleave (.exit id) (.inr (.inl ⟨id,rfl,hq4⟩))
  | goto t=>exact hleave (.goto t) (.inr (.inr ⟨t,rfl,hq4⟩))
  | panic _=>exact hq4.elim
  | outgrown=>exact hq4.elim
 -- the function is called
 have hrun:(callFunc gf (#[Value.func (.yield (w.heap.size+1)) #[] #[]]++vs)).run E.P W1=.ok (.enter gf (#[Value.func (.yield (w.heap.size+1)) #[] #[]]++vs)) W1:=by
  simp only[callFunc,Ki,run_program,Ke,hgf]
  rw[if_neg (by simp[hgn])]
  simp[hgb]
 refine⟨w.heap.size+1,[{ target:=.collected w.heap.size,args:=#[] }],W1,{ target:=.fn (.func gf) vs,args:=#[.func (.yield (w.heap.size+1)) #[] #[]] },W1,gf,
  #[.func (.yield (w.heap.size + 1)) #[] #[]] ++ vs, W1, ?_, ?_, fun _ _ => trivial, ?_, fun h => (by simp [fen, Fence.wide] at h), ?_⟩
 . rw[<- hW1,hrc];exact run_enterLoop_outer _ _ _ _ _
 . simp only[resolve,hv]
   simp[go_sem]
 . simpa[invoke]using hrun
 . have hcall:=hseq (n-1) W1 Xi (w.heap.size+1) J' D' hb1.size (fun b hb=>hb1.block b hb) (fun b hb=>?_) (fun b hlt hb=>?_) (fun gg cells hgg=>?_) (by rw[hXi];exact .inr (.inr rfl)) hstab hyok (by rw[hJ'];exact⟨rfl,S,h0,hcore0⟩)
   . refine CallsIn.mono (show CallsIn (fen none) (n-1) E.P gf _ W1 _ from hcall) ?_
     rintro e w3 ⟨v,X',Y',rfl,hXX,hend⟩
     have hleave:∀ {rc':Loop} {S1:AS} {o':Obj},Core E V S A ρ1 a w rc' S1 X' Y' w3->Rel (E.ctx V) S1 { a with defers:=[{ target:=.collected w.heap.size,args:=#[] }]++a.defers } (w3.putObj (w.heap.size+1) o'):=by
      rintro rc' S1 o' ⟨Xo,ρ,h1,h2,h3,h4,h5,h6,h7,h8,h9,h10,h11,h12,h13,h14,h15,h16,h17⟩
      refine⟨h1,fun b=>Xo b ∨ (Y' b/\b < w3.heap.size/\V.w0.heap.size<=b),ρ,⟨fun b hb=>.inl (h6 b hb),fun b hb=>hb.elim (h7 b) (fun h=>.inr h.2.2)⟩,?_⟩
      obtain⟨Ds,hd1,hd2,hd3,hd4⟩:=h5.defers
      have hother:∀ b,b ≠ w.heap.size+1->(w3.putObj (w.heap.size+1) o').heap[b]?=w3.heap[b]?:=fun b hb=>World.putObj_heap_other hb
      have hml:∀ D,D ∈ Ds->D < w.heap.size:=fun D hD=>(h17 D (by rw[hd1];exact List.mem_map.2 ⟨D,hD,rfl⟩)).2
      refine h5.foreign (X':=fun b=>Xo b ∨ (Y' b/\b < w3.heap.size/\V.w0.heap.size<=b)) (w':=w3.putObj (w.heap.size+1) o') (ds:=[{ target:=.collected w.heap.size,args:=#[] }]++a.defers) ⟨rfl,rfl,rfl,by simp,fun b hb _=>hother b (by have:b < V.w0.heap.size:=hb;omega)⟩ (fun b hb hn=>hother b (fun e=>hn (.inl (e ▸ h13)))) (fun _ _ h=>h.imp id fun h=>⟨h.1,h.2.1⟩) (fun b hb=>by simpa using h5.x0 b (hb.imp id fun h=>⟨h.1,h.2.1⟩))
       ⟨w.heap.size::Ds,by rw[hd1];rfl,List.nodup_cons.2 ⟨fun hm=>by have:=hml _ hm;omega,hd2⟩,fun D hD=>?_,fun h=>?_⟩ (U6 h3)
      . rcases List.mem_cons.1 hD with rfl | hD
        . exact⟨(hother _ (by omega)).trans h15,h16,.inl h12⟩
        obtain⟨g1,g2,g3⟩:=hd3 D hD
        exact⟨(hother _ (by have:=hml D hD;omega)).trans g1,g2,.inl (h17 D (by rw[hd1];exact List.mem_map.2 ⟨D,hD,rfl⟩)).1⟩
      have h:E.nr=false:=h
      rw[hnr]at h;cases h
     rcases hend with hend | hend
     . rw[hJ']at hend
       obtain⟨_,S1,hj,hc⟩:=hend
       obtain⟨Xo,ρ,h1,h2,h3,h4,h5,h6,h7,h8,h9,h10,h11,h12,h13,h14,_⟩:=id hc
       refine⟨none,w3.putObj (w.heap.size+1) (.loop { rc .ready none with state:=.exhausted }),?_,S1,hdone S1 hj,hleave hc⟩
       have:=run_endLoop (P:=E.P) h14 (by rw[hrc];simp)
       refine this.trans ?_
       rw[hrc]
     rw[hD']at hend
     obtain⟨_,c,S1,hq,hc⟩:=hend
     obtain⟨Xo,ρ,h1,h2,h3,h4,h5,h6,h7,h8,h9,h10,h11,h12,h13,h14,_⟩:=id hc
     refine⟨some c,w3.putObj (w.heap.size+1) (.loop { rc .done (some c)with state:=.exhausted }),?_,?_⟩
     . have:=run_endLoop (P:=E.P) h14 (by rw[hrc];simp)
       refine this.trans ?_
       rw[hrc]
     have hl:=hleave (o':=.loop { rc .done (some c)with state:=.exhausted }) hc
     rcases hq with⟨rfl,hq⟩ | ⟨id,rfl,hq⟩ | ⟨t,rfl,hq⟩
     . exact wpIn_ret ⟨S1,hq,hl⟩
     . exact wpIn_exit ⟨S1,hq,hl⟩
     exact wpIn_goto ⟨S1,hq,hl⟩
   . rw[hXi]at hb
     rcases hb with hb | rfl | rfl
     . exact K0 (hxlt b hb) hb1.size
     . omega
     omega
   . rw[hXi]at hb
     rcases hb with hb | rfl | rfl
     . exact hb
     . omega
     omega
   refine GlobOK.mono hb1.size (fun b hlt _=>hb1.block b hlt) (fun b hlt hn=>?_) (hr.glob' hgg)
   rw[hXi]
   rintro((hx | rfl | rfl) | hx)
   . exact hn (hx.imp .inl id)
   . omega
   . omega
   exact hn (.inl (.inr hx))
theorem Jj2{S:AS}{g:Operand}{gf:Nat}{cap:List AV}{L:List (List AV)}(hg:JdP E.G (Ju S) g=some (.fn (.func gf) [] cap))(hcap:cap.all XM=true)(hseq:PSeq E.P E.G gf cap L):Jci E g gf L S S:=by
 intro V X1 ρ1 a w hr
 have hgv:=WW (K:=(E.ctx V).withX X1) hr hg
 obtain⟨fs,cs,hv,_,hcs⟩:=(show SRep1 ρ1 (Jj S) (XX X1 ρ1 (Jj S)) w (a.eval g) (.fn (.func gf) [] cap)from hgv)
 refine⟨((List.range cap.length).map cs).toArray,fun _=>False,by simpa using hv,?_,fun b hb=>hb.elim,fun n W1 Xi l J' D' hs hb hXi hXs hG hl hst hy hJ=>?_⟩
 . rw[show(fun b=>X1 b ∨ False)=X1 from funext fun b=>propext ⟨fun h=>h.elim id False.elim,.inl⟩]
   exact hr
 refine hseq.run n W1 Xi _ l J' D' hXi (fun g cells hg=>?_) ?_ hl hst hy hJ
 . have:=hG g cells hg
   rwa [show(fun b=>Xi b ∨ False)=Xi from funext fun b=>propext ⟨fun h=>h.elim id False.elim,.inl⟩]at this
 refine⟨by simp,fun i v x hv hx=>?_⟩
 have hlt:i < cap.length:=(List.getElem?_eq_some_iff.1 hx).1
 simp only[]at hv
 rw[Kk,List.getElem?_range hlt]at hv
 simp at hv
 subst hv
 have h1:=hcs i hlt
 rw[JV hx]at h1
 have h2:=SRep0.rep (List.all_eq_true.1 hcap x (List.mem_of_getElem? hx)) h1
 exact Rep.mono hs (fun b hlt _=>hb b hlt) (fun b hlt hn hx=>hn (hXs b hlt hx)) h2
theorem RelW.kill(h:RelW K ρ slot B a w){slot':Nat->Option AV}(hsub:∀ t av,slot' t=some av->slot t=some av){id b:Nat}(hal:(B id).alive)(hp:ρ id=some b)(hz:¬ (B 0).tracey)(hzp:∀ n,B 0 ≠ .pins n)(hA:id ∉ K.A) :
 RelW (K.withX fun x=>K.X0 x ∨ x=b) ρ slot' (upd B id .dead) a w:=by
 obtain⟨X',hX'⟩:∃ X':Nat->Prop,X'=fun x=>K.X0 x ∨ x=b:=⟨_,rfl⟩
 rw[<- hX']
 have hB0:upd B id .dead 0=B 0 ∨ upd B id .dead 0=.dead:=by
  by_cases e:0=id
  . subst e;exact .inr (Jb _ _ _)
  exact .inl (Jf _ _ e)
 have hBo:∀ i,(upd B id .dead i).alive->i ≠ id/\upd B id .dead i=B i:=by
  intro i ha
  by_cases e:i=id
  . subst e;rw[Jb]at ha;exact ha.elim
  exact⟨e,Jf _ _ e⟩
 have hxx:∀ x,XX X' ρ (upd B id .dead) x->XX K.X0 ρ B x:=by
  rintro x (hx | ⟨i,ha,hr⟩)
  . rw[hX']at hx
    rcases hx with hx | rfl
    . exact .inl hx
    exact .inr ⟨id,hal,hp⟩
  obtain⟨_,e⟩:=hBo i ha
  rw[e]at ha
  exact .inr ⟨i,ha,hr⟩
 have hz':∀ {x:ABlk},upd B id .dead 0=x->x.tracey->False:=fun e ht=>hB0.elim (fun h=>hz (by rw[<- h,e];exact ht)) (fun h=>by rw[<- e,h]at ht;exact ht)
 have hR:∀ l k n bv,Yb B w l k n bv->Yb (upd B id .dead) w l k n bv:=fun l k n bv _=>⟨fun rows e=>(hz' e trivial).elim,fun l' rows e=>(hz' e trivial).elim,fun l' rows e=>(hz' e trivial).elim⟩
 have hB:∀ i,(upd B id .dead i).alive->sameMake (B i) (upd B id .dead i)/\ρ i=ρ i/\∀ b,ρ i=some b->sameSize w w b:=fun i ha=>by
  obtain⟨_,e⟩:=hBo i ha
  rw[e]at ha ⊢
  exact⟨sameMake.refl ha,rfl,fun b _=>.refl _ _⟩
 obtain⟨Ds,hd1,hd2,hd3,hd4⟩:=h.defers
 refine⟨⟨Ds,hd1,hd2,fun D hD=>⟨(hd3 D hD).1,(hd3 D hD).2.1,by rw[show(K.withX X').X0=X' from rfl,hX'];exact .inl (hd3 D hD).2.2⟩,hd4⟩,h.size,h.keeps,fun x hx=>?_,fun g cells hg=>?_,fun i b' ha hr=>?_,fun i i' b' ha ha' hr hr'=>?_,fun i=>?_,fun t av ht=>⟨(h.slots t av (hsub t av ht)).1,?_⟩,
  ⟨h.trc.stab,h.trc.yok,fun ht=>(hz' rfl ht).elim,fun l rows e=>(hz' e trivial).elim,fun l rows e=>(hz' e trivial).elim,fun l e=>(hz' e trivial).elim⟩,fun ht=>(hz' rfl ht).elim,fun i hi=>?_,fun n e=>hB0.elim (fun h=>absurd (h.symm.trans e) (hzp n)) (fun h=>by have:=h.symm.trans e;cases this)⟩
 . have hx:X' x:=hx
   rw[hX']at hx
   rcases hx with hx | rfl
   . exact h.x0 x hx
   exact(h.live id _ hal hp).2.2
 . refine GlobOK.mono (Kr _) (fun _ _ _=>rfl) (fun x _ hn hx=>?_) (h.glob g cells hg)
   rcases hx with hx | hx
   . have hx:X' x:=hx
     rw[hX']at hx
     rcases hx with hx | rfl
     . exact hn (.inl hx)
     exact hn (.inr (h.live id _ hal hp).1)
   exact hn (.inr hx)
 . obtain⟨hne,e⟩:=hBo i ha
   rw[e]at ha
   have h6:=h.live i b' ha hr
   refine⟨h6.1,fun hx=>?_,h6.2.2⟩
   have hx:X' b':=hx
   rw[hX']at hx
   rcases hx with hx | rfl
   . exact h6.2.1 hx
   exact hne (h.inj i id _ ha hal hr hp)
 . obtain⟨_,e⟩:=hBo i ha
   obtain⟨_,e'⟩:=hBo i' ha'
   rw[e]at ha
   rw[e']at ha'
   exact h.inj i i' b' ha ha' hr hr'
 . by_cases ha:(upd B id .dead i).alive
   . obtain⟨_,e⟩:=hBo i ha
     exact BlkOK.mono (Kr _) (fun _ _ _=>rfl) (fun x _ hn hx=>hn (hxx x hx)) e rfl (fun b hr=>rfl) (fun j _=>hB j) hR (h.blks i)
   exact Jy ha
 . exact SRep.mono (Kr _) (fun _ _ _=>rfl) (fun x _ hn hx=>hn (hxx x hx)) (fun i _=>hB i) hR (h.slots t av (hsub t av ht)).2
 . obtain⟨g1,g2⟩:=h.anc i hi
   have hne:i ≠ id:=fun e=>hA (e ▸ hi)
   rw[Jf _ _ hne]
   exact⟨g1,g2⟩
theorem rf_box{S0 S:AS}(hEA:E.A=[]){g:Operand}{gf id:Nat}{cells:List AV}{L:List (List AV)}(hg:JdP E.G (Ju S0) g=some (.fn (.func gf) [] [.ptr id 0]))(hB:Jj S0 id=.box cells)(hc:cells.all XM=true)
 (hseq:PSeqB E.P E.G gf cells L)(htr:JbK (Jj S0 0)=false)(hsub:∀ t av,Ju S t=some av->Ju S0 t=some av)(hb:Jj S=upd (Jj S0) id .dead):Jci E g gf L S0 S:=by
 intro V X1 ρ1 a w hr
 have hgv:=WW (K:=(E.ctx V).withX X1) hr hg
 obtain⟨fs,cs,hv,_,hcs⟩:=(show SRep1 ρ1 (Jj S0) (XX X1 ρ1 (Jj S0)) w (a.eval g) (.fn (.func gf) [] [.ptr id 0])from hgv)
 have h1:=(show SRep0 ρ1 (Jj S0) (XX X1 ρ1 (Jj S0)) w (cs 0) (.ptr id 0)from hcs 0 (by simp))
 obtain⟨b,hp,hv0⟩:=h1.2 cells hB
 have hal:(Jj S0 id).alive:=by rw[hB];trivial
 have hbl:=hr.blks id
 unfold BlkOK at hbl
 rw[hB]at hbl
 obtain⟨b',arr,Ty,hp',hh,hsz,hcc⟩:=hbl
 rw[hp]at hp'
 cases hp'
 have hl:=hr.live id b hal hp
 have hk:=hr.kill hsub hal hp (U6 htr) (JeZ htr) (by rw[show((E.ctx V).withX X1).A=E.A from rfl,hEA];simp)
 have hnx:¬ XX X1 ρ1 (Jj S) b:=by
  rw[hb]
  rintro(hx | ⟨i,ha,hri⟩)
  . exact hl.2.1 hx
  by_cases e:i=id
  . subst e;rw[Jb]at ha;exact ha
  rw[Jf _ _ e]at ha
  exact e (hr.inj i id b ha hal hri hp)
 refine⟨#[.pointer (some ⟨b,0,none⟩)],fun x=>x=b,by rw[hv];simp[hv0],?_,fun x hx=>?_,fun n W1 Xi l J' D' hsz1 hbe hXi hXs hG hXl hst hy hJ=>?_⟩
 . rw[hb]
   exact hk
 . subst hx
   exact⟨hl.1,hl.2.2,hnx⟩
 . refine hseq.run n W1 Xi b arr Ty l J' D' hXi (fun hx=>hnx (hXs b hl.2.2 hx)) hG ((hbe b hl.2.2).trans hh) hsz (fun j hj=>⟨(hcc j hj).1,?_⟩) hXl hst hy hJ
   have h2:=SRep1.rep (ρ:=ρ1) (B:=Jj S0) (JdM (List.all_eq_true.1 hc _ (Qe hj))) (hcc j hj).2
   refine Rep.mono hsz1 (fun x hlt _=>hbe x hlt) (fun x hlt hn hx=>?_) h2
   rcases hx with hx | rfl
   . have h3:=hXs x hlt hx
     rw[hb]at h3
     rcases h3 with h3 | ⟨i,ha,hri⟩
     . exact hn (.inl h3)
     by_cases e:i=id
     . subst e;rw[Jb]at ha;exact ha
     rw[Jf _ _ e]at ha
     exact hn (.inr ⟨i,ha,hri⟩)
   exact hn (.inr ⟨id,hal,hp⟩)
end
section
variable {K : Ctx} {ρ : Pl} {slot slot' : Nat → Option AV} {B B' : Nat → ABlk} {a : Act} {w : World}
theorem RelW.turn(h:RelW K ρ slot B a w)(hT:∀ x,B' 0=x->x.tracey->B 0=x)(hal:∀ i,(B' i).alive->(B i).alive)(hA:∀ i,i ∈ K.A->∃ c,B' i=.box c)(hP:∀ n,B' 0=.pins n->B 0=.pins n)
 (hbl:∀ i,(B' i).alive->BlkOK ρ B' (XX K.X0 ρ B') w i)(hsl:∀ t av,slot' t=some av->t < K.nt/\SRep ρ B' (XX K.X0 ρ B') w (a.tmps.getD t undef) av):RelW K ρ slot' B' a w :=
 have hst:WStep (own ρ B) (own ρ B') w w:=.refl fun b ⟨i,ha,hr⟩=>⟨i,hal i ha,hr⟩
 ⟨h.defers,h.size,h.keeps,h.x0,h.glob,fun id b ha hr=>h.live id b (hal id ha) hr,fun id id' b ha ha' hr hr'=>h.inj id id' b (hal id ha) (hal id' ha') hr hr',fun id=>by
  by_cases ha:(B' id).alive
  . exact hbl id ha
  . exact Jy ha,hsl,h.trc_mono hT hst,fun ht=>h.dt (by rw[hT _ rfl ht];exact ht),fun id hid=>⟨hA id hid,(h.anc id hid).2⟩,fun n e id h0 hlt ha=>h.pin n (hP n e) id h0 hlt (hal id ha)⟩
theorem Jbg{X0:Nat->Prop}(hal:∀ i,(B' i).alive->(B i).alive){b:Nat}(hn:¬ XX X0 ρ B b):¬ XX X0 ρ B' b:=by
 rintro(hx | ⟨i,ha,hi⟩)
 . exact hn (.inl hx)
 exact hn (.inr ⟨i,hal i ha,hi⟩)
end
def Jn6(bs:BL)(id:Nat):List AV->Option (List AV)
 | []=>some []
 | v::l=>match JbN bs id v,Jn6 bs id l with
  | some v',some l'=>some (v'::l')
  | _,_=>none
def Jd9(bs:BL)(id:Nat):BL->Option BL
 | []=>some []
 | (i,.box c)::l=>match Jn6 bs id c,Jd9 bs id l with
  | some c',some l'=>some ((i,.box c')::l')
  | _,_=>none
 | (i,b)::l=>match Jd9 bs id l with
  | some l'=>some ((i,b)::l')
  | none=>none
def Jf9(A:List Nat)(id:Nat)(S:AS):Option AS :=
 if inA A id then none else match Jd9 S.b id (Vu id S.b)with
  | some b'=>some { S with s:=Jjo (JbN S.b id) S.s,b:=b' }
  | none=>none
theorem JbO{bs:BL}{id:Nat}:∀ {c c':List AV},Jn6 bs id c=some c'->c'.length=c.length/\∀ j,j < c.length->JbN bs id (nth c j)=some (nth c' j)
 | [],c',h=>by cases h;exact⟨rfl,fun j hj=>absurd hj (K6 j)⟩
 | v::l,c',h=>by
  simp only[Jn6]at h
  split at h
  . rename_i v' l' h1 h2
    cases h
    obtain⟨h3,h4⟩:=JbO h2
    refine⟨by simp[h3],fun j hj=>?_⟩
    cases j with
    | zero=>exact h1
    | succ j=>exact h4 j (by simpa using hj)
  cases h
theorem JbP{bs:BL}{id:Nat}:∀ {l l':BL},Jd9 bs id l=some l'->∀ i,(lk i l'=lk i l/\∀ c,lk i l ≠ some (.box c)) ∨ ∃ c c',lk i l=some (.box c)/\lk i l'=some (.box c')/\Jn6 bs id c=some c'
 | [],l',h,i=>by cases h;exact .inl ⟨rfl,fun c h=>by cases h⟩
 | (u,x)::l,l',h,i=>by
  have other:∀ {m:BL},Jd9 bs id l=some m->l'=(u,x)::m->(∀ c,x ≠ .box c)->(lk i l'=lk i ((u,x)::l)/\∀ c,lk i ((u,x)::l) ≠ some (.box c)) ∨ ∃ c c',lk i ((u,x)::l)=some (.box c)/\lk i l'=some (.box c')/\Jn6 bs id c=some c':=by
   intro m hm e hx
   subst e
   by_cases hu:u=i
   . subst hu
     refine .inl ⟨by simp[lk],fun c hc=>?_⟩
     simp[lk]at hc
     exact hx c hc
   have hne:¬ (u.beq i)=true:=by rw[J0 hu];decide
   simp only[lk,hne]
   simpa using JbP hm i
  cases x with
  | box c =>
   simp only[Jd9]at h
   split at h
   . rename_i c' m h1 h2
     cases h
     by_cases hu:u=i
     . subst hu
       exact .inr ⟨c,c',by simp[lk],by simp[lk],h1⟩
     have hne:¬ (u.beq i)=true:=by rw[J0 hu];decide
     simp only[lk,hne]
     simpa using JbP h2 i
   cases h
  | _ =>
   simp only[Jd9]at h
   split at h
   . rename_i m hm
     cases h
     exact other hm rfl (by simp)
   cases h
theorem WZ{c:List AV}{i:Nat}(h:i ∈ JK (.box c)):∃ j,j < c.length/\i ∈ mids1 (nth c j):=by
 simp only[JK,Kn]at h
 obtain⟨x,hx,hi⟩:=h
 obtain⟨j,hj,rfl⟩:=List.getElem_of_mem hx
 exact⟨j,hj,by rwa [JV (Kj hj)]⟩
theorem JeD{bs:BL}{v:AV}{g:Bool}{y:AV}(h:XZ bs v=some (.gv g y)):False:=by
 have key:∀ x:AV,(if JJ x=true then some x else none)=some (.gv g y)->False:=fun x hx=>by
  split at hx
  . rename_i hp
    cases hx
    cases hp
  cases hx
 cases v with
 | own id n =>
  simp only[XZ]at h
  split at h <;> cases h
 | ptr id n =>
  simp only[XZ]at h
  split at h
  . split at h <;> cases h
  cases h
 | _=>unfold XZ at h;exact key _ h
theorem JeE{bs:BL}{v:AV}{l:List AV}(h:XZ bs v=some (.ax l)):False:=by
 have key:∀ x:AV,(if JJ x=true then some x else none)=some (.ax l)->False:=fun x hx=>by
  split at hx
  . rename_i hp
    cases hx
    cases hp
  cases hx
 cases v with
 | own id n =>
  simp only[XZ]at h
  split at h <;> cases h
 | ptr id n =>
  simp only[XZ]at h
  split at h
  . split at h <;> cases h
  cases h
 | _=>unfold XZ at h;exact key _ h
theorem JfJ{bs:BL}{v v':AV}(h:XZ bs v=some v'):mids1 v'=[]:=by
 have h1:=WG h
 cases v' with
 | gv g y=>exact(JeD h).elim
 | ax l=>exact(JeE h).elim
 | _=>exact h1
theorem JbL(E:SE){S S':AS}{id:Nat}(h:Jf9 E.A id S=some S'):Imp E S S':=fun V a w ⟨hwf,X,ρ,hg,hr⟩=>by
 unfold Jf9 at h
 split at h
 . cases h
 rename_i hA
 have hA:inA E.A id=false:=by simpa using hA
 split at h
 . rename_i b' hb'
   cases h
   have hk:=XC id S
   have hkt:=Wt id S
   have hslot:∀ t av,lk t (Jjo (JbN S.b id) S.s)=some av->∃ v,Ju S t=some v/\JbN S.b id v=some av:=by
    intro t av ht
    rw[Jh1]at ht
    cases hl:lk t S.s with
    | none=>rw[hl]at ht;cases ht
    | some v=>rw[hl]at ht;exact⟨v,hl,ht⟩
   let S':AS:={ S with s:=Jjo (JbN S.b id) S.s,b:=b' }
   have hb:∀ i,(Jj S' i=Jj (Ve id S) i/\∀ c,Jj (Ve id S) i ≠ .box c) ∨ ∃ c c',Jj (Ve id S) i=.box c/\Jj S' i=.box c'/\Jn6 S.b id c=some c':=by
    intro i
    rcases JbP hb' i with⟨h1,h2⟩ | ⟨c,c',h1,h2,h3⟩
    . refine .inl ⟨by show(lk i b').getD .dead=(lk i (Vu id S.b)).getD .dead;rw[h1],fun c hc=>?_⟩
      have hc:(lk i (Vu id S.b)).getD .dead=.box c:=hc
      cases hl:lk i (Vu id S.b)with
      | none=>rw[hl]at hc;cases hc
      | some x=>rw[hl]at hc;exact h2 c (by rw[hl];exact congrArg some hc)
    exact .inr ⟨c,c',by show(lk i (Vu id S.b)).getD .dead=_;rw[h1];rfl,by show(lk i b').getD .dead=_;rw[h2];rfl,h3⟩
   have hka:∀ i,(Jj S' i).alive->(Jj (Ve id S) i).alive:=fun i ha=>by
    rcases hb i with⟨h1,_⟩ | ⟨c,c',h1,h2,_⟩
    . rwa [h1]at ha
    rw[h1];trivial
   have hal:∀ i,(Jj S' i).alive->(Jj S i).alive:=fun i ha=>(hk i (hka i ha)).2 ▸ hka i ha
   have hT:∀ x,Jj S' 0=x->x.tracey->Jj S 0=x:=fun x e ht=>by
    rcases hb 0 with⟨h1,_⟩ | ⟨c,c',h1,h2,_⟩
    . exact hkt x (h1 ▸ e) ht
    rw[<- e,h2]at ht;exact ht.elim
   have hm1:∀ {v v':AV},JbN S.b id v=some v'->∀ i,i ∈ Qn v'->i ∈ Qn v:=fun hf i hi=>by
    rcases Q8 hf with⟨rfl,_⟩ | ⟨h1,_⟩
    . exact hi
    rw[WG h1]at hi;cases hi
   have hX:∀ b,¬ XX X ρ (Jj S) b->¬ XX X ρ (Jj S') b:=fun b hn=>Jbg hal hn
   have hB':∀ i,(Jj S' i).alive->sameMake (Jj S i) (Jj S' i)/\ρ i=ρ i/\∀ b,ρ i=some b->sameSize w w b:=fun i ha=>by
    refine⟨?_,rfl,fun b _ cur e hh=>⟨cur,hh,rfl⟩⟩
    have e2:=(hk i (hka i ha)).2
    rcases hb i with⟨h1,_⟩ | ⟨c,c',h1,h2,_⟩
    . rw[h1,e2];exact sameMake.refl (hal i ha)
    rw[<- e2,h1,h2];trivial
   have hst:WStep (own ρ (Jj S)) (own ρ (Jj S')) w w:=.refl fun b ⟨i,ha,hri⟩=>⟨i,hal i ha,hri⟩
   have hR:=hr.hR hT hst
   have hview:∀ {v:Value} {x x':AV},JbN S.b id x=some x'->SRep ρ (Jj S) (XX X ρ (Jj S)) w v x->SRep ρ (Jj S') (XX X ρ (Jj S')) w v x':=fun {v x x'} hf hs=>by
    rcases Q8 hf with⟨rfl,hn⟩ | ⟨h1,h2⟩
    . exact SRep.mono (Kr _) (fun _ _ _=>rfl) (fun b _ hb=>hX b hb) (fun i _ ha=>hB' i ha) hR hs
    refine SRep.of_rep (V9 hr hX (fun i b hi hal' hri hx=>?_) h1 (fun _ _=>rfl) hs)
    rw[h2]at hi
    simp only[List.mem_singleton]at hi
    subst hi
    exact JbQ hr hal' hri hk (by
     rcases hx with hx | ⟨i,ha,hi⟩
     . exact .inl hx
     . exact .inr ⟨i,hka i ha,hi⟩)
   refine⟨⟨fun t av ht i hi=>?_,fun i ha=>hwf.alive i (hal i ha),fun i ha j hj=>?_,fun ht=>hwf.zero (by rw[hT _ rfl ht];exact ht)⟩,X,ρ,hg,hr.turn hT hal (fun i hi=>?_) (fun n e=>?_) (fun i ha=>?_) fun t av ht=>?_⟩
   . obtain⟨v,hv,hf⟩:=hslot t av ht
     exact hwf.slots t v hv i (hm1 hf i hi)
   . have e2:=(hk i (hka i ha)).2
     rcases hb i with⟨h1,_⟩ | ⟨c,c',h1,h2,h3⟩
     . have hj':j ∈ JK (Jj S' i):=hj
       rw[h1,e2]at hj'
       exact hwf.blks i (hal i ha) j hj'
     have hj':j ∈ JK (Jj S' i):=hj
     rw[h2]at hj'
     obtain⟨q,hq,hm⟩:=WZ hj'
     obtain⟨h4,h5⟩:=JbO h3
     have h6:=h5 q (by omega)
     refine hwf.blks i (hal i ha) j ?_
     rw[<- e2,h1]
     simp only[JK,Kn]
     refine⟨nth c q,?_,?_⟩
     . rw[JV (Kj (show q < c.length by omega))]
       exact List.getElem_mem _
     rcases Q8 h6 with⟨h7,_⟩ | ⟨h7,_⟩
     . rwa [h7]at hm
     rw[JfJ h7]at hm;cases hm
   . have hr1:=(hr.anc i hi).1
     obtain⟨c,hc⟩:=hr1
     have hne:i ≠ id:=JcQ hA i hi
     have e2:Jj (Ve id S) i=.box c:=by rw[JbJ hne];exact hc
     rcases hb i with⟨_,h2⟩ | ⟨c1,c',h1,h2,_⟩
     . exact absurd e2 (h2 c)
     exact⟨c',h2⟩
   . have e:Jj S' 0=.pins n:=e
     have e2:=(hk 0 (hka 0 (by rw[e];trivial))).2
     rcases hb 0 with⟨h1,_⟩ | ⟨c,c',_,h2,_⟩
     . rw[<- e2,<- h1,e]
     rw[h2]at e;cases e
   . have e2:=(hk i (hka i ha)).2
     rcases hb i with⟨h1,_⟩ | ⟨c,c',h1,h2,h3⟩
     . exact BlkOK.mono (Kr _) (fun _ _ _=>rfl) (fun b _ hn=>hX b hn) (h1.trans e2) rfl (fun _ _=>rfl) (fun i _ ha=>hB' i ha) hR (hr.blks i)
     have hbl:=hr.blks i
     unfold BlkOK at hbl ⊢
     rw[show Jj S i=.box c by rw[<- e2];exact h1]at hbl
     rw[show Jj ({ S with s:=Jjo (JbN S.b id) S.s,b:=b' }:AS) i=.box c' from h2]
     obtain⟨b,cs,T,g1,g2,g3,g4⟩:=hbl
     obtain⟨h4,h5⟩:=JbO h3
     refine⟨b,cs,T,g1,g2,by rw[g3,h4],fun j hj=>⟨(g4 j (by omega)).1,?_⟩⟩
     have:=hview (h5 j (by omega)) (SRep.of1 (g4 j (by omega)).2)
     revert this
     cases hx:nth c' j with
     | gv g y =>
      intro _
      rcases Q8 (h5 j (by omega))with⟨h7,_⟩ | ⟨h7,_⟩
      . have h8:=(g4 j (by omega)).2
        rw[<- h7,hx]at h8
        simp[SRep1,SRep0]at h8
      rw[hx]at h7
      exact(JeD h7).elim
     | ax l =>
      intro _
      rcases Q8 (h5 j (by omega))with⟨h7,_⟩ | ⟨h7,_⟩
      . have h8:=(g4 j (by omega)).2
        rw[<- h7,hx]at h8
        exact(SRep0.ax (ρ:=ρ) (B:=Jj S) h8).elim
      rw[hx]at h7
      exact(JeE h7).elim
     | _=>exact fun h=>h
   obtain⟨v,hv,hf⟩:=hslot t av ht
   obtain⟨hlt,hs⟩:=hr.slots t v hv
   exact⟨hlt,hview hf hs⟩
 cases h
def ownB(i j e k:Nat)(S:AS):Option AS :=
 match Jj S i with
 | .box c=>match nth c j with
  | .ex v=>if QK v && (j.blt c.length && i.blt S.n)then some ⟨S.s,wrL [(i,.box (c.set j (.own S.n 0))),(S.n,.buf e k [])] S.b,S.n+1⟩else none
  | _=>none
 | _=>none
theorem Jkz(E:SE){S S':AS}{i j e k:Nat}(h:ownB i j e k S=some S'):Imp E S S':=fun V a w ⟨hwf,X,ρ,hg,hr⟩=>by
 unfold ownB at h
 split at h
 . rename_i c hc
   split at h
   . rename_i v hv
     split at h
     . rename_i hn
       simp only[Kd]at hn
       cases h
       have e0:=JD hn.1
       have hj:=Qx hn.2.1
       have hi:i < S.n:=Qx hn.2.2
       have hal0:(Jj S i).alive:=by rw[hc];trivial
       obtain⟨ρ',hr',hs'⟩:=JbD hr hwf.fresh e k
       have hne:i ≠ S.n:=by omega
       have eB:Jj (⟨S.s,wrL [(i,.box (c.set j (.own S.n 0))),(S.n,.buf e k [])] S.b,S.n+1⟩:AS)=wrB (Jj S) [(i,.box (c.set j (.own S.n 0))),(S.n,.buf e k [])]:=X6 _ _
       have eB':∀ q,wrB (Jj S) [(i,.box (c.set j (.own S.n 0))),(S.n,.buf e k [])] q=if q=i then .box (c.set j (.own S.n 0))else wrB (Jj S) [(S.n,.buf e k [])] q:=fun q=>by
        simp only[wrB,upd]
       have e1:wrB (Jj S) [(S.n,.buf e k [])] i=.box c:=by simp only[wrB,upd,if_neg hne];exact hc
       have hap:WF (Qy ⟨none,none,[(S.n,.buf e k [])]⟩ S):=hwf.apply (by
        simp[Jgd,Jes,JK,Nat.blt])
       have eA:∀ q,Jj (Qy ⟨none,none,[(S.n,.buf e k [])]⟩ S) q=wrB (Jj S) [(S.n,.buf e k [])] q:=fun q=>congrFun (X6 [(S.n,.buf e k [])] S.b) q
       generalize hB1:wrB (Jj S) [(S.n,.buf e k [])]=B1 at *
       have hBq:∀ q,Jj (⟨S.s,wrL [(i,.box (c.set j (.own S.n 0))),(S.n,.buf e k [])] S.b,S.n+1⟩:AS) q=if q=i then .box (c.set j (.own S.n 0))else B1 q:=fun q=>by rw[eB];exact eB' q
       generalize hB2:Jj (⟨S.s,wrL [(i,.box (c.set j (.own S.n 0))),(S.n,.buf e k [])] S.b,S.n+1⟩:AS)=B2 at *
       have hal:∀ q,(B2 q).alive->(B1 q).alive:=fun q ha=>by
        rw[hBq]at ha
        split at ha
        . rename_i e2;rw[e2,e1];trivial
        exact ha
       have hT:∀ x,B2 0=x->x.tracey->B1 0=x:=fun x e2 ht=>by
        rw[hBq]at e2
        split at e2
        . rw[<- e2]at ht;exact ht.elim
        exact e2
       have hX:∀ b,¬ XX X ρ' B1 b->¬ XX X ρ' B2 b:=fun b hn=>Jbg hal hn
       have hB':∀ q,(B2 q).alive->sameMake (B1 q) (B2 q)/\ρ' q=ρ' q/\∀ b,ρ' q=some b->sameSize w w b:=fun q ha=>by
        refine⟨?_,rfl,fun b _ cur e hh=>⟨cur,hh,rfl⟩⟩
        have ha1:=hal q ha
        rw[hBq]
        split
        . rename_i e2;rw[e2,e1];trivial
        exact sameMake.refl ha1
       have hst:WStep (own ρ' B1) (own ρ' B2) w w:=.refl fun b ⟨q,ha,hri⟩=>⟨q,hal q ha,hri⟩
       have hR:=hr'.hR hT hst
       have hm:∀ {v:Value} {x:AV},SRep ρ' B1 (XX X ρ' B1) w v x->SRep ρ' B2 (XX X ρ' B2) w v x:=fun hs =>
        SRep.mono (Kr _) (fun _ _ _=>rfl) (fun b _ hb=>hX b hb) (fun q _ ha=>hB' q ha) hR hs
       have hm1:∀ {v:Value} {x:AV},SRep1 ρ' B1 (XX X ρ' B1) w v x->SRep1 ρ' B2 (XX X ρ' B2) w v x:=fun hs =>
        SRep1.mono (Kr _) (fun _ _ _=>rfl) (fun b _ hb=>hX b hb) (fun q _ ha=>hB' q ha) hR hs
       refine⟨⟨fun t av ht q hq=>Nat.lt_succ_of_lt (hwf.slots t av ht q hq),fun q ha=>?_,fun q ha r hq=>?_,fun ht=>Nat.lt_succ_of_lt (hwf.zero ?_)⟩,X,ρ',hg,?_⟩
       . rw[hB2]at ha
         exact hap.alive q (by rw[eA];exact hal q ha)
       . rw[hB2]at ha hq
         rw[hBq]at hq
         split at hq
         . obtain⟨p,hp,hx⟩:=WZ hq
           rw[K2]at hp
           by_cases e3:p=j
           . subst e3
             rw[show nth (c.set p (.own S.n 0)) p=.own S.n 0 by simp[nth,List.getD_eq_getElem?_getD,hp]]at hx
             simp[mids1,mids0]at hx
             show r < S.n+1
             omega
           rw[show nth (c.set j (.own S.n 0)) p=nth c p by simp[nth,List.getD_eq_getElem?_getD,show ¬ j=p by omega]]at hx
           refine Nat.lt_succ_of_lt (hwf.blks i hal0 r ?_)
           rw[hc]
           simp only[JK,Kn]
           refine⟨nth c p,?_,hx⟩
           rw[JV (Kj hp)]
           exact List.getElem_mem _
         exact hap.blks q (by rw[eA];exact hal q ha) r (by rw[eA];exact hq)
       . rw[hB2]at ht
         have h2:=hT _ rfl ht
         rw[<- hB1]at h2
         rw[<- h2]at ht
         simp only[wrB,upd]at ht h2
         split at ht
         . exact ht.elim
         exact ht
       rw[hB2]
       refine hr'.turn hT hal (fun q hq=>?_) (fun n e=>?_) (fun q ha=>?_) fun t av ht=>?_
       . obtain⟨c1,hc1⟩:=(hr'.anc q hq).1
         rw[hBq]
         split
         . exact⟨_,rfl⟩
         exact⟨c1,hc1⟩
       . rw[hBq]at e
         split at e
         . cases e
         exact e
       . by_cases e2:q=i
         . subst e2
           have hbl:=hr'.blks q
           unfold BlkOK at hbl ⊢
           rw[e1]at hbl
           rw[hBq,if_pos rfl]
           obtain⟨b,cs,T,g1,g2,g3,g4⟩:=hbl
           refine⟨b,cs,T,g1,g2,by rw[g3,K2],fun p hp=>⟨(g4 p (by simpa using hp)).1,?_⟩⟩
           have hp':p < c.length:=by simpa using hp
           by_cases e3:p=j
           . subst e3
             rw[show nth (c.set p (.own S.n 0)) p=.own S.n 0 by simp[nth,List.getD_eq_getElem?_getD,hp']]
             have h5:=(g4 p hp').2
             rw[hv]at h5
             have h6:cs.getD p undef=v:=by
              have h7:Rep (XX X ρ' B1) w (cs.getD p undef) (.ex v):=h5
              generalize hgen:cs.getD p undef=u at h7
              cases h7
              rfl
             rw[h6,e0]
             have:=hm hs'
             exact this
           rw[show nth (c.set j (.own S.n 0)) p=nth c p by simp[nth,List.getD_eq_getElem?_getD,show ¬ j=p by omega]]
           exact hm1 (g4 p hp').2
         refine BlkOK.mono (Kr _) (fun _ _ _=>rfl) (fun b _ hn=>hX b hn) (by rw[hBq,if_neg e2]) rfl (fun _ _=>rfl) (fun q _ ha=>hB' q ha) hR (hr'.blks q)
       obtain⟨hlt,hs⟩:=hr'.slots t av ht
       exact⟨hlt,hm hs⟩
     cases h
   cases h
 cases h
def nilB(i j k:Nat)(S:AS):Option AS :=
 match Jj S i with
 | .box c=>match nth c j with
  | .ex v=>if QK v && (j.blt c.length && i.blt S.n)then some ⟨S.s,wrL [(i,.box (c.set j (.sl k [])))] S.b,S.n⟩else none
  | _=>none
 | .buf e q [r]=>match nth r j with
  | .ex v=>if QK v && (j.blt r.length && i.blt S.n)then some ⟨S.s,wrL [(i,.buf e q [r.set j (.sl k [])])] S.b,S.n⟩else none
  | _=>none
 | _=>none
theorem Jig(E:SE){S:AS}{i:Nat}{b2:ABlk}(hi:i < S.n)(_:Jfa b2=false)(hal0:(Jj S i).alive)(htr:¬ b2.tracey)(hpn:∀ n,b2 ≠ .pins n)(hsm:sameMake (Jj S i) b2)(hmid:∀ r,r ∈ JK b2->r ∈ JK (Jj S i))(hanc:(∃ c,Jj S i=.box c)->∃ c,b2=.box c)
 (hok:∀ ρ B2 X X' w,B2 i=b2->(∀ v x,SRep1 ρ (Jj S) X w v x->SRep1 ρ B2 X' w v x)->(∀ v x,Rep X w v x->Rep X' w v x)->BlkOK ρ (Jj S) X w i->BlkOK ρ B2 X' w i) :
 Imp E S ⟨S.s,wrL [(i,b2)] S.b,S.n⟩:=fun V a w ⟨hwf,X,ρ,hg,hr⟩=>by
 have hBq:∀ q,Jj (⟨S.s,wrL [(i,b2)] S.b,S.n⟩:AS) q=if q=i then b2 else Jj S q:=fun q=>by
  rw[show Jj (⟨S.s,wrL [(i,b2)] S.b,S.n⟩:AS)=wrB (Jj S) [(i,b2)]from X6 _ _]
  simp only[wrB,upd]
 generalize hB2:Jj (⟨S.s,wrL [(i,b2)] S.b,S.n⟩:AS)=B2 at *
 have hal:∀ q,(B2 q).alive->(Jj S q).alive:=fun q ha=>by
  rw[hBq]at ha
  split at ha
  . rename_i e2;rw[e2];exact hal0
  exact ha
 have hT:∀ x,B2 0=x->x.tracey->Jj S 0=x:=fun x e2 ht=>by
  rw[hBq]at e2
  split at e2
  . rw[<- e2]at ht;exact absurd ht htr
  exact e2
 have hX:∀ b,¬ XX X ρ (Jj S) b->¬ XX X ρ B2 b:=fun b hn=>Jbg hal hn
 have hB':∀ q,(B2 q).alive->sameMake (Jj S q) (B2 q)/\ρ q=ρ q/\∀ b,ρ q=some b->sameSize w w b:=fun q ha=>by
  refine⟨?_,rfl,fun b _ cur e hh=>⟨cur,hh,rfl⟩⟩
  have ha1:=hal q ha
  rw[hBq]
  split
  . rename_i e2;rw[e2];exact hsm
  exact sameMake.refl ha1
 have hst:WStep (own ρ (Jj S)) (own ρ B2) w w:=.refl fun b ⟨q,ha,hri⟩=>⟨q,hal q ha,hri⟩
 have hR:=hr.hR hT hst
 have hm:∀ {v:Value} {x:AV},SRep ρ (Jj S) (XX X ρ (Jj S)) w v x->SRep ρ B2 (XX X ρ B2) w v x:=fun hs =>
  SRep.mono (Kr _) (fun _ _ _=>rfl) (fun b _ hb=>hX b hb) (fun q _ ha=>hB' q ha) hR hs
 have hm1:∀ {v:Value} {x:AV},SRep1 ρ (Jj S) (XX X ρ (Jj S)) w v x->SRep1 ρ B2 (XX X ρ B2) w v x:=fun hs =>
  SRep1.mono (Kr _) (fun _ _ _=>rfl) (fun b _ hb=>hX b hb) (fun q _ ha=>hB' q ha) hR hs
 refine⟨⟨fun t av ht q hq=>hwf.slots t av ht q hq,fun q ha=>?_,fun q ha r hq=>?_,fun ht=>hwf.zero ?_⟩,X,ρ,hg,?_⟩
 . rw[hB2]at ha
   exact hwf.alive q (hal q ha)
 . rw[hB2]at ha hq
   rw[hBq]at hq
   split at hq
   . exact hwf.blks i hal0 r (hmid r hq)
   exact hwf.blks q (hal q ha) r hq
 . rw[hB2]at ht
   have h2:=hT _ rfl ht
   rw[h2]
   exact ht
 . rw[hB2]
   refine hr.turn hT hal (fun q hq=>?_) (fun n e=>?_) (fun q ha=>?_) fun t av ht=>?_
   . obtain⟨c1,hc1⟩:=(hr.anc q hq).1
     rw[hBq]
     split
     . rename_i e2;subst e2;exact hanc ⟨c1,hc1⟩
     exact⟨c1,hc1⟩
   . rw[hBq]at e
     split at e
     . exact absurd e (hpn n)
     exact e
   . by_cases e2:q=i
     . subst e2
       exact hok ρ B2 _ _ w (by rw[hBq,if_pos rfl]) (fun v x h=>hm1 h) (fun v x h=>Rep.mono (Kr _) (fun _ _ _=>rfl) (fun b _ hb=>hX b hb) h) (hr.blks q)
     refine BlkOK.mono (Kr _) (fun _ _ _=>rfl) (fun b _ hn=>hX b hn) (by rw[hBq,if_neg e2]) rfl (fun _ _=>rfl) (fun q _ ha=>hB' q ha) hR (hr.blks q)
   obtain⟨hlt,hs⟩:=hr.slots t av ht
   exact⟨hlt,hm hs⟩
theorem JdT{c:List AV}{j p:Nat}{x:AV}(h:j < c.length):nth (c.set j x) p=if p=j then x else nth c p:=by
 by_cases e:p=j
 . subst e
   rw[if_pos rfl]
   simp[nth,List.getD_eq_getElem?_getD,h]
 rw[if_neg e]
 simp[nth,List.getD_eq_getElem?_getD,show ¬ j=p by omega]
theorem JkB(E:SE){S S':AS}{i j k:Nat}(h:nilB i j k S=some S'):Imp E S S':=by
 unfold nilB at h
 split at h
 . rename_i c hc
   split at h
   . rename_i v hv
     split at h
     . rename_i hn
       simp only[Kd]at hn
       cases h
       have e0:=JD hn.1
       have hj:=Qx hn.2.1
       refine Jig E (Qx hn.2.2) rfl (by rw[hc];trivial) (fun h=>h) (fun n e=>by cases e) (by rw[hc];trivial) (fun r hq=>?_) (fun _=>⟨_,rfl⟩) fun ρ B2 X X' w e2 hm1 _ hbl=>?_
       . obtain⟨p,hp,hx⟩:=WZ hq
         rw[K2]at hp
         rw[JdT hj]at hx
         split at hx
         . simp[mids1,mids0]at hx
         rw[hc]
         simp only[JK,Kn]
         refine⟨nth c p,?_,hx⟩
         rw[JV (Kj hp)]
         exact List.getElem_mem _
       unfold BlkOK at hbl ⊢
       rw[hc]at hbl
       rw[e2]
       obtain⟨b,cs,T,g1,g2,g3,g4⟩:=hbl
       refine⟨b,cs,T,g1,g2,by rw[g3,K2],fun p hp=>⟨(g4 p (by simpa using hp)).1,?_⟩⟩
       have hp':p < c.length:=by simpa using hp
       rw[JdT hj]
       split
       . rename_i e3
         subst e3
         have h5:=(g4 p hp').2
         rw[hv]at h5
         have h6:cs.getD p undef=v:=by
          have h7:Rep X w (cs.getD p undef) (.ex v):=h5
          generalize hgen:cs.getD p undef=u at h7
          cases h7
          rfl
         rw[h6,e0]
         exact SRep1.of_rep (.slE none 0 k)
       exact hm1 _ _ (g4 p hp').2
     cases h
   cases h
 . rename_i e q r hc
   split at h
   . rename_i v hv
     split at h
     . rename_i hn
       simp only[Kd]at hn
       cases h
       have e0:=JD hn.1
       have hj:=Qx hn.2.1
       refine Jig E (Qx hn.2.2) rfl (by rw[hc];trivial) (fun h=>h) (fun n e=>by cases e) (by rw[hc];simp[sameMake]) (fun r hq=>by simp[JK]at hq) (fun⟨c,h⟩=>by rw[hc]at h;cases h) fun ρ B2 X X' w e2 _ hm hbl=>?_
       unfold BlkOK at hbl ⊢
       rw[hc]at hbl
       rw[e2]
       obtain⟨g1,g2,g3⟩:=hbl
       refine⟨fun p hp=>?_,g2,?_⟩
       . have hp0:p=0:=by simpa using hp
         subst hp0
         have:=g1 0 (by simp)
         simpa[Ji]using this
       rcases g3 with⟨_,g4⟩ | ⟨b,cur,g4,g5,g6,g7⟩
       . cases g4
       refine .inr ⟨b,cur,g4,g5,g6,fun p hp t ht=>?_⟩
       have hp0:p=0:=by simpa using hp
       subst hp0
       obtain⟨h1,h2⟩:=g7 0 (by simp) t ht
       refine⟨h1,?_⟩
       rw[show Ji [r.set j (.sl k [])] 0=r.set j (.sl k [])from rfl,JdT hj]
       split
       . rename_i e3
         subst e3
         rw[show Ji [r] 0=r from rfl,hv]at h2
         generalize hgen:cur.getD (0 * q+t) undef=u at h2
         cases h2
         rw[e0]
         exact .slE none 0 k
       exact hm _ _ h2
     cases h
   cases h
 cases h
structure RA where
 ans:List An:=[]
 c:Nat:=1000000
 ex:List Nat:=[]
 fz:List Nat:=[]
 deriving Inhabited
def JiI(bs:BL):List AV->Option (Nat × List AV)
 | .fn (.func f) fst cap::args =>
  if(fst++args++cap).all JJ then some (f,fst++args++cap)else match Xp bs (fst++args++cap)with
   | some l=>some (f,l)
   | none=>none
 | _=>none
def JnV:AV->Bool
 | .gv _ (.tup (_::_))=>true
 | _=>false
def Jij(bs:BL):List AV->Option (Nat × List AV × List ABlk)
 | .fn (.func f) fst cap::args =>
  some (f,(fst++args++cap).map (VW (JaG (US bs 2 (QU ((AV.fn (.func f) fst cap::args).flatMap mids1) [])))),
   (US bs 2 (QU ((AV.fn (.func f) fst cap::args).flatMap mids1) [])).map fun id=>JM (JaG (US bs 2 (QU ((AV.fn (.func f) fst cap::args).flatMap mids1) []))) (Jr bs id))
 | _=>none
def Jku:Op->Bool
 | .call c=>match c.callee with
  | .value _=>true
  | _=>false
 | _=>false
def callOf(G:List (Nat × List AV))(S:AS)(ops:Array Oper)(o:Oper):Option (Nat × List AV) :=
 if Jku o.op then match gOf ops o (Ju S)with
  | some (some false)=>none
  | _=>match QP o.op with
   | some xs=>match QZ G (Ju S) xs with
    | some ins=>JiI S.b ins
    | none=>none
   | none=>none
 else none
def handOf(G:List (Nat × List AV))(S:AS)(ops:Array Oper)(o:Oper):Option (Nat × List AV × List ABlk) :=
 if Jku o.op then match gOf ops o (Ju S)with
  | some (some false)=>none
  | _=>match QP o.op with
   | some xs=>match QZ G (Ju S) xs with
    | some ins=>Jij S.b ins
    | none=>none
   | none=>none
 else none
def allC(l:List Cd):Bool:=l.all fun c=>@decide c.p c.d
def Jot(an:An)(r:AV):An:={ an with res:=r,sym:=false,rd:=fun _=>none,rdb:=fun _ _=>none }
def Jg0(rec:Nat->List AV->Option AV)(an:An):Option (Nat × List AV)->Option (An × Bool)
 | some (f,args)=>match rec f args with
  | some r=>if JnV r then none else some (Jot an (if an.fr then r else Jdq r),true)
  | none=>none
 | none=>some (Jot an .any,false)
def JjF(rw:Nat->List AV->List ABlk->Option (AV × List AV))(rec:Nat->List AV->Option AV)(an:An)(t:Option (Nat × List AV)):Option (Nat × List AV × List ABlk)->Option (An × Bool)
 | some (f,args,bs)=>match rw f args bs with
  | some (r,fin)=>some (Jot an (.gv true (.tup (r::fin))),true)
  | none=>Jg0 rec an t
 | none=>Jg0 rec an t
def execR(G:List (Nat × List AV))(T:TT)(nt:Nat)(ops:Array Oper)(rw:Nat->List AV->List ABlk->Option (AV × List AV))(rec:Nat->List AV->Option AV):List An->List Oper->AS->Option (List An × List Eff × AS)
 | _,[],S=>some ([],[],S)
 | ans,o::l,S =>
  match JjF rw rec (ans.headD {}) (callOf G S ops o) (handOf G S ops o)with
  | some (an,ok)=>match Jad G T nt S.n an ops o (Ju S) S.b with
   | some (e,cs,obs)=>if Jgd (S.n+1) e && allC cs && (obs.isEmpty || ok)then
    match execR G T nt ops rw rec ans.tail l (Qy e S)with
    | some (as,es,S')=>some (an::as,e::es,S')
    | none=>none
    else none
   | none=>none
  | none=>none
def JkH(A:List Nat):List Nat->AS->Option AS
 | [],S=>some S
 | t::l,S=>match Ju S t with
  | some (.ptr id _)=>match frzS A id S with
   | some S'=>JkH A l S'
   | none=>none
  | some (.own id _)=>match frzS A id S with
   | some S'=>JkH A l S'
   | none=>none
  | _=>JkH A l S
def fzCs(A:List Nat):List AV->AS->Option AS
 | [],S=>some S
 | .own i _::l,S=>match Jf9 A i S with
  | some S'=>fzCs A l S'
  | none=>none
 | _::l,S=>fzCs A l S
def JkG(A:List Nat):List Nat->AS->Option AS
 | [],S=>some S
 | t::l,S=>match Ju S t with
  | some (.ptr id _)=>match Jr S.b id with
   | .box cells=>match fzCs A cells S with
    | some S'=>JkG A l S'
    | none=>none
   | _=>JkG A l S
  | _=>JkG A l S
def preZ:List Nat->List Nat
 | []=>[]
 | t::l=>if Nat.ble 100000 t then(t-100000)::preZ l else preZ l
def JnD:List Nat->List Nat
 | []=>[]
 | t::l=>if Nat.ble 100000 t then JnD l else t::JnD l
def Jhw(f:AS->List AV->Option (Exit × AS)):List (List AV)->AS->Option (Exit × AS)
 | [],S=>some (.normal,S)
 | x::L,S=>match f S x with
  | some (.normal,S')=>Jhw f L S'
  | r=>r
def VJ:BL->List Nat
 | []=>[]
 | (i,.box _)::l=>i::VJ l
 | _::l=>VJ l
def Jkr(A:List Nat)(v:AV):Bool:=match v with
 | .ptr id _=>inA A id
 | v=>JJ v
def JgA(A:List Nat):List (Nat × AV)->List (Nat × AV)
 | []=>[]
 | (t,v)::l=>if Jkr A v then(t,v)::JgA A l else Vu t (JgA A l)
def JhN:BL->Bool
 | []=>true
 | (i,_)::l=>l.all (fun p=>!p.1.beq i) && JhN l
def okExit:Exit->Bool
 | .normal | .ret | .exit _ | .goto _=>true
 | _=>false
def Jcu(id:Nat)(S:AS):AS:=⟨JgA (VJ (Vu id S.b)) S.s,Vu id S.b,S.n⟩
def rfSt(E:SE)(g:Operand)(ps:Array Tmp)(S:AS):Option (Nat × List AV × AS) :=
 match JdP E.G (Ju S) g with
 | some (.fn (.func gf) [] [.ptr id 0])=>match Jr S.b id with
  | .box cells=>if E.nr && (E.A.isEmpty && (cells.all XM && (ps.toList.all (fun p=>p.blt E.nt) && (!JbK (Jr S.b 0) && JhN (Vu id S.b)))))then some (gf,[.fbox 0 cells],Jcu id S)else none
  | _=>none
 | some (.fn (.func gf) [] cap)=>if E.nr && (E.A.isEmpty && (cap.all XM && (ps.toList.all (fun p=>p.blt E.nt) && (!JbK (Jr S.b 0) && JhN S.b))))then some (gf,cap,⟨JgA (VJ S.b) S.s,S.b,S.n⟩)else none
 | _=>none
def Jnq(E:SE)(seq:Nat->List AV->Option (List (List AV)))(g:Operand)(ps:Array Tmp)(S:AS):Option (List Nat × List (List AV) × AS) :=
 match rfSt E g ps S with
 | some (gf,cap,S1)=>match seq gf cap with
  | some L=>if L.all (fun x=>x.length.beq ps.size)then some (VJ S1.b,L,S1)else none
  | none=>none
 | none=>none
def Jke(f:SE->Code->AS->Option (Exit × AS))(E:SE)(ps:List Nat)(assign body:Code)(s:List (Nat × AV))(S1:AS)(x:List AV):Option (Exit × AS) :=
 match f E assign ⟨UW ps x s,S1.b,S1.n⟩with
 | some (.normal,S2)=>if JbK (Jj S2 0)then none else match f E body S2 with
  | some (e,S3)=>if JbK (Jj S3 0) || !okExit e then none else some (e,⟨s,S3.b,S3.n⟩)
  | none=>none
 | _=>none
def run(ra:Nat->RA)(rw:Nat->List AV->List ABlk->Option (AV × List AV))(rec:Nat->List AV->Option AV)(seq:Nat->List AV->Option (List (List AV))):Nat->SE->Code->AS->Option (Exit × AS)
 | 0,_,_,_=>none
 | n+1,E,c,S =>
  match c with
  | .skip=>some (.normal,S)
  | .label _=>some (.normal,S)
  | .ret=>some (.ret,S)
  | .exit id=>some (.exit id,S)
  | .region id ops draw =>
   match JkG E.A (preZ (ra id).fz) S with
   | some S=>match execR E.G E.T E.nt ops rw rec (ra id).ans ops.toList S with
    | some (_,es,S')=>if !draw || Jfj E.G ops es S then match JkH E.A (JnD (ra id).fz) (JkS (ra id).c (ra id).ex S')with
     | some S2=>some (.normal,S2)
     | none=>none
     else none
    | none=>none
   | none=>none
  | .seq x y =>
   match run ra rw rec seq n E x S with
   | some (.normal,S')=>run ra rw rec seq n E y S'
   | r=>r
  | .cond c x y =>
   match JdP E.G (Ju S) c with
   | some (.bool b)=>match b with
    | true=>run ra rw rec seq n E x S
    | false=>run ra rw rec seq n E y S
   | _=>none
  | .block id b =>
   match run ra rw rec seq n E b S with
   | some (.exit id',S')=>if id'.beq id then some (.normal,S')else some (.exit id',S')
   | r=>r
  | .loop b =>
   match run ra rw rec seq n E b S with
   | some (.normal,S')=>run ra rw rec seq n E (.loop b) S'
   | r=>r
  | .scope b =>
   match run ra rw rec seq n E b S with
   | some (.goto _,_)=>none
   | r=>r
  | .rangeFunc g ps assign body =>
   match Jnq E seq g ps S with
   | some (A,L,S0)=>Jhw (Jke (run ra rw rec seq n) (E.rnd A) ps.toList assign body S0.s) L S0
   | none=>none
  | _=>none
def Joc(e:Exit)(S:AS):Exit->AS->Prop:=fun e' S'=>e'=e/\S'=S
theorem VU{A:List Nat}{t:Nat}{av:AV}:∀ {l:List (Nat × AV)},lk t (JgA A l)=some av->lk t l=some av/\(JJ av=true ∨ ∃ id off,av=.ptr id off/\id ∈ A)
 | [],h=>by simp[JgA,lk]at h
 | (u,v)::l,h=>by
  simp only[JgA]at h
  split at h
  . rename_i hb
    simp only[lk]at h ⊢
    split at h
    . rename_i e
      cases h
      rw[if_pos e]
      refine⟨rfl,?_⟩
      unfold Jkr at hb
      split at hb
      . rename_i id off
        obtain⟨i,h1,h2⟩:=List.any_eq_true.1 hb
        have:=Kc h2
        subst this
        exact .inr ⟨_,off,rfl,h1⟩
      exact .inl hb
    rename_i e
    rw[if_neg e]
    exact VU h
  rw[Xk]at h
  split at h
  . cases h
  rename_i e
  obtain⟨h1,h2⟩:=VU h
  exact⟨by simp only[lk,J0 (fun e2:u=t=>e e2.symm)];exact h1,h2⟩
theorem JcB{A:List Nat}{t:Nat}{av:AV}:∀ {l:List (Nat × AV)},lk t l=some av->Jkr A av=true->lk t (JgA A l)=some av
 | (u,v)::l,h,hk=>by
  simp only[lk]at h
  simp only[JgA]
  by_cases e:u=t
  . subst e
    rw[if_pos (JB u)]at h
    cases h
    rw[if_pos hk]
    simp only[lk,JB,if_true]
  rw[J0 e]at h
  have ih:=JcB h hk
  split
  . simp only[lk,J0 e]
    exact ih
  rw[Xk,if_neg (fun e2=>e e2.symm)]
  exact ih
theorem Uu{id:Nat}:∀ {l:BL},id ∈ VJ l->∃ cells,(id,ABlk.box cells) ∈ l
 | [],h=>by simp[VJ]at h
 | (i,b)::l,h=>by
  cases b with
  | box cells =>
   simp only[VJ,Kq]at h
   rcases h with rfl | h
   . exact⟨cells,by simp⟩
   obtain⟨c,hc⟩:=Uu h
   exact⟨c,by simp[hc]⟩
  | _ =>
   simp only[VJ]at h
   obtain⟨c,hc⟩:=Uu h
   exact⟨c,by simp[hc]⟩
theorem JdQ{id:Nat}{b:ABlk}:∀ {l:BL},JhN l=true->(id,b) ∈ l->lk id l=some b
 | (i,c)::l,h,hm=>by
  simp only[JhN,Kd,List.all_eq_true,Ks]at h
  simp only[lk]
  rcases List.mem_cons.1 hm with e | hm
  . cases e;rw[if_pos (JB _)]
  have:=h.1 _ hm
  have hne:i ≠ id:=fun e=>by rw[e]at this;rw[JB]at this;cases this
  rw[if_neg (by rw[J0 hne];simp)]
  exact JdQ h.2 hm
theorem JkA(E:SE)(S:AS)(A:List Nat):Imp E S ⟨JgA A S.s,S.b,S.n⟩:=fun _ _ _ ⟨hwf,X,ρ,hg,hr⟩ =>
 ⟨⟨fun t av ht=>hwf.slots t av (VU ht).1,hwf.alive,hwf.blks,hwf.zero⟩,X,ρ,hg,hr.weaken (fun _ _ ht=>(VU ht).1) (fun _ _=>rfl) (fun _ h _=>h) (fun _ _=>rfl)⟩
theorem JlM{E:SE}(hE:E.OK)(A:List Nat):(E.rnd A).OK:=⟨hE.tok,hE.mix⟩
theorem PSeqX.plain{P:Program}{G:List (Nat × List AV)}{f:Nat}{cap:List AV}{L:List (List AV)}(h:PSeqX P G f cap L)(hc:cap.all XM=true):PSeq P G f cap L:=by
 unfold PSeqX at h
 split at h
 . simp[XM]at hc
 exact h
theorem Jnr{E:SE}{g:Operand}{ps:Array Tmp}{S:AS}{gf:Nat}{cap:List AV}{S1:AS}(h:rfSt E g ps S=some (gf,cap,S1)){L:List (List AV)}(hq:PSeqX E.P E.G gf cap L) :
 ∃ S0,Imp E S S0/\VB E.P gf/\(WF S0->WF S1)/\Jci E g gf L S0 S1/\E.nr=true/\E.A=[]/\(∀ p,p ∈ ps.toList->p < E.nt)/\JbK (Jj S1 0)=false /\
  (∀ id,id ∈ VJ S1.b->∃ cells,Jj S1 id=.box cells)/\∀ t av,Ju S1 t=some av->JJ av=true ∨ ∃ id off,av=.ptr id off/\id ∈ VJ S1.b:=by
 unfold rfSt at h
 split at h
 . rename_i gf' id hg
   split at h
   . rename_i cells hB
     split at h
     . rename_i hb
       cases h
       simp only[Kd,Ks,List.isEmpty_iff]at hb
       obtain⟨b1,b2,b3,b4,b6,b7⟩:=hb
       have hq:PSeqB E.P E.G gf cells L:=hq
       have hblk:Jj (Jcu id S)=upd (Jj S) id .dead:=by
        funext i
        show(lk i (Vu id S.b)).getD .dead=_
        rw[Xk]
        by_cases e:i=id
        . subst e;rw[if_pos rfl,Jb];rfl
        rw[if_neg e,Jf _ _ e];rfl
       have hsub:∀ t av,Ju (Jcu id S) t=some av->Ju S t=some av:=fun t av ht=>(VU ht).1
       have hal:∀ i,(Jj (Jcu id S) i).alive->Jj (Jcu id S) i=Jj S i:=by
        intro i ha
        rw[hblk]at ha ⊢
        by_cases e:i=id
        . subst e;rw[Jb]at ha;exact ha.elim
        exact Jf _ _ e
       refine⟨S,Imp.refl _ _,hq.callable,fun hwf=>⟨fun t av ht=>hwf.slots t av (hsub t av ht),fun i ha=>hwf.alive i (by rw[<- hal i ha];exact ha),fun i ha=>by have e:=hal i ha;rw[e]at ha ⊢;exact hwf.blks i ha,fun ht=>?_⟩,
        rf_box b2 hg hB b3 hq b6 hsub hblk,b1,b2,fun p hp=>Qx (List.all_eq_true.1 b4 p hp),?_,fun i hi=>?_,fun t av ht=>(VU ht).2⟩
       . rw[hblk]at ht
         by_cases e:0=id
         . subst e;rw[Jb]at ht;exact ht.elim
         rw[Jf _ _ e]at ht
         exact hwf.zero ht
       . rw[hblk]
         by_cases e:0=id
         . subst e;rw[Jb];rfl
         rw[Jf _ _ e];exact b6
       obtain⟨cells,hc⟩:=Uu hi
       refine⟨cells,?_⟩
       show(lk i (Vu id S.b)).getD .dead=_
       rw[JdQ b7 hc]
       rfl
     cases h
   cases h
 . rename_i gf' cap' _ hg
   split at h
   . rename_i hb
     cases h
     simp only[Kd,Ks,List.isEmpty_iff]at hb
     obtain⟨b1,b2,b3,b4,b6,b7⟩:=hb
     have hq:=hq.plain b3
     have hgk:JdP E.G (Ju ⟨JgA (VJ S.b) S.s,S.b,S.n⟩) g=some (.fn (.func gf) [] cap):=by
      cases g with
      | tmp t=>exact JcB hg (by simp[Jkr,JJ,b3])
      | _=>exact hg
     refine⟨⟨JgA (VJ S.b) S.s,S.b,S.n⟩,JkA E S _,hq.callable,id,Jj2 hgk b3 hq,b1,b2,fun p hp=>Qx (List.all_eq_true.1 b4 p hp),b6,fun i hi=>?_,fun t av ht=>(VU ht).2⟩
     obtain⟨cells,hc⟩:=Uu hi
     refine⟨cells,?_⟩
     show(lk i S.b).getD .dead=_
     rw[JdQ b7 hc]
     rfl
   cases h
 . cases h
abbrev FT:=List (Nat × List (Nat × RA))
def VE{α:Type}(l:List (Nat × α)):List Nat->List (Nat × α)
 | []=>[]
 | t::ts=>match lk t l with
  | some v=>(t,v)::VE l ts
  | none=>VE l ts
theorem QB{α:Type}{l:List (Nat × α)}{t:Nat}{v:α}:∀ {ts:List Nat},lk t (VE l ts)=some v->lk t l=some v
 | [],h=>by cases h
 | u::ts,h=>by
  simp only[VE]at h
  split at h
  . rename_i x hx
    simp only[lk]at h
    split at h
    . rename_i e
      cases h
      rw[<- Kc e]
      exact hx
    exact QB h
  exact QB h
theorem Jd0{α:Type}{l:List (Nat × α)}{t:Nat}:∀ {ts:List Nat},t ∈ ts->lk t (VE l ts)=lk t l
 | u::ts,h=>by
  simp only[VE]
  by_cases e:u=t
  . subst e
    split
    . rename_i x hx
      simp only[lk,JB,if_true]
      exact hx.symm
    rename_i hx
    rw[hx]
    cases hk:lk u (VE l ts)with
    | none=>rfl
    | some v=>rw[QB hk]at hx;cases hx
  have hm:t ∈ ts:=(List.mem_cons.1 h).resolve_left (fun e2=>e e2.symm)
  split
  . simp only[lk,J0 e]
    exact Jd0 hm
  exact Jd0 hm
def JhF(ts ids:List Nat)(S:AS):AS:=⟨VE S.s ts,VE S.b ids,S.n⟩
theorem WV{ts ids:List Nat}{S:AS}{id:Nat}{x:ABlk}(h:Jj (JhF ts ids S) id=x)(hx:x ≠ .dead):Jj S id=x:=by
 unfold Jj Jr at h ⊢
 show(lk id S.b).getD .dead=x
 have h:(lk id (VE S.b ids)).getD .dead=x:=h
 cases hk:lk id (VE S.b ids)with
 | none=>rw[hk]at h;exact absurd h.symm hx
 | some v=>rw[hk]at h;rw[QB hk];exact h
theorem Jk2{x:ABlk}(h:x.alive):x ≠ .dead:=fun e=>by rw[e]at h;exact h
theorem Jcm{x:ABlk}(h:x.tracey):x ≠ .dead:=fun e=>by rw[e]at h;exact h
theorem Jky(E:SE)(S:AS){ts ids:List Nat}(hA:(E.A.all fun i=>inA ids i)=true):Imp E S (JhF ts ids S):=fun _ _ _ ⟨hwf,X,ρ,hg,hr⟩ =>
 have hB:∀ id,(Jj (JhF ts ids S) id).alive->Jj (JhF ts ids S) id=Jj S id:=fun _ ha=>(WV rfl (Jk2 ha)).symm
 ⟨⟨fun t av ht=>hwf.slots t av (QB ht),fun i ha=>hwf.alive i (hB i ha ▸ ha),fun i ha=>hB i ha ▸ hwf.blks i (hB i ha ▸ ha),fun ht=>hwf.zero (by rw[WV rfl (Jcm ht)];exact ht)⟩,X,ρ,hg,
   hr.weaken (fun _ _ ht=>QB ht) hB (fun x h ht=>WV h (Jcm ht)) (fun i hi=>by
    obtain⟨j,hj,e⟩:=List.any_eq_true.1 (List.all_eq_true.1 hA i hi)
    have e:=Kc e
    subst e
    show(lk j (VE S.b ids)).getD .dead=(lk j S.b).getD .dead
    rw[Jd0 hj])⟩
inductive GS where
 | drop(c:Nat)(ex:List Nat)
 | kill(id:Nat)
 | bound(n:Nat)
 | frz(id:Nat)
 | own(t e k:Nat)
 | nil(t k:Nat)
 | ren(x y:Nat)
 | keep(ts ids:List Nat)
 | frz2(id:Nat)
 | ownb(i j e k:Nat)
 | reno(t x:Nat)
 | frzo(t:Nat)
 | frzc(i j:Nat)
 | renc(i j x:Nat)
 | nilb(i j k:Nat)
def idOf:Option AV->Option Nat
 | some (.own id _)=>some id
 | some (.ptr id _)=>some id
 | _=>none
def cellF(S:AS)(i j:Nat):Option AV:=match Jj S i with
 | .box c=>some (nth c j)
 | _=>none
def gs1(A:List Nat):GS->AS->Option AS
 | .drop c ex,S=>some (JkS c ex S)
 | .kill id,S=>if inA A id then none else some (Ve id S)
 | .bound n,S=>setN n S
 | .frz id,S=>frzS A id S
 | .own t e k,S=>JhI t e k S
 | .nil t k,S=>Jm9 t k S
 | .ren x y,S=>renS A x y S
 | .keep ts ids,S=>if A.all (fun i=>inA ids i)then some (JhF ts ids S)else none
 | .frz2 id,S=>Jf9 A id S
 | .ownb i j e k,S=>ownB i j e k S
 | .nilb i j k,S=>nilB i j k S
 | .reno t x,S=>match idOf (Ju S t)with
  | some id=>if id.beq x then some S else renS A x id S
  | none=>none
 | .frzo t,S=>match idOf (Ju S t)with
  | some id=>Jf9 A id S
  | none=>none
 | .frzc i j,S=>match idOf (cellF S i j)with
  | some id=>Jf9 A id S
  | none=>none
 | .renc i j x,S=>match idOf (cellF S i j)with
  | some id=>if id.beq x then some S else renS A x id S
  | none=>none
def Jaa(A:List Nat):List GS->AS->Option AS
 | [],S=>some S
 | g::l,S=>match gs1 A g S with
  | some S'=>Jaa A l S'
  | none=>none
theorem JnX(E:SE){g:GS}{S S':AS}(h:gs1 E.A g S=some S'):Imp E S S':=by
 cases g with
 | drop c ex=>cases h;exact Jfb E S c ex
 | kill id =>
  simp only[gs1]at h
  split at h
  . cases h
  rename_i hA
  cases h
  exact JkC E S id (Bool.eq_false_iff.2 hA)
 | bound n=>exact Jkx E h
 | frz id=>exact JnY E h
 | own t e k=>exact Jf8 E h
 | nil t k=>exact Jif E h
 | ren x y=>exact Jd5 E h
 | frz2 id=>exact JbL E h
 | ownb i j e k=>exact Jkz E h
 | nilb i j k=>exact JkB E h
 | reno t x =>
  simp only[gs1]at h
  split at h
  . split at h
    . cases h;exact Imp.refl E S
    exact Jd5 E h
  cases h
 | frzo t =>
  simp only[gs1]at h
  split at h
  . exact JbL E h
  cases h
 | frzc i j =>
  simp only[gs1]at h
  split at h
  . exact JbL E h
  cases h
 | renc i j x =>
  simp only[gs1]at h
  split at h
  . split at h
    . cases h;exact Imp.refl E S
    exact Jd5 E h
  cases h
 | keep ts ids =>
  simp only[gs1]at h
  split at h
  . rename_i hA
    cases h
    exact Jky E S hA
  cases h
theorem Qg(E:SE):∀ {l:List GS} {S S':AS},Jaa E.A l S=some S'->Imp E S S'
 | [],S,S',h=>by cases h;exact Imp.refl E S
 | g::l,S,S',h=>by
  simp only[Jaa]at h
  split at h
  . rename_i h1;exact(JnX E h1).trans (Qg E h)
  cases h
structure LA where
 pre:List GS
 post:List GS
 Gh:Type
 st:Gh->AS
 ok:Gh->Prop
 ms:Gh->Nat
 rel:Option (Gh->Gh->Prop):=none
 it:Option Nat:=none
 sx:Option (AS->Gh->AS):=none
def LA.sa(L:LA)(S0:AS):L.Gh->AS:=match L.sx with
 | none=>L.st
 | some f=>f S0
structure FA where
 X:Type
 xs:List X
 enc:X->List AV
 post:List GS
 Gh:Type
 st:Gh->AS
 ok:List X->Gh->Prop
structure BA where
 ra:Nat->RA
 gs:Nat->List GS
 la:Nat->Option LA
 fa:Option FA
 spec:Nat->List AV->Option AV
 bx:Nat->List GS:=fun _=>[]
 split:Nat->Nat:=fun _=>0
 cl:Operand->Bool:=fun _=>false
 cut:Nat->Option (AS->AS):=fun _=>none
 cs:Nat->Option (List ((AS->Prop) × (AS->AS))):=fun _=>none
 hs:Nat->List AV->List ABlk->Option AV:=fun _ _ _=>none
def Jhl(spec:Nat->List AV->Option AV)(an:An):Option (Nat × List AV)->An
 | some (f,args)=>match spec f args with
  | some r=>{ an with res:=r }
  | none=>an
 | none=>an
def Jen(G:List (Nat × List AV))(S:AS)(o:Oper):Option (Nat × List AV) :=
 if Jku o.op then match QP o.op with
  | some xs=>match QZ G (Ju S) xs with
   | some ins=>JiI S.b (ins.map Jgy)
   | none=>none
  | none=>none
 else none
def Jd8(G:List (Nat × List AV))(S:AS)(o:Oper):Option (Nat × List AV × List ABlk) :=
 if Jku o.op then match QP o.op with
  | some xs=>match QZ G (Ju S) xs with
   | some ins=>Jij S.b (ins.map Jgy)
   | none=>none
  | none=>none
 else none
def Jbv(hs:Nat->List AV->List ABlk->Option AV)(spec:Nat->List AV->Option AV)(an:An)(t:Option (Nat × List AV)):Option (Nat × List AV × List ABlk)->An
 | some (f,args,bs)=>match hs f args bs with
  | some r=>{ an with res:=r }
  | none=>Jhl spec an t
 | none=>Jhl spec an t
def fillA(G:List (Nat × List AV))(T:TT)(nt:Nat)(ops:Array Oper)(hs:Nat->List AV->List ABlk->Option AV)(spec:Nat->List AV->Option AV):List An->List Oper->AS->List An
 | _,[],_=>[]
 | ans,o::l,S =>
  let an:=Jbv hs spec (ans.headD {}) (Jen G S o) (Jd8 G S o)
  match Jad G T nt S.n an ops o (Ju S) S.b with
  | some (e,_,_)=>an::fillA G T nt ops hs spec ans.tail l (Qy e S)
  | none=>[]
def andC:List Cd->Prop->Prop
 | [],p=>p
 | c::l,p=>c.p/\andC l p
def Jd6:Bool->Prop->Prop
 | true,p=>p
 | false,_=>True
theorem impB_iff{g:Bool}{p:Prop}:Jd6 g p ↔ (g=true->p):=by
 cases g <;> simp[Jd6]
def oblP(E:SE)(ob:GObl):Prop:=Jd6 ob.g (ob.o.ok E.P E.G E.L)
def andO(E:SE):List GObl->Prop->Prop
 | [],p=>p
 | ob::l,p=>oblP E ob/\andO E l p
theorem Jep:∀ {l:List Cd} {p:Prop},andC l p->All l/\p
 | [],_,h=>⟨trivial,h⟩
 | ⟨_,_⟩::_,_,h=>⟨⟨h.1,(Jep h.2).1⟩,(Jep h.2).2⟩
theorem JiP{E:SE}:∀ {l:List GObl} {p:Prop},andO E l p->(∀ ob,ob ∈ l->ob.g=true->ob.o.ok E.P E.G E.L)/\p
 | [],_,h=>⟨by simp,h⟩
 | ob::l,_,h=>by
  obtain⟨h1,h2⟩:=JiP h.2
  refine⟨fun o ho=>?_,h2⟩
  rcases List.mem_cons.1 ho with rfl | ho
  . exact impB_iff.1 h.1
  exact h1 o ho
def Jny(E:SE)(B:BA)(id:Nat)(ops:Array Oper)(draw:Bool)(ans:List An)(S:AS)(R:AS->Prop):Prop :=
 match Wj E.G E.T E.nt ops (fillA E.G E.T E.nt ops B.hs B.spec ans ops.toList S) ops.toList S with
 | some (es,cs,obs)=>match !draw || Jfj E.G ops es S with
  | true=>match Jaa E.A (B.gs id) (JkS (B.ra id).c (B.ra id).ex (Jjp es S))with
   | some S2=>andC cs (andO E obs (R S2))
   | none=>False
  | false=>False
 | none=>False
def valAt(G:List (Nat × List AV))(T:TT)(nt:Nat)(ops:Array Oper)(hs:Nat->List AV->List ABlk->Option AV)(spec:Nat->List AV->Option AV):Nat->List An->List Oper->AS->Option AV
 | _,_,[],_=>none
 | 0,ans,o::_,S=>match Jad G T nt S.n (Jbv hs spec (ans.headD {}) (Jen G S o) (Jd8 G S o)) ops o (Ju S) S.b with
  | some (e,_,_)=>e.v
  | none=>none
 | k+1,ans,o::l,S=>match Jad G T nt S.n (Jbv hs spec (ans.headD {}) (Jen G S o) (Jd8 G S o)) ops o (Ju S) S.b with
  | some (e,_,_)=>valAt G T nt ops hs spec k ans.tail l (Qy e S)
  | none=>none
def insN(k:Nat):List Nat->List Nat
 | []=>[k]
 | x::l=>if k.beq x then x::l else if k.blt x then k::x::l else x::insN k l
def Wv:List Oper->List Nat
 | []=>[]
 | o::l=>match o.guard with
  | some (j,_)=>insN j (Wv l)
  | none=>Wv l
def JeL(b:Bool):Nat->List An->List An
 | 0,[]=>[{ rd:=fun _=>some (.bool b) }]
 | 0,a::l=>{ a with rd:=fun _=>some (.bool b) }::l
 | k+1,[]=>{}::JeL b k []
 | k+1,a::l=>a::JeL b k l
def Jjl(E:SE)(B:BA)(id:Nat)(ops:Array Oper)(draw:Bool)(S:AS)(R:AS->Prop):List Nat->List An->Prop
 | [],ans=>Jny E B id ops draw ans S R
 | k::ks,ans=>match valAt E.G E.T E.nt ops B.hs B.spec k ans ops.toList S with
  | some (.bool c)=>(c=true->Jjl E B id ops draw S R ks (JeL true k ans))/\(c=false->Jjl E B id ops draw S R ks (JeL false k ans))
  | _=>Jjl E B id ops draw S R ks ans
def JlP(E:SE)(B:BA)(id:Nat)(ops:Array Oper)(draw:Bool)(S:AS)(R:AS->Prop):Prop :=
 match B.split id with
 | 0=>Jny E B id ops draw (B.ra id).ans S R
 | 1=>Jjl E B id ops draw S R (Wv ops.toList) ((B.ra id).ans.map fun a=>{ a with sym:=false })
 | _=>Jjl E B id ops draw S R (Wv ops.toList++[ops.toList.length-1]) ((B.ra id).ans.map fun a=>{ a with sym:=false })
def rndV(A:List Nat)(F:FA)(S:AS)(pre:List F.X)(x:F.X)(Q:Exit->AS->Prop):Exit->AS->Prop
 | .normal,S'=>match Jaa A F.post S' with
  | some S2=>JbK (Jj S2 0)=false/\∃ g':F.Gh,F.ok (pre++[x]) g'/\AS.mk S.s S2.b S2.n=F.st g'
  | none=>False
 | .ret,S'=>JbK (Jj S' 0)=false/\Q .ret ⟨S.s,S'.b,S'.n⟩
 | .exit id,S'=>JbK (Jj S' 0)=false/\Q (.exit id) ⟨S.s,S'.b,S'.n⟩
 | _,_=>False
def bxQ(E:SE)(B:BA)(id:Nat)(Q:Exit->AS->Prop):Exit->AS->Prop
 | .exit id',S=>if id'=id then match Jaa E.A (B.bx id) S with
  | some S2=>Q .normal S2
  | none=>False
  else Q (.exit id') S
 | .normal,S=>match Jaa E.A (B.bx id) S with
  | some S2=>Q .normal S2
  | none=>False
 | e,S=>Q e S
theorem bxQ_ok{E:SE}{B:BA}{id:Nat}{Q:Exit->AS->Prop}{e:Exit}{S:AS}(h:bxQ E B id Q e S):∃ S',Imp E S S'/\inQ id Q e S':=by
 cases e with
 | exit id' =>
  simp only[bxQ]at h
  split at h
  . rename_i e1
    split at h
    . rename_i S2 h2
      exact⟨S2,Qg E h2,by simp only[inQ,if_pos e1];exact h⟩
    exact h.elim
  rename_i e1
  exact⟨S,Imp.refl E S,by simp only[inQ,if_neg e1];exact h⟩
 | normal =>
  simp only[bxQ]at h
  split at h
  . rename_i S2 h2
    exact⟨S2,Qg E h2,h⟩
  exact h.elim
 | _=>exact⟨S,Imp.refl E S,h⟩
def Jhy(id:Nat)(x:ABlk):BL->BL
 | []=>[]
 | (i,b)::l=>if i.beq id then(i,x)::l else(i,b)::Jhy id x l
theorem UM{id:Nat}{x:ABlk}:∀ {l:BL},lk id l=some x->Jhy id x l=l
 | (i,b)::l,h=>by
  simp only[lk]at h
  simp only[Jhy]
  split
  . rename_i e
    rw[if_pos e]at h
    cases h
    rfl
  rename_i e
  rw[if_neg e]at h
  rw[UM h]
def itV(it:Option Nat)(S:AS)(R:AS->Prop):Prop :=
 match it with
 | none=>R S
 | some id=>match lk id S.b with
  | some (.iter l pos)=>(∀ c r,l=c::r->R ⟨S.s,Jhy id (.iter (c::r) pos) S.b,S.n⟩)/\(l=[]->R ⟨S.s,Jhy id (.iter [] pos) S.b,S.n⟩)
  | _=>False
theorem JlV{it:Option Nat}{S:AS}{R:AS->Prop}(h:itV it S R):R S:=by
 unfold itV at h
 split at h
 . exact h
 rename_i id
 split at h
 . rename_i l pos hl
   cases l with
   | nil =>
    have:=h.2 rfl
    rw[UM hl]at this
    exact this
   | cons c r =>
    have:=h.1 c r rfl
    rw[UM hl]at this
    exact this
 exact h.elim
def orC(S:AS):List ((AS->Prop) × (AS->AS))->AS->Prop
 | [],_=>False
 | x::l,S2=>(x.1 S/\S2=x.2 S) ∨ orC S l S2
def allS(S:AS):List ((AS->Prop) × (AS->AS))->(AS->Prop)->Prop
 | [],_=>True
 | x::l,R=>(x.1 S->R (x.2 S))/\allS S l R
theorem JhJ{S S2:AS}{R:AS->Prop}:∀ {l:List ((AS->Prop) × (AS->AS))},orC S l S2->allS S l R->R S2
 | [],h,_=>h.elim
 | _::_,h,h2=>by
  rcases h with⟨h,rfl⟩ | h
  . exact h2.1 h
  exact JhJ h h2.2
def VC(E:SE)(B:BA):Nat->Nat->Code->AS->(Exit->AS->Prop)->Prop
 | 0,_,_,_,_=>False
 | n+1,bl,c,S,Q =>
  match c with
  | .skip=>Q .normal S
  | .label _=>Q .normal S
  | .ret=>Q .ret S
  | .exit id=>Q (.exit id) S
  | .region id ops draw=>match B.cut id with
   | none=>match B.cs id with
    | none=>JlP E B id ops draw S (Q .normal)
    | some l=>JlP E B id ops draw S (fun S2=>orC S l S2)/\allS S l (Q .normal)
   | some f=>JlP E B id ops draw S (fun S2=>S2=f S)/\Q .normal (f S)
  | .seq x y=>VC E B n bl x S (UH (fun S'=>VC E B n bl y S' Q) Q)
  | .cond c x y =>
   match JdP E.G (Ju S) c with
   | some (.bool b)=>match B.cl c with
    | false=>(b=true->VC E B n bl x S Q)/\(b=false->VC E B n bl y S Q)
    | true=>match b with
     | true=>VC E B n bl x S Q
     | false=>VC E B n bl y S Q
   | some (.yb l k neg)=>match Jj S 0 with
    | .trace l' rows=>l'=l/\rows.length=k/\VC E B n bl (if neg then y else x) (Wg (.ready l rows) S) Q/\VC E B n bl (if neg then x else y) (Wg (.stop l) S) Q
    | _=>False
   | _=>False
  | .block id b=>VC E B n id b S (bxQ E B id Q)
  | .scope b=>VC E B n bl b S (fun e S'=>match e with
   | .goto _=>False
   | e=>Q e S')
  | .loop b =>
   match B.la bl with
   | some L=>match Jaa E.A L.pre S with
    | some S0=>match L.rel with
     | none=>(∃ g:L.Gh,L.ok g/\S0=L.sa S0 g)/\∀ g:L.Gh,L.ok g →
       itV L.it (L.sa S0 g) fun SI=>VC E B n bl b SI (UH (fun S'=>match Jaa E.A L.post S' with
        | some S2=>∃ g':L.Gh,L.ok g'/\L.ms g' < L.ms g/\S2=L.sa S0 g'
        | none=>False) Q)
     | some r=>∃ g0:L.Gh,L.ok g0/\r g0 g0/\S0=L.sa S0 g0/\∀ g:L.Gh,L.ok g->r g0 g →
       itV L.it (L.sa S0 g) fun SI=>VC E B n bl b SI (UH (fun S'=>match Jaa E.A L.post S' with
        | some S2=>∃ g':L.Gh,L.ok g'/\r g0 g'/\L.ms g' < L.ms g/\S2=L.sa S0 g'
        | none=>False) Q)
    | none=>False
   | none=>VC E B n bl b S (UH (fun S'=>VC E B n bl (.loop b) S' Q) Q)
  | .rangeFunc f ps assign body =>
   match B.fa with
   | some F=>match rfSt E f ps S with
    | some (gf,cap,S1) =>
     PSeqX E.P E.G gf cap (F.xs.map F.enc)/\(∀ x:F.X,(F.enc x).length=ps.size) /\
     (∃ g:F.Gh,F.ok [] g/\S1=F.st g) /\
     (∀ (pre:List F.X) (x:F.X) (post:List F.X) (g:F.Gh),F.xs=pre++x::post->F.ok pre g →
      VC (E.rnd (VJ S1.b)) B n bl assign ⟨UW ps.toList (F.enc x) S1.s,(F.st g).b,(F.st g).n⟩ (fun e S2=>e=.normal/\JbK (Jj S2 0)=false /\
       VC (E.rnd (VJ S1.b)) B n bl body S2 (rndV (VJ S1.b) F S1 pre x Q))) /\
     (∀ g:F.Gh,F.ok F.xs g->Q .normal (F.st g))
    | none=>False
   | none=>False
  | _=>False
theorem Jc9{p q:Prop}(h:p->q):∀ {l:List Cd},andC l p->andC l q
 | [],h1=>h h1
 | _::_,h1=>⟨h1.1,Jc9 h h1.2⟩
theorem Jc8{E:SE}{p q:Prop}(h:p->q):∀ {l:List GObl},andO E l p->andO E l q
 | [],h1=>h h1
 | _::_,h1=>⟨h1.1,Jc8 h h1.2⟩
theorem Jcx{E:SE}{B:BA}{id:Nat}{ops:Array Oper}{draw:Bool}{ans:List An}{S:AS}{R R':AS->Prop}(hR:∀ S,R S->R' S)(h:Jny E B id ops draw ans S R):Jny E B id ops draw ans S R':=by
 unfold Jny at h ⊢
 split at h
 . rename_i es cs obs he
   split at h
   . rename_i hd
     split at h
     . rename_i S2 hg
       exact Jc9 (Jc8 (hR S2)) h
     exact h.elim
   exact h.elim
 exact h.elim
theorem X9{E:SE}{B:BA}{id:Nat}{ops:Array Oper}{draw:Bool}{S:AS}{R R':AS->Prop}(hR:∀ S,R S->R' S):∀ {ks:List Nat} {ans:List An},Jjl E B id ops draw S R ks ans->Jjl E B id ops draw S R' ks ans
 | [],_,h=>Jcx hR h
 | k::ks,ans,h=>by
  unfold Jjl at h ⊢
  split at h
  . rename_i c hc
    exact⟨fun e=>X9 hR (h.1 e),fun e=>X9 hR (h.2 e)⟩
  exact X9 hR h
theorem Jcy{E:SE}{B:BA}{id:Nat}{ops:Array Oper}{draw:Bool}{S:AS}{R R':AS->Prop}(hR:∀ S,R S->R' S)(h:JlP E B id ops draw S R):JlP E B id ops draw S R':=by
 unfold JlP at h ⊢
 split at h
 . exact Jcx hR h
 . exact X9 hR h
 exact X9 hR h
theorem JhA{E:SE}(hE:E.OK){B:BA}{id:Nat}{ops:Array Oper}{draw:Bool}{ans:List An}{S:AS}{Q:Exit->AS->Prop}(h:Jny E B id ops draw ans S (Q .normal)):Tri E (.region id ops draw) S Q:=by
 unfold Jny at h
 split at h
 . rename_i es cs obs he
   split at h
   . rename_i hd
     split at h
     . rename_i S2 hg
       obtain⟨h1,h2⟩:=Jep h
       obtain⟨h3,h4⟩:=JiP h2
       refine Imp.post (JfK hE (Q:=Joc .normal (Jjp es S)) he h1 (fun ob hm hob=>h3 ob hm hob) (fun e=>?_) ⟨rfl,rfl⟩) fun e S' ⟨g1,g2⟩=>?_
       . subst e;simpa using hd
       subst g1;subst g2
       exact⟨S2,(Jfb E _ _ _).trans (Qg E hg),h4⟩
     exact h.elim
   exact h.elim
 exact h.elim
theorem WS{E:SE}(hE:E.OK){B:BA}{id:Nat}{ops:Array Oper}{draw:Bool}{S:AS}{Q:Exit->AS->Prop}:∀ {ks:List Nat} {ans:List An},Jjl E B id ops draw S (Q .normal) ks ans->Tri E (.region id ops draw) S Q
 | [],_,h=>JhA hE h
 | k::ks,ans,h=>by
  simp only[Jjl]at h
  split at h
  . rename_i c hc
    cases c with
    | true=>exact WS hE (h.1 rfl)
    | false=>exact WS hE (h.2 rfl)
  exact WS hE h
theorem JdI{E:SE}(hE:E.OK){B:BA}{id:Nat}{ops:Array Oper}{draw:Bool}{S:AS}{Q:Exit->AS->Prop}(h:JlP E B id ops draw S (Q .normal)):Tri E (.region id ops draw) S Q:=by
 unfold JlP at h
 split at h
 . exact JhA hE h
 . exact WS hE h
 exact WS hE h
theorem JaL:∀ (n:Nat) {E:SE} (_:E.OK) {B:BA} (bl:Nat) (c:Code) (S:AS) (Q:Exit->AS->Prop),VC E B n bl c S Q->Tri E c S Q
 | 0,_,_,_,_,_,_,_,h=>h.elim
 | n+1,E,hE,B,bl,c,S,Q,h=>by
  have ih:=fun bl c S Q=>JaL n hE (B:=B) bl c S Q
  cases c with
  | skip=>exact JjL h
  | label l=>exact Jg8 h
  | ret=>exact JmU h
  | exit id=>exact JjM h
  | region id ops draw =>
   simp only[VC]at h
   split at h
   . split at h
     . exact JdI hE h
     rename_i l hl
     refine(JdI hE (Q:=fun e S2=>e=.normal/\orC S l S2) (B:=B) (Jcy (fun S2 h2=>⟨rfl,h2⟩) h.1)).mono fun e S2 ⟨h1,h2⟩=>?_
     subst h1
     exact JhJ h2 h.2
   rename_i f hf
   refine(JdI hE (Q:=fun e S2=>e=.normal/\S2=f S) (B:=B) (Jcy (fun S2 h2=>⟨rfl,h2⟩) h.1)).mono fun e S2 ⟨h1,h2⟩=>?_
   subst h1;subst h2
   exact h.2
  | seq x y=>exact Jg6 _ (ih bl x S _ h) fun S' hS'=>ih bl y S' Q hS'
  | cond c x y =>
   simp only[VC]at h
   split at h
   . rename_i b hb
     split at h
     . exact Jbk hb (fun e=>ih bl x S Q (h.1 e)) (fun e=>ih bl y S Q (h.2 e))
     cases b with
     | true=>exact Jbk hb (fun _=>ih bl x S Q h) (fun e=>by cases e)
     | false=>exact Jbk hb (fun e=>by cases e) (fun _=>ih bl y S Q h)
   . rename_i l k neg hb
     split at h
     . rename_i l' rows hB
       obtain⟨rfl,h2,h3,h4⟩:=h
       exact JfL hb hB h2 (ih bl _ _ Q h3) (ih bl _ _ Q h4)
     exact h.elim
   exact h.elim
  | block id b=>exact Jg9 (Imp.post (ih id b S _ h) fun e S' hq=>bxQ_ok hq)
  | scope b =>
   simp only[VC]at h
   refine(Jg7 (ih bl b S _ h) (fun l S' hq=>hq)).mono fun e S' hq=>?_
   cases e with
   | goto l=>exact hq.elim
   | _=>exact hq
  | loop b =>
   simp only[VC]at h
   split at h
   . rename_i L hL
     split at h
     . rename_i S0 h0
       split at h
       . rename_i hrel
         obtain⟨⟨g0,hg0,hs0⟩,hround⟩:=h
         refine Imp.pre (Qg E h0) (Jbj (fun k T=>∃ g:L.Gh,L.ok g/\L.ms g=k/\T=L.sa S0 g) (fun k T ⟨g,h1,h2,h3⟩=>?_) (n:=L.ms g0) ⟨g0,hg0,rfl,hs0⟩)
         subst h2;subst h3
         refine Imp.post (ih bl b (L.sa S0 g) _ (JlV (R:=fun SI=>VC E B n bl b SI _) (hround g h1))) fun e S' hS'=>?_
         cases e with
         | normal =>
          simp only[UH]at hS'
          split at hS'
          . rename_i S2 h2
            obtain⟨g',h3,h4,h5⟩:=hS'
            exact⟨S2,Qg E h2,L.ms g',h4,g',h3,rfl,h5⟩
          exact hS'.elim
         | _=>exact⟨S',Imp.refl E S',hS'⟩
       rename_i r hrel
       obtain⟨g0,hg0,hr0,hs0,hround⟩:=h
       refine Imp.pre (Qg E h0) (Jbj (fun k T=>∃ g:L.Gh,L.ok g/\r g0 g/\L.ms g=k/\T=L.sa S0 g) (fun k T ⟨g,h1,h1',h2,h3⟩=>?_) (n:=L.ms g0) ⟨g0,hg0,hr0,rfl,hs0⟩)
       subst h2;subst h3
       refine Imp.post (ih bl b (L.sa S0 g) _ (JlV (R:=fun SI=>VC E B n bl b SI _) (hround g h1 h1'))) fun e S' hS'=>?_
       cases e with
       | normal =>
        simp only[UH]at hS'
        split at hS'
        . rename_i S2 h2
          obtain⟨g',h3,h3',h4,h5⟩:=hS'
          exact⟨S2,Qg E h2,L.ms g',h4,g',h3,h3',rfl,h5⟩
        exact hS'.elim
       | _=>exact⟨S',Imp.refl E S',hS'⟩
     exact h.elim
   refine Jbj (fun k T=>k<=n+1/\VC E B k bl (.loop b) T Q) (fun k T ⟨hk,hJ⟩=>?_) (n:=n+1) ⟨Kr _,by simp only[VC];split;rename_i hL;simp_all;exact h⟩
   match k,hk,hJ with
   | k+1,hk,hJ =>
    simp only[VC]at hJ
    split at hJ
    . simp_all
    exact(JaL k hE (B:=B) bl b T _ hJ).mono fun e S' hS'=>by
     cases e with
     | normal=>exact⟨k,by omega,by omega,hS'⟩
     | _=>exact hS'
  | rangeFunc f ps assign body =>
   simp only[VC]at h
   split at h
   . rename_i F hF
     split at h
     . rename_i gf cap Sb hrf
       obtain⟨h1,h2,⟨g0,hg0,hst⟩,h3,h4⟩:=h
       obtain⟨Sa,hS,hgc,hwf,hrs,b1,b2,b4,b6,hA,hsl⟩:=Jnr hrf h1
       refine Imp.pre hS (JaD b1 b2 hgc hwf hrs b6 hA hsl b4 (fun x hx=>?_)
             (fun rows S1=>∃ p q g,F.xs=p++q/\rows=p.map F.enc/\F.ok p g/\S1=F.st g) ⟨[],F.xs,g0,rfl,rfl,hg0,hst⟩ (fun pre x post S1 hL hj=>?_) (fun S1 hj=>?_))
       . obtain⟨y,_,rfl⟩:=List.mem_map.1 hx
         exact h2 y
       . obtain⟨p,q,g,hxs,rfl,hok,rfl⟩:=hj
         rw[hxs,K8]at hL
         have hq:=List.append_cancel_left hL
         cases q with
         | nil=>cases hq
         | cons y q =>
          simp only[List.map_cons,List.cons.injEq]at hq
          obtain⟨rfl,rfl⟩:=hq
          refine(JaL n (JlM hE _) bl _ _ _ (h3 p y q g hxs hok)).mono fun e S2 ⟨g1,g2,g3⟩=>⟨g1,g2,?_⟩
          refine Imp.post (JaL n (JlM hE _) bl _ _ _ g3) fun e S3 hS3=>?_
          cases e with
          | normal =>
           simp only[rndV]at hS3
           split at hS3
           . rename_i S4 hS4
             obtain⟨k1,g',k2,k3⟩:=hS3
             exact⟨S4,Qg _ hS4,k1,p++[y],q,g',by rw[hxs];simp,by simp,k2,k3⟩
           exact hS3.elim
          | ret=>exact⟨S3,Imp.refl _ _,hS3⟩
          | exit id=>exact⟨S3,Imp.refl _ _,hS3⟩
          | _=>exact hS3.elim
       obtain⟨p,q,g,hxs,hL,hok,rfl⟩:=hj
       have hq:q=[]:=by
        have:=congrArg List.length hL
        rw[hxs]at this
        simp at this
        exact this
       subst hq
       refine h4 g ?_
       rw[hxs,List.append_nil]
       exact hok
     exact h.elim
   exact h.elim
  | _=>exact h.elim
def JlN(T:TT)(fn:Func)(R:AV->Prop):Exit->AS->Prop
 | .normal,S=>match JbK (Jj S 0)with
  | true=>False
  | false=>match Jpx T fn S with
   | some r=>R r
   | none=>False
 | .ret,S=>match JbK (Jj S 0)with
  | true=>False
  | false=>match Jpx T fn S with
   | some r=>R r
   | none=>False
 | _,_=>False
theorem Jgi{P:Program}{T:TT}{G:List (Nat × List AV)}{f:Nat}{fn:Func}{body:Code}{args:List AV}{r:AV}(hT:TOK P T)(hm:P.follows .mixedOrders=true)(hf:P.funcs[f]?=some fn)(hb:fn.body=some body)
 (hn : (fn.name == "runtime.NumGoroutine") = false) (hlen : args.length ≤ fn.ntmps) (B : BA)
 (h:VC (QD P T G fn.ntmps []) B 10000 0 body (JaP args) (JlN T fn fun v=>v=r)):PCall P G f args r:=by
 have hE:(QD P T G fn.ntmps []).OK:=⟨hT,hm⟩
 refine Wd hE hf hb hn hlen ((JaL _ hE _ _ _ _ h).mono fun e S' hq=>?_)
 cases e with
 | normal =>
  simp only[JlN]at hq
  split at hq
  · exact hq.elim
  rename_i h1
  split at hq
  · rename_i hr;subst hq;exact⟨.inl rfl,h1,hr⟩
  exact hq.elim
 | ret =>
  simp only[JlN]at hq
  split at hq
  · exact hq.elim
  rename_i h1
  split at hq
  · rename_i hr;subst hq;exact⟨.inr rfl,h1,hr⟩
  exact hq.elim
 | _=>exact hq.elim
def seqQ(l:Nat)(L:List (List AV)):Exit->AS->Prop
 | .normal,S=>Jj S 0=.ready l L ∨ Jj S 0=.stop l
 | .ret,S=>Jj S 0=.ready l L ∨ Jj S 0=.stop l
 | _,_=>False
theorem Jcs{P:Program}{T:TT}{G:List (Nat × List AV)}{f:Nat}{fn:Func}{body:Code}{cap:List AV}{L:List (List AV)}(hT:TOK P T)(hm:P.follows .mixedOrders=true)(hf:P.funcs[f]?=some fn)(hb:fn.body=some body)
 (hn : (fn.name == "runtime.NumGoroutine") = false) (hlen : cap.length + 1 ≤ fn.ntmps) (hres : fn.results.toList = []) (B : Nat → BA)
 (h:∀ l,VC (QD P T G fn.ntmps L) (B l) 10000 0 body (Jco l cap) (seqQ l L)):PSeq P G f cap L:=by
 have hE:(QD P T G fn.ntmps L).OK:=⟨hT,hm⟩
 refine Jdx hf hb hn hlen hres fun l=>(JaL _ hE _ _ _ _ (h l)).mono fun e S' hq=>?_
 cases e with
 | normal=>exact⟨.inl rfl,hq⟩
 | ret=>exact⟨.inr rfl,hq⟩
 | _=>exact hq.elim
def Jj4(T:TT)(fn:Func)(k:Nat)(r:AV)(fin:List ABlk):Exit->AS->Prop
 | .normal,S=>match retW T fn k S with
  | some (r',fin')=>r'=r/\fin'=fin
  | none=>False
 | .ret,S=>match retW T fn k S with
  | some (r',fin')=>r'=r/\fin'=fin
  | none=>False
 | _,_=>False
theorem Jem{P:Program}{T:TT}{G:List (Nat × List AV)}{f:Nat}{fn:Func}{body:Code}{args:List AV}{bs:List ABlk}{r:AV}{fin:List ABlk}(hT:TOK P T)(hm:P.follows .mixedOrders=true)(hf:P.funcs[f]?=some fn)(hb:fn.body=some body)
 (hn : (fn.name == "runtime.NumGoroutine") = false) (hlen : args.length ≤ fn.ntmps) (hwf : wfB (bs.length + 1) (WK args bs) = true) (B : BA)
 (h:VC (QD P T G fn.ntmps []) B 10000 0 body (WK args bs) (Jj4 T fn bs.length r fin)):WCall P G f args bs r fin:=by
 have hE:(QD P T G fn.ntmps []).OK:=⟨hT,hm⟩
 refine Jb4 hE hf hb hn hlen hwf ((JaL _ hE _ _ _ _ h).mono fun e S' hq=>?_)
 cases e with
 | normal =>
  simp only[Jj4]at hq
  split at hq
  · rename_i r' fin' h1
    obtain⟨rfl,rfl⟩:=hq
    exact⟨.inl rfl,h1⟩
  exact hq.elim
 | ret =>
  simp only[Jj4]at hq
  split at hq
  · rename_i r' fin' h1
    obtain⟨rfl,rfl⟩:=hq
    exact⟨.inr rfl,h1⟩
  exact hq.elim
 | _=>exact hq.elim
def Vg:Code->List Code
 | .seq a b=>Vg a++Vg b
 | c=>[c]
def Jqq(E:SE)(Q:Exit->AS->Prop):List Code->AS->Prop
 | [],S=>Q .normal S
 | c::l,S=>Tri E c S (UH (fun S'=>Jqq E Q l S') Q)
theorem Jha{E:SE}{Q:Exit->AS->Prop}:∀ (c:Code) (l:List Code) (S:AS),Jqq E Q (Vg c++l) S->Tri E c S (UH (fun S'=>Jqq E Q l S') Q):=by
 intro c
 induction c with
 | seq a b iha ihb =>
  intro l S h
  rw[Vg,List.append_assoc]at h
  refine Jg6 (fun S'=>Jqq E Q (Vg b++l) S') ((iha _ _ h).mono fun e S' hq=>?_) (fun S' hs=>ihb _ _ hs)
  cases e <;> exact hq
 | _=>intro l S h;exact h
theorem JmV{E:SE}{Q:Exit->AS->Prop}{c:Code}{S:AS}(h:Jqq E Q (Vg c) S):Tri E c S Q :=
 (Jha c [] S (by rw[List.append_nil];exact h)).mono fun e S' hq=>by
  cases e <;> exact hq
def Jbi(A:List Nat)(g:List GS)(M:AS)(S:AS):Prop:=match Jaa A g S with
 | some S2=>S2=M
 | none=>False
structure Mem where
 f:Nat
 a:List AV
 r:AV
def KnownM(P:Program)(G:List (Nat × List AV))(l:List Mem):Prop:=∀ m,m ∈ l->PCall P G m.f m.a m.r
theorem KnownM.nil{P:Program}{G:List (Nat × List AV)}:KnownM P G []:=fun _ h=>by cases h
theorem KnownM.cons{P:Program}{G:List (Nat × List AV)}{l:List Mem}{f:Nat}{a:List AV}{r:AV}(h:PCall P G f a r)(hl:KnownM P G l):KnownM P G (⟨f,a,r⟩::l):=fun m hm=>by
 rcases List.mem_cons.1 hm with rfl | hm
 . exact h
 exact hl m hm
theorem KnownM.append{P:Program}{G:List (Nat × List AV)}{l m:List Mem}(hl:KnownM P G l)(hm:KnownM P G m):KnownM P G (l++m):=fun x hx=>by
 rcases List.mem_append.1 hx with h | h
 . exact hl x h
 exact hm x h
end Go.Av
namespace Go.Av
open Go Go.RowKit Go.ChangeShapes Go.WideShapes
def Vl:List (Nat × Nat × Nat)->Nat->Nat->Bool
 | [],off,tot=>off.beq tot
 | (o,_,s)::l,off,tot=>o.beq off && Vl l (off+s) tot
def JU(T:TT):Nat->Nat->Bool
 | 0,_=>false
 | n+1,t=>match lk t T with
  | some ti=>match ti.k with
   | .int _ | .bool | .str=>ti.size.beq 1
   | .slice e es _=>JU T n e && !(es.beq 0) && ti.size.beq 1
   | .arr m e es=>JU T n e && Vl ((List.range m).map fun i=>(i * es,e,es)) 0 ti.size
   | .struct fs=>fs.all (fun f=>JU T n f.2.1) && Vl fs 0 ti.size
   | _=>false
  | none=>false
def WU(T:TT):Nat->Nat->Bool
 | 0,_=>false
 | n+1,t=>match lk t T with
  | some ti=>match ti.k with
   | .int _ | .bool | .str=>true
   | .arr _ e _=>WU T n e
   | .struct fs=>fs.all (fun f=>WU T n f.2.1)
   | _=>false
  | none=>false
def ASh(T:TT):Nat->Nat->List AV->Prop
 | 0,_,_=>False
 | n+1,t,l=>match lk t T with
  | some ti=>match ti.k with
   | .int k=>∃ x,l=[.int k x]/\(Lit.int k x).wf=true
   | .bool=>∃ b,l=[.bool b]
   | .str=>∃ s,l=[.str s]/\s.length<=maxLen
   | .slice e es _=>∃ rows,l=[.sl es rows]/\rows.length<=maxLen/\∀ r,r ∈ rows->ASh T n e r
   | .arr m e es=>l.length=ti.size/\∀ i,i < m->ASh T n e ((l.drop (i * es)).take es)
   | .struct fs=>l.length=ti.size/\∀ f,f ∈ fs->ASh T n f.2.1 ((l.drop f.1).take f.2.2)
   | _=>False
  | none=>False
def avD{H:Type}:Nat->DataW H->List AV
 | 0,_=>[]
 | n+1,d=>match d with
  | .lit (.int k x)=>[.int k x]
  | .lit (.bool b)=>[.bool b]
  | .lit (.string s)=>[.str s]
  | .agg ps=>ps.flatMap (avD n)
  | _=>[]
def NoX:Nat->Prop:=fun _=>False
def RepL(w:World)(cs:List Value)(l:List AV):Prop:=l.length=cs.length/\∀ (i:Nat) (c:Value),cs[i]?=some c->Rep NoX w c (nth l i)/\c.oneCell'=true
theorem RepL.nil{w:World}:RepL w [] []:=⟨rfl,fun i c h=>by simp at h⟩
theorem RepL.one{w:World}{c:Value}{a:AV}(h:Rep NoX w c a)(h1:c.oneCell'=true):RepL w [c] [a]:=⟨rfl,fun i c' hc=>by
 match i,hc with
 | 0,hc=>cases hc;exact⟨h,h1⟩⟩
theorem RepL.append{w:World}{cs cs':List Value}{l l':List AV}(h:RepL w cs l)(h':RepL w cs' l'):RepL w (cs++cs') (l++l'):=by
 refine⟨by simp[h.1,h'.1],fun i c hc=>?_⟩
 by_cases hi:i < cs.length
 . rw[K3 hi]at hc
   have:=h.2 i c hc
   rw[show nth (l++l') i=nth l i by simp[nth,List.getD_eq_getElem?_getD,List.getElem?_append_left (show i < l.length by rw[h.1];exact hi)]]
   exact this
 rw[K4 (by omega)]at hc
 have:=h'.2 (i-cs.length) c hc
 rw[show nth (l++l') i=nth l' (i-cs.length) by simp[nth,List.getD_eq_getElem?_getD,List.getElem?_append_right (show l.length<=i by rw[h.1];omega),h.1]]
 exact this
theorem Jai:∀ {l:List (Nat × Nat × Nat)} {off tot:Nat},Vl l off tot=true->off<=tot
 | [],off,tot,h=>Nat.le_of_eq (Kc h)
 | (o,t,s)::l,off,tot,h=>by
  simp only[Vl,Kd]at h
  have:=Jai h.2
  omega
theorem Jbb:∀ {l:List (Nat × Nat × Nat)} {off tot:Nat},Vl l off tot=true->∀ f,f ∈ l->off<=f.1/\f.1+f.2.2<=tot
 | (o,t,s)::l,off,tot,h,f,hf=>by
  simp only[Vl,Kd]at h
  have e:=Kc h.1
  subst e
  rcases List.mem_cons.1 hf with rfl | hf
  . exact⟨Kr _,Jai h.2⟩
  have:=Jbb h.2 f hf
  omega
theorem Jdy{H:Type}{Q:Nat->List AV->Prop}{w:World}{cs:List Value}{sl:Bool}{g:DataW H->List AV}:∀ (L:List (Nat × Nat × Nat)) (ds:List (DataW H)) (off:Nat),
 (∀ (i:Nat) (s:Nat × Nat × Nat),L[i]?=some s->∃ d l,ds[i]?=some d/\Q s.2.1 l/\RepL w ((cs.drop s.1).take s.2.2) l/\(sl=true->l=g d))->ds.length=L.length →
 Vl L off cs.length=true->∃ l,(∀ s,s ∈ L->Q s.2.1 ((l.drop (s.1-off)).take s.2.2))/\RepL w (cs.drop off) l/\(sl=true->l=ds.flatMap g)
 | [],ds,off,_,hlen,hc=>by
  have e:=Kc hc
  refine⟨[],by simp,?_,fun _=>?_⟩
  . rw[List.drop_eq_nil_of_le (by omega)]
    exact RepL.nil
  match ds,hlen with
  | [],_=>rfl
 | (o,t,s)::L,ds,off,hL,hlen,hc=>by
  match ds,hlen,hL with
  | d::ds,hlen,hL =>
   have hc0:=hc
   simp only[Vl,Kd]at hc
   have e:=Kc hc.1
   subst e
   obtain⟨d',l1,hd',hq1,hr1,hg1⟩:=hL 0 _ rfl
   simp only[List.getElem?_cons_zero,Option.some.injEq]at hd'
   subst hd'
   have hle:=Jai hc.2
   have hlen1:l1.length=s:=by
    rw[hr1.1,Kg,Kh]
    show min s (cs.length-o)=s
    omega
   obtain⟨l2,hq2,hr2,hg2⟩:=Jdy L ds (o+s) (fun i x hx=>hL (i+1) x (by simpa using hx)) (by simpa using hlen) hc.2
   refine⟨l1++l2,fun x hx=>?_,?_,fun hs=>?_⟩
   . rcases List.mem_cons.1 hx with rfl | hx
     . rw[Nat.sub_self,List.drop_zero]
       show Q t ((l1++l2).take s)
       rw[<- hlen1,List.take_left']
       . exact hq1
       rfl
     have:=Jbb hc.2 x hx
     have h2:=hq2 x hx
     rw[List.drop_append,List.drop_eq_nil_of_le (show l1.length<=x.1-o by omega),List.nil_append,hlen1,show x.1-o-s=x.1-(o+s) by omega]
     exact h2
   . have e2:cs.drop o=(cs.drop o).take s++cs.drop (o+s):=by
      rw[<- List.drop_drop,List.take_append_drop]
     rw[e2]
     exact hr1.append hr2
   rw[hg1 hs,hg2 hs]
   rfl
theorem Vv{P:Program}{t:Nat}{i:TypeInfo}(h:P.info? t=some i):P.cellsOf t=i.size:=by simp[Program.cellsOf,h]
theorem JhY{α β:Type}{f:α->Option β}:∀ {l:List α} {r:List β},l.mapM f=some r->∀ (i:Nat) (y:β),r[i]?=some y->∃ x,l[i]?=some x/\f x=some y:=by
 intro l r h i y hy
 have hlen:=mapM_some_length h
 have hi:i < l.length:=by
  have:=(List.getElem?_eq_some_iff.1 hy).1
  omega
 refine⟨l[i],by simp[hi],?_⟩
 rw[mapM_some_get h i l[i] (by simp[hi]),hy]
theorem Jan{w:World}{base:Nat}{a:Addr}{n:Nat}{cs:List Value}(h:w.cells? base a n=some cs):cs.length=n/\∀ j,j < n->w.cell? (a.add j)=cs[j]?:=by
 unfold World.cells? at h
 split at h
 . refine⟨by simpa using mapM_some_length h,fun j hj=>?_⟩
   exact mapM_some_get h j j (by simp[hj])
 cases h
theorem Jhk{w:World}{a:Addr}{v:Value}(h:w.cell? a=some v):a.spot=none/\a.block < w.heap.size:=by
 unfold World.cell? at h
 split at h
 . rename_i c t f hb
   split at h
   . cases h
   rename_i hs
   exact⟨by simpa using hs,(Array.getElem?_eq_some_iff.1 hb).1⟩
 cases h
theorem Jak{Q:List AV->Nat->Prop}:∀ (n:Nat),(∀ i,i < n->∃ l,Q l i)->∃ rows:List (List AV),rows.length=n/\∀ i,i < n->Q (Ji rows i) i
 | 0,_=>⟨[],rfl,fun i h=>absurd h (K6 i)⟩
 | n+1,h=>by
  obtain⟨rows,h1,h2⟩:=Jak n (fun i hi=>h i (by omega))
  obtain⟨l,hl⟩:=h n (by omega)
  refine⟨rows++[l],by simp[h1],fun i hi=>?_⟩
  by_cases e:i < n
  . rw[show Ji (rows++[l]) i=Ji rows i by simp[Ji,List.getD_eq_getElem?_getD,List.getElem?_append_left (show i < rows.length by omega)]]
    exact h2 i e
  have e2:i=n:=by omega
  subst e2
  rw[show Ji (rows++[l]) i=l by simp[Ji,List.getD_eq_getElem?_getD,<- h1]]
  exact hl
theorem Ua{H:Type}{enc:TypeId × Value->H}{P:Program}{T:TT}(hT:TOK P T){w:World}{base:Nat}{sp:Nat->Bool}{held:Bool}:∀ (n t:Nat) (cs:List Value) (m:Nat) (x:DataW H × List MemPlace),
 JU T n t=true->DataW.trod enc P w base sp held m t cs=some x->∃ l,ASh T n t l/\RepL w cs l/\(WU T n t=true->l=avD n x.1)
 | 0,_,_,_,_,h,_=>by cases h
 | n+1,t,cs,m,x,h,hx=>by
  unfold JU at h
  unfold ASh WU
  cases hti:lk t T with
  | none=>rw[hti]at h;cases h
  | some ti =>
   rw[hti]at h
   simp only at h
   obtain⟨d,inf,z,kk⟩:=Jk (hT t ti hti)
   have hu:=kk.und
   have hkind:=kk.kind
   have hsz:P.cellsOf t=ti.size:=by rw[Vv kk.info,kk.size]
   cases hk:ti.k with
   | int k =>
    simp only[hk]
    have hd:=kk.intKind hk
    subst hd
    obtain⟨y,rfl,rfl,hw⟩:=DataW.trod_int hu hx
    exact⟨_,⟨y,rfl,hw⟩,.one (.int k y) rfl,fun _=>rfl⟩
   | bool =>
    simp only[hk]
    rw[hk]at hkind
    have hd:d=.bool:=by
     cases d <;> simp only[JQ,reduceCtorEq,false_and,and_false,exists_false]at hkind
     rfl
    subst hd
    obtain⟨y,rfl,rfl⟩:=DataW.trod_bool hu hx
    exact⟨_,⟨y,rfl⟩,.one (.bool y) rfl,fun _=>rfl⟩
   | str =>
    simp only[hk]
    have hd:=kk.strKind hk
    subst hd
    obtain⟨s,rfl,rfl,hl⟩:=DataW.trod_string hu hx
    exact⟨_,⟨s.data.toList,rfl,by simpa using hl⟩,.one (by
     have:=Rep.str (X:=NoX) (w:=w) s.data.toList
     rwa [show(⟨s.data.toList.toArray⟩:ByteArray)=s by simp]at this) rfl,fun _=>rfl⟩
   | slice e es eb =>
    simp only[hk]
    rw[hk]at h
    simp only[Kd,Ks]at h
    obtain⟨rfl,ei,hei,rfl,rfl⟩:=kk.sliceKind hk
    have hes:P.cellsOf e=ei.size:=Vv hei
    have hne:ei.size ≠ 0:=fun e0=>by rw[e0]at h;exact absurd h.1.2 (by decide)
    refine Exists.imp (fun l hl=>⟨hl.1,hl.2,fun hf=>by cases hf⟩) (?_:∃ l,(∃ rows,l=[AV.sl ei.size rows]/\rows.length<=maxLen/\∀ r,r ∈ rows->ASh T n e r)/\RepL w cs l)
    rcases DataW.trod_slice hu hx with⟨rfl,_⟩ | ⟨a,len,cap,elems,rest,m',_,rfl,_,hb,hl,hm,hlen,hel,_,_⟩
    . exact⟨_,⟨[],rfl,Nat.zero_le _,by simp⟩,.one (.slE none 0 ei.size) rfl⟩
    have hrow:∀ i,i < len->∃ l:List AV,ASh T n e l/\∃ cs':List Value,w.cells? base (a.add (i * ei.size)) ei.size=some cs'/\RepL w cs' l:=by
     intro i hi
     have h1:=hel i hi
     rw[hes,Kj (by omega)]at h1
     obtain⟨cs',hcs',h2⟩:=Option.bind_eq_some_iff.1 h1
     obtain⟨l,h3,h4,_⟩:=Ua hT n e cs' m' _ h.1.1 h2
     exact⟨l,h3,cs',hcs',h4⟩
    obtain⟨rows,hr1,hr2⟩:=Jak len hrow
    refine⟨_,⟨rows,rfl,by omega,fun r hr=>?_⟩,?_⟩
    . obtain⟨i,hi,rfl⟩:=List.getElem_of_mem hr
      have:=(hr2 i (by omega)).1
      rwa [show Ji rows i=rows[i] by simp[Ji,List.getD_eq_getElem?_getD,hi]]at this
    rcases Nat.eq_zero_or_pos len with h0 | h0
    . subst h0
      have:rows=[]:=List.eq_nil_of_length_eq_zero hr1
      subst this
      exact .one (.slE (some a) cap ei.size) rfl
    obtain⟨_,cs0,hcs0,_⟩:=hr2 0 h0
    obtain⟨hl0,hc0⟩:=Jan hcs0
    have hcell0:w.cell? ((a.add (0 * ei.size)).add 0)=some cs0[0]:=by rw[hc0 0 (by omega)];simp
    obtain⟨hs,hbk⟩:=Jhk hcell0
    obtain⟨b,o,spot⟩:=a
    have hs':spot=none:=by simpa[Addr.add]using hs
    subst hs'
    have key:∀ i,i < rows.length->∀ j,j < ei.size->∃ v,w.cell? ⟨b,o+i * ei.size+j,none⟩=some v/\Rep NoX w v (nth (Ji rows i) j)/\v.oneCell'=true:=fun i hi j hj=>by
     obtain⟨_,cs',hcs',hrl⟩:=hr2 i (by omega)
     obtain⟨hl',hc'⟩:=Jan hcs'
     have:=hc' j hj
     rw[Kj (by omega)]at this
     refine⟨_,?_,hrl.2 j _ (Kj (by omega))⟩
     rw[Qh,Qh]at this
     exact this
    have hrep:Rep NoX w (.slice (some ⟨b,o,none⟩) rows.length cap) (.sl ei.size rows):=by
     refine .sl b o cap ei.size rows (fun i j=>(w.cell? ⟨b,o+i * ei.size+j,none⟩).getD undef) (by simpa[Addr.add]using hbk) (fun h=>h) (by omega) (by omega) (fun i hi=>?_) (fun i hi j hj=>?_) (fun i hi j hj=>?_) (fun i hi j hj=>?_)
     . obtain⟨_,cs',hcs',hrl⟩:=hr2 i (by omega)
       rw[hrl.1,(Jan hcs').1]
     . obtain⟨v,h1,_,_⟩:=key i hi j hj
       rw[h1];rfl
     . obtain⟨v,h1,h2,_⟩:=key i hi j hj
       simp only[h1,Option.getD_some];exact h2
     obtain⟨v,h1,_,h3⟩:=key i hi j hj
     simp only[h1,Option.getD_some];exact h3
    rw[hr1]at hrep
    exact .one hrep rfl
   | arr k e es =>
    simp only[hk]
    rw[hk]at h
    simp only[Kd]at h
    obtain⟨rfl,_,ei,hei,rfl⟩:=kk.arrKind hk
    have hes:P.cellsOf e=ei.size:=Vv hei
    obtain⟨xs,m',_,rfl,hl,hxl,hel⟩:=DataW.trod_array hu hx
    have:=Jdy (Q:=ASh T n) (w:=w) (cs:=cs) (sl:=WU T n e) (g:=avD n) ((List.range k).map fun i=>(i * ei.size,e,ei.size)) (xs.map (·.1)) 0 (fun i s hs=>by
     rw[Kk]at hs
     obtain⟨i',hi',rfl⟩:=Option.map_eq_some_iff.1 hs
     have hik:i < k:=by
      have:=(List.getElem?_eq_some_iff.1 hi').1
      simpa using this
     have e1:i'=i:=by simp[hik]at hi';exact hi'.symm
     subst e1
     have h1:=hel i' hik
     rw[hes,Kj (by omega)]at h1
     obtain⟨l,h3,h4,h5⟩:=Ua hT n e _ m' _ h.1 h1
     exact⟨xs[i'].1,l,by simp[List.getElem?_eq_getElem (show i' < xs.length by omega)],h3,h4,h5⟩) (by simp[hxl]) (by rw[hl,hsz];exact h.2)
    obtain⟨l,h1,h2,h3⟩:=this
    refine⟨l,⟨by rw[h2.1];simpa[hsz]using hl,fun i hi=>?_⟩,by simpa using h2,fun hf=>?_⟩
    . have:=h1 (i * ei.size,e,ei.size) (List.mem_map.2 ⟨i,by simpa using hi,rfl⟩)
      simpa using this
    rw[h3 hf]
    simp[avD]
   | struct fs =>
    simp only[hk]
    rw[hk]at h hkind
    simp only[Kd]at h
    cases d <;> simp only[JQ,reduceCtorEq,false_and,and_false,exists_false]at hkind
    case struct fields =>
     obtain⟨_,_,l0,hl0,hfs⟩:=hkind
     simp only[TK.struct.injEq]at hfs
     subst hfs
     obtain⟨xs,m',_,rfl,hl,hxl,hel⟩:=DataW.trod_struct hu hx
     have hfl:fs.length=fields.size:=by simpa using mapM_some_length hl0
     have:=Jdy (Q:=ASh T n) (w:=w) (cs:=cs) (sl:=fs.all (fun f=>WU T n f.2.1)) (g:=avD n) fs (xs.map (·.1)) 0 (fun i s hs=>by
      obtain⟨f,hf,hfi⟩:=JhY hl0 i s hs
      obtain⟨fi,hfi',rfl⟩:=Option.map_eq_some_iff.1 hfi
      have hi:i < fs.length:=(List.getElem?_eq_some_iff.1 hs).1
      have h1:=hel i f (by simpa using hf)
      rw[Vv hfi',Kj (by omega)]at h1
      have hpl:=List.all_eq_true.1 h.1 _ (List.mem_of_getElem? hs)
      obtain⟨l,h3,h4,h5⟩:=Ua hT n f.type _ m' _ hpl h1
      exact⟨xs[i].1,l,by simp[List.getElem?_eq_getElem (show i < xs.length by omega)],h3,h4,fun hsl=>h5 (List.all_eq_true.1 hsl _ (List.mem_of_getElem? hs))⟩) (by simp[hxl,hfl]) (by rw[hl,hsz];exact h.2)
     obtain⟨l,h1,h2,h3⟩:=this
     refine⟨l,⟨by rw[h2.1];simpa[hsz]using hl,fun f hf=>?_⟩,by simpa using h2,fun hf=>?_⟩
     . simpa using h1 f hf
     rw[h3 hf]
     simp[avD]
   | map _ _=>rw[hk]at h;cases h
   | other=>rw[hk]at h;cases h
def JlE(T:TT)(n t:Nat)(a:AV):Prop:=match lk t T with
 | some ti=>if ti.agg then ∃ l,a=.agg l/\ASh T n t l else ASh T n t [a]
 | none=>False
def AShs(T:TT)(n:Nat):List Nat->List AV->Prop
 | [],[]=>True
 | t::ts,a::l=>JlE T n t a/\AShs T n ts l
 | _,_=>False
theorem JmW{l:List Value}:l=(List.range l.length).map fun i=>l.getD i undef:=by
 refine List.ext_getElem (by simp) fun i h1 h2=>?_
 simp[List.getD_eq_getElem?_getD,h1]
theorem Jov{H:Type}{enc:TypeId × Value->H}{P:Program}{T:TT}(hT:TOK P T){W:World}{r:Reach}{base base':Nat}{sp:Nat->Bool}{held:Bool}{n t:Nat}{v:Value}{d:DataW H}{ps:List MemPlace}
 (hp:JU T n t=true)(hok:Value.okWide P W r base t v)(h:DataW.Trod enc P W base' sp held t v d ps):∃ a,JlE T n t a/\Rep NoX W v a:=by
 obtain⟨m,hm⟩:=h
 obtain⟨l,h1,h2,_⟩:=Ua hT n t _ m _ hp hm
 unfold JlE
 have hp':=hp
 cases n with
 | zero=>cases hp
 | succ n =>
  unfold JU at hp
  cases hti:lk t T with
  | none=>rw[hti]at hp;cases hp
  | some ti =>
   rw[hti]at hp
   simp only at hp
   obtain⟨de,inf,z,kk⟩:=Jk (hT t ti hti)
   have hu:=kk.und
   have hkind:=kk.kind
   have agg:∀ cs,v=.agg cs->∃ a,(∃ l,a=AV.agg l/\ASh T (n+1) t l)/\Rep NoX W v a:=by
    intro cs hv
    subst hv
    simp only[Value.cells]at h2
    refine⟨.agg l,⟨l,rfl,h1⟩,?_⟩
    have key:=Rep.agg (X:=NoX) (w:=W) (fun i=>cs.toList.getD i undef) l (fun i hi=>?_) (fun i hi=>?_)
    . have e:((List.range l.length).map fun i=>cs.toList.getD i undef).toArray=cs:=by
       rw[h2.1]
       rw[<- JmW]
      rw[e]at key
      exact key
    . have hi':i < cs.toList.length:=by rw[<- h2.1];exact hi
      have:=(h2.2 i cs.toList[i] (by simp)).1
      rwa [show cs.toList.getD i undef=cs.toList[i] by simp only[Ka,Kj hi',Option.getD_some]]
    have hi':i < cs.toList.length:=by rw[<- h2.1];exact hi
    have:=(h2.2 i cs.toList[i] (by simp)).2
    rwa [show cs.toList.getD i undef=cs.toList[i] by simp only[Ka,Kj hi',Option.getD_some]]
   have one:ti.agg=false->v.cells=#[v]->∃ a,(if ti.agg then ∃ l,a=AV.agg l/\ASh T (n+1) t l else ASh T (n+1) t [a])/\Rep NoX W v a:=by
    intro ha hv
    rw[hv]at h2
    have:l.length=1:=by simpa using h2.1
    match l,this with
    | [a],_ =>
     refine⟨a,by rw[ha];simpa using h1,?_⟩
     exact(h2.2 0 v rfl).1
   cases hk:ti.k with
   | int k =>
    have hd:=kk.intKind hk
    subst hd
    obtain⟨x,rfl⟩:=okWide_int hu hok
    exact one hkind.2 rfl
   | bool =>
    rw[hk]at hkind
    have hd:de=.bool:=by
     cases de <;> simp only[JQ,reduceCtorEq,false_and,and_false,exists_false]at hkind
     rfl
    subst hd
    obtain⟨x,rfl⟩:=okWide_bool hu hok
    exact one hkind.2 rfl
   | str =>
    have hd:=kk.strKind hk
    subst hd
    obtain⟨x,rfl⟩:=okWide_string hu hok
    exact one hkind.2 rfl
   | slice e es eb =>
    obtain⟨rfl,ei,hei,rfl,rfl⟩:=kk.sliceKind hk
    obtain⟨a,len,cap,rfl⟩:=okWide_slice hu hok
    exact one hkind.1 rfl
   | arr k e es =>
    obtain⟨rfl,hagg,_⟩:=kk.arrKind hk
    have:∃ cs,v=.agg cs:=by
     unfold Value.okWide at hok
     rw[hu]at hok
     obtain⟨cs,h,_⟩:=hok
     exact⟨cs,h⟩
    obtain⟨cs,hv⟩:=this
    simp only[hagg,if_true]
    exact agg cs hv
   | struct fs =>
    rw[hk]at hkind
    cases de <;> simp only[JQ,reduceCtorEq,false_and,and_false,exists_false]at hkind
    case struct fields =>
     have:∃ cs,v=.agg cs:=by
      unfold Value.okWide at hok
      rw[hu]at hok
      obtain⟨cs,h,_⟩:=hok
      exact⟨cs,h⟩
     obtain⟨cs,hv⟩:=this
     simp only[hkind.1,if_true]
     exact agg cs hv
   | map _ _=>rw[hk]at hp;cases hp
   | other=>rw[hk]at hp;cases hp
theorem Jfs{H:Type}{enc:TypeId × Value->H}{P:Program}{T:TT}(hT:TOK P T){W:World}{r:Reach}{base base':Nat}{sp:Nat->Bool}{held:Bool}{n:Nat}:∀ {ts:List Nat} {vs:List Value} {ds:List (DataW H)} {ps:List MemPlace},
 ts.all (JU T n)=true->(∀ (j:Nat) t v,ts[j]?=some t->vs[j]?=some v->Value.okWide P W r base t v)->DataW.TrodAll enc P W base' sp held ts vs ds ps->∃ l,AShs T n ts l/\Z (Rep NoX W) vs l
 | [],vs,ds,ps,_,_,h=>by
  obtain⟨rfl,rfl,rfl⟩:=trodAll_nil h
  exact⟨[],trivial,rfl,fun i v a hv=>by simp at hv⟩
 | t::ts,vs,ds,ps,hp,hok,h=>by
  obtain⟨v,vs',d,ds',p,q,rfl,rfl,rfl,hd,hrest⟩:=trodAll_cons h
  simp only[List.all_cons,Kd]at hp
  obtain⟨a,h1,h2⟩:=Jov hT hp.1 (hok 0 t v rfl rfl) hd
  obtain⟨l,h3,h4⟩:=Jfs hT hp.2 (fun j t' v' ht hv=>hok (j+1) t' v' (by simpa using ht) (by simpa using hv)) hrest
  refine⟨a::l,⟨h1,h3⟩,by simp[h4.1],fun i v' a' hv ha=>?_⟩
  match i,hv,ha with
  | 0,hv,ha=>cases hv;cases ha;exact h2
  | i+1,hv,ha=>exact h4.2 i v' a' (by simpa using hv) (by simpa using ha)
theorem JcL{P:Program}{T:TT}(hT:TOK P T){w:World}{n:Nat}{name:String}{d:DataW Unit}{g t:Nat}{cells:List AV}(hg:P.globalNamed name=some g)(ht:(P.globals[g]?).map (·.type)=some t)(hp:JU T n t=true)(hf:WU T n t=true)(hd:avD n d=cells)(hne:cells ≠ []) :
 ∀ {laid:List (String × DataW Unit)} {ps:List MemPlace},(name,d) ∈ laid->DataW.LaidVars P w laid ps->GlobOK NoX w g cells
 | (n',d')::laid,ps,hm,h=>by
  obtain⟨g',t',cs,fuel,p,q,hg',ht',hv,htr,hrest,_⟩:=h
  by_cases e:(name,d)=(n',d')
  . cases e
    obtain rfl:=Option.some.inj (hg.symm.trans hg')
    obtain rfl:=Option.some.inj (ht.symm.trans ht')
    obtain⟨l,_,h2,h3⟩:=Ua hT n t _ fuel _ hp htr
    have e1:l=cells:=(h3 hf).trans hd
    subst e1
    have hlen:cs.size=l.length:=by rw[h2.1];simp
    unfold World.var? at hv
    rw[hg]at hv
    simp only[Option.bind_some]at hv
    split at hv
    . rename_i cs' ty fr hb
      cases hv
      have hbs:g < w.heap.size:=(Array.getElem?_eq_some_iff.1 hb).1
      have hcell:∀ j,j < l.length->w.cell? ⟨g,j,none⟩=some (cs.getD j undef):=fun j hj=>by
       unfold World.cell?
       rw[hb]
       simp[Array.getD,show j < cs.size by omega]
      refine⟨?_,cs,ty,fr,hb,hlen⟩
      have key:=Rep.elt (X:=NoX) (w:=w) g 0 l.length [l] 0 0 (fun i j=>cs.getD j undef) hbs (fun h=>h) (by simp) (fun i hi=>?_) (fun i hi j hj=>?_) (fun i hi j hj=>?_) (fun i hi j hj=>?_)
      . simpa using key
      . have:i=0:=by simp at hi;exact hi
        subst this
        rfl
      . have:i=0:=by simp at hi;exact hi
        subst this
        simpa using hcell j hj
      . have:i=0:=by simp at hi;exact hi
        subst this
        have:=(h2.2 j (cs.getD j undef) (by simp[Array.getD,show j < cs.size by omega])).1
        simpa[Ji]using this
      exact(h2.2 j (cs.getD j undef) (by simp[Array.getD,show j < cs.size by omega])).2
    cases hv
  rcases List.mem_cons.1 hm with e2 | hm
  . exact absurd e2 e
  exact JcL hT hg ht hp hf hd hne hm hrest
theorem Jkq{H:Type}{enc:TypeId × Value->H}{P:Program}{T:TT}{G:List (Nat × List AV)}(hT:TOK P T){f:Nat}{fn:Func}{s:ChangeSpec}{n tb:Nat}(hlaid:laidOutB P=true)(hvars:s.vars=[])
 (hres:fn.resultTypes=#[tb])(htb:P.underlying tb=some .bool)(htys:fn.params.toList.all (fun t=>JU T n t && P.readableRec t && decide (t < P.types.size))=true)
 (hfn:∀ ds:List (DataW H),ds.length=fn.params.toList.length->s.fn H ds={ results:=[.lit (.bool true)],args:=ds })
 (main:∀ l,AShs T n fn.params.toList l->PCall P G f l (.bool true))
 {W:World}{base:Nat}{args:Array Value}{ds gs:List (DataW H)}{before:List MemPlace}
 (hval:∀ (j:Nat) t v,fn.params[j]?=some t->args[j]?=some v->Value.okWide P W .any base t v)
 (hW:DataW.Whole enc P fn.params.toList s.vars false W args.toList ds gs before)
 (hG:∀ g cells,lk g G=some cells->GlobOK NoX W g cells) :
 Calls P f args W fun e W'=>∃ v,e=.returned v/\s.post enc P fn false true false false W args v W':=by
 have hW':=hW
 obtain⟨p,q,hA,hV,rfl,_,_⟩:=hW
 rw[hvars]at hV
 obtain⟨rfl,rfl⟩:=trodVars_none hV
 have hpl:fn.params.toList.all (JU T n)=true:=List.all_eq_true.2 fun t ht=>by
  have:=List.all_eq_true.1 htys t ht
  simp only[Kd]at this
  exact this.1.1
 obtain⟨l,h1,h2⟩:=Jfs hT hpl (fun j t v ht hv=>hval j t v (by simpa using ht) (by simpa using hv)) hA
 have hds:ds.length=fn.params.toList.length:=by
  have:∀ {ts:List Nat} {vs:List Value} {ds:List (DataW H)} {ps:List MemPlace},DataW.TrodAll enc P W 0 (fun _=>true) true ts vs ds ps->ds.length=ts.length:=by
   intro ts
   induction ts with
   | nil=>intro vs ds ps h;obtain⟨_,rfl,_⟩:=trodAll_nil h;rfl
   | cons t ts ih =>
    intro vs ds ps h
    obtain⟨v,vs',d,ds',p,q,rfl,rfl,rfl,hd,hrest⟩:=trodAll_cons h
    simp[ih hrest]
  exact this hA
 refine((main l h1).run W NoX args (fun b h=>h.elim) hG h2).mono fun e W' ⟨v,he,hb,hr⟩=>⟨v,he,?_⟩
 have hv:v=.bool true:=by
  have:Rep NoX W' v (.bool true):=hr
  cases this
  rfl
 subst hv
 have hlt:∀ x ∈ p,x.block < W.heap.size:=fun x hx=>by simpa using hW'.lt x (by simp[hx])
 have hargs:∀ {ts:List Nat} {vs:List Value} {ds:List (DataW H)} {ps:List MemPlace},ts.all (fun t=>JU T n t && P.readableRec t && decide (t < P.types.size))=true->(∀ x ∈ ps,x.block < W.heap.size) →
  DataW.TrodAll enc P W 0 (fun _=>true) true ts vs ds ps->DataW.TrodAll enc P W' 0 (fun b=>decide (b < W.heap.size)) true ts vs ds ps:=by
  intro ts
  induction ts with
  | nil =>
   intro vs ds ps _ _ h
   obtain⟨rfl,rfl,rfl⟩:=trodAll_nil h
   rfl
  | cons t ts ih =>
   intro vs ds ps hall hps h
   obtain⟨v,vs',d,ds',p,q,rfl,rfl,rfl,hd,hrest⟩:=trodAll_cons h
   simp only[List.all_cons,Kd,Ko]at hall
   refine⟨p,q,?_,ih (by simpa only[Kd,Ko]using hall.2) (fun x hx=>hps x (by simp[hx])) hrest,rfl⟩
   exact Below.trod hlaid hall.1.1.2 hall.1.2 hd hb (fun x hx=>hps x (by simp[hx]))
 have hs:=hfn ds hds
 have hs':s.fn H (ds++[])={ results:=[.lit (.bool true)],args:=ds }:=by rw[List.append_nil];exact hs
 refine⟨ds,[],p++[],[],p,[],hW',?_,?_,?_,?_,fun h=>by cases h⟩
 . rw[hs',hres]
   exact trodAll_mk1 (shut_bool htb true)
 . rw[hs']
   exact hargs htys hlt hA
 . rw[hs',hvars]
   rfl
 . exact hb.frame _
end Go.Av
namespace Go.Av
open Go Go.RowKit
inductive SC where
 | int(k:IntKind)
 | bool
 | str
 | sl(n e es:Nat)
def QH(T:TT):Nat->Nat->List SC
 | 0,_=>[]
 | n+1,t=>match lk t T with
  | some ti=>match ti.k with
   | .int k=>[.int k]
   | .bool=>[.bool]
   | .str=>[.str]
   | .slice e es _=>[.sl n e es]
   | .arr m e _=>(List.range m).flatMap fun _=>QH T n e
   | .struct fs=>fs.flatMap fun f=>QH T n f.2.1
   | _=>[]
  | none=>[]
def SC.ok(T:TT):SC->AV->Prop
 | .int k,a=>∃ x,a=.int k x/\(Lit.int k x).wf=true
 | .bool,a=>∃ b,a=.bool b
 | .str,a=>∃ s,a=.str s/\s.length<=maxLen
 | .sl n e es,a=>∃ rows,a=.sl es rows/\rows.length<=maxLen/\∀ r,r ∈ rows->ASh T n e r
def ShL(T:TT):List SC->List AV->Prop
 | [],l=>l=[]
 | c::cs,l=>∃ a m,l=a::m/\c.ok T a/\ShL T cs m
theorem ShL.append{T:TT}:∀ {cs cs':List SC} {l l':List AV},ShL T cs l->ShL T cs' l'->ShL T (cs++cs') (l++l')
 | [],_,_,_,h,h'=>by
  have:_=[]:=h
  subst this
  exact h'
 | c::cs,cs',l,l',h,h'=>by
  obtain⟨a,m,rfl,h1,h2⟩:=h
  exact⟨a,m++l',rfl,h1,ShL.append h2 h'⟩
theorem UK{T:TT}{n:Nat}{l:List AV}(ih:∀ t m,JU T n t=true->ASh T n t m->ShL T (QH T n t) m):∀ (fs:List (Nat × Nat × Nat)) (off:Nat),Vl fs off l.length=true->(∀ f,f ∈ fs->JU T n f.2.1=true) →
 (∀ f,f ∈ fs->ASh T n f.2.1 ((l.drop f.1).take f.2.2))->ShL T (fs.flatMap fun f=>QH T n f.2.1) (l.drop off)
 | [],off,hc,_,_=>by
  have e:=Kc hc
  exact List.drop_eq_nil_of_le (by omega)
 | (o,t,s)::fs,off,hc,hp,h=>by
  simp only[Vl,Kd]at hc
  have e:=Kc hc.1
  subst e
  have e2:l.drop o=(l.drop o).take s++l.drop (o+s):=by
   rw[<- List.drop_drop,List.take_append_drop]
  rw[e2,List.flatMap_cons]
  exact(ih t _ (hp (o,t,s) (by simp)) (h (o,t,s) (by simp))).append (UK ih fs (o+s) hc.2 (fun f hf=>hp f (by simp[hf])) (fun f hf=>h f (by simp[hf])))
theorem QL{T:TT}:∀ (n t:Nat) (l:List AV),JU T n t=true->ASh T n t l->ShL T (QH T n t) l
 | 0,_,_,h,_=>by cases h
 | n+1,t,l,h,hl=>by
  unfold JU at h
  unfold ASh at hl
  unfold QH
  cases hti:lk t T with
  | none=>rw[hti]at h;cases h
  | some ti =>
   rw[hti]at h hl
   simp only at h hl ⊢
   cases hk:ti.k with
   | int k =>
    rw[hk]at hl
    obtain⟨x,rfl,hw⟩:=hl
    exact⟨_,_,rfl,⟨x,rfl,hw⟩,rfl⟩
   | bool =>
    rw[hk]at hl
    obtain⟨x,rfl⟩:=hl
    exact⟨_,_,rfl,⟨x,rfl⟩,rfl⟩
   | str =>
    rw[hk]at hl
    obtain⟨x,rfl,hw⟩:=hl
    exact⟨_,_,rfl,⟨x,rfl,hw⟩,rfl⟩
   | slice e es eb =>
    rw[hk]at hl
    obtain⟨rows,rfl,h1,h2⟩:=hl
    exact⟨_,_,rfl,⟨rows,rfl,h1,h2⟩,rfl⟩
   | arr m e es =>
    rw[hk]at hl h
    simp only[Kd]at h hl
    have:=UK (T:=T) (n:=n) (l:=l) (fun t m=>QL n t m) ((List.range m).map fun i=>(i * es,e,es)) 0 (by rw[hl.1];exact h.2) (fun f hf=>by
     obtain⟨i,_,rfl⟩:=List.mem_map.1 hf
     exact h.1) (fun f hf=>by
     obtain⟨i,hi,rfl⟩:=List.mem_map.1 hf
     exact hl.2 i (by simpa using hi))
    rw[List.flatMap_map]at this
    simpa using this
   | struct fs =>
    rw[hk]at hl h
    simp only[Kd]at h hl
    have:=UK (T:=T) (n:=n) (l:=l) (fun t m=>QL n t m) fs 0 (by rw[hl.1];exact h.2) (fun f hf=>List.all_eq_true.1 h.1 f hf) hl.2
    simpa using this
   | map _ _=>rw[hk]at h;cases h
   | other=>rw[hk]at h;cases h
theorem Jfq{T:TT}{n t:Nat}{a:AV}{ti:TI}(hti:lk t T=some ti)(hagg:ti.agg=true)(hp:JU T n t=true){cs:List SC}(hs:QH T n t=cs)(h:JlE T n t a):∃ l,a=.agg l/\ShL T cs l:=by
 unfold JlE at h
 rw[hti]at h
 simp only[hagg,if_true]at h
 obtain⟨l,rfl,h⟩:=h
 have:=QL n t _ hp h
 rw[hs]at this
 exact⟨l,rfl,this⟩
theorem Xh{α:Type}{enc:α->List AV}{Q:α->Prop}:∀ {rows:List (List AV)},(∀ r,r ∈ rows->∃ x,r=enc x/\Q x)->∃ l:List α,rows=l.map enc/\∀ x,x ∈ l->Q x
 | [],_=>⟨[],rfl,by simp⟩
 | r::rows,h=>by
  obtain⟨x,rfl,hx⟩:=h r (by simp)
  obtain⟨l,rfl,hl⟩:=Xh (rows:=rows) (fun r hr=>h r (by simp[hr]))
  exact⟨x::l,rfl,fun y hy=>by
   rcases List.mem_cons.1 hy with rfl | hy
   . exact hx
   . exact hl y hy⟩
def JaW(E:SE)(B:BA)(Q:Exit->AS->Prop):List Code->List (Option (List GS × AS × Prop))->AS->Prop
 | [],_,S=>Q .normal S
 | c::cs,ms,S=>match ms with
  | some (g,M,p)::ms=>VC E B 10000 0 c S (UH (fun S'=>Jbi E.A g M S'/\p) Q)/\(p->JaW E B Q cs ms M)
  | none::ms=>VC E B 10000 0 c S (UH (fun S'=>JaW E B Q cs ms S') Q)
  | []=>VC E B 10000 0 c S (UH (fun S'=>JaW E B Q cs [] S') Q)
theorem Ue{E:SE}(hE:E.OK){B:BA}{Q:Exit->AS->Prop}:∀ {cs:List Code} {ms:List (Option (List GS × AS × Prop))} {S:AS},JaW E B Q cs ms S->Jqq E Q cs S
 | [],_,_,h=>h
 | c::cs,some (g,M,p)::ms,S,h=>by
  refine Imp.post (JaL _ hE _ _ _ _ h.1) fun e S' hq=>?_
  cases e with
  | normal =>
   have hq:Jbi E.A g M S'/\p:=hq
   obtain⟨hq,hp⟩:=hq
   unfold Jbi at hq
   split at hq
   . rename_i S2 h2
     subst hq
     exact⟨_,Qg E h2,Ue hE (h.2 hp)⟩
   exact hq.elim
  | _=>exact⟨S',Imp.refl E S',hq⟩
 | c::cs,none::ms,S,h=>by
  refine(JaL _ hE _ _ _ _ h).mono fun e S' hq=>?_
  cases e with
  | normal=>exact Ue hE (ms:=ms) hq
  | _=>exact hq
 | c::cs,[],S,h=>by
  refine(JaL _ hE _ _ _ _ h).mono fun e S' hq=>?_
  cases e with
  | normal=>exact Ue hE (ms:=[]) hq
  | _=>exact hq
theorem JaH{P:Program}{T:TT}{G:List (Nat × List AV)}{f:Nat}{fn:Func}{body:Code}{args:List AV}{r:AV}(hT:TOK P T)(hm:P.follows .mixedOrders=true)(hf:P.funcs[f]?=some fn)(hb:fn.body=some body)
 (hn : (fn.name == "runtime.NumGoroutine") = false) (hlen : args.length ≤ fn.ntmps) (B : BA) (ms : List (Option (List GS × AS × Prop)))
 (h:JaW (QD P T G fn.ntmps []) B (JlN T fn fun v=>v=r) (Vg body) ms (JaP args)):PCall P G f args r:=by
 have hE:(QD P T G fn.ntmps []).OK:=⟨hT,hm⟩
 refine Wd hE hf hb hn hlen ((JmV (Ue hE h)).mono fun e S' hq=>?_)
 cases e with
 | normal =>
  simp only[JlN]at hq
  split at hq
  · exact hq.elim
  rename_i h1
  split at hq
  · rename_i hr;subst hq;exact⟨.inl rfl,h1,hr⟩
  exact hq.elim
 | ret =>
  simp only[JlN]at hq
  split at hq
  · exact hq.elim
  rename_i h1
  split at hq
  · rename_i hr;subst hq;exact⟨.inr rfl,h1,hr⟩
  exact hq.elim
 | _=>exact hq.elim
end Go.Av
