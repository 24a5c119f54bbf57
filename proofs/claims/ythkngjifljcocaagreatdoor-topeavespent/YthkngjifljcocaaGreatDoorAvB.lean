/-
  The other operations. Addresses of elements, slices, strings, builtins, calls. Slices of slices, builtins, calls. Calls that are handed blocks of the caller's own. The builtins len, min, max, copy. No condition but the theorems' own.
-/
import Derived.Test.YthkngjifljcocaaGreatDoorAvA
import Derived.Lib.Strings
import Derived.MapKept
import Derived.Laws.RangeString
namespace Go.Av
open Go Go.RowKit
section
variable {K : Ctx} {ρ : Pl} {slot : Nat → Option AV} {B : Nat → ABlk} {a : Act} {w : World}
theorem JhT(h:RelW K ρ slot B a w){o:Oper}{x:Operand}(ho:o.op=.move x ∨ o.op=.assign x){av:AV}(hx:SRep ρ B (XX K.X0 ρ B) w (a.eval x) av):Does K.P o a w (Post K slot B a [] av):=by
 refine Does.pureV h ?_ hx
 unfold execOp
 rcases ho with ho | ho <;> rw[ho] <;> rfl
theorem JbD(h:RelW K ρ slot B a w){nid:Nat}(hf:Fresh slot B nid)(e k:Nat):Post K slot B a [(nid,.buf e k [])] (.own nid 0) (.slice none 0 0) w:=by
 have hr:=h.replace nid nid (.buf e k []) none (Keeps.refl _ _ _) hf.dead hf.zero (fun h=>h) (fun n h=>by cases h) (fun cells e=>hf.dead (by rw[e];trivial)) hf.slots hf.blks (fun _ _ _=>rfl) (fun b hp=>by cases hp) (fun _ _ _=>by
  unfold BlkOK
  rw[Jb]
  exact⟨fun i hi=>by simp at hi,by simp,.inl ⟨Jb _ _ _,rfl⟩⟩)
 rw[Xq]at hr
 refine⟨_,hr.1,rfl,fun e' k' rows' hB=>?_⟩
 simp only[wrB,Jb]at hB
 cases hB
 exact⟨rfl,.inl ⟨Jb _ _ _,rfl⟩⟩
theorem Jb6(h:RelW K ρ slot B a w){nid:Nat}(hf:Fresh slot B nid){o:Oper}{x:Operand}(ho:o.op=.assign x)(hx:a.eval x=.slice none 0 0)(e k:Nat) :
 Does K.P o a w (Post K slot B a [(nid,.buf e k [])] (.own nid 0)):=by
 refine Does.of_run (v:=.slice none 0 0) (w':=w) ?_ (JbD h hf e k)
 unfold execOp
 rw[ho]
 simp[hx]
theorem JdO(h:RelW K ρ slot B a w){o:Oper}{c x y:Operand}(ho:o.op=.pick c x y){b p q:Bool}(hc:a.eval c=.bool b)(hx:b=true->a.eval x=.bool p)(hy:b=false->a.eval y=.bool q) :
 Does K.P o a w (Post K slot B a [] (.bool (if b then p else q))):=by
 refine Does.pureV h (v:=.bool (if b then p else q)) ?_ (SRep.mk_bool _)
 unfold execOp
 rw[ho]
 cases b with
 | true=>simp[hc,asBool,hx rfl]
 | false=>simp[hc,asBool,hy rfl]
theorem JnE(h:RelW K ρ slot B a w){o:Oper}{c x y:Operand}(ho:o.op=.pick c x y){l k:Nat}{n:Bool}(hc:a.eval c=.bool true)(hx:SRep ρ B (XX K.X0 ρ B) w (a.eval x) (.yb l k n)) :
 Does K.P o a w (Post K slot B a [] (.yb l k n)):=by
 obtain⟨bv,hv,hy⟩:=hx
 refine Does.pureV h (v:=.bool bv) ?_ ⟨bv,rfl,hy⟩
 unfold execOp
 rw[ho]
 simp[hc,asBool,hv]
theorem XE{X:Nat->Prop}:∀ {xs:List Operand} {ins:List AV},Xe ρ B X w a xs ins->Z (SRep ρ B X w) (xs.map a.eval) ins
 | [],[],_=>Z.nil
 | _::_,_::_,h=>Z.cons h.1 (XE h.2)
 | [],_::_,h=>h.elim
 | _::_,[],h=>h.elim
theorem Jc1{X:Nat->Prop}{v:Value}{x:AV}(hc:Jc2 x=true)(h:SRep ρ B X w v x):SRep0 ρ B X w v x:=by
 cases x with
 | gv g b=>simp[Jc2]at hc
 | ax l=>simp[Jc2]at hc
 | fn f p q=>exact SRep1.rep (by simpa[Jc2]using hc) (show SRep1 ρ B X w v (.fn f p q)from h)
 | _=>exact h
theorem Jfr(arr:Array Value)(n:Nat)(h:arr.size=n):∃ f:Nat->Value,arr=((List.range n).map f).toArray/\∀ i,i < n->arr[i]?=some (f i):=by
 refine⟨fun i=>arr.getD i undef,(Xs arr n h).symm,fun i hi=>?_⟩
 have:i < arr.size:=by omega
 simp[Array.getD,this]
theorem JdY(h:RelW K ρ slot B a w){o:Oper}{f:Fn}{first cap:Array Operand}(ho:o.op=.makeFunc f first cap){ins:List AV}(hi:Xe ρ B (XX K.X0 ρ B) w a (first.toList++cap.toList) ins)
 (h1:(ins.take first.size).length=first.size)(h2:(ins.drop first.size).length=cap.size)(hp:(ins.take first.size).all Jc2=true)(hq:(ins.drop first.size).all Jc2=true) :
 Does K.P o a w (Post K slot B a [] (.fn f (ins.take first.size) (ins.drop first.size))):=by
 have hz:=XE hi
 rw[K8]at hz
 have hz1:=hz.take first.size
 have hz2:=hz.drop first.size
 rw[List.take_left' (by simp)]at hz1
 rw[List.drop_left' (by simp)]at hz2
 obtain⟨ff,e1,g1⟩:=Jfr (first.map a.eval) (ins.take first.size).length (by rw[h1];simp)
 obtain⟨cf,e2,g2⟩:=Jfr (cap.map a.eval) (ins.drop first.size).length (by rw[h2];simp)
 refine Does.pureV h (v:=.func f (first.map a.eval) (cap.map a.eval)) ?_ ?_
 . unfold execOp
   rw[ho]
   rfl
 . rw[e1,e2]
   refine⟨ff,cf,rfl,fun i hi=>Jc1 (List.all_eq_true.1 hp _ (Qe hi)) ?_,fun i hi=>Jc1 (List.all_eq_true.1 hq _ (Qe hi)) ?_⟩
   . obtain⟨v,hv,hr⟩:=hz1.at hi
     have:=g1 i hi
     rw[<- Array.getElem?_toList,Array.toList_map,hv]at this
     cases this;exact hr
   obtain⟨v,hv,hr⟩:=hz2.at hi
   have:=g2 i hi
   rw[<- Array.getElem?_toList,Array.toList_map,hv]at this
   cases this;exact hr
theorem Jbx{X:Nat->Prop}{v:Value}{id off:Nat}(h:SRep ρ B X w v (.ptr id off)){cells:List AV}(hb:B id=.box cells):∃ b,ρ id=some b/\v=.pointer (some ⟨b,off,none⟩) :=
 (show SRep0 ρ B X w v (.ptr id off)from h).2 cells hb
theorem Wr{X:Nat->Prop}{v:Value}{id i j e k:Nat}{rows:List (List AV)}(h:SRep ρ B X w v (.optr id i j))(hb:B id=.buf e k rows):∃ b,ρ id=some b/\v=.pointer (some ⟨b,i * k+j,none⟩) :=
 (show SRep0 ρ B X w v (.optr id i j)from h).2 e k rows hb
theorem Uo{bs:BL}{id:Nat}(h:Jf6 bs id=true):∃ cells,Jr bs id=.box cells:=by
 unfold Jf6 at h;cases hb:Jr bs id <;> simp_all
theorem Un{bs:BL}{id:Nat}(h:Jf5 bs id=true):∃ e k rows,Jr bs id=.buf e k rows:=by
 unfold Jf5 at h;cases hb:Jr bs id <;> simp_all
theorem XN(h:RelW K ρ slot B a w){o:Oper}{x:Operand}(ho:o.op=.nilCheck x){av:AV}(hx:SRep ρ B (XX K.X0 ρ B) w (a.eval x) av)
 (hv:(∃ p,a.eval x=.pointer (some p)) ∨ ∃ f p q,a.eval x=.func (.func f) p q):Does K.P o a w (Post K slot B a [] av):=by
 refine Does.pureV h (v:=a.eval x) ?_ hx
 unfold execOp
 rw[ho]
 rcases hv with⟨p,hp⟩ | ⟨f,p,q,hp⟩ <;> simp[hp]
theorem Je1{α β:Type}{g:α->Option β}:∀ {l:List α} {m:List β} {i:Nat} {y:β},l.mapM g=some m->m[i]?=some y->∃ x,l[i]?=some x/\g x=some y
 | [],m,i,y,h,hy=>by simp at h;subst h;simp at hy
 | x::l,m,i,y,h,hy=>by
  simp only[List.mapM_cons,Option.bind_eq_bind,Option.pure_def]at h
  cases hx:g x with
  | none=>simp[hx]at h
  | some z =>
   cases hl:l.mapM g with
   | none=>simp[hx,hl]at h
   | some zs =>
    simp[hx,hl]at h
    subst h
    cases i with
    | zero=>simp at hy;subst hy;exact⟨x,rfl,hx⟩
    | succ i=>simp at hy ⊢;exact Je1 hl hy
theorem TIOK.field{P:Program}{t:Nat}{ti:TI}{d:TypeDesc}{i:TypeInfo}{z:Value}(k:TIOK P t ti d i z){fs:List (Nat × Nat × Nat)}(hk:ti.k=.struct fs){f off ft size:Nat}(hf:fs[f]?=some (off,ft,size)) :
 ∃ flds fld fi,d=.struct flds/\flds[f]?=some fld/\fld.offset=off/\fld.type=ft/\P.info? ft=some fi/\fi.size=size:=by
 have hkk:=k.kind
 rw[hk]at hkk
 cases d <;> simp only[JQ,reduceCtorEq,false_and,and_false,exists_false]at hkk
 case struct flds =>
  obtain⟨_,_,l,hl,e⟩:=hkk
  simp only[TK.struct.injEq]at e
  subst e
  obtain⟨fld,h1,h2⟩:=Je1 hl hf
  cases hi:P.info? fld.type with
  | none=>simp[hi]at h2
  | some fi =>
   simp[hi]at h2
   obtain⟨rfl,rfl,rfl⟩:=h2
   exact⟨flds,fld,fi,rfl,by simpa using h1,rfl,rfl,hi,rfl⟩
theorem JdE(hT:TOK K.P K.T){t f off ft size b p:Nat}{ti:TI}(hti:lk t K.T=some ti){fs:List (Nat × Nat × Nat)}(hk:ti.k=.struct fs)(hf:fs[f]?=some (off,ft,size))(hs:size ≠ 0) :
 (Instr.fieldAt t (.pointer (some ⟨b,p,none⟩)) f).run K.P w=.ok (.pointer (some ⟨b,p+off,none⟩)) w:=by
 obtain⟨d,inf,z,kk⟩:=Jk (hT t ti hti)
 obtain⟨flds,fld,fi,rfl,hfld,h1,h2,h3,h4⟩:=kk.field hk hf
 unfold Instr.fieldAt
 simp only[Ki,run_underlying kk.und,Ke,hfld]
 simp[Instr.sureAddr,fieldPlace,Go.sizeOf,typeInfo,h2,h3,h4,hs,Qh,h1]
theorem Vi(hT:TOK K.P K.T)(h:RelW K ρ slot B a w){o:Oper}{t f off ft size b p:Nat}{x:Operand}(ho:o.op=.fieldAddr t x f){ti:TI}(hti:lk t K.T=some ti){fs:List (Nat × Nat × Nat)}(hk:ti.k=.struct fs)(hf:fs[f]?=some (off,ft,size))(hs:size ≠ 0)
 (hx:a.eval x=.pointer (some ⟨b,p,none⟩)){av:AV}(hv:SRep ρ B (XX K.X0 ρ B) w (.pointer (some ⟨b,p+off,none⟩)) av):Does K.P o a w (Post K slot B a [] av):=by
 refine Does.pureV h (v:=.pointer (some ⟨b,p+off,none⟩)) ?_ hv
 unfold execOp
 rw[ho]
 simp only[hx,Ki,JdE hT hti hk hf hs,Ke]
 rfl
theorem Rep.elt_move{X:Nat->Prop}{v:Value}{k i j:Nat}{rows:List (List AV)}(h:Rep X w v (.elt k rows i j))(n:Nat):∃ b p,v=.pointer (some ⟨b,p,none⟩)/\Rep X w (.pointer (some ⟨b,p+n,none⟩)) (.elt k rows i (j+n)):=by
 cases h with
 | elt b o _ _ _ _ cv hb hX hi hk hc hr h1 =>
  exact⟨b,_,rfl,by rw[Nat.add_assoc];exact .elt b o k rows i (j+n) cv hb hX hi hk hc hr h1⟩
theorem SRep.ptr_move{X:Nat->Prop}{id off b p:Nat}{cells:List AV}(hb:B id=.box cells)(h:SRep ρ B X w (.pointer (some ⟨b,p,none⟩)) (.ptr id off))(n:Nat):SRep ρ B X w (.pointer (some ⟨b,p+n,none⟩)) (.ptr id (off+n)):=by
 obtain⟨b',hr,hv⟩:=Jbx h hb
 cases hv
 exact⟨rfl,fun _ _=>⟨b,hr,rfl⟩⟩
theorem SRep.optr_move{X:Nat->Prop}{id i j b p e k:Nat}{rows:List (List AV)}(hb:B id=.buf e k rows)(h:SRep ρ B X w (.pointer (some ⟨b,p,none⟩)) (.optr id i j))(n:Nat):SRep ρ B X w (.pointer (some ⟨b,p+n,none⟩)) (.optr id i (j+n)):=by
 obtain⟨b',hr,hv⟩:=Wr h hb
 cases hv
 refine⟨rfl,fun e' k' rows' hb'=>⟨b,hr,?_⟩⟩
 rw[hb]at hb'
 cases hb'
 rw[Nat.add_assoc]
theorem JeO{P:Program}{t:Nat}{ti:TI}{d:TypeDesc}{i:TypeInfo}{z:Value}(k:TIOK P t ti d i z){X:Nat->Prop}{arr:Array Value}{l:List AV}(hz:Z (CP X w) arr.toList l){off:Nat}(hfit:off+ti.size<=l.length)(ha:ti.agg=true ∨ ti.size=1) :
 ∃ v,(part t arr off).run P w=.ok v w/\Rep X w v (JT l off ti.size ti.agg):=by
 unfold part
 simp only[Ki,k.isAgg w,Ke]
 cases hg:ti.agg with
 | true =>
  simp only[if_true,Ki,k.sizeOf w,Ke]
  refine⟨_,rfl,?_⟩
  simp only[JT,if_true]
  refine Rep.agg_mk ?_
  have:=(hz.drop off).take ti.size
  simp only[Array.toList_extract,List.extract_eq_take_drop]
  rw[show off+ti.size-off=ti.size by omega]
  exact this
 | false =>
  have h1:ti.size=1:=ha.resolve_left (by simp[hg])
  obtain⟨v,hv,hr⟩:=hz.at (i:=off) (by omega)
  have hv':arr[off]?=some v:=by simpa using hv
  refine⟨v,by simp[hv'],?_⟩
  simpa[JT]using hr.2
theorem JkN(hT:TOK K.P K.T)(h:RelW K ρ slot B a w){o:Oper}{t f off ft size:Nat}{x:Operand}(ho:o.op=.field t x f){ti tf:TI}(hti:lk t K.T=some ti){fs:List (Nat × Nat × Nat)}(hk:ti.k=.struct fs)(hf:fs[f]?=some (off,ft,size))
 (htf:lk ft K.T=some tf){l:List AV}(hx:SRep ρ B (XX K.X0 ρ B) w (a.eval x) (.agg l))(hfit:off+size<=l.length)(hsz:tf.size=size)(ha:tf.agg=true ∨ tf.size=1) :
 Does K.P o a w (Post K slot B a [] (JT l off size tf.agg)):=by
 obtain⟨d,inf,z,kk⟩:=Jk (hT t ti hti)
 obtain⟨d2,inf2,z2,kk2⟩:=Jk (hT ft tf htf)
 obtain⟨flds,fld,fi,rfl,hfld,h1,h2,h3,h4⟩:=kk.field hk hf
 obtain⟨arr,hv,hz⟩:=Rep.agg_inv (show Rep _ w (a.eval x) (.agg l)from hx)
 obtain⟨v,hr,hrep⟩:=JeO kk2 hz (off:=off) (by omega) ha
 rw[hsz]at hrep
 refine Does.pureV h (v:=v) ?_ (SRep.of_rep hrep)
 unfold execOp
 rw[ho]
 have hrun:(Instr.field t (a.eval x) f).run K.P w=.ok v w:=by
  unfold Instr.field
  simp only[Ki,run_underlying kk.und,Ke,hfld]
  simp[hv,asAgg,h2,h1,hr]
 simp only[Ki,hrun,Ke]
 rfl
theorem Jgc(h:RelW K ρ slot B a w){o:Oper}{x:Operand}{i:Nat}(ho:o.op=.extract x i){l:List AV}(hx:SRep ρ B (XX K.X0 ρ B) w (a.eval x) (.tup l))(hi:i < l.length):Does K.P o a w (Post K slot B a [] (nth l i)):=by
 obtain⟨arr,hv,hz⟩:=Rep.tup_inv (show Rep _ w (a.eval x) (.tup l)from hx)
 obtain⟨v,hv1,hr⟩:=hz.at hi
 have hv1':arr[i]?=some v:=by simpa using hv1
 refine Does.pureV h (v:=v) ?_ (SRep.of_rep hr)
 unfold execOp
 rw[ho]
 simp[Instr.extract,hv,hv1']
end
def VB (P : Program) (f : Nat) : Prop := ∃ fn body, P.funcs[f]? = some fn /\ fn.body = some body /\ (fn.name == "runtime.NumGoroutine") = false
def Jcj(X:Nat->Prop)(n:Nat)(w:World)(v:Value)(e k:Nat)(rows:List (List AV)):Prop :=
 (∀ i,i < rows.length->(Ji rows i).length=k)/\rows.length<=maxLen/\((v=.slice none 0 0/\rows=[]) ∨ ∃ b cap cur,n<=b/\v=.slice (some ⟨b,0,none⟩) rows.length cap/\w.heap[b]?=some (.cells cur e (0,0)) /\
  rows.length<=cap/\cap<=maxLen/\cur.size=cap * k/\RowsAt (CP (fun x=>X x ∨ x=b) w) cur k rows)
def JmP(X:Nat->Prop)(n:Nat)(w:World)(v:Value)(g:Nat)(cells:List AV):Prop :=
 ∃ b cs T,n<=b/\v=.func (.func g) #[] #[.pointer (some ⟨b,0,none⟩)]/\w.heap[b]?=some (.cells cs T (0,0))/\cs.size=cells.length /\
  ∀ j,j < cells.length->CP (fun x=>X x ∨ x=b) w (cs.getD j undef) (nth cells j)
def ResR(X:Nat->Prop)(n:Nat)(w:World)(v:Value):AV->Prop
 | .fresh e k rows=>Jcj X n w v e k rows
 | .fbox g cells=>JmP X n w v g cells
 | r=>Rep X w v r
def Jdq:AV->AV
 | .fresh _ k rows=>.sl k rows
 | .fbox g cells=>.fn (.func g) [] [.elt cells.length [cells] 0 0]
 | r=>r
theorem ResR.of_rep{X:Nat->Prop}{n:Nat}{w:World}{v:Value}{r:AV}(h:Rep X w v r):ResR X n w v r:=by
 cases r with
 | fresh _ _ _=>cases h
 | fbox _ _=>cases h
 | _=>exact h
theorem CP.out{X:Nat->Prop}{w:World}{b:Nat}{v:Value}{x:AV}(h:CP (fun y=>X y ∨ y=b) w v x):CP X w v x :=
 ⟨h.1,Rep.mono (Kr _) (fun _ _ _=>rfl) (fun _ _ hn hx=>hn (.inl hx)) h.2⟩
theorem ResR.un{X:Nat->Prop}{n:Nat}{w:World}{v:Value}{r:AV}(hX:∀ b,X b->b < n)(h:ResR X n w v r):Rep X w v (Jdq r):=by
 cases r with
 | fresh e k rows =>
  obtain⟨hk,hm,⟨rfl,rfl⟩ | ⟨b,cap,cur,hb,rfl,hh,hc1,hc2,hsz,hR⟩⟩:=h
  . exact .slE _ _ _
  refine .sl b 0 cap k rows (fun i j=>cur.getD (i * k+j) undef) (Array.getElem?_eq_some_iff.1 hh).1 (fun hx=>by have:=hX b hx;omega) hc1 hm hk (fun i hi j hj=>?_) (fun i hi j hj=>(hR.2.2 i hi j hj).out.2) (fun i hi j hj=>(hR.2.2 i hi j hj).1)
  have hlt:i * k+j < cur.size:=K0 (J2 hi hj) hR.2.1
  rw[Nat.zero_add,cell_of_row w b _ cur e (0,0) hh]
  simp[Array.getD,hlt]
 | fbox g cells =>
  obtain⟨b,cs,T,hb,rfl,hh,hsz,hc⟩:=h
  refine .fn (.func g) (fun _=>undef) (fun _=>.pointer (some ⟨b,0,none⟩)) [] [.elt cells.length [cells] 0 0] (fun i hi=>absurd hi (K6 i)) (fun i hi=>?_)
  have hi0:i=0:=by simpa using hi
  subst hi0
  have key:Rep X w (.pointer (some ⟨b,0+0 * cells.length+0,none⟩)) (.elt cells.length [cells] 0 0):=by
   refine .elt b 0 cells.length [cells] 0 0 (fun i j=>cs.getD j undef) (Array.getElem?_eq_some_iff.1 hh).1 (fun hx=>by have:=hX b hx;omega) (by simp) (fun i hi=>?_) (fun i hi j hj=>?_) (fun i hi j hj=>?_) (fun i hi j hj=>?_)
   . have:i=0:=by simpa using hi
     subst this;rfl
   . have:i=0:=by simpa using hi
     subst this
     rw[cell_of_row w b _ cs T (0,0) hh]
     have hlt:j < cs.size:=by omega
     simp[Array.getD,hlt]
   . have:i=0:=by simpa using hi
     subst this
     exact(hc j hj).out.2
   exact(hc j hj).1
  rw[Nat.zero_mul]at key
  exact key
 | _=>exact h
structure PCall(P:Program)(G:List (Nat × List AV))(f:Nat)(args:List AV)(r:AV):Prop where
 callable:VB P f
 run:∀ (w:World) (X:Nat->Prop) (vs:Array Value),(∀ b,X b->b < w.heap.size) →
  (∀ g cells,lk g G=some cells->GlobOK X w g cells) →
  Z (Rep X w) vs.toList args →
  Calls P f vs w fun e w'=>∃ v,e=.returned v/\Below w.heap.size w w'/\ResR X w.heap.size w' v r
theorem PCall.un{P:Program}{G:List (Nat × List AV)}{f:Nat}{args:List AV}{r:AV}(h:PCall P G f args r):PCall P G f args (Jdq r) :=
 ⟨h.callable,fun w X vs hX hG hz=>(h.run w X vs hX hG hz).mono fun _ _ ⟨v,h1,h2,h3⟩=>⟨v,h1,h2,.of_rep (h3.un hX)⟩⟩
section
variable {K : Ctx} {ρ : Pl} {slot : Nat → Option AV} {B : Nat → ABlk} {a : Act} {w : World}
theorem TIOK.sliceKind{P:Program}{t:Nat}{ti:TI}{d:TypeDesc}{i:TypeInfo}{z:Value}(k:TIOK P t ti d i z){e es eb:Nat}(hk:ti.k=.slice e es eb) :
 d=.slice e/\∃ ei,P.info? e=some ei/\ei.size=es/\ei.bytes=eb:=by
 have hkk:=k.kind
 rw[hk]at hkk
 cases d <;> simp only[JQ,reduceCtorEq,false_and,and_false,exists_false]at hkk
 case slice e' =>
  obtain⟨_,ei,hei,hkk⟩:=hkk
  simp only[TK.slice.injEq]at hkk
  obtain⟨rfl,rfl,rfl⟩:=hkk
  exact⟨rfl,ei,hei,rfl,rfl⟩
theorem TIOK.arrKind{P:Program}{t:Nat}{ti:TI}{d:TypeDesc}{i:TypeInfo}{z:Value}(k:TIOK P t ti d i z){n e es:Nat}(hk:ti.k=.arr n e es) :
 d=.array n e/\ti.agg=true/\∃ ei,P.info? e=some ei/\ei.size=es:=by
 have hkk:=k.kind
 rw[hk]at hkk
 cases d <;> simp only[JQ,reduceCtorEq,false_and,and_false,exists_false]at hkk
 case array n' e' =>
  obtain⟨h1,ei,hei,hkk⟩:=hkk
  simp only[TK.arr.injEq]at hkk
  obtain⟨rfl,rfl,rfl⟩:=hkk
  exact⟨rfl,h1,ei,hei,rfl⟩
theorem TIOK.strKind{P:Program}{t:Nat}{ti:TI}{d:TypeDesc}{i:TypeInfo}{z:Value}(k:TIOK P t ti d i z)(hk:ti.k=.str):d=.string:=by
 have hkk:=k.kind
 rw[hk]at hkk
 cases d <;> simp only[JQ,reduceCtorEq,false_and,and_false,exists_false]at hkk
 rfl
theorem TIOK.intKind{P:Program}{t:Nat}{ti:TI}{d:TypeDesc}{i:TypeInfo}{z:Value}(k:TIOK P t ti d i z){q:IntKind}(hk:ti.k=.int q):d=.int q:=by
 have hkk:=k.kind
 rw[hk]at hkk
 cases d <;> simp only[JQ,reduceCtorEq,false_and,and_false,exists_false,TK.int.injEq]at hkk
 obtain⟨rfl,_⟩:=hkk
 rfl
theorem Ja7{o:Oper}{t:Nat}{x y:Operand}(ho:o.op=.indexAddr t x y){P:Program}{v:Value}(h:(Instr.indexAt t (a.eval x) (a.eval y)).run P w=.ok v w):(execOp a.eval o).run P w=.ok (.value v) w:=by
 unfold execOp
 rw[ho]
 simp only[Ki,h,Ke]
 rfl
theorem Q7(hT:TOK K.P K.T)(h:RelW K ρ slot B a w){o:Oper}{t e es eb b off len cap:Nat}{x y:Operand}(ho:o.op=.indexAddr t x y){ti:TI}(hti:lk t K.T=some ti)(hk:ti.k=.slice e es eb){k:IntKind}{n:Int}(hy:a.eval y=.int k n)
 (hx:a.eval x=.slice (some ⟨b,off,none⟩) len cap)(h0:0<=n)(h1:n < len){av:AV}(hv:SRep ρ B (XX K.X0 ρ B) w (.pointer (some ⟨b,off+n.toNat * es,none⟩)) av):Does K.P o a w (Post K slot B a [] av):=by
 obtain⟨d,inf,z,kk⟩:=Jk (hT t ti hti)
 obtain⟨rfl,ei,hei,rfl,rfl⟩:=kk.sliceKind hk
 refine Does.pureV h (Ja7 ho ?_) hv
 rw[hx,hy]
 unfold Instr.indexAt
 simp[asIntOf,run_underlying kk.und,h0,h1,Go.sizeOf,typeInfo,hei,Qh]
theorem Q0(hT:TOK K.P K.T)(h:RelW K ρ slot B a w){o:Oper}{t e es b off m:Nat}{x y:Operand}(ho:o.op=.indexAddr t x y){ti:TI}(hti:lk t K.T=some ti)(hk:ti.k=.arr m e es){k:IntKind}{n:Int}(hy:a.eval y=.int k n)
 (hx:a.eval x=.pointer (some ⟨b,off,none⟩))(h0:0<=n)(h1:n < m){av:AV}(hv:SRep ρ B (XX K.X0 ρ B) w (.pointer (some ⟨b,off+n.toNat * es,none⟩)) av):Does K.P o a w (Post K slot B a [] av):=by
 obtain⟨d,inf,z,kk⟩:=Jk (hT t ti hti)
 obtain⟨rfl,_,ei,hei,rfl⟩:=kk.arrKind hk
 refine Does.pureV h (Ja7 ho ?_) hv
 rw[hx,hy]
 unfold Instr.indexAt
 simp[asIntOf,run_underlying kk.und,Instr.sureAddr,h0,h1,Go.sizeOf,typeInfo,hei,Qh]
theorem Rep.sl_elt{X:Nat->Prop}{v:Value}{k:Nat}{rows:List (List AV)}(h:Rep X w v (.sl k rows)){i:Nat}(hi:i < rows.length) :
 ∃ b off cap,v=.slice (some ⟨b,off,none⟩) rows.length cap/\Rep X w (.pointer (some ⟨b,off+i * k,none⟩)) (.elt k rows i 0):=by
 cases h with
 | slE a cap k=>simp at hi
 | sl b o cap _ _ cv hb hX hcap hmax hk hc hr h1=>exact⟨b,o,cap,rfl,.elt b o k rows i 0 cv hb hX hi hk hc hr h1⟩
theorem Jid(hT:TOK K.P K.T)(h:RelW K ρ slot B a w){o:Oper}{t:Nat}{x y:Operand}(ho:o.op=.index t x y){ti:TI}(hti:lk t K.T=some ti)(hk:ti.k=.str){k:IntKind}{n:Int}(hy:a.eval y=.int k n){l:List UInt8}
 (hx:a.eval x=.string ⟨l.toArray⟩)(h0:0<=n)(h1:n < l.length):Does K.P o a w (Post K slot B a [] (.int .u8 ((l.getD n.toNat 0).toNat:Int))):=by
 obtain⟨d,inf,z,kk⟩:=Jk (hT t ti hti)
 have:=kk.strKind hk
 subst this
 refine Does.pureV h (v:=.int .u8 ((l.getD n.toNat 0).toNat:Int)) ?_ (SRep.mk_int _ _)
 unfold execOp
 rw[ho]
 have hlt:n.toNat < l.length:=by omega
 have hs:(⟨l.toArray⟩:ByteArray)[n.toNat]?=some (l[n.toNat]):=by
  rw[ByteArray.getElem?_lt' _ _ (by simpa[ByteArray.size]using hlt)]
  rfl
 have hrun:(Instr.index t (a.eval x) (a.eval y)).run K.P w=.ok (.int .u8 ((l.getD n.toNat 0).toNat:Int)) w:=by
  rw[hx,hy]
  unfold Instr.index
  simp[asIntOf,run_underlying kk.und,h0,hs,List.getElem?_eq_getElem hlt]
 simp only[Ki,hrun,Ke]
 rfl
theorem Jie(hT:TOK K.P K.T)(h:RelW K ρ slot B a w){o:Oper}{t m e es:Nat}{x y:Operand}(ho:o.op=.index t x y){ti te:TI}(hti:lk t K.T=some ti)(hk:ti.k=.arr m e es)(hte:lk e K.T=some te){k:IntKind}{n:Int}(hy:a.eval y=.int k n){l:List AV}
 (hx:SRep ρ B (XX K.X0 ρ B) w (a.eval x) (.agg l))(h0:0<=n)(h1:n < m)(hl:l.length=m * es)(hsz:te.size=es)(ha:te.agg=true ∨ te.size=1) :
 Does K.P o a w (Post K slot B a [] (JT l (n.toNat * es) es te.agg)):=by
 obtain⟨d,inf,z,kk⟩:=Jk (hT t ti hti)
 obtain⟨d2,inf2,z2,kk2⟩:=Jk (hT e te hte)
 obtain⟨rfl,_,ei,hei,rfl⟩:=kk.arrKind hk
 obtain⟨arr,hv,hz⟩:=Rep.agg_inv (show Rep _ w (a.eval x) (.agg l)from hx)
 have hfit:n.toNat * ei.size+te.size<=l.length:=by
  have:(n.toNat+1) * ei.size<=m * ei.size:=K1 _ (by omega)
  rw[Nat.add_mul,Nat.one_mul]at this
  omega
 obtain⟨v,hr,hrep⟩:=JeO kk2 hz hfit ha
 rw[hsz]at hrep
 refine Does.pureV h (v:=v) ?_ (SRep.of_rep hrep)
 unfold execOp
 rw[ho]
 have hrun:(Instr.index t (a.eval x) (a.eval y)).run K.P w=.ok v w:=by
  rw[hv,hy]
  unfold Instr.index
  simp[asIntOf,run_underlying kk.und,h0,h1,Go.sizeOf,typeInfo,hei,hr]
 simp only[Ki,hrun,Ke]
 rfl
theorem JmZ(h:RelW K ρ slot B a w){o:Oper}{op:BinOp}{t u:Nat}{x y:Operand}{p q:List UInt8}{ou:Out}(ho:o.op=.binOp op t x y u)
 (hx:a.eval x=.string ⟨p.toArray⟩)(hy:a.eval y=.string ⟨q.toArray⟩)(hout:Jm1 op p q=some ou)(hc:All ou.cond) :
 ou.wr=[]/\ou.obl=[]/\Does K.P o a w (Post K slot B a [] ou.v):=by
 have hg:∀ s1 s2,(eqGuard op t x y (.string s1) (.string s2)).run K.P w=.ok () w:=by
  intro s1 s2;unfold eqGuard;cases op <;> rfl
 have hexec:∀ v,(binOp op t (.string ⟨p.toArray⟩) (.string ⟨q.toArray⟩)).run K.P w=.ok v w->(execOp a.eval o).run K.P w=.ok (.value v) w:=by
  intro v hv
  unfold execOp
  rw[ho]
  simp only[hx,hy,Ki,hg,Ke,hv]
  rfl
 cases op <;> simp only[Jm1,out,reduceCtorEq]at hout
 case add =>
  cases hout
  refine⟨rfl,rfl,Does.pureV h (hexec _ ?_) (SRep.mk_str _)⟩
  have h1:=hc.1
  have h2:¬ (9223372036854775807 < ((p.length:Int)+(q.length:Int))):=by omega
  simp[binOp,Op.stringOp,ByteArray.size,h2]
  apply ByteArray.ext
  simp
 case eql =>
  cases hout
  refine⟨rfl,rfl,Does.pureV h (hexec _ ?_) (SRep.mk_bool _)⟩
  rw[binOp_string_eql]
  simp
 case neq =>
  cases hout
  refine⟨rfl,rfl,Does.pureV h (hexec _ ?_) (SRep.mk_bool _)⟩
  rw[binOp_string_neq]
  simp
theorem JjJ(h:RelW K ρ slot B a w){o:Oper}{t:Nat}{x:Operand}{k:IntKind}{n:Int}{nw:Bool}{ou:Out}(ho:o.op=.unOp .neg t x)(hx:a.eval x=.int k n)(hout:Jf7 .sub k 0 n nw=some ou)(hc:All ou.cond) :
 ou.wr=[]/\ou.obl=[]/\Does K.P o a w (Post K slot B a [] ou.v):=by
 have hexec:∀ v,(Op.intArith .sub k 0 n).run K.P w=.ok v w->(execOp a.eval o).run K.P w=.ok (.value v) w:=by
  intro v hv
  unfold execOp
  rw[ho]
  simp only[hx,Ki]
  simp only[Op.unary,hv,Ke]
  rfl
 simp only[Jf7,out]at hout
 by_cases hb:(nw && decide (k=.i64))=true
 . rw[if_pos hb]at hout
   cases hout
   simp only[Kd,Ko]at hb
   obtain⟨_,rfl⟩:=hb
   refine⟨rfl,rfl,Does.pureV h (hexec _ ?_) (SRep.mk_int _ _)⟩
   have:=Qs hc.1
   simp only[Op.intArith,this]
   rfl
 . rw[if_neg hb]at hout
   cases hout
   exact⟨rfl,rfl,Does.pureV h (hexec _ rfl) (SRep.mk_int _ _)⟩
theorem JkO{P:Program}{o:Oper}{t:Nat}{x:Operand}{b:Bool}(ho:o.op=.unOp .not t x)(hx:a.eval x=.bool b):(execOp a.eval o).run P w=.ok (.value (.bool (!b))) w:=by
 unfold execOp
 rw[ho]
 simp[hx,Op.unary]
theorem JjI(h:RelW K ρ slot B a w){o:Oper}{t:Nat}{x:Operand}{b:Bool}(ho:o.op=.unOp .not t x)(hx:a.eval x=.bool b):Does K.P o a w (Post K slot B a [] (.bool (!b))):=by
 refine Does.pureV h (v:=.bool (!b)) ?_ (SRep.mk_bool _)
 unfold execOp
 rw[ho]
 simp[hx,Op.unary]
theorem Jfk(h:RelW K ρ slot B a w)(hT:TOK K.P K.T){o:Oper}{op:BinOp}{t u:Nat}{x y:Operand}{p q:Bool}(ho:o.op=.binOp op t x y u){ti:TI}(hti:lk t K.T=some ti)(hk:ti.k=.bool)
 (hx:a.eval x=.bool p)(hy:a.eval y=.bool q)(hop:op=.eql ∨ op=.neq) :
 Does K.P o a w (Post K slot B a [] (.bool (if op=.eql then(p == q)else !(p == q)))):=by
 obtain⟨d,inf,z,kk⟩:=Jk (hT t ti hti)
 have hkk:=kk.kind
 rw[hk]at hkk
 have hd:d=.bool:=by cases d <;> simp only[JQ,reduceCtorEq,false_and,and_false,exists_false]at hkk;rfl
 subst hd
 refine Does.pureV h (v:=.bool (if op=.eql then(p == q)else !(p == q))) ?_ (SRep.mk_bool _)
 unfold execOp
 rw[ho]
 rcases hop with rfl | rfl
 . simp only[hx,hy,Ki,eqGuard_at_bool,Sem.run_pure,Ke,run_eql_bool w t p q kk.und]
   rfl
 . simp only[hx,hy,Ki,eqGuard_at_bool,Sem.run_pure,Ke,run_neq_bool w t p q kk.und]
   rfl
theorem Jei(hT:TOK K.P K.T)(h:RelW K ρ slot B a w){o:Oper}{s t:Nat}{x:Operand}(ho:o.op=.convert s t x){ti ts:TI}(hti:lk t K.T=some ti)(hts:lk s K.T=some ts){k q:IntKind}(hk:ti.k=.int k){n:Int}(hx:a.eval x=.int q n) :
 Does K.P o a w (Post K slot B a [] (.int k (k.wrap n))):=by
 obtain⟨d,inf,z,kk⟩:=Jk (hT t ti hti)
 obtain⟨d2,inf2,z2,kk2⟩:=Jk (hT s ts hts)
 have:=kk.intKind hk
 subst this
 refine Does.pureV h (v:=.int k (k.wrap n)) ?_ (SRep.mk_int _ _)
 unfold execOp
 rw[ho]
 simp[hx,convert,run_underlying kk.und,run_underlying kk2.und,Conv.intToInt]
theorem Jeh(hT:TOK K.P K.T)(h:RelW K ρ slot B a w){o:Oper}{s t:Nat}{x:Operand}(ho:o.op=.convert s t x){ti ts:TI}(hti:lk t K.T=some ti)(hts:lk s K.T=some ts)(hk:ti.k=.str)(hk2:ts.k=.str){l:List UInt8}(hx:a.eval x=.string ⟨l.toArray⟩) :
 Does K.P o a w (Post K slot B a [] (.str l)):=by
 obtain⟨d,inf,z,kk⟩:=Jk (hT t ti hti)
 obtain⟨d2,inf2,z2,kk2⟩:=Jk (hT s ts hts)
 have:=kk.strKind hk
 subst this
 have:=kk2.strKind hk2
 subst this
 refine Does.pureV h (v:=.string ⟨l.toArray⟩) ?_ (SRep.mk_str _)
 unfold execOp
 rw[ho]
 simp[hx,convert,run_underlying kk.und,run_underlying kk2.und]
theorem Jc3:∀ {rows:List (List AV)} {ns:List Int},Jc4 rows=some ns->rows=ns.map fun n=>[AV.int .u8 n]
 | [],ns,h=>by cases h;rfl
 | row::l,ns,h=>by
  unfold Jc4 at h
  split at h
  . rename_i h1;cases h1
  . rename_i n l' h1
    cases h1
    split at h
    . rename_i m hm
      cases h
      rw[Jc3 hm]
      rfl
    cases h
  cases h
theorem JcZ(hT:TOK K.P K.T)(h:RelW K ρ slot B a w){o:Oper}{s t:Nat}{x:Operand}(ho:o.op=.convert s t x){ti ts te:TI}{e es eb:Nat}(hti:lk t K.T=some ti)(hts:lk s K.T=some ts)(hk:ti.k=.str)(hk2:ts.k=.slice e es eb)(hte:lk e K.T=some te)(hke:te.k=.int .u8)
 {r:List AV}{rows:List (List AV)}{ns:List Int}(hn:Jc4 (r::rows)=some ns)(hx:SRep ρ B (XX K.X0 ρ B) w (a.eval x) (.sl 1 (r::rows))):Does K.P o a w (Post K slot B a [] (.str (ns.map fun n=>UInt8.ofNat n.toNat))):=by
 obtain⟨d,inf,z,kk⟩:=Jk (hT t ti hti)
 obtain⟨d2,inf2,z2,kk2⟩:=Jk (hT s ts hts)
 obtain⟨d3,inf3,z3,kk3⟩:=Jk (hT e te hte)
 have:=kk.strKind hk
 subst this
 have:=kk3.intKind hke
 subst this
 have hkk:=kk2.kind
 rw[hk2]at hkk
 cases d2 <;> simp only[JQ,reduceCtorEq,false_and,and_false,exists_false]at hkk
 case slice e' =>
  obtain⟨_,ei,hei,hkk⟩:=hkk
  simp only[TK.slice.injEq]at hkk
  obtain⟨rfl,rfl,rfl⟩:=hkk
  have hrows:=Jc3 hn
  have hx':Rep (XX K.X0 ρ B) w (a.eval x) (.sl 1 (r::rows)):=hx
  rw[hrows]at hx'
  generalize hv:a.eval x=v at hx'
  have hne:ns ≠ []:=fun q=>by rw[q]at hrows;cases hrows
  generalize hrs:(ns.map fun n=>[AV.int .u8 n])=rs at hx'
  cases hx' with
  | slE a' cap=>exact absurd (List.map_eq_nil_iff.1 hrs) hne
  | sl b o' cap _ _ cv hb hX hcap hmax hk3 hc hr h1 =>
   have hlen:rs.length=ns.length:=by rw[<- hrs,Kb]
   have hrun:=run_convert_bytes_arg (P:=K.P) w s e kk2.und kk3.und b o' rs.length cap ns hlen.symm (fun i hi=>by
    have e1:=hc i hi 0 Nat.one_pos
    have e2:=hr i hi 0 Nat.one_pos
    have e3:nth (Ji rs i) 0=.int .u8 (ns.getD i 0):=by
     rw[<- hrs]
     have:i < ns.length:=by omega
     simp[Ji,nth,List.getD_eq_getElem?_getD,this]
    rw[e3]at e2
    have e4:cv i 0=.int .u8 (ns.getD i 0):=by
     generalize cv i 0=u at e2
     cases e2
     rfl
    rw[Nat.mul_one,Nat.add_zero,e4]at e1
    exact e1) t kk.und
   refine Does.pureV h (v:=.string ⟨(ns.map fun n=>UInt8.ofNat n.toNat).toArray⟩) ?_ (SRep.mk_str _)
   unfold execOp
   rw[ho]
   simp only[hv,Ki,hrun,Ke]
   rfl
theorem Wh{P:Program}(w:World){t e:TypeId}(a:Addr)(n c:Nat)(ht:P.underlying t=some (.slice e)):(binOp .eql t (.slice (some a) n c) (.slice none 0 0)).run P w=.ok (.bool false) w:=by
 have h:∀ d:Nat,(Op.equalIn (d+1) t (.slice (some a) n c) (.slice none 0 0)).run P w=.ok false w:=fun d=>by
  simp[Op.equalIn,run_underlying ht]
 simp only[binOp]
 simp[Op.equal,Op.maxDepth,h 9999]
theorem Jm8{X:Nat->Prop}{v:Value}{k:Nat}{r:List AV}{rows:List (List AV)}(hx:SRep ρ B X w v (.sl k (r::rows))):∃ ad n c,v=.slice (some ad) n c:=by
 have hx':Rep X w v (.sl k (r::rows)):=hx
 cases hx' with
 | sl b o' cap _ _ cv hb hX hcap hmax hk2 hc hr h1=>exact⟨_,_,_,rfl⟩
theorem JhR(h:RelW K ρ slot B a w)(hT:TOK K.P K.T){o:Oper}{t u:Nat}{x y:Operand}(ho:o.op=.binOp .eql t x y u){ti:TI}{e es eb:Nat}(hti:lk t K.T=some ti)(hk:ti.k=.slice e es eb)
 (hv:∃ ad n c,a.eval x=.slice (some ad) n c)(hy:a.eval y=.slice none 0 0):Does K.P o a w (Post K slot B a [] (.bool false)):=by
 obtain⟨d,inf,z,kk⟩:=Jk (hT t ti hti)
 have hkk:=kk.kind
 rw[hk]at hkk
 cases d <;> simp only[JQ,reduceCtorEq,false_and,and_false,exists_false]at hkk
 case slice e' =>
  obtain⟨ad,n,c,hv⟩:=hv
  refine Does.pureV h (v:=.bool false) ?_ (SRep.mk_bool _)
  unfold execOp
  rw[ho]
  simp only[hv,hy,Ki,eqGuard_at_slice,Sem.run_pure,Ke,Wh w ad n c kk.und]
theorem Jb1(hT:TOK K.P K.T)(h:RelW K ρ slot B a w){o:Oper}{s t:Nat}{x:Operand}(ho:o.op=.convert s t x){ti ts te:TI}{e es eb:Nat}(hti:lk t K.T=some ti)(hts:lk s K.T=some ts)(hk:ti.k=.slice e es eb)(hk2:ts.k=.str)(hte:lk e K.T=some te)(hke:te.k=.int .u8)
 {l:List UInt8}(hl:l.length<=9223372036854775807)(hx:a.eval x=.string ⟨l.toArray⟩):Does K.P o a w (Post K slot B a [] (.sl 1 (l.map fun b=>[.int .u8 b.toNat]))):=by
 obtain⟨d,inf,z,kk⟩:=Jk (hT t ti hti)
 obtain⟨d2,inf2,z2,kk2⟩:=Jk (hT s ts hts)
 obtain⟨d3,inf3,z3,kk3⟩:=Jk (hT e te hte)
 have:=kk2.strKind hk2
 subst this
 have:=kk3.intKind hke
 subst this
 have hkk:=kk.kind
 rw[hk]at hkk
 cases d <;> simp only[JQ,reduceCtorEq,false_and,and_false,exists_false]at hkk
 case slice e' =>
  obtain⟨_,ei,hei,hkk⟩:=hkk
  simp only[TK.slice.injEq]at hkk
  obtain⟨rfl,rfl,rfl⟩:=hkk
  have hrun:=Lib.run_convert_string_bytes (P:=K.P) w s t e ⟨l.toArray⟩ kk2.und kk.und kk3.und
  have hge:=grownCap_ge w l.length 0 e
  refine Does.of_run (w':=Lib.bytesWorld w e ⟨l.toArray⟩) (v:=.slice (some ⟨w.heap.size,0,none⟩) l.length (grownCap w l.length 0 e)) ?_ ⟨ρ,h.world ?_,SRep.of_rep ?_⟩
  . unfold execOp
    rw[ho]
    simp only[hx,Ki,hrun,Ke]
    rfl
  . exact⟨rfl,rfl,rfl,by rw[Lib.bytesWorld_size];omega,fun k hk=>Lib.bytesWorld_at_old w e _ k hk⟩
  have hlen:(l.map fun b=>[AV.int .u8 b.toNat]).length=l.length:=Kb _
  have hsl:=Rep.sl (X:=XX K.X0 ρ B) (w:=Lib.bytesWorld w e ⟨l.toArray⟩) w.heap.size 0 (grownCap w l.length 0 e) 1 (l.map fun b=>[AV.int .u8 b.toNat]) (fun i _=>.int .u8 (l.getD i 0).toNat)
   (by rw[Lib.bytesWorld_size];omega) h.fresh_xx (by omega) (by rw[hlen];unfold maxLen;omega) (fun i hi=>by
    rw[hlen]at hi
    simp[Ji,List.getD_eq_getElem?_getD,hi]) (fun i hi j hj=>by
    rw[hlen]at hi
    obtain rfl:j=0:=by omega
    have:=Lib.bytesWorld_cell w e ⟨l.toArray⟩ i (show i < l.toArray.size by simpa using hi)
    simpa using this) (fun i hi j hj=>by
    rw[hlen]at hi
    obtain rfl:j=0:=by omega
    have e1:nth (Ji (l.map fun b=>[AV.int .u8 b.toNat]) i) 0=.int .u8 (l.getD i 0).toNat:=by
     simp[Ji,nth,List.getD_eq_getElem?_getD,hi]
    rw[e1]
    exact .int _ _) (fun i hi j hj=>rfl)
  rw[hlen]at hsl
  exact hsl
theorem U9{w:World}{b n:Nat}{j:Nat}(hj:b ≠ j):(w.freeze ⟨b,n,none⟩ 1).heap[j]?=w.heap[j]?:=by
 simp[World.freeze,Array.getElem?_modify,hj]
theorem Jip{w:World}{b n:Nat}{cur:Array Value}{e:TypeId}(hh:w.heap[b]?=some (.cells cur e (0,0))):(w.freeze ⟨b,n,none⟩ 1).heap[b]?=some (.cells cur e (n,n+1)):=by
 have hlt:b < w.heap.size:=(Array.getElem?_eq_some_iff.1 hh).1
 rw[Array.getElem?_eq_getElem hlt]at hh
 have hh:=Option.some.inj hh
 simp[World.freeze,hlt,Array.getElem_modify,hh]
theorem JcY(hT:TOK K.P K.T)(h:RelW K ρ slot B a w){nid:Nat}(hf:Fresh slot B nid){o:Oper}{s:Nat}{x:Operand}(ho:o.op=.convert s s x){ti te:TI}{e es eb:Nat}(hti:lk s K.T=some ti)(hk:ti.k=.slice e es eb)(hte:lk e K.T=some te)(hke:te.k=.int .u8)
 {id e' k n:Nat}{rows:List (List AV)}(hB:B id=.buf e' k rows)(hlen:rows.length=n+1)(hx:SRep0 ρ B (XX K.X0 ρ B) w (a.eval x) (.own id (n+1))):Does K.P o a w (Post K slot B a [(nid,.dead),(id,.dead)] (.sl k rows)):=by
 obtain⟨d,inf,z,kk⟩:=Jk (hT s ti hti)
 obtain⟨d3,inf3,z3,kk3⟩:=Jk (hT e te hte)
 have:=kk3.intKind hke
 subst this
 have hkk:=kk.kind
 rw[hk]at hkk
 cases d <;> simp only[JQ,reduceCtorEq,false_and,and_false,exists_false]at hkk
 case slice e2 =>
  obtain⟨_,ei,hei,hkk⟩:=hkk
  simp only[TK.slice.injEq]at hkk
  obtain⟨rfl,rfl,rfl⟩:=hkk
  have hal:(B id).alive:=by rw[hB];trivial
  have hbl:=h.blks id
  unfold BlkOK at hbl
  rw[hB]at hbl
  obtain⟨hkr,hmx,hbl⟩:=hbl
  obtain⟨_,hown⟩:=hx.2 e' k rows hB
  rcases hown with⟨hr0,_⟩ | ⟨b,cap,cur,hr,hv,hh,hn,hm,hsz⟩
  . exfalso
    rcases hbl with⟨_,h3⟩ | ⟨b,cur,h3,_⟩
    . subst h3;simp at hlen
    rw[hr0]at h3;cases h3
  rcases hbl with⟨_,h3⟩ | ⟨b2,cur2,h3,h4,h5,h6⟩
  . subst h3;simp at hlen
  rw[hr]at h3
  cases h3
  rw[hh]at h4
  cases h4
  have hblt:=(h.live id b hal hr).2.2
  have hsh:w.shape? b=some (e',cur.size):=by simp[World.shape?,hh]
  have hrun:(convert s s (.slice (some ⟨b,0,none⟩) (n+1) cap)).run K.P w=.ok (.slice (some ⟨b,0,none⟩) (n+1) cap) (w.freeze ⟨b,cur.size,none⟩ 1):=by
   simp[convert,run_underlying kk.und,run_underlying kk3.und,markStringish,hsh,Result.andThen]
  have hkeep:Keeps K.F K.w0.heap.size w (w.freeze ⟨b,cur.size,none⟩ 1):=⟨rfl,rfl,rfl,by simp[World.freeze],fun j hj hF=>by
   refine U9 ?_
   rintro rfl
   rcases(h.live id b hal hr).1 with h1 | h1
   . exact hF h1
   . omega⟩
  have hrel:=h.replace id nid .dead none hkeep hf.dead hf.zero (fun h=>h) (fun n h=>by cases h) (fun cells hc=>by rw[hB]at hc;cases hc) hf.slots hf.blks
   (fun j _ hj=>U9 (fun e=>hj ⟨hal,by rw[hr,e]⟩)) (fun j hj=>by cases hj) (fun _ _ hd=>hd.elim)
  refine Does.of_run (w':=w.freeze ⟨b,cur.size,none⟩ 1) (v:=.slice (some ⟨b,0,none⟩) (n+1) cap) ?_ ⟨_,hrel.1,SRep.of_rep ?_⟩
  . unfold execOp
    rw[ho]
    simp only[hv,Ki,hrun,Ke]
    rfl
  have hsl:=Rep.sl (X:=XX K.X0 (upd ρ nid none) (upd (upd B id .dead) nid .dead)) (w:=w.freeze ⟨b,cur.size,none⟩ 1) b 0 cap k rows (fun i j=>cur.getD (i * k+j) undef)
   (by simpa[World.freeze]using hblt) (by
    rintro(hx0 | ⟨i,ha,hri⟩)
    . exact h.own_x0 ⟨id,hal,hr⟩ hx0
    . by_cases en:i=nid
      . subst en;rw[Jb]at ha;exact ha
      rw[Jf _ _ en]at ha hri
      by_cases ei:i=id
      . subst ei;rw[Jb]at ha;exact ha
      rw[Jf _ _ ei]at ha
      exact ei (h.inj i id b ha hal hri hr)) (by omega) hmx hkr (fun i hi j hj=>by
    have hlt:i * k+j < cur.size:=K0 (J2 hi hj) h5
    simp[World.cell?,Jip hh,Array.getD,hlt]) (fun i hi j hj=>hrel.2.2 _ _ (h6 i hi j hj).2) (fun i hi j hj=>(h6 i hi j hj).1)
  rw[hlen]at hsl
  exact hsl
end
section
variable {K : Ctx} {ρ : Pl} {slot : Nat → Option AV} {B : Nat → ABlk} {a : Act} {w : World}
def Vo(v:Option Value)(d n:Int):Prop:=(v=none/\n=d) ∨ ∃ k,v=some (.int k n)
theorem Qm{P:Program}{isSlice:Bool}{len cap:Nat}{lo hi:Option Value}{l h:Int}(hlo:Vo lo 0 l)(hhi:Vo hi len h)(h0:0<=l)(h1:l<=h)(h2:h<=cap) :
 (Instr.sliceBounds isSlice len cap lo hi none).run P w=.ok (l.toNat,h.toNat,cap) w:=by
 have hb:∀ (k:IntKind) (n:Int) (y:Nat) (c:BoundsCode),0<=n->n<=y->(Instr.sliceBound (.int k n) y c).run P w=.ok n.toNat w:=fun k n y c g0 g1=>run_sliceBound (P:=P) w k n y c g0 g1
 unfold Instr.sliceBounds
 have hh:h<=(h.toNat:Int):=by omega
 rcases hhi with⟨rfl,rfl⟩ | ⟨kh,rfl⟩
 . rcases hlo with⟨rfl,rfl⟩ | ⟨kl,rfl⟩
   . simp
   simp[hb kl l len _ h0 h1]
 . rcases hlo with⟨rfl,rfl⟩ | ⟨kl,rfl⟩
   . simp[hb kh h cap _ (by omega) h2]
   simp[hb kh h cap _ (by omega) h2,hb kl l h.toNat _ h0 (by omega)]
theorem Qo{o:Oper}{t:Nat}{x:Operand}{lo hi m:Option Operand}(ho:o.op=.slice t x lo hi m){P:Program}{v:Value}(h:(Instr.sliceAt t (a.eval x) (lo.map a.eval) (hi.map a.eval) (m.map a.eval)).run P w=.ok v w) :
 (execOp a.eval o).run P w=.ok (.value v) w:=by
 unfold execOp
 rw[ho]
 simp only[Ki,h,Ke]
 rfl
theorem JbC(rows:List (List AV))(l n i:Nat)(hi:i < n):Ji ((rows.drop l).take n) i=Ji rows (l+i):=by
 simp[Ji,hi]
theorem Rep.sl_cut{X:Nat->Prop}{v:Value}{k:Nat}{rows:List (List AV)}(h:Rep X w v (.sl k rows)){l m:Nat}(h1:l<=m)(h2:m<=rows.length) :
 ∃ (ad:Option Addr) (cap:Nat),v=.slice ad rows.length cap/\rows.length<=cap/\Rep X w (.slice (if cap=l then ad else ad.map (·.add (l * k))) (m-l) (cap-l)) (.sl k ((rows.drop l).take (m-l))):=by
 cases h with
 | slE ad cap _ =>
  simp only[List.length_nil,Nat.le_zero]at h2
  subst h2
  have:l=0:=by omega
  subst this
  refine⟨ad,cap,rfl,by simp,?_⟩
  simp only[List.drop_nil,List.take_nil,Nat.sub_self]
  exact .slE _ _ _
 | sl b o cap _ _ cv hb hX hcap hmax hk hc hr h1' =>
  refine⟨some ⟨b,o,none⟩,cap,rfl,hcap,?_⟩
  by_cases hlm:m=l
  . subst hlm
    simp only[Nat.sub_self,List.take_zero]
    exact .slE _ _ _
  have hne:¬ cap=l:=by omega
  rw[if_neg hne]
  simp only[Option.map_some,Qh]
  have hlen:((rows.drop l).take (m-l)).length=m-l:=by simp;omega
  have:=Rep.sl (X:=X) (w:=w) b (o+l * k) (cap-l) k ((rows.drop l).take (m-l)) (fun i j=>cv (l+i) j) hb hX (by omega) (by omega)
   (fun i hi=>by rw[hlen]at hi;rw[JbC _ _ _ _ hi];exact hk _ (by omega))
   (fun i hi j hj=>by
    rw[hlen]at hi
    have:=hc (l+i) (by omega) j hj
    rw[Nat.add_mul,<- Nat.add_assoc]at this
    exact this)
   (fun i hi j hj=>by rw[hlen]at hi;rw[JbC _ _ _ _ hi];exact hr _ (by omega) j hj)
   (fun i hi j hj=>by rw[hlen]at hi;exact h1' _ (by omega) j hj)
  rw[hlen]at this
  exact this
theorem Jdt(hT:TOK K.P K.T)(h:RelW K ρ slot B a w){o:Oper}{t e es eb:Nat}{x:Operand}{lo hi:Option Operand}(ho:o.op=.slice t x lo hi none){ti:TI}(hti:lk t K.T=some ti)(hk:ti.k=.slice e es eb){rows:List (List AV)}
 (hx:SRep ρ B (XX K.X0 ρ B) w (a.eval x) (.sl es rows)){l m:Int}(hlo:Vo (lo.map a.eval) 0 l)(hhi:Vo (hi.map a.eval) rows.length m)(h0:0<=l)(h1:l<=m)(h2:m<=rows.length) :
 Does K.P o a w (Post K slot B a [] (.sl es ((rows.drop l.toNat).take (m-l).toNat))):=by
 obtain⟨d,inf,z,kk⟩:=Jk (hT t ti hti)
 obtain⟨rfl,ei,hei,rfl,rfl⟩:=kk.sliceKind hk
 obtain⟨ad,cap,hv,hcap,hrep⟩:=Rep.sl_cut (show Rep _ w (a.eval x) (.sl ei.size rows)from hx) (l:=l.toNat) (m:=m.toNat) (by omega) (by omega)
 rw[show m.toNat-l.toNat=(m-l).toNat by omega]at hrep
 refine Does.pureV h (Qo ho ?_) (SRep.of_rep hrep)
 have hb:=Qm (P:=K.P) (w:=w) (isSlice:=true) (cap:=cap) hlo hhi h0 h1 (by omega)
 rw[hv]
 unfold Instr.sliceAt
 simp only[Ki,run_underlying kk.und,Ke,Option.map_none]
 unfold Instr.slice
 simp only[Ki,run_underlying kk.und,Ke,hb]
 simp[Go.sizeOf,typeInfo,hei,show m.toNat-l.toNat=(m-l).toNat by omega]
theorem Jhn(hT:TOK K.P K.T)(h:RelW K ρ slot B a w){o:Oper}{t:Nat}{x:Operand}{lo hi:Option Operand}(ho:o.op=.slice t x lo hi none){ti:TI}(hti:lk t K.T=some ti)(hk:ti.k=.str){s:List UInt8}
 (hx:a.eval x=.string ⟨s.toArray⟩){l m:Int}(hlo:Vo (lo.map a.eval) 0 l)(hhi:Vo (hi.map a.eval) s.length m)(h0:0<=l)(h1:l<=m)(h2:m<=s.length) :
 Does K.P o a w (Post K slot B a [] (.str ((s.drop l.toNat).take (m-l).toNat))):=by
 obtain⟨d,inf,z,kk⟩:=Jk (hT t ti hti)
 have:=kk.strKind hk
 subst this
 refine Does.pureV h (Qo ho (v:=.string ⟨((s.drop l.toNat).take (m-l).toNat).toArray⟩) ?_) (SRep.mk_str _)
 have hb:=Qm (P:=K.P) (w:=w) (isSlice:=false) (cap:=s.length) hlo hhi h0 h1 (by omega)
 rw[hx]
 unfold Instr.sliceAt
 simp only[Ki,run_underlying kk.und,Ke,Option.map_none]
 unfold Instr.slice
 have hsz:(⟨s.toArray⟩:ByteArray).size=s.length:=by simp[ByteArray.size]
 have he:(⟨s.toArray⟩:ByteArray).extract l.toNat m.toNat=⟨((s.drop l.toNat).take (m-l).toNat).toArray⟩:=by
  apply ByteArray.ext
  apply Array.ext'
  rw[Lib.extract_data]
  simp[show m.toNat-l.toNat=(m-l).toNat by omega]
 simp only[Ki,run_underlying kk.und,Ke,hsz]
 simp
 rw[hb]
 simp only[Ke,he]
theorem Jhp(hT:TOK K.P K.T)(h:RelW K ρ slot B a w){o:Oper}{t n e es:Nat}{x:Operand}(ho:o.op=.slice t x none none none){ti:TI}(hti:lk t K.T=some ti)(hk:ti.k=.arr n e es){k i j:Nat}{rows:List (List AV)}
 (hx:SRep ρ B (XX K.X0 ρ B) w (a.eval x) (.elt k rows i j))(hfit:j+n * es<=k)(hes:es ≠ 0)(hn:n<=maxLen) :
 Does K.P o a w (Post K slot B a [] (.sl es (Qc es n ((Ji rows i).drop j)))):=by
 obtain⟨d,inf,z,kk⟩:=Jk (hT t ti hti)
 obtain⟨rfl,_,ei,hei,rfl⟩:=kk.arrKind hk
 obtain⟨b,p,cs,hv,hb,hX,hi,hkk,hz,hc⟩:=Rep.elt_inv (show Rep _ w (a.eval x) (.elt k rows i j)from hx)
 have hrun:(Instr.sliceAt t (a.eval x) none none none).run K.P w=.ok (.slice (some ⟨b,p+j,none⟩) n n) w:=by
  rw[hv]
  unfold Instr.sliceAt
  have hb:=Qm (P:=K.P) (w:=w) (isSlice:=false) (len:=n) (cap:=n) (lo:=none) (hi:=none) (l:=0) (h:=n) (.inl ⟨rfl,rfl⟩) (.inl ⟨rfl,rfl⟩) (by omega) (by omega) (by omega)
  simp only[Int.toNat_zero,Km]at hb
  simp[run_underlying kk.und,Instr.sureAddr,hb,Go.sizeOf,typeInfo,hei,Addr.add]
 refine Does.pureV h (Qo ho hrun) (SRep.of_rep ?_)
 have hlen:(Qc ei.size n ((Ji rows i).drop j)).length=n:=QW _ _ _
 by_cases hn0:n=0
 . subst hn0
   exact .slE _ _ _
 have:=Rep.sl (X:=XX K.X0 ρ B) (w:=w) b (p+j) n ei.size (Qc ei.size n ((Ji rows i).drop j)) (fun q r=>cs.getD (j+q * ei.size+r) undef) hb hX (by omega) (by omega)
  (fun q hq=>by
   rw[hlen]at hq
   rw[XL _ _ _ _ hq,Kg,Kh,Kh,hkk]
   have:=J2 (j:=ei.size-1) (k:=ei.size) hq (by omega)
   omega)
  (fun q hq r hr=>by
   rw[hlen]at hq
   have hlt:=J2 hq hr
   have hcl:j+q * ei.size+r < cs.length:=by rw[hz.1,hkk];omega
   have:=hc (j+q * ei.size+r) _ (Kj hcl)
   rw[show p+j+q * ei.size+r=p+(j+q * ei.size+r) by omega,this]
   simp[List.getD_eq_getElem?_getD,List.getElem?_eq_getElem hcl])
  (fun q hq r hr=>by
   rw[hlen]at hq
   have hlt:=J2 hq hr
   obtain⟨u,hu,hcp⟩:=hz.at (i:=j+q * ei.size+r) (by rw[hkk];omega)
   rw[XL _ _ _ _ hq]
   have e1:cs.getD (j+q * ei.size+r) undef=u:=by simp[List.getD_eq_getElem?_getD,hu]
   have e2:nth ((((Ji rows i).drop j).drop (q * ei.size)).take ei.size) r=nth (Ji rows i) (j+q * ei.size+r):=by
    unfold nth
    rw[Ka,Ka,List.getElem?_take,if_pos hr,List.getElem?_drop,List.getElem?_drop,show j+(q * ei.size+r)=j+q * ei.size+r by omega]
   rw[e1,e2]
   exact hcp.2)
  (fun q hq r hr=>by
   rw[hlen]at hq
   have hlt:=J2 hq hr
   obtain⟨u,hu,hcp⟩:=hz.at (i:=j+q * ei.size+r) (by rw[hkk];omega)
   have e1:cs.getD (j+q * ei.size+r) undef=u:=by simp[List.getD_eq_getElem?_getD,hu]
   rw[e1]
   exact hcp.1)
 rw[hlen]at this
 exact this
theorem JiH(h:RelW K ρ slot B a w){o:Oper}{c:Call}{f:Operand}(ho:o.op=.call c)(hcc:c.callee=.value f){g:Nat}{first cap:List AV}{ins:List AV}
 (hf:SRep ρ B (XX K.X0 ρ B) w (a.eval f) (.fn (.func g) first cap))(hi:Xe ρ B (XX K.X0 ρ B) w a c.args.toList ins)
 {X:Nat->Prop}(hX:∀ b,X b->XX K.X0 ρ B b){args:List AV}(hargs:∀ vs:List Value,Z (SRep ρ B (XX K.X0 ρ B) w) vs (first++ins++cap)->Z (Rep X w) vs args){r:AV}{wr:BL}{av:AV}(hr:∀ w' v,Below w.heap.size w w'->RelW K ρ slot B a w'->ResR X w.heap.size w' v r->Post K slot B a wr av v w')
 (hc:PCall K.P K.G g args r):Does K.P o a w (Post K slot B a wr av):=by
 obtain⟨fn,body,hfn,hbody,hname⟩:=hc.callable
 obtain⟨fs,cs,hv,hf1,hf2⟩:=(show SRep1 ρ B (XX K.X0 ρ B) w (a.eval f) (.fn (.func g) first cap)from hf)
 have hz:=XE hi
 have z1:Z (SRep ρ B (XX K.X0 ρ B) w) ((List.range first.length).map fs) first:=by
  refine⟨by simp,fun i v x hv hx=>?_⟩
  have hlt:i < first.length:=(List.getElem?_eq_some_iff.1 hx).1
  rw[Kk,List.getElem?_range hlt]at hv
  simp at hv
  subst hv
  have:=hf1 i hlt
  rw[JV hx]at this
  cases x with
  | gv _ _=>exact this.elim
  | ax _=>exact(SRep0.ax this).elim
  | fn _ _ _=>exact SRep.of_rep this
  | _=>exact this
 have z2:Z (SRep ρ B (XX K.X0 ρ B) w) ((List.range cap.length).map cs) cap:=by
  refine⟨by simp,fun i v x hv hx=>?_⟩
  have hlt:i < cap.length:=(List.getElem?_eq_some_iff.1 hx).1
  rw[Kk,List.getElem?_range hlt]at hv
  simp at hv
  subst hv
  have:=hf2 i hlt
  rw[JV hx]at this
  cases x with
  | gv _ _=>exact this.elim
  | ax _=>exact(SRep0.ax this).elim
  | fn _ _ _=>exact SRep.of_rep this
  | _=>exact this
 have hza:=hargs _ ((z1.append hz).append z2)
 have hcall:=hc.run w X (((List.range first.length).map fs++c.args.toList.map a.eval++(List.range cap.length).map cs).toArray) (fun b hb=>h.xx_lt (hX b hb))
  (fun gg cells hg=>GlobOK.mono (Kr _) (fun _ _ _=>rfl) (fun b _ hn=>fun hx=>hn (hX b hx)) (h.glob' hg)) (by simpa using hza)
 intro r n next Q hn
 have hrun:(execOp a.eval o).run K.P w=.ok (.enter g (((List.range first.length).map fs++c.args.toList.map a.eval++(List.range cap.length).map cs).toArray)) w:=by
  unfold execOp
  rw[ho]
  simp only[Ki,resolve,hcc,hv,Deferred.ofValue,Sem.run_pure,Ke,invoke,callFunc,run_program,hfn]
  rw[if_neg (by simp[hname])]
  simp[hbody]
 refine⟨fun _ _=>trivial,?_⟩
 rw[show(fen r).round=r from rfl,X7 r hrun rfl]
 refine⟨fun h=>by simp[fen,Fence.wide]at h,callsIn_fen.2 (hcall.mono ?_)⟩
 rintro e w' ⟨v,rfl,hb,hrep⟩
 exact hn v w' (hr w' v hb (h.world hb) hrep)
theorem RelW.freshRes(h:RelW K ρ slot B a w){nid:Nat}(hf:Fresh slot B nid){w':World}(hb:Below w.heap.size w w'){v:Value}{e k:Nat}{rows:List (List AV)}(hv:Jcj (XX K.X0 ρ B) w.heap.size w' v e k rows) :
 Post K slot B a [(nid,.buf e k rows)] (.own nid rows.length) v w':=by
 obtain⟨hk,hm,⟨rfl,rfl⟩ | ⟨b,cap,cur,hbn,rfl,hh,hc1,hc2,hsz,hR⟩⟩:=hv
 . exact JbD (h.world hb) hf e k
 . have hlt:b < w'.heap.size:=(Array.getElem?_eq_some_iff.1 hh).1
   have h0:=h.world hb
   have hr:=h.replace nid nid (.buf e k rows) (some b) (Keeps.of_below hb h.le_size) hf.dead hf.zero (fun h=>h) (fun n h=>by cases h) (fun cells e=>hf.dead (by rw[e];trivial)) hf.slots hf.blks (fun b hlt _=>hb.block b hlt)
    (fun b' hp=>by cases hp;exact .inr ⟨hbn,hlt⟩) (fun _ _ _=>by
     unfold BlkOK
     rw[Jb]
     refine⟨hk,hm,.inr ⟨b,cur,Jb _ _ _,hh,hR.2.1,fun i hi j hj=>⟨(hR.2.2 i hi j hj).1,Rep.mono (Kr _) (fun _ _ _=>rfl) (fun x _ hn hx=>?_) (hR.2.2 i hi j hj).2⟩⟩⟩
     rcases hx with hx | ⟨id,ha,hp⟩
     . exact hn (.inl (.inl hx))
     . by_cases e:id=nid
       . subst e
         rw[Jb]at hp
         cases hp
         exact hn (.inr rfl)
       . rw[Jf _ _ e,Jf _ _ e]at ha
         rw[Jf _ _ e]at hp
         exact hn (.inl (.inr ⟨id,ha,hp⟩)))
   rw[Xq]at hr
   refine⟨_,hr.1,rfl,fun e' k' rows' hB=>?_⟩
   simp only[wrB,Jb]at hB
   cases hB
   exact⟨rfl,.inr ⟨b,cap,cur,Jb _ _ _,rfl,hh,hc1,hc2,hsz⟩⟩
theorem RelW.freshBox(h:RelW K ρ slot B a w){nid:Nat}(hf:Fresh slot B nid){w':World}(hb:Below w.heap.size w w'){v:Value}{g:Nat}{cells:List AV}(hv:JmP (XX K.X0 ρ B) w.heap.size w' v g cells) :
 Post K slot B a [(nid,.box cells)] (.fn (.func g) [] [.ptr nid 0]) v w':=by
 obtain⟨b,cs,T,hbn,rfl,hh,hsz,hR⟩:=hv
 have hlt:b < w'.heap.size:=(Array.getElem?_eq_some_iff.1 hh).1
 have hr:=h.replace nid nid (.box cells) (some b) (Keeps.of_below hb h.le_size) hf.dead hf.zero (fun h=>h) (fun n h=>by cases h) (fun cells e=>hf.dead (by rw[e];trivial)) hf.slots hf.blks (fun b hlt _=>hb.block b hlt)
  (fun b' hp=>by cases hp;exact .inr ⟨hbn,hlt⟩) (fun _ _ _=>by
   unfold BlkOK
   rw[Jb]
   refine⟨b,cs,T,Jb _ _ _,hh,hsz,fun j hj=>⟨(hR j hj).1,SRep1.of_rep (Rep.mono (Kr _) (fun _ _ _=>rfl) (fun x _ hn hx=>?_) (hR j hj).2)⟩⟩
   rcases hx with hx | ⟨id,ha,hp⟩
   . exact hn (.inl (.inl hx))
   . by_cases e:id=nid
     . subst e
       rw[Jb]at hp
       cases hp
       exact hn (.inr rfl)
     . rw[Jf _ _ e,Jf _ _ e]at ha
       rw[Jf _ _ e]at hp
       exact hn (.inl (.inr ⟨id,ha,hp⟩)))
 rw[Xq]at hr
 refine⟨_,hr.1,⟨fun _=>undef,fun _=>.pointer (some ⟨b,0,none⟩),rfl,fun i hi=>absurd hi (K6 i),fun i hi=>?_⟩⟩
 have hi0:i=0:=by simpa using hi
 subst hi0
 exact⟨rfl,fun cells' _=>⟨b,Jb _ _ _,rfl⟩⟩
end
def HB(bs:List ABlk):Nat->ABlk:=Jr (Jn2 bs)
def OB(bs:List ABlk):Nat->ABlk:=Jr (Jpz 1 bs)
theorem nbeq{a b:Nat}(h:a ≠ b):a.beq b=false:=by
 cases hb:a.beq b
 . rfl
 exact absurd (Kc hb) h
theorem JbG:∀ (bs:List ABlk) (i c:Nat),lk c (Jpz i bs)=if i<=c then bs[c-i]? else none
 | [],i,c=>by simp[Jpz,lk]
 | b::l,i,c=>by
  simp only[Jpz,lk]
  by_cases e:i=c
  . subst e;rw[Nat.beq_refl];simp
  rw[nbeq e,JbG l (i+1) c]
  by_cases h:i<=c
  . rw[if_pos h,if_pos (show i+1<=c by omega),show c-i=(c-(i+1))+1 by omega]
    simp
  rw[if_neg h,if_neg (show ¬ i+1<=c by omega)]
  simp
theorem Jpt(bs:List ABlk):OB bs 0=.dead:=by
 unfold OB Jr
 rw[JbG]
 rfl
theorem XU(bs:List ABlk)(c:Nat):OB bs (c+1)=bs.getD c .dead:=by
 unfold OB Jr
 rw[JbG,if_pos (by omega),Nat.add_sub_cancel,Ka]
theorem Jpu(bs:List ABlk):HB bs 0=.pins (bs.length+1):=rfl
theorem Jjk(bs:List ABlk)(c:Nat):HB bs (c+1)=bs.getD c .dead:=by
 unfold HB Jr Jn2
 simp only[lk]
 rw[nbeq (show(0:Nat) ≠ c+1 by omega),if_neg (by simp),JbG,if_pos (by omega),Nat.add_sub_cancel,Ka]
structure HandPre(bs:List ABlk)(args:List AV)(X:Nat->Prop)(ρ:Pl)(w:World)(vs:Array Value):Prop where
 x0:∀ b,X b->b < w.heap.size
 live:∀ id b,(HB bs id).alive->ρ id=some b->¬ X b/\b < w.heap.size
 inj:∀ id id' b,(HB bs id).alive->(HB bs id').alive->ρ id=some b->ρ id'=some b->id=id'
 blks:∀ id,BlkOK ρ (HB bs) (XX X ρ (HB bs)) w id
 vals:Z (SRep ρ (HB bs) (XX X ρ (HB bs)) w) vs.toList args
structure HandPost(bs:List ABlk)(X:Nat->Prop)(ρ:Pl)(w:World)(r:AV)(fin:List ABlk)(v:Value)(w':World)(ρ':Pl):Prop where
 keeps:Keeps (own ρ (HB bs)) w.heap.size w w'
 pin:∀ c,c < bs.length->(OB fin (c+1)).alive->ρ' (c+1)=ρ (c+1)/\∀ b,ρ (c+1)=some b->sameSize w w' b
 live:∀ id b,(OB fin id).alive->ρ' id=some b->(own ρ (HB bs) b ∨ w.heap.size<=b)/\¬ X b/\b < w'.heap.size
 inj:∀ id id' b,(OB fin id).alive->(OB fin id').alive->ρ' id=some b->ρ' id'=some b->id=id'
 blks:∀ id,BlkOK ρ' (OB fin) (XX X ρ' (OB fin)) w' id
 val:SRep ρ' (OB fin) (XX X ρ' (OB fin)) w' v r
structure WCall(P:Program)(G:List (Nat × List AV))(f:Nat)(args:List AV)(bs:List ABlk)(r:AV)(fin:List ABlk):Prop where
 callable:VB P f
 run:∀ (w:World) (X:Nat->Prop) (ρ:Pl) (vs:Array Value),(∀ g cells,lk g G=some cells->GlobOK (XX X ρ (HB bs)) w g cells)->HandPre bs args X ρ w vs →
  Calls P f vs w fun e w'=>∃ v ρ',e=.returned v/\HandPost bs X ρ w r fin v w' ρ'
def ABlk.dat:ABlk->Prop
 | .box _ | .buf _ _ _ | .map _ | .iter _ _=>True
 | _=>False
section
variable {ρ ρ' : Pl} {B B' : Nat → ABlk} {X X' : Nat → Prop} {w : World} {v : Value} {a : AV} {g : Nat → Nat}
theorem mapNB_alive{b:ABlk}:(JM g b).alive ↔ b.alive:=by cases b <;> simp[JM,ABlk.alive]
theorem JcG{b:ABlk}{c:List AV}(h:JM g b=.box c):∃ c',b=.box c'/\c=c'.map (VW g):=by
 cases b <;> simp[JM]at h
 exact⟨_,rfl,h.symm⟩
theorem W7{b:ABlk}{e k:Nat}{rows:List (List AV)}(h:JM g b=.buf e k rows):b=.buf e k rows:=by
 cases b <;> simp[JM]at h
 rw[h.1,h.2.1,h.2.2]
theorem JhX{b:ABlk}{es:List (AV × AV)}(h:JM g b=.map es):b=.map es:=by
 cases b <;> simp[JM]at h
 rw[h]
theorem Jf2{b:ABlk}{l:List UInt8}{p:Nat}(h:JM g b=.iter l p):b=.iter l p:=by
 cases b <;> simp[JM]at h
 rw[h.1,h.2]
theorem SRep0.mapN(hz:0 ∉ mids0 a)(hX:∀ b,b < w.heap.size->¬ X b->¬ X' b)(H:∀ id,id ∈ mids0 a->(B' (g id)).dat->B' (g id)=JM g (B id)/\ρ' (g id)=ρ id)
 (h:SRep0 ρ B X w v a):SRep0 ρ' B' X' w v (Jf3 g a):=by
 cases a with
 | ptr id o =>
  refine⟨h.1,fun cells hc=>?_⟩
  obtain⟨h1,h2⟩:=H id (by simp[mids0]) (by rw[hc];trivial)
  obtain⟨c,h3,_⟩:=JcG (h1.symm.trans hc)
  obtain⟨b,h4,h5⟩:=h.2 c h3
  exact⟨b,h2.trans h4,h5⟩
 | optr id i j =>
  refine⟨h.1,fun e k rows hc=>?_⟩
  obtain⟨h1,h2⟩:=H id (by simp[mids0]) (by rw[hc];trivial)
  obtain⟨b,h4,h5⟩:=h.2 e k rows (W7 (h1.symm.trans hc))
  exact⟨b,h2.trans h4,h5⟩
 | own id n =>
  refine⟨h.1,fun e k rows hc=>?_⟩
  obtain⟨h1,h2⟩:=H id (by simp[mids0]) (by rw[hc];trivial)
  obtain⟨hn,h4⟩:=h.2 e k rows (W7 (h1.symm.trans hc))
  refine⟨hn,?_⟩
  rcases h4 with⟨h5,h6⟩ | ⟨b,cap,cur,h5,h6⟩
  . exact .inl ⟨h2.trans h5,h6⟩
  exact .inr ⟨b,cap,cur,h2.trans h5,h6⟩
 | ref id =>
  refine⟨h.1,fun es hc=>?_,fun l p hc=>?_⟩
  . obtain⟨h1,h2⟩:=H id (by simp[mids0]) (by rw[hc];trivial)
    obtain⟨b,h4,h5⟩:=h.2.1 es (JhX (h1.symm.trans hc))
    exact⟨b,h2.trans h4,h5⟩
  obtain⟨h1,h2⟩:=H id (by simp[mids0]) (by rw[hc];trivial)
  obtain⟨b,h4,h5⟩:=h.2.2 l p (Jf2 (h1.symm.trans hc))
  exact⟨b,h2.trans h4,h5⟩
 | bsl id n =>
  refine⟨h.1,fun c hc=>?_⟩
  obtain⟨h1,h2⟩:=H id (by simp[mids0]) (by rw[hc];trivial)
  obtain⟨c',h3, -⟩:=JcG (h1.symm.trans hc)
  obtain⟨b,cap,h4,h5⟩:=h.2 c' h3
  exact⟨b,cap,h2.trans h4,h5⟩
 | osl id lo n =>
  refine⟨h.1,fun e k rows hc=>?_⟩
  obtain⟨h1,h2⟩:=H id (by simp[mids0]) (by rw[hc];trivial)
  obtain⟨hn,h3,h4⟩:=h.2 e k rows (W7 (h1.symm.trans hc))
  refine⟨hn,h3,fun hlt=>?_⟩
  obtain⟨b,cap,h5,h6⟩:=h4 hlt
  exact⟨b,cap,h2.trans h5,h6⟩
 | yld l=>exact h
 | yb l k n=>simp[mids0]at hz
 | gv g a=>exact h
 | _=>exact Rep.mono (Kr _) (fun _ _ _=>rfl) hX h
theorem JbB{f:AV->AV}{l:List AV}{i:Nat}(h:i < l.length):nth (l.map f) i=f (nth l i):=by
 simp[nth,List.getD_eq_getElem?_getD,List.getElem?_eq_getElem h]
theorem SRep1.mapN(hz:0 ∉ mids1 a)(hX:∀ b,b < w.heap.size->¬ X b->¬ X' b)(H:∀ id,id ∈ mids1 a->(B' (g id)).dat->B' (g id)=JM g (B id)/\ρ' (g id)=ρ id)
 (h:SRep1 ρ B X w v a):SRep1 ρ' B' X' w v (VW g a):=by
 by_cases hf:∃ f l m,a=.fn f l m
 . obtain⟨f,l,m,rfl⟩:=hf
   obtain⟨fs,cs,rfl,h1,h2⟩:=h
   have hm:∀ x,x ∈ l++m->∀ id,id ∈ mids0 x->id ∈ mids1 (.fn f l m):=fun x hx id hid=>by
    simp only[mids1,Kn]
    exact⟨x,hx,hid⟩
   refine⟨fs,cs,by simp,fun i hi=>?_,fun i hi=>?_⟩
   . have hi':i < l.length:=by simpa using hi
     rw[JbB hi']
     have hx:nth l i ∈ l++m:=List.mem_append_left _ (Qe hi')
     exact SRep0.mapN (fun hn=>hz (hm _ hx _ hn)) hX (fun id hid=>H id (hm _ hx id hid)) (h1 i hi')
   have hi':i < m.length:=by simpa using hi
   rw[JbB hi']
   have hx:nth m i ∈ l++m:=List.mem_append_right _ (Qe hi')
   exact SRep0.mapN (fun hn=>hz (hm _ hx _ hn)) hX (fun id hid=>H id (hm _ hx id hid)) (h2 i hi')
 . have e1:SRep1 ρ B X w v a=SRep0 ρ B X w v a:=by cases a <;> first | exact absurd ⟨_,_,_,rfl⟩ hf | rfl
   have e2:SRep1 ρ' B' X' w v (VW g a)=SRep0 ρ' B' X' w v (Jf3 g a):=by cases a <;> first | exact absurd ⟨_,_,_,rfl⟩ hf | rfl
   have e3:mids1 a=mids0 a:=by cases a <;> first | exact absurd ⟨_,_,_,rfl⟩ hf | rfl
   rw[e1]at h
   rw[e2]
   rw[e3]at hz H
   exact SRep0.mapN hz hX H h
theorem SRep.mapN(hg:isG a=false)(hz:0 ∉ mids1 a)(hX:∀ b,b < w.heap.size->¬ X b->¬ X' b)(H:∀ id,id ∈ mids1 a->(B' (g id)).dat->B' (g id)=JM g (B id)/\ρ' (g id)=ρ id)
 (h:SRep ρ B X w v a):SRep ρ' B' X' w v (VW g a):=by
 have e1:SRep ρ B X w v a=SRep1 ρ B X w v a:=by cases a <;> first | (simp[isG]at hg;done) | rfl
 rw[e1]at h
 exact SRep.of1 (SRep1.mapN hz hX H h)
theorem SRep.mapX(hg:JlY a=false)(hz:0 ∉ Qn a)(hX:∀ b,b < w.heap.size->¬ X b->¬ X' b)(H:∀ id,id ∈ Qn a->(B' (g id)).dat->B' (g id)=JM g (B id)/\ρ' (g id)=ρ id)
 (h:SRep ρ B X w v a):SRep ρ' B' X' w v (mapX g a):=by
 by_cases hx:∃ l,a=.ax l
 . obtain⟨l,rfl⟩:=hx
   obtain⟨arr,rfl,hz2⟩:=h
   refine⟨arr,rfl,by simpa using hz2.1,fun i v x hv hx=>?_⟩
   rw[Kk]at hx
   cases hl:l[i]? with
   | none=>rw[hl]at hx;cases hx
   | some y =>
    rw[hl]at hx
    cases hx
    obtain⟨q1,q2⟩:=hz2.2 i v y hv hl
    have hm:∀ id,id ∈ mids1 y->id ∈ Qn (.ax l):=fun id hid=>by
     simp only[Qn,Kn]
     exact⟨y,List.mem_iff_getElem?.2 ⟨i,hl⟩,hid⟩
    exact⟨q1,SRep1.mapN (fun hn=>hz (hm _ hn)) hX (fun id hid=>H id (hm id hid)) q2⟩
 . have hg2:isG a=false:=by cases a <;> first | rfl | (simp[JlY]at hg;done) | exact absurd ⟨_,rfl⟩ hx
   have e1:Qn a=mids1 a:=by cases a <;> first | rfl | (simp[JlY]at hg;done) | exact absurd ⟨_,rfl⟩ hx
   have e2:Go.Av.mapX g a=VW g a:=by cases a <;> first | rfl | exact absurd ⟨_,rfl⟩ hx
   rw[e1]at hz H
   rw[e2]
   exact SRep.mapN hg2 hz hX H h
theorem BlkOK.mapN{id:Nat}(hB:B' (g id)=JM g (B id))(hρ:ρ' (g id)=ρ id)(hX:∀ b,b < w.heap.size->¬ X b->¬ X' b)
 (hz:0 ∉ JK (B id))(H:∀ j,j ∈ JK (B id)->(B' (g j)).dat->B' (g j)=JM g (B j)/\ρ' (g j)=ρ j)(h:BlkOK ρ B X w id):BlkOK ρ' B' X' w (g id):=by
 unfold BlkOK at h ⊢
 rw[hB]
 cases hb:B id with
 | box cells =>
  rw[hb]at h hz H
  obtain⟨b,cs,T,h1,h2,h3,h4⟩:=h
  refine⟨b,cs,T,hρ.trans h1,h2,by simpa using h3,fun j hj=>?_⟩
  have hj':j < cells.length:=by simpa using hj
  rw[JbB hj']
  have hm:∀ i,i ∈ mids1 (nth cells j)->i ∈ JK (.box cells):=fun i hi=>by
   simp only[JK,Kn]
   exact⟨_,Qe hj',hi⟩
  exact⟨(h4 j hj').1,SRep1.mapN (fun hn=>hz (hm _ hn)) hX (fun i hi=>H i (hm i hi)) (h4 j hj').2⟩
 | buf e k rows =>
  rw[hb]at h
  obtain⟨hk,hm,h⟩:=h
  refine⟨hk,hm,?_⟩
  rcases h with⟨h1,h2⟩ | ⟨b,cur,hr,hh,hsz,hc⟩
  . exact .inl ⟨hρ.trans h1,h2⟩
  exact .inr ⟨b,cur,hρ.trans hr,hh,hsz,fun i hi j hj=>⟨(hc i hi j hj).1,Rep.mono (Kr _) (fun _ _ _=>rfl) hX (hc i hi j hj).2⟩⟩
 | map es =>
  rw[hb]at h
  obtain⟨b,arr,clock,hr,hh,hm⟩:=h
  exact⟨b,arr,clock,hρ.trans hr,hh,hm.mono (Kr _) (fun _ _ _=>rfl) hX⟩
 | iter l pos =>
  rw[hb]at h
  obtain⟨b,s,hr,hh,hm⟩:=h
  exact⟨b,s,hρ.trans hr,hh,hm⟩
 | pins n =>
  rw[hb]at h
  exact hρ.trans h
 | _=>trivial
end
theorem Vr{id:Nat}:∀ {σ:List Nat} {c:Nat},UO id σ=some c->σ[c]?=some id
 | x::l,c,h=>by
  simp only[UO]at h
  split at h
  . rename_i e
    cases h
    rw[Kc e]
    rfl
  split at h
  . rename_i i hi
    cases h
    simpa using Vr hi
  cases h
theorem Jcz{id:Nat}:∀ {σ:List Nat},UO id σ=none->id ∉ σ
 | [],_=>by simp
 | x::l,h=>by
  simp only[UO]at h
  split at h
  . cases h
  rename_i e
  split at h
  . cases h
  rename_i hl
  simp only[Kq,not_or]
  exact⟨fun e2=>e (by rw[e2];exact Nat.beq_refl _),Jcz hl⟩
theorem Xx{id:Nat}:∀ {σ:List Nat} {c:Nat},Ug σ=true->σ[c]?=some id->UO id σ=some c
 | x::l,0,h,hc=>by
  simp only[List.getElem?_cons_zero,Option.some.injEq]at hc
  subst hc
  simp only[UO,Nat.beq_refl,if_true]
 | x::l,c+1,h,hc=>by
  simp only[List.getElem?_cons_succ]at hc
  simp only[Ug,Kd,Ks]at h
  have hne:x ≠ id:=fun e=>by
   have:=List.any_eq_false.1 h.1 id (List.mem_of_getElem? hc)
   rw[e]at this
   exact this (Nat.beq_refl _)
  simp only[UO,nbeq hne,Bool.false_eq_true,if_false,Xx h.2 hc]
theorem JdN{id:Nat}{σ:List Nat}{c:Nat}(h:UO id σ=some c):c < σ.length:=(List.getElem?_eq_some_iff.1 (Vr h)).1
theorem JeT{id:Nat}{σ:List Nat}(h:id ∉ σ):UO id σ=none:=by
 cases hp:UO id σ with
 | none=>rfl
 | some c=>exact absurd (List.mem_of_getElem? (Vr hp)) h
theorem Wo{B:Nat->ABlk}{g:Nat->Nat}{nid:Nat}(id:Nat):∀ (σ:List Nat) (fin:List ABlk),σ.length<=fin.length →
 wrB B (U4 g nid σ fin) id=match UO id σ with
  | some c=>JM g (fin.getD c .dead)
  | none=>match fin[σ.length]? with
   | some b=>if id=nid then JM g b else B id
   | none=>B id
 | [],[],_=>rfl
 | [],b::fin,_=>by
  simp only[U4,wrB,UO,List.length_nil,List.getElem?_cons_zero,upd]
 | x::σ,[],h=>by simp at h
 | x::σ,b::fin,h=>by
  have ih:=Wo (B:=B) (g:=g) (nid:=nid) id σ fin (by simpa using h)
  simp only[U4,wrB,upd,UO]
  by_cases e:id=x
  . subst e
    simp only[if_true,Nat.beq_refl]
    rfl
  rw[if_neg e,ih,nbeq (fun e2=>e e2.symm)]
  cases UO id σ with
  | some c=>simp
  | none=>simp
theorem Jki{g g':Nat->Nat}{x y:ABlk}{cs:List Cd}(h:mkC (JM g' x) y=some cs)(hc:All cs)(ha:y.alive):sameMake x (JM g y)/\x.alive:=by
 cases x <;> cases y <;> simp[mkC,JM]at h <;> first
  | exact⟨trivial,trivial⟩
  | exact ha.elim
  | (obtain⟨⟨h1,h2⟩,rfl⟩:=h
     exact⟨⟨h1,h2,hc.1⟩,trivial⟩)
theorem JnK{g':Nat->Nat}{c:List AV}{y:ABlk}{cs:List Cd}(h:mkC (JM g' (.box c)) y=some cs):∃ c',y=.box c':=by
 cases y <;> simp[mkC,JM]at h
 exact⟨_,rfl⟩
theorem All.app:∀ {l m:List Cd},All (l++m)->All l/\All m
 | [],_,h=>⟨trivial,h⟩
 | ⟨_,_⟩::_,_,h=>⟨⟨h.1,(All.app h.2).1⟩,(All.app h.2).2⟩
theorem Je0:∀ {l m:List ABlk} {cs:List Cd},JbF l m=some cs->All cs->l.length<=m.length/\m.length<=l.length+1/\(∀ b,m[l.length]?=some b->Jkh b=true) /\
 ∀ (c:Nat) (x y:ABlk),l[c]?=some x->m[c]?=some y->∃ cs',mkC x y=some cs'/\All cs'
 | [],[],cs,h,_=>⟨Kr _,by simp,fun b hb=>by simp at hb,fun c x y hx=>by simp at hx⟩
 | [],[b],cs,h,_=>by
  simp only[JbF]at h
  split at h
  . rename_i hb
    exact⟨by simp,by simp,fun b' hb'=>by simp at hb';rw[<- hb'];exact hb,fun c x y hx=>by simp at hx⟩
  cases h
 | [],_::_::_,cs,h,_=>by simp[JbF]at h
 | _::_,[],cs,h,_=>by simp[JbF]at h
 | x::l,y::m,cs,h,hc=>by
  simp only[JbF]at h
  split at h
  . rename_i c1 c2 h1 h2
    cases h
    obtain⟨g1,g2⟩:=hc.app
    obtain⟨k1,k2,k3,k4⟩:=Je0 h2 g2
    refine⟨by simpa using k1,by simpa using k2,fun b hb=>k3 b (by simpa using hb),fun c x' y' hx hy=>?_⟩
    cases c with
    | zero =>
     simp at hx hy
     subst hx;subst hy
     exact⟨c1,h1,g1⟩
    | succ c=>exact k4 c x' y' (by simpa using hx) (by simpa using hy)
  cases h
def Jbc(σ:List Nat)(ρ:Pl):Pl
 | 0=>none
 | c+1=>match σ[c]? with
  | some id=>ρ id
  | none=>none
def UT(σ:List Nat)(B:Nat->ABlk):List ABlk:=σ.map fun id=>JM (JaG σ) (B id)
theorem Vn{σ:List Nat}{B:Nat->ABlk}{c id:Nat}(h:σ[c]?=some id):HB (UT σ B) (c+1)=JM (JaG σ) (B id):=by
 rw[Jjk,UT,Ka,Kk,h]
 rfl
theorem Jap{σ:List Nat}{B:Nat->ABlk}{c:Nat}(h:σ[c]?=none):HB (UT σ B) (c+1)=.dead:=by
 rw[Jjk,UT,Ka,Kk,h]
 rfl
theorem Jb3{σ:List Nat}{c id:Nat}(hnd:Ug σ=true)(h:σ[c]?=some id):JaG σ id=c+1:=by
 unfold JaG
 rw[Xx hnd h]
section
variable {K : Ctx} {ρ : Pl} {slot : Nat → Option AV} {B : Nat → ABlk} {a : Act} {w : World} {σ : List Nat}
theorem own_can{b:Nat}:own (Jbc σ ρ) (HB (UT σ B)) b ↔ ∃ id,id ∈ σ/\(B id).alive/\ρ id=some b:=by
 constructor
 . rintro⟨c,ha,hr⟩
   cases c with
   | zero=>cases hr
   | succ c =>
    cases hc:σ[c]? with
    | none=>rw[Jap hc]at ha;exact ha.elim
    | some id =>
     rw[Vn hc]at ha
     simp only[Jbc,hc]at hr
     exact⟨id,List.mem_of_getElem? hc,mapNB_alive.1 ha,hr⟩
 rintro⟨id,hm,ha,hr⟩
 obtain⟨c,hc,e⟩:=List.mem_iff_getElem.1 hm
 have hc':σ[c]?=some id:=by rw[Kj hc,e]
 exact⟨c+1,by rw[Vn hc'];exact mapNB_alive.2 ha,by simp only[Jbc,hc'];exact hr⟩
def Joq(K:Ctx)(ρ:Pl)(B:Nat->ABlk)(σ:List Nat)(b:Nat):Prop:=XX K.X0 ρ B b/\¬ own (Jbc σ ρ) (HB (UT σ B)) b
theorem Jel:XX (Joq K ρ B σ) (Jbc σ ρ) (HB (UT σ B))=XX K.X0 ρ B:=by
 funext b
 refine propext ⟨?_,fun h=>?_⟩
 . rintro(h | h)
   . exact h.1
   obtain⟨id,_,ha,hr⟩:=own_can.1 h
   exact .inr ⟨id,ha,hr⟩
 by_cases ho:own (Jbc σ ρ) (HB (UT σ B)) b
 . exact .inr ho
 exact .inl ⟨h,ho⟩
theorem canH(hnd:Ug σ=true)(id:Nat)(hd:(HB (UT σ B) (JaG σ id)).dat):HB (UT σ B) (JaG σ id)=JM (JaG σ) (B id)/\Jbc σ ρ (JaG σ id)=ρ id:=by
 cases hp:UO id σ with
 | none =>
  have e:JaG σ id=0:=by unfold JaG;rw[hp]
  rw[e,Jpu]at hd
  exact hd.elim
 | some c =>
  have hc:=Vr hp
  rw[Jb3 hnd hc]
  exact⟨Vn hc,by simp only[Jbc,hc]⟩
theorem RelW.handPre(h:RelW K ρ slot B a w)(hnd:Ug σ=true)(h0:0 ∉ σ)(hz0:∀ id,id ∈ σ->0 ∉ JK (B id)){args:List AV}{vs:Array Value}(hz:Z (SRep ρ B (XX K.X0 ρ B) w) vs.toList args)(hg:∀ x,x ∈ args->isG x=false)(hs:∀ x,x ∈ args->∀ id,id ∈ mids1 x->id ∈ σ) :
 HandPre (UT σ B) (args.map (VW (JaG σ))) (Joq K ρ B σ) (Jbc σ ρ) w vs:=by
 refine⟨fun b hb=>h.xx_lt hb.1,fun c b ha hr=>?_,fun c c' b ha ha' hr hr'=>?_,fun c=>?_,?_⟩
 . have ho:own (Jbc σ ρ) (HB (UT σ B)) b:=⟨c,ha,hr⟩
   refine⟨fun hx=>hx.2 ho,?_⟩
   obtain⟨id,_,ha',hr'⟩:=own_can.1 ho
   exact(h.live id b ha' hr').2.2
 . have key:∀ c,(HB (UT σ B) c).alive->Jbc σ ρ c=some b->∃ d id,c=d+1/\σ[d]?=some id/\(B id).alive/\ρ id=some b:=by
    intro c ha hr
    cases c with
    | zero=>cases hr
    | succ d =>
     cases hd:σ[d]? with
     | none=>rw[Jap hd]at ha;exact ha.elim
     | some id =>
      rw[Vn hd]at ha
      simp only[Jbc,hd]at hr
      exact⟨d,id,rfl,hd,mapNB_alive.1 ha,hr⟩
   obtain⟨d,id,rfl,hd,g1,g2⟩:=key c ha hr
   obtain⟨d',id',rfl,hd',g1',g2'⟩:=key c' ha' hr'
   have e:=h.inj id id' b g1 g1' g2 g2'
   subst e
   have e1:=Xx hnd hd
   rw[Xx hnd hd']at e1
   simp only[Option.some.injEq]at e1
   rw[e1]
 . rw[Jel]
   cases c with
   | zero=>rfl
   | succ d =>
    cases hd:σ[d]? with
    | none=>exact Jy (by rw[Jap hd];exact fun h=>h)
    | some id =>
     rw[<- Jb3 hnd hd]
     have:=BlkOK.mapN (g:=JaG σ) (B':=HB (UT σ B)) (ρ':=Jbc σ ρ) (X':=XX K.X0 ρ B) (id:=id) (by rw[Jb3 hnd hd];exact Vn hd) (by rw[Jb3 hnd hd];simp only[Jbc,hd]) (fun _ _ hn=>hn) (hz0 id (List.mem_of_getElem? hd))
      (fun j _ hdj=>canH hnd j hdj) (h.blks id)
     exact this
 . rw[Jel]
   refine⟨by simpa using hz.1,fun i v x hv hx=>?_⟩
   rw[Kk]at hx
   cases hai:args[i]? with
   | none=>rw[hai]at hx;cases hx
   | some y =>
    rw[hai]at hx
    simp only[Option.map_some,Option.some.injEq]at hx
    subst hx
    have hm:=List.mem_of_getElem? hai
    exact SRep.mapN (hg y hm) (fun hn=>h0 (hs y hm 0 hn)) (fun _ _ hn=>hn) (fun id _ hd=>canH hnd id hd) (hz.2 i v y hv hai)
def JkZ(σ:List Nat)(nid:Nat)(ρ ρ1:Pl):Pl:=fun id=>match UO id σ with
 | some c=>ρ1 (c+1)
 | none=>if id=nid then ρ1 (σ.length+1)else ρ id
theorem RelW.handed(h:RelW K ρ slot B a w)(hnd:Ug σ=true)(h0:0 ∉ σ){nid:Nat}(hf:Fresh slot B nid)(hn:nid ∉ σ){fin:List ABlk}{cs:List Cd}(hmk:JbF (UT σ B) fin=some cs)(hcs:All cs)
 {r:AV}(hrg:JlY r=false)(hri:∀ id,id ∈ Qn r->inN fin.length id=true)(hfi:∀ b,b ∈ fin->∀ id,id ∈ JK b->inN fin.length id=true){v:Value}{w':World}{ρ1:Pl}
 (p:HandPost (UT σ B) (Joq K ρ B σ) (Jbc σ ρ) w r fin v w' ρ1):Post K slot B a (U4 (unN σ nid) nid σ fin) (mapX (unN σ nid) r) v w':=by
 obtain⟨m1,m2,m3,m4⟩:=Je0 hmk hcs
 have hlen:(UT σ B).length=σ.length:=Kb _
 rw[hlen]at m1 m2 m3
 obtain⟨g,hgd⟩:∃ g,unN σ nid=g:=⟨_,rfl⟩
 rw[hgd]
 obtain⟨B2,hB2⟩:∃ B2,wrB B (U4 g nid σ fin)=B2:=⟨_,rfl⟩
 obtain⟨ρ2,hρ2⟩:∃ ρ2,JkZ σ nid ρ ρ1=ρ2:=⟨_,rfl⟩
 have hpn:UO nid σ=none:=JeT hn
 -- the blocks behind it
 have hBs:∀ id c,UO id σ=some c->B2 id=JM g (OB fin (c+1))/\ρ2 id=ρ1 (c+1):=fun id c hc=>by
  rw[<- hB2,<- hρ2,Wo id σ fin m1,XU]
  unfold JkZ
  rw[hc]
  exact⟨rfl,rfl⟩
 have hBo:∀ id,UO id σ=none->id ≠ nid->B2 id=B id/\ρ2 id=ρ id:=fun id hc hne=>by
  rw[<- hB2,<- hρ2,Wo id σ fin m1]
  unfold JkZ
  rw[hc]
  simp only[if_neg hne]
  cases fin[σ.length]? <;> exact⟨rfl,trivial⟩
 have hBn:(fin[σ.length]?=none/\B2 nid=B nid) ∨ (∃ b,fin[σ.length]?=some b/\Jkh b=true/\B2 nid=JM g b/\B2 nid=JM g (OB fin (σ.length+1))/\ρ2 nid=ρ1 (σ.length+1)):=by
  have e1:B2 nid=match fin[σ.length]? with
   | some b=>if nid=nid then JM g b else B nid
   | none=>B nid:=by
   rw[<- hB2,Wo nid σ fin m1,hpn]
  cases hb:fin[σ.length]? with
  | none=>rw[hb]at e1;exact .inl ⟨rfl,e1⟩
  | some b =>
   rw[hb]at e1
   simp only[if_true]at e1
   refine .inr ⟨b,rfl,m3 b hb,e1,?_,?_⟩
   . rw[e1,XU,Ka,hb];rfl
   rw[<- hρ2];unfold JkZ;rw[hpn];simp only[if_true]
 have hgat:∀ c id,σ[c]?=some id->g (c+1)=id:=fun c id hc=>by
  rw[<- hgd]
  show σ.getD c nid=id
  rw[Ka,hc];rfl
 have hgn:g (σ.length+1)=nid:=by
  rw[<- hgd]
  show σ.getD σ.length nid=nid
  rw[Ka,List.getElem?_eq_none (Kr _)];rfl
 have hcls:∀ id,(B2 id).alive->(∃ c,c<=σ.length/\g (c+1)=id/\B2 id=JM g (OB fin (c+1))/\ρ2 id=ρ1 (c+1)/\(OB fin (c+1)).alive/\((c < σ.length/\σ[c]?=some id) ∨ (c=σ.length/\id=nid))) ∨ (UO id σ=none/\id ≠ nid/\B2 id=B id/\ρ2 id=ρ id/\(B id).alive):=by
  intro id ha
  cases hp:UO id σ with
  | some c =>
   obtain⟨e1,e2⟩:=hBs id c hp
   have hc:=Vr hp
   exact .inl ⟨c,K7 (JdN hp),hgat c id hc,e1,e2,by rw[e1]at ha;exact mapNB_alive.1 ha,.inl ⟨JdN hp,hc⟩⟩
  | none =>
   by_cases e:id=nid
   . subst e
     rcases hBn with⟨_,e1⟩ | ⟨b,_,_,_,e1,e2⟩
     . rw[e1]at ha;exact absurd ha hf.dead
     exact .inl ⟨σ.length,Kr _,hgn,e1,e2,by rw[e1]at ha;exact mapNB_alive.1 ha,.inr ⟨rfl,rfl⟩⟩
   obtain⟨e1,e2⟩:=hBo id hp e
   exact .inr ⟨rfl,e,e1,e2,by rw[e1]at ha;exact ha⟩
 -- a block of the list, as it was
 have hwas:∀ c id,σ[c]?=some id->(OB fin (c+1)).alive->sameMake (B id) (JM g (OB fin (c+1)))/\(B id).alive/\ρ1 (c+1)=ρ id/\∀ b,ρ id=some b->sameSize w w' b:=by
  intro c id hc ha
  have hlt:c < σ.length:=(List.getElem?_eq_some_iff.1 hc).1
  have hx:(UT σ B)[c]?=some (JM (JaG σ) (B id)):=by unfold UT;rw[Kk,hc];rfl
  have hcf:c < fin.length:=by omega
  have hy:fin[c]?=some (OB fin (c+1)):=by rw[XU,Ka,Kj hcf];rfl
  obtain⟨cs',k1,k2⟩:=m4 c _ _ hx hy
  obtain⟨k3,k4⟩:=Jki (g:=g) k1 k2 ha
  obtain⟨k5,k6⟩:=p.pin c (by rw[hlen];exact hlt) ha
  simp only[Jbc,hc]at k5 k6
  exact⟨k3,k4,k5,k6⟩
 have hown0:∀ b,own (Jbc σ ρ) (HB (UT σ B)) b->own ρ B b:=fun b hb=>let ⟨id,_,ha,hr⟩:=own_can.1 hb;⟨id,ha,hr⟩
 have hnot:∀ id b,UO id σ=none->(B id).alive->ρ id=some b->¬ own (Jbc σ ρ) (HB (UT σ B)) b:=fun id b hp ha hr ho=>by
  obtain⟨id',hm,ha',hr'⟩:=own_can.1 ho
  have:=h.inj id id' b ha ha' hr hr'
  exact Jcz hp (this ▸ hm)
 have hX0:∀ b,K.X0 b->Joq K ρ B σ b:=fun b hb=>⟨.inl hb,fun ho=>h.own_x0 (hown0 b ho) hb⟩
 have hXo:∀ id b,UO id σ=none->(B id).alive->ρ id=some b->Joq K ρ B σ b:=fun id b hp ha hr=>⟨.inr ⟨id,ha,hr⟩,hnot id b hp ha hr⟩
 have hxx2:∀ b,XX K.X0 ρ2 B2 b->XX (Joq K ρ B σ) ρ1 (OB fin) b:=by
  rintro b (hb | ⟨id,ha,hr⟩)
  . exact .inl (hX0 b hb)
  rcases hcls id ha with⟨c,_,_,_,e2,e3,_⟩ | ⟨hp,_,_,e2,e3⟩
  . exact .inr ⟨c+1,e3,e2.symm.trans hr⟩
  exact .inl (hXo id b hp e3 (e2.symm.trans hr))
 have hsz:w.heap.size<=w'.heap.size:=p.keeps.size
 have hsame:∀ b,b < w.heap.size->¬ own (Jbc σ ρ) (HB (UT σ B)) b->w'.heap[b]?=w.heap[b]?:=fun b hb ho=>p.keeps.block b hb ho
 have hread:∀ b,b < w.heap.size->¬ XX K.X0 ρ B b->w'.heap[b]?=w.heap[b]?:=fun b hb hx=>hsame b hb fun ho=>hx (.inr (hown0 b ho))
 have hX:∀ b,b < w.heap.size->¬ XX K.X0 ρ B b->¬ XX K.X0 ρ2 B2 b:=by
  intro b hb hx hx2
  rcases hxx2 b hx2 with h1 | ⟨c,ha,hr⟩
  . exact hx h1.1
  rcases(p.live c b ha hr).1 with h1 | h1
  . exact hx (.inr (hown0 b h1))
  omega
 have hfar:∀ id b,UO id σ=none->(B id).alive->ρ id=some b->w'.heap[b]?=w.heap[b]?:=fun id b hp ha hr=>hsame b (h.live id b ha hr).2.2 (hnot id b hp ha hr)
 have hBm:∀ id,id ≠ nid->(B2 id).alive->sameMake (B id) (B2 id)/\ρ2 id=ρ id/\∀ b,ρ id=some b->sameSize w w' b:=by
  intro id hne ha
  rcases hcls id ha with⟨c,_,_,e1,e2,e3,hc | hc⟩ | ⟨hp,_,e1,e2,e3⟩
  . obtain⟨k1,k2,k3,k4⟩:=hwas c id hc.2 e3
    rw[e1]
    exact⟨k1,e2.trans k3,k4⟩
  . exact absurd hc.2 hne
  rw[e1]
  exact⟨sameMake.refl e3,e2,fun b hr=>.of_eq (hfar id b hp e3 hr)⟩
 have hB20:∀ x,B2 0=x->(x.tracey ∨ ∃ n,x=.pins n)->B 0=x:=by
  intro x e ht
  by_cases e0:0=nid
  . rcases hBn with⟨_,e1⟩ | ⟨b,_,hb,e1,_⟩
    . rw[<- e,e0,e1]
    rw[<- e0,e]at e1
    subst e1
    cases b <;> simp[Jkh]at hb <;> rcases ht with ht | ⟨n,ht⟩ <;> first | exact ht.elim | (simp[JM]at ht)
  rw[<- e,(hBo 0 (JeT h0) e0).1]
 have hT:∀ x,B2 0=x->x.tracey->B 0=x:=fun x e ht=>hB20 x e (.inl ht)
 have hst:WStep (own ρ B) (own ρ2 B2) w w':=by
  refine .of_keeps p.keeps (fun b hb hx=>hsame b hb (fun ho=>hx (hown0 b ho))) (fun b ⟨id,ha,hr⟩=>?_)
  rcases hcls id ha with⟨c,_,_,_,e2,e3,_⟩ | ⟨hp,_,_,e2,e3⟩
  . exact((p.live (c+1) b e3 (e2.symm.trans hr)).1).imp (hown0 b) _root_.id
  exact .inl ⟨id,e3,e2.symm.trans hr⟩
 have hR:=h.hR hT hst
 have hk:Keeps K.F K.w0.heap.size w w':=⟨p.keeps.os,p.keeps.tape,p.keeps.output,hsz,fun b hb hF=>hsame b (K0 hb h.le_size) fun ho=>by
  obtain⟨id,_,ha,hr⟩:=own_can.1 ho
  rcases(h.live id b ha hr).1 with h1 | h1
  . exact hF h1
  . omega⟩
 have hgj:∀ j,inN fin.length j=true->B2 (g j)=JM g (OB fin j)/\ρ2 (g j)=ρ1 j:=by
  intro j hj
  unfold inN at hj
  simp only[Kd,Ks,Nat.ble_eq]at hj
  cases j with
  | zero=>simp at hj
  | succ c =>
   by_cases hlt:c < σ.length
   . have hc:σ[c]?=some σ[c]:=Kj hlt
     rw[hgat c _ hc]
     exact hBs _ c (Xx hnd hc)
   have e:c=σ.length:=by omega
   subst e
   rw[hgn]
   rcases hBn with⟨e1,_⟩ | ⟨b,_,_,_,e1,e2⟩
   . rw[List.getElem?_eq_none_iff]at e1;omega
   exact⟨e1,e2⟩
 have hz0:inN fin.length 0=false:=rfl
 refine⟨ρ2,?_,?_⟩
 . rw[hB2]
   refine⟨Marks.mono h.defers (fun D hD=>hsame D (Array.getElem?_eq_some_iff.1 hD).1 (fun ho=>by
    obtain⟨id,_,ha,hr⟩:=own_can.1 ho
    exact h.own_obj ha hr hD)),h.size,h.keeps.trans hk,fun b hb=>K0 (h.x0 b hb) hsz,h.globs hk,fun id b ha hr=>?_,fun id id' b ha ha' hr hr'=>?_,fun id=>?_,fun t av ht=>⟨(h.slots t av ht).1,?_⟩,h.trc_mono hT hst,fun ht=>h.dt (by rw[hT _ rfl ht];exact ht),fun i hi=>?_,fun n e i hi0 hlt ha=>?_⟩
   . rcases hcls id ha with⟨c,_,_,_,e2,e3,_⟩ | ⟨hp,_,_,e2,e3⟩
     . obtain⟨k1,k2,k3⟩:=p.live (c+1) b e3 (e2.symm.trans hr)
       refine⟨?_,fun hx=>k2 (hX0 b hx),k3⟩
       rcases k1 with k1 | k1
       . obtain⟨j,_,ja,jr⟩:=own_can.1 k1
         exact(h.live j b ja jr).1
       exact .inr (Nat.le_trans h.le_size k1)
     obtain⟨k1,k2,k3⟩:=h.live id b e3 (e2.symm.trans hr)
     exact⟨k1,k2,K0 k3 hsz⟩
   . rcases hcls id ha with⟨c,_,e0,_,e2,e3,_⟩ | ⟨hp,_,_,e2,e3⟩
     . rcases hcls id' ha' with⟨c',_,e0',_,e2',e3',_⟩ | ⟨hp',_,_,e2',e3'⟩
       . have:=p.inj (c+1) (c'+1) b e3 e3' (e2.symm.trans hr) (e2'.symm.trans hr')
         rw[<- e0,<- e0',this]
       exact absurd (hXo id' b hp' e3' (e2'.symm.trans hr')) (p.live (c+1) b e3 (e2.symm.trans hr)).2.1
     rcases hcls id' ha' with⟨c',_,e0',_,e2',e3',_⟩ | ⟨hp',_,_,e2',e3'⟩
     . exact absurd (hXo id b hp e3 (e2.symm.trans hr)) (p.live (c'+1) b e3' (e2'.symm.trans hr')).2.1
     exact h.inj id id' b e3 e3' (e2.symm.trans hr) (e2'.symm.trans hr')
   . by_cases ha:(B2 id).alive
     . rcases hcls id ha with⟨c,hcl,e0,e1,e2,e3,_⟩ | ⟨hp,hne,e1,e2,e3⟩
       . have hmem:∀ j,j ∈ JK (OB fin (c+1))->inN fin.length j=true:=fun j hj=>by
          have hcf:c < fin.length:=by
           refine Nat.lt_of_not_le fun hle=>?_
           rw[XU,Ka,List.getElem?_eq_none hle]at e3
           exact e3.elim
          refine hfi (OB fin (c+1)) ?_ j hj
          rw[XU,Ka,Kj hcf]
          exact List.getElem_mem hcf
         subst e0
         exact BlkOK.mapN e1 e2 (fun b _ hb hb2=>hb (hxx2 b hb2)) (fun hj=>by have:=hmem 0 hj;rw[hz0]at this;cases this) (fun j hj _=>hgj j (hmem j hj)) (p.blks (c+1))
       exact BlkOK.mono hsz hread hX e1 e2 (fun b hr=>hfar id b hp e3 hr) (fun j hj ha'=>hBm j (fun e=>hf.blks id e3 (e ▸ hj)) ha') hR (h.blks id)
     exact Jy ha
   . exact SRep.mono hsz hread hX (fun id hid ha=>hBm id (fun e=>hf.slots t av ht (e ▸ hid)) ha) hR (h.slots t av ht).2
   . obtain⟨⟨cells,hc⟩,hr⟩:=h.anc i hi
     have hne:i ≠ nid:=fun e=>hf.dead (by rw[<- e,hc];trivial)
     cases hp:UO i σ with
     | none =>
      obtain⟨e1,e2⟩:=hBo i hp hne
      exact⟨⟨cells,e1.trans hc⟩,e2.trans hr⟩
     | some c =>
      obtain⟨e1,e2⟩:=hBs i c hp
      have hci:=Vr hp
      have hx:(UT σ B)[c]?=some (JM (JaG σ) (.box cells)):=by unfold UT;rw[Kk,hci,<- hc];rfl
      have hcf:c < fin.length:=by have:=JdN hp;omega
      have hy:fin[c]?=some (OB fin (c+1)):=by rw[XU,Ka,Kj hcf];rfl
      obtain⟨cs',k1,k2⟩:=m4 c _ _ hx hy
      obtain⟨c',k3⟩:=JnK k1
      obtain⟨_,_,k4,_⟩:=hwas c i hci (by rw[k3];trivial)
      rw[e1,e2,k3]
      exact⟨⟨_,rfl⟩,k4.trans hr⟩
   have hB0:=hB20 _ e (.inr ⟨n,rfl⟩)
   have hne:i ≠ nid:=fun e2=>hf.blks 0 (by rw[hB0];trivial) (by rw[hB0,<- e2];exact List.mem_range.2 hlt)
   obtain⟨_,k2,k3⟩:=hBm i hne ha
   have hal:(B i).alive:=by
    rcases hcls i ha with⟨c,_,_,_,_,e3,hc | hc⟩ | ⟨_,_,_,_,e3⟩
    . exact(hwas c i hc.2 e3).2.1
    . exact absurd hc.2 hne
    exact e3
   obtain⟨k4,k5⟩:=h.pin n hB0 i hi0 hlt hal
   exact⟨k2.trans k4,fun b hr=>(k5 b (k2 ▸ hr)).trans (k3 b (k2 ▸ hr))⟩
 . rw[hB2]
   exact SRep.mapX hrg (fun hj=>by have:=hri 0 hj;rw[hz0]at this;cases this) (fun b _ hb hb2=>hb (hxx2 b hb2)) (fun j hj _=>hgj j (hri j hj)) p.val
theorem Jn1(h:RelW K ρ slot B a w){nid:Nat}(hf:Fresh slot B nid){o:Oper}{c:Call}{f:Operand}(ho:o.op=.call c)(hcc:c.callee=.value f){g:Nat}{first cap:List AV}{ins:List AV}
 (hfv:SRep ρ B (XX K.X0 ρ B) w (a.eval f) (.fn (.func g) first cap))(hi:Xe ρ B (XX K.X0 ρ B) w a c.args.toList ins)
 (hnd:Ug σ=true)(h0:0 ∉ σ)(hn:nid ∉ σ)(hz0:∀ id,id ∈ σ->0 ∉ JK (B id))(hg:∀ x,x ∈ first++ins++cap->isG x=false)(hs:∀ x,x ∈ first++ins++cap->∀ id,id ∈ mids1 x->id ∈ σ)
 {fin:List ABlk}{cs:List Cd}(hmk:JbF (UT σ B) fin=some cs)(hcs:All cs){r:AV}(hrg:JlY r=false)(hri:∀ id,id ∈ Qn r->inN fin.length id=true)(hfi:∀ b,b ∈ fin->∀ id,id ∈ JK b->inN fin.length id=true)
 (hc:WCall K.P K.G g ((first++ins++cap).map (VW (JaG σ))) (UT σ B) r fin):Does K.P o a w (Post K slot B a (U4 (unN σ nid) nid σ fin) (mapX (unN σ nid) r)):=by
 obtain⟨fn,body,hfn,hbody,hname⟩:=hc.callable
 obtain⟨fs,ks,hv,hf1,hf2⟩:=(show SRep1 ρ B (XX K.X0 ρ B) w (a.eval f) (.fn (.func g) first cap)from hfv)
 have hz:=XE hi
 have z0:∀ (l:List AV) (us:Nat->Value),(∀ i,i < l.length->SRep0 ρ B (XX K.X0 ρ B) w (us i) (nth l i))->Z (SRep ρ B (XX K.X0 ρ B) w) ((List.range l.length).map us) l:=by
  intro l us hl
  refine⟨by simp,fun i v x hv hx=>?_⟩
  have hlt:i < l.length:=(List.getElem?_eq_some_iff.1 hx).1
  rw[Kk,List.getElem?_range hlt]at hv
  simp at hv
  subst hv
  have:=hl i hlt
  rw[JV hx]at this
  cases x with
  | gv _ _=>exact this.elim
  | ax _=>exact(SRep0.ax this).elim
  | fn _ _ _=>exact SRep.of_rep this
  | _=>exact this
 have hza:=((z0 first fs hf1).append hz).append (z0 cap ks hf2)
 have hpre:=h.handPre (σ:=σ) hnd h0 hz0 (vs:=((List.range first.length).map fs++c.args.toList.map a.eval++(List.range cap.length).map ks).toArray) (by simpa using hza) hg hs
 have hcall:=hc.run w (Joq K ρ B σ) (Jbc σ ρ) _ (fun gg cells hgg=>by rw[Jel];exact h.glob' hgg) hpre
 intro rr n next Q hnx
 have hrun:(execOp a.eval o).run K.P w=.ok (.enter g (((List.range first.length).map fs++c.args.toList.map a.eval++(List.range cap.length).map ks).toArray)) w:=by
  unfold execOp
  rw[ho]
  simp only[Ki,resolve,hcc,hv,Deferred.ofValue,Sem.run_pure,Ke,invoke,callFunc,run_program,hfn]
  rw[if_neg (by simp[hname])]
  simp[hbody]
 refine⟨fun _ _=>trivial,?_⟩
 rw[show(fen rr).round=rr from rfl,X7 rr hrun rfl]
 refine⟨fun h=>by simp[fen,Fence.wide]at h,callsIn_fen.2 (hcall.mono ?_)⟩
 rintro e w' ⟨v,ρ',rfl,hp⟩
 exact hnx v w' (h.handed hnd h0 hf hn hmk hcs hrg hri hfi hp)
end
section
variable {K : Ctx} {ρ : Pl} {slot : Nat → Option AV} {B : Nat → ABlk} {a : Act} {w : World}
theorem JD{v:Value}(h:QK v=true):v=.slice none 0 0:=by
 revert h;unfold QK;split <;> simp
theorem Jho(h:RelW K ρ slot B a w){bs:BL}{av:AV}{v:Value}{k:TK}{n:Int}(hbs:∀ id,id ∈ mids1 av->Jr bs id=B id)(hn:Jb7 bs k av=some n)(hv:SRep ρ B (XX K.X0 ρ B) w v av) :
 (k=.str/\∃ l:List UInt8,v=.string ⟨l.toArray⟩/\n=l.length) ∨ ((∃ e es eb,k=.slice e es eb)/\∃ (ad:Option Addr) (m cap:Nat),v=.slice ad m cap/\n=m):=by
 cases av with
 | sl q rows =>
  cases k <;> simp only[Jb7,reduceCtorEq]at hn
  cases hn
  refine .inr ⟨⟨_,_,_,rfl⟩,?_⟩
  have hv:Rep (XX K.X0 ρ B) w v (.sl q rows):=hv
  cases hv with
  | slE ad cap _=>exact⟨ad,0,cap,rfl,rfl⟩
  | sl b o cap _ _ cv=>exact⟨_,_,_,rfl,rfl⟩
 | own id m =>
  simp only[Jb7]at hn
  rw[hbs id (by simp[mids1,mids0])]at hn
  cases hB:B id with
  | buf e q rows =>
   rw[hB]at hn
   cases k <;> simp only[reduceCtorEq]at hn
   cases hn
   refine .inr ⟨⟨_,_,_,rfl⟩,?_⟩
   obtain⟨hb,hown⟩:=(show SRep0 ρ B (XX K.X0 ρ B) w v (.own id m)from hv).2 e q rows hB
   rcases hown with⟨hr,rfl⟩ | ⟨b,cap,cur,_,rfl,_⟩
   . have hbl:=h.blks id
     unfold BlkOK at hbl
     rw[hB]at hbl
     rcases hbl.2.2 with⟨_,h2⟩ | ⟨b,cur,h2,_⟩
     . subst h2
       exact⟨none,0,0,rfl,by simp at hb;simp[<- hb]⟩
     rw[hr]at h2;cases h2
   exact⟨_,_,_,rfl,rfl⟩
  | _=>rw[hB]at hn;cases k <;> simp at hn
 | bsl id m =>
  simp only[Jb7]at hn
  rw[hbs id (by simp[mids1,mids0])]at hn
  cases hB:B id with
  | box cells =>
   rw[hB]at hn
   cases k <;> simp only[reduceCtorEq]at hn
   cases hn
   obtain⟨b,cap,_,rfl,_⟩:=(show SRep0 ρ B (XX K.X0 ρ B) w v (.bsl id m)from hv).2 cells hB
   exact .inr ⟨⟨_,_,_,rfl⟩,_,_,_,rfl,rfl⟩
  | _=>rw[hB]at hn;cases k <;> simp at hn
 | str l =>
  cases k <;> simp only[Jb7,reduceCtorEq]at hn
  cases hn
  exact .inl ⟨rfl,l,SRep.str_inv hv,rfl⟩
 | ex u =>
  cases k <;> simp only[Jb7,reduceCtorEq]at hn
  split at hn
  . rename_i hb
    cases hn
    have:=SRep.ex_inv hv
    subst this
    exact .inr ⟨⟨_,_,_,rfl⟩,none,0,0,JD hb,rfl⟩
  cases hn
 | _=>simp[Jb7]at hn
theorem len_ok(hT:TOK K.P K.T)(h:RelW K ρ slot B a w){o:Oper}{c:Call}{x:Operand}{t:Nat}(ho:o.op=.call c)(hcb:c.callee=.builtin .len)(hargs:c.args=#[x])(hat:c.argTypes[0]?=some t){ti:TI}(hti:lk t K.T=some ti){bs:BL}{av:AV}
 (hbs:∀ id,id ∈ mids1 av->Jr bs id=B id){n:Int}(hn:Jb7 bs ti.k av=some n)(hx:SRep ρ B (XX K.X0 ρ B) w (a.eval x) av):Does K.P o a w (Post K slot B a [] (.int .i64 n)):=by
 obtain⟨d,inf,z,kk⟩:=Jk (hT t ti hti)
 refine Does.pureV h (v:=.int .i64 n) (J3 ho hcb ?_) (SRep.mk_int _ _)
 have hrun:(Builtin.len_ c.argTypes o.type #[a.eval x]).run K.P w=.ok (.int .i64 n) w:=by
  unfold Builtin.len_
  rcases Jho h hbs hn hx with⟨hk,l,hv,rfl⟩ | ⟨⟨e,es,eb,hk⟩,ad,m,cap,hv,rfl⟩
  . have:=kk.strKind hk
    subst this
    have hsz:(⟨l.toArray⟩:ByteArray).size=l.length:=by simp[ByteArray.size]
    simp[hat,hv,run_underlying kk.und,goInt,hsz]
  obtain⟨rfl,_⟩:=kk.sliceKind hk
  simp[hat,hv,run_underlying kk.und,goInt]
 rw[hargs]
 simp only[builtin,List.map_toArray,List.map_cons,List.map_nil,Ki,hrun,Ke]
 rfl
theorem JbS{f:Int->Int->Int}{g:Value->Value->Sem Value}{k:IntKind}(hg:∀ x y,(g (.int k x) (.int k y)).run K.P w=.ok (.int k (f x y)) w):∀ {xs:List Operand} {l:List AV} {x r:Int},
 Xe ρ B (XX K.X0 ρ B) w a xs l->JcU f k x l=some r->((xs.map a.eval).foldlM g (.int k x)).run K.P w=.ok (.int k r) w
 | [],[],x,r,_,h=>by simp only[JcU]at h;cases h;simp
 | y::ys,.int k' n::l,x,r,hi,h=>by
  simp only[JcU]at h
  split at h
  . rename_i hk
    subst hk
    have hy:=SRep.int_inv hi.1
    simp only[List.map_cons,List.foldlM_cons,hy,Ki,hg,Ke]
    exact JbS hg hi.2 h
  cases h
 | [],_::_,_,_,hi,_=>hi.elim
 | _::_,[],_,_,hi,_=>hi.elim
 | _::_,.bool _::_,_,_,_,h | _::_,.str _::_,_,_,_,h | _::_,.ex _::_,_,_,_,h | _::_,.any::_,_,_,_,h | _::_,.agg _::_,_,_,_,h
 | _::_,.tup _::_,_,_,_,h | _::_,.sl _ _::_,_,_,_,h | _::_,.elt _ _ _ _::_,_,_,_,h | _::_,.fn _ _ _::_,_,_,_,h | _::_,.ptr _ _::_,_,_,_,h
 | _::_,.optr _ _ _::_,_,_,_,h | _::_,.own _ _::_,_,_,_,h | _::_,.gv _ _::_,_,_,_,h=>by simp[JcU]at h
theorem min_ok(h:RelW K ρ slot B a w){o:Oper}{c:Call}(ho:o.op=.call c)(hcb:c.callee=.builtin .min){k:IntKind}{x r:Int}{l:List AV}(hi:Xe ρ B (XX K.X0 ρ B) w a c.args.toList (.int k x::l))(hr:JcU Jdj k x l=some r) :
 Does K.P o a w (Post K slot B a [] (.int k r)):=by
 refine Does.pureV h (v:=.int k r) (J3 ho hcb ?_) (SRep.mk_int _ _)
 cases hl:c.args.toList with
 | nil=>rw[hl]at hi;exact hi.elim
 | cons y ys =>
  rw[hl]at hi
  have hy:=SRep.int_inv hi.1
  have hf:=JbS (K:=K) (w:=w) (g:=Builtin.min2) (f:=Jdj) (k:=k) (fun x y=>by simp[Builtin.min2,Jdj]) hi.2 hr
  have e:(c.args.map a.eval).toList=.int k x::ys.map a.eval:=by rw[Array.toList_map,hl];simp[hy]
  have hrun:(Builtin.min_ c.argTypes o.type (c.args.map a.eval)).run K.P w=.ok (.int k r) w:=by
   unfold Builtin.min_
   rw[e]
   exact hf
  simp only[builtin,Ki,hrun,Ke]
  rfl
theorem max_ok(h:RelW K ρ slot B a w){o:Oper}{c:Call}(ho:o.op=.call c)(hcb:c.callee=.builtin .max){k:IntKind}{x r:Int}{l:List AV}(hi:Xe ρ B (XX K.X0 ρ B) w a c.args.toList (.int k x::l))(hr:JcU QN k x l=some r) :
 Does K.P o a w (Post K slot B a [] (.int k r)):=by
 refine Does.pureV h (v:=.int k r) (J3 ho hcb ?_) (SRep.mk_int _ _)
 cases hl:c.args.toList with
 | nil=>rw[hl]at hi;exact hi.elim
 | cons y ys =>
  rw[hl]at hi
  have hy:=SRep.int_inv hi.1
  have hf:=JbS (K:=K) (w:=w) (g:=Builtin.max2) (f:=QN) (k:=k) (fun x y=>by simp[Builtin.max2,QN]) hi.2 hr
  have e:(c.args.map a.eval).toList=.int k x::ys.map a.eval:=by rw[Array.toList_map,hl];simp[hy]
  have hrun:(Builtin.max_ c.argTypes o.type (c.args.map a.eval)).run K.P w=.ok (.int k r) w:=by
   unfold Builtin.max_
   rw[e]
   exact hf
  simp only[builtin,Ki,hrun,Ke]
  rfl
theorem Joj(hT:TOK K.P K.T)(h:RelW K ρ slot B a w){o:Oper}{c:Call}{t e es eb e' id n:Nat}{x y:Operand}(ho:o.op=.call c)(hcb:c.callee=.builtin .copy)(hargs:c.args=#[x,y])(hat:c.argTypes=#[t,t])
 {ti:TI}(hti:lk t K.T=some ti)(hk:ti.k=.slice e es eb)(hes:es ≠ 0){rows xs:List (List AV)}(hsrc:SrcOK (XX K.X0 ρ B) w (a.eval y) es xs)
 (hx:SRep ρ B (XX K.X0 ρ B) w (a.eval x) (.own id n))(hB:B id=.buf e' es rows) :
 Does K.P o a w (Post K slot B a [(id,.buf e' es (xs.take n++rows.drop xs.length))] (.int .i64 ((min xs.length n:Nat):Int))):=by
 obtain⟨d,inf,z,kk⟩:=Jk (hT t ti hti)
 obtain⟨rfl,ei,hei,rfl,rfl⟩:=kk.sliceKind hk
 obtain⟨hkx,ad,scap,hyv,hnil,hnews⟩:=hsrc
 have hal:(B id).alive:=by rw[hB];trivial
 have hbl:=h.blks id
 unfold BlkOK at hbl
 rw[hB]at hbl
 obtain⟨hkr,hmx,hbl⟩:=hbl
 have hrunb:∀ v w',(Builtin.copy_ #[t,t] o.type #[a.eval x,a.eval y]).run K.P w=.ok v w'->(execOp a.eval o).run K.P w=.ok (.value v) w':=by
  intro v w' hr
  refine J3 ho hcb ?_
  rw[hargs,hat]
  simp only[builtin,List.map_toArray,List.map_cons,List.map_nil,Ki,hr,Ke]
  rfl
 have same:min xs.length n=0->xs.take n++rows.drop xs.length=rows->(execOp a.eval o).run K.P w=.ok (.value (.int .i64 0)) w →
  Does K.P o a w (Post K slot B a [(id,.buf e' ei.size (xs.take n++rows.drop xs.length))] (.int .i64 ((min xs.length n:Nat):Int))):=by
  intro h1 h2 hr
  rw[h1,h2]
  have:upd B id (.buf e' ei.size rows)=B:=by
   funext i;unfold upd;split
   . rename_i e;rw[e,hB]
   rfl
  refine Does.of_run hr ⟨ρ,?_,?_⟩
  . show RelW K ρ slot (upd B id (.buf e' ei.size rows)) a w
    rw[this];exact h
  . exact SRep.mk_int _ _
 obtain⟨hn,hown⟩:=(show SRep0 ρ B (XX K.X0 ρ B) w (a.eval x) (.own id n)from hx).2 e' ei.size rows hB
 rcases hown with⟨hr0,hv⟩ | ⟨b,cap,cur,hr,hv,hh,hnc,hcm,hsz⟩
 . rcases hbl with⟨_,h2⟩ | ⟨b,cur,h2,_⟩
   . subst h2
     have hn0:n=0:=by simpa using hn.symm
     subst hn0
     refine same (by simp) (by simp) (hrunb _ _ ?_)
     rw[hv,hyv]
     cases ad with
     | none=>simp[Builtin.copy_,run_underlying kk.und,Builtin.lenOf,Builtin.firstCells,Go.sizeOf,typeInfo,hei,goInt]
     | some p=>simp[Builtin.copy_,run_underlying kk.und,Builtin.lenOf,Builtin.firstCells,Go.sizeOf,typeInfo,hei,goInt,loadCells,loadCellsFrom]
   rw[hr0]at h2;cases h2
 . rcases hbl with⟨h2,_⟩ | ⟨b',cur',hr',hh',hs',hc'⟩
   . rw[hr]at h2;cases h2
   rw[hr]at hr'
   cases hr'
   rw[hh]at hh'
   cases hh'
   cases hadc:ad with
   | none =>
    have hx0:=hnil hadc
    subst hx0
    refine same (by simp) (by simp) (hrunb _ _ ?_)
    rw[hv,hyv,hadc]
    simp[Builtin.copy_,run_underlying kk.und,Builtin.lenOf,Builtin.firstCells,Go.sizeOf,typeInfo,hei,goInt,storeCells]
   | some p =>
    obtain⟨news,hnl,hnc2,hnr⟩:=hnews p hadc
    have hm:(news.take (min xs.length n * ei.size)).length=min xs.length n * ei.size:=by
     rw[Kg,hnl]
     have:min xs.length n * ei.size<=xs.length * ei.size:=K1 _ (Nat.min_le_left _ _)
     omega
    have hload:=run_loadCells_list (P:=K.P) (w:=w) p (news.take (min xs.length n * ei.size)) (fun q u hu=>by
     rw[List.getElem?_take]at hu
     split at hu
     . exact hnc2 q u hu
     . cases hu)
    rw[hm]at hload
    have hone:∀ u ∈ news.take (min xs.length n * ei.size),u.oneCell'=true:=by
     intro u hu
     obtain⟨q,hq,rfl⟩:=List.mem_iff_getElem.1 (List.mem_of_mem_take hu)
     have hq':q < xs.length * ei.size:=by omega
     have hi:q / ei.size < xs.length:=(Nat.div_lt_iff_lt_mul (by omega)).2 hq'
     obtain⟨u',hu',hcp⟩:=hnr _ hi _ (Nat.mod_lt q (by omega))
     rw[Nat.mul_comm,Nat.div_add_mod,Kj hq]at hu'
     cases hu'
     exact hcp.1
    have hfit:min xs.length n * ei.size<=cur.size:=by
     have:min xs.length n * ei.size<=rows.length * ei.size:=K1 _ (by omega)
     omega
    have hst:=run_storeCells_at K.P b 0 e' (news.take (min xs.length n * ei.size)) 0 cur w hh (by rw[hm];omega) hone
    simp only[Nat.zero_add,hm]at hst
    have hrun:(execOp a.eval o).run K.P w=.ok (.value (.int .i64 ((min xs.length n:Nat):Int))) (w.setRow b (cur.toList.take 0++news.take (min xs.length n * ei.size)++cur.toList.drop (min xs.length n * ei.size)).toArray):=by
     refine hrunb _ _ ?_
     rw[hv,hyv,hadc]
     have hmin:xs.length.min n=min xs.length n:=rfl
     simp only[Builtin.copy_,Builtin.lenOf,Builtin.firstCells]
     simp[run_underlying kk.und,Go.sizeOf,typeInfo,hei,hmin,hload,hst,goInt]
    have hlen2:(xs.take n++rows.drop xs.length).length=rows.length:=by simp;omega
    have hS:(cur.toList.take 0++news.take (min xs.length n * ei.size)++cur.toList.drop (min xs.length n * ei.size)).toArray.size=cur.size:=by
     simp only[List.take_zero,List.nil_append,List.size_toArray,Kf,hm,Kh,Array.length_toList];omega
    have hR:RowsAt (CP (XX K.X0 ρ B) w) (cur.toList.take 0++news.take (min xs.length n * ei.size)++cur.toList.drop (min xs.length n * ei.size)).toArray ei.size (xs.take n++rows.drop xs.length):=by
     have er1:∀ i,i < min xs.length n->Ji (xs.take n++rows.drop xs.length) i=Ji xs i:=by
      intro i hi
      simp only[Ji,Ka]
      rw[List.getElem?_append,if_pos (by simp;omega),List.getElem?_take,if_pos (by omega)]
     have er2:∀ i,¬ i < min xs.length n->i < rows.length->Ji (xs.take n++rows.drop xs.length) i=Ji rows i:=by
      intro i hi hi2
      simp only[Ji,Ka]
      rw[List.getElem?_append,if_neg (by simp;omega),List.getElem?_drop,Kg]
      congr 2
      omega
     refine⟨fun i hi=>?_,by rw[hS,hlen2];exact hs',fun i hi j hj=>?_⟩
     . rw[hlen2]at hi
       by_cases hlt:i < min xs.length n
       . rw[er1 i hlt];exact hkx i (by omega)
       rw[er2 i hlt hi];exact hkr i hi
     rw[hlen2]at hi
     rw[JX,Ka]
     simp only[List.take_zero,List.nil_append]
     by_cases hlt:i < min xs.length n
     . rw[er1 i hlt]
       have:=J2 hlt hj
       obtain⟨u,hu,hcp⟩:=hnr i (by omega) j hj
       rw[List.getElem?_append,if_pos (by rw[hm];exact this),List.getElem?_take,if_pos this,hu]
       exact hcp
     rw[er2 i hlt hi]
     have h5:min xs.length n * ei.size<=i * ei.size:=K1 _ (by omega)
     have:=hc' i hi j hj
     rw[Kv]at this
     rw[List.getElem?_append,if_neg (by rw[hm];omega),hm,List.getElem?_drop,show min xs.length n * ei.size+(i * ei.size+j-min xs.length n * ei.size)=i * ei.size+j by omega]
     simpa[CP]using this
    generalize (cur.toList.take 0++news.take (min xs.length n * ei.size)++cur.toList.drop (min xs.length n * ei.size)).toArray=ns at hrun hS hR
    have hmod:=h.modify id (.buf e' ei.size (xs.take n++rows.drop xs.length)) (w':=w.setRow b ns) (h.keeps_row hal hr _) (by rw[hB];exact⟨rfl,rfl,hlen2.symm⟩) hal
     (fun b2 hb2=>by rw[hr]at hb2;cases hb2;exact Xf hh hS)
     (fun b2 _ hb2=>setRow_other w b b2 _ (fun e=>hb2 (by rw[hr,e])))
     (fun _ hm=>by
      unfold BlkOK
      rw[Jb]
      exact⟨hR.1,by rw[hlen2];exact hmx,.inr ⟨b,ns,hr,setRow_heap w b cur _ e' (0,0) hh,hR.2.1,fun i hi j hj=>⟨(hR.2.2 i hi j hj).1,hm _ _ (hR.2.2 i hi j hj).2⟩⟩⟩)
    exact Does.of_run hrun ⟨ρ,hmod,SRep.mk_int _ _⟩
theorem JkV(hT:TOK K.P K.T)(h:RelW K ρ slot B a w){o:Oper}{c:Call}{t e es eb e' id lo n:Nat}{x:Operand}(ho:o.op=.call c)(hcb:c.callee=.builtin .clear)(hargs:c.args=#[x])(hat:c.argTypes=#[t])
 {ti te:TI}(hti:lk t K.T=some ti)(hk:ti.k=.slice e es eb)(hte:lk e K.T=some te)(hz:te.zero.length=es)(hes:es ≠ 0){rows:List (List AV)}
 (hx:SRep ρ B (XX K.X0 ρ B) w (a.eval x) (.osl id lo n))(hB:B id=.buf e' es rows) :
 Does K.P o a w (Post K slot B a [(id,.buf e' es (rows.take lo++List.replicate (n-lo) te.zero))] (.tup [])):=by
 obtain⟨d,inf,z,kk⟩:=Jk (hT t ti hti)
 obtain⟨rfl,ei,hei,rfl,rfl⟩:=kk.sliceKind hk
 obtain⟨d2,inf2,z2,kk2⟩:=Jk (hT e te hte)
 have hinf:ei=inf2:=by have:=kk2.info;rw[hei]at this;exact Option.some.inj this
 subst hinf
 have hal:(B id).alive:=by rw[hB];trivial
 have hbl:=h.blks id
 unfold BlkOK at hbl
 rw[hB]at hbl
 obtain⟨hkr,hmx,hbl⟩:=hbl
 have hrunb:∀ w',(Builtin.clear_ #[t] o.type #[a.eval x]).run K.P w=.ok (.tuple #[]) w'->(execOp a.eval o).run K.P w=.ok (.value (.tuple #[])) w':=by
  intro w' hr
  refine J3 ho hcb ?_
  rw[hargs,hat]
  simp only[builtin,List.map_toArray,List.map_cons,List.map_nil,Ki,hr,Ke]
  rfl
 have htup:∀ {ρ':Pl} {B':Nat->ABlk} {X':Nat->Prop} {w':World},SRep ρ' B' X' w' (.tuple #[]) (.tup []):=Rep.tup (fun _=>undef) [] (fun i hi=>absurd hi (by simp))
 obtain⟨hn,h0,h1⟩:=(show SRep0 ρ B (XX K.X0 ρ B) w (a.eval x) (.osl id lo n)from hx).2 e' ei.size rows hB
 by_cases hlo:n<=lo
 . obtain⟨ad,cap,hv⟩:=h0 hlo
   have e0:rows.take lo++List.replicate (n-lo) te.zero=rows:=by
    rw[show n-lo=0 by omega,List.replicate_zero,List.append_nil,Ku (by omega)]
   rw[e0]
   have hu:upd B id (.buf e' ei.size rows)=B:=by
    funext i;unfold upd;split
    . rename_i e;rw[e,hB]
    rfl
   refine Does.of_run (hrunb w ?_) ⟨ρ,?_,htup⟩
   . rw[hv]
     cases ad <;> simp[Builtin.clear_,run_underlying kk.und]
   show RelW K ρ slot (upd B id (.buf e' ei.size rows)) a w
   rw[hu];exact h
 . obtain⟨b,cap,hr,hv⟩:=h1 (by omega)
   rcases hbl with⟨h2,_⟩ | ⟨b',cur,hr',hh,hs',hc'⟩
   . rw[hr]at h2;cases h2
   rw[hr]at hr'
   cases hr'
   have hz2:z2.cells.size=ei.size:=kk2.zsize
   have hzc:Z (CP (XX K.X0 ρ B) w) z2.cells.toList te.zero:=J8 (w:=w) kk2 (XX K.X0 ρ B)
   have hmade:=XA hzc (n-lo)
   rw[hz2]at hmade
   have hzz:Builtin.zeroCells z2.cells (n-lo)=madeCells z2.cells ((n-lo) * ei.size):=by
    unfold Builtin.zeroCells madeCells;rw[hz2]
   have hzl:(madeCells z2.cells ((n-lo) * ei.size)).toList.length=(n-lo) * ei.size:=by rw[Array.length_toList,size_madeCells]
   have hone:∀ u ∈ (madeCells z2.cells ((n-lo) * ei.size)).toList,u.oneCell'=true:=by
    intro u hu
    obtain⟨q,hq,rfl⟩:=List.mem_iff_getElem.1 hu
    have hq2:q < ((List.replicate (n-lo) te.zero).flatten).length:=by rw[<- hmade.1];exact hq
    exact(hmade.2 q _ _ (Kj hq) (Kj hq2)).1
   have hlk:lo * ei.size+(n-lo) * ei.size=n * ei.size:=by rw[<- Nat.add_mul];congr 1;omega
   have hfit:lo * ei.size+(n-lo) * ei.size<=cur.size:=by rw[hlk,<- hn];exact hs'
   have hst:=run_storeCells_at K.P b (lo * ei.size) e' (madeCells z2.cells ((n-lo) * ei.size)).toList 0 cur w hh (by rw[hzl];omega) hone
   simp only[Nat.add_zero,hzl]at hst
   have hrun:(execOp a.eval o).run K.P w=.ok (.value (.tuple #[])) (w.setRow b (cur.toList.take (lo * ei.size)++(madeCells z2.cells ((n-lo) * ei.size)).toList++cur.toList.drop (lo * ei.size+(n-lo) * ei.size)).toArray):=by
    refine hrunb _ ?_
    rw[hv]
    obtain⟨k,hk'⟩:∃ k,n-lo=k+1:=⟨n-lo-1,by omega⟩
    rw[<- hzz]at hst ⊢
    rw[hk']at hst ⊢
    simp[Builtin.clear_,run_underlying kk.und,kk2.zeroValue w,hst]
   have hlen2:(rows.take lo++List.replicate (n-lo) te.zero).length=rows.length:=by rw[Kf,Kg,Kt];omega
   have htk:(cur.toList.take (lo * ei.size)).length=lo * ei.size:=by rw[Kg,Array.length_toList];omega
   have hS:(cur.toList.take (lo * ei.size)++(madeCells z2.cells ((n-lo) * ei.size)).toList++cur.toList.drop (lo * ei.size+(n-lo) * ei.size)).toArray.size=cur.size:=by
    simp only[List.size_toArray,Kf,htk,hzl,Kh,Array.length_toList];omega
   have hR:RowsAt (CP (XX K.X0 ρ B) w) (cur.toList.take (lo * ei.size)++(madeCells z2.cells ((n-lo) * ei.size)).toList++cur.toList.drop (lo * ei.size+(n-lo) * ei.size)).toArray ei.size (rows.take lo++List.replicate (n-lo) te.zero):=by
    have er1:∀ i,i < lo->Ji (rows.take lo++List.replicate (n-lo) te.zero) i=Ji rows i:=by
     intro i hi
     simp only[Ji,Ka]
     rw[List.getElem?_append,if_pos (by rw[Kg];omega),List.getElem?_take,if_pos hi]
    have er2:∀ i,¬ i < lo->i < n->Ji (rows.take lo++List.replicate (n-lo) te.zero) i=te.zero:=by
     intro i hi hi2
     simp only[Ji,Ka]
     rw[List.getElem?_append,if_neg (by rw[Kg];omega),Kg,List.getElem?_replicate,if_pos (by omega)]
     rfl
    refine⟨fun i hi=>?_,by rw[hS,hlen2];exact hs',fun i hi j hj=>?_⟩
    . rw[hlen2]at hi
      by_cases hlt:i < lo
      . rw[er1 i hlt];exact hkr i hi
      rw[er2 i hlt (by omega)];exact hz
    rw[hlen2]at hi
    rw[JX,Ka]
    by_cases hlt:i < lo
    . rw[er1 i hlt]
      have h5:=J2 hlt hj
      have:=hc' i hi j hj
      rw[Kv]at this
      rw[List.getElem?_append,if_pos (by rw[Kf,htk];omega),List.getElem?_append,if_pos (by rw[htk];exact h5),List.getElem?_take,if_pos h5]
      simpa[CP]using this
    rw[er2 i hlt (by omega)]
    have h5:lo * ei.size<=i * ei.size:=K1 _ (by omega)
    have h6:(i-lo) * ei.size+j < (n-lo) * ei.size:=J2 (by omega) hj
    have h7:i * ei.size+j-lo * ei.size=(i-lo) * ei.size+j:=by rw[Nat.sub_mul];omega
    rw[List.getElem?_append,if_pos (by rw[Kf,htk,hzl];omega),List.getElem?_append,if_neg (by rw[htk];omega),htk,h7]
    have h8:(i-lo) * ei.size+j < (madeCells z2.cells ((n-lo) * ei.size)).toList.length:=by rw[hzl];exact h6
    rw[Kj h8]
    have h9:((List.replicate (n-lo) te.zero).flatten)[(i-lo) * ei.size+j]?=some (nth te.zero j):=by
     rw[JE,hz,if_pos h6,show((i-lo) * ei.size+j) % ei.size=j by rw[Nat.add_comm,Nat.add_mul_mod_self_right,Nat.mod_eq_of_lt hj]]
     simp[nth,List.getD_eq_getElem?_getD,List.getElem?_eq_getElem (show j < te.zero.length by rw[hz];exact hj)]
    exact hmade.2 _ _ _ (Kj h8) h9
   generalize (cur.toList.take (lo * ei.size)++(madeCells z2.cells ((n-lo) * ei.size)).toList++cur.toList.drop (lo * ei.size+(n-lo) * ei.size)).toArray=ns at hrun hS hR
   have hmod:=h.modify id (.buf e' ei.size (rows.take lo++List.replicate (n-lo) te.zero)) (w':=w.setRow b ns) (h.keeps_row hal hr _) (by rw[hB];exact⟨rfl,rfl,hlen2.symm⟩) hal
    (fun b2 hb2=>by rw[hr]at hb2;cases hb2;exact Xf hh hS)
    (fun b2 _ hb2=>setRow_other w b b2 _ (fun e=>hb2 (by rw[hr,e])))
    (fun _ hm=>by
     unfold BlkOK
     rw[Jb]
     exact⟨hR.1,by rw[hlen2];exact hmx,.inr ⟨b,ns,hr,setRow_heap w b cur _ e' (0,0) hh,hR.2.1,fun i hi j hj=>⟨(hR.2.2 i hi j hj).1,hm _ _ (hR.2.2 i hi j hj).2⟩⟩⟩)
   exact Does.of_run hrun ⟨ρ,hmod,htup⟩
end
section
variable {w : World} {P : Program} {X : Nat → Prop}
def VR(X:Nat->Prop)(w:World)(agg:Bool)(u:Value)(l:List AV):Prop :=
 if agg then ∃ xs:Array Value,u=.agg xs/\Z (CP X w) xs.toList l else ∃ x,l=[x]/\CP X w u x
theorem Jby{t:Nat}{ti:TI}{d:TypeDesc}{i:TypeInfo}{z:Value}(k:TIOK P t ti d i z){arr:Array Value}{l:List AV}(hz:Z (CP X w) arr.toList l){off:Nat}(hfit:off+ti.size<=l.length)(ha:ti.agg=true ∨ ti.size=1) :
 ∃ v,(part t arr off).run P w=.ok v w/\VR X w ti.agg v ((l.drop off).take ti.size):=by
 unfold part
 simp only[Ki,k.isAgg w,Ke]
 cases hg:ti.agg with
 | true =>
  simp only[if_true,Ki,k.sizeOf w,Ke]
  refine⟨_,rfl,arr.extract off (off+ti.size),rfl,?_⟩
  have:=(hz.drop off).take ti.size
  simp only[Array.toList_extract,List.extract_eq_take_drop]
  rw[show off+ti.size-off=ti.size by omega]
  exact this
 | false =>
  have h1:ti.size=1:=ha.resolve_left (by simp[hg])
  have hlt:off < l.length:=by omega
  obtain⟨v,hv,hr⟩:=hz.at (i:=off) hlt
  have hv':arr[off]?=some v:=by simpa using hv
  refine⟨v,by simp[hv'],nth l off,?_,hr⟩
  rw[h1]
  apply List.ext_getElem?
  intro j
  rw[List.getElem?_take,List.getElem?_drop]
  cases j with
  | zero=>simp[nth,List.getD_eq_getElem?_getD,List.getElem?_eq_getElem hlt]
  | succ j=>simp
theorem Jed{x y:AV}{b:Bool}(h:VZ [x] [y]=some b):Qw x y=some b:=by
 simp only[VZ]at h
 cases hx:Qw x y with
 | none=>simp[hx]at h
 | some c=>simp[hx]at h;rw[h]
theorem Jiv{k:TK}{d:TypeDesc}{t:Nat}(hu:P.underlying t=some d)(hk:(∃ q,k=.int q/\d=.int q) ∨ (k=.bool/\d=.bool) ∨ (k=.str/\d=.string)){x y:AV}{u v:Value}(h1:CP X w u x)(h2:CP X w v y){b:Bool}(hb:Qw x y=some b)
 (hs:Xb k x=true)(n:Nat):(Op.equalIn (n+1) t u v).run P w=.ok b w:=by
 cases x <;> cases y <;> simp only[Qw,reduceCtorEq]at hb
 case int q m q' m' =>
  split at hb
  . rename_i e
    subst e
    cases hb
    cases h1.2
    cases h2.2
    rcases hk with⟨q2,rfl,rfl⟩ | ⟨rfl,rfl⟩ | ⟨rfl,rfl⟩
    . simp[Op.equalIn,run_underlying hu]
    . simp[Xb]at hs
    simp[Xb]at hs
  cases hb
 case bool p p' =>
  cases hb
  cases h1.2
  cases h2.2
  rcases hk with⟨q2,rfl,rfl⟩ | ⟨rfl,rfl⟩ | ⟨rfl,rfl⟩
  . simp[Xb]at hs
  . simp[Op.equalIn,run_underlying hu]
  simp[Xb]at hs
 case str p p' =>
  cases hb
  cases h1.2
  cases h2.2
  rcases hk with⟨q2,rfl,rfl⟩ | ⟨rfl,rfl⟩ | ⟨rfl,rfl⟩
  . simp[Xb]at hs
  . simp[Xb]at hs
  simp[Op.equalIn,run_underlying hu,beq_toListBytes]
def UR(d:Nat)(e n:Nat)(xs ys:Array Value):List Nat->Sem Bool
 | []=>pure true
 | i::is=>do
  let r ← Op.equalIn d e (← part e xs (i * n)) (← part e ys (i * n))
  if(!r)=true then pure false else UR d e n xs ys is
theorem UL(d t m e n:Nat)(xs ys:Array Value)(ht:P.underlying t=some (.array m e))(hn:∀ w,(sizeOf e).run P w=.ok n w) :
 (Op.equalIn (d+1) t (.agg xs) (.agg ys)).run P w=(UR d e n xs ys (List.range m)).run P w:=by
 simp only[Op.equalIn,Ki,run_underlying ht,Ke,hn]
 rw[Std.Legacy.Range.forIn_eq_forIn_range']
 simp only[Std.Legacy.Range.size,Nat.sub_zero,Nat.add_sub_cancel,Nat.div_one]
 rw[<- List.range_eq_range']
 generalize List.range m=is
 induction is generalizing w with
 | nil=>simp[UR]
 | cons i is ih =>
  simp only[List.forIn_cons,UR,Ki]
  generalize (part e xs (i * n)).run P w=r1
  cases r1 with
  | ok a w1 =>
   simp only[Ke]
   generalize (part e ys (i * n)).run P w1=r2
   cases r2 with
   | ok b w2 =>
    simp only[Ke]
    generalize (Op.equalIn d e a b).run P w2=r3
    cases r3 with
    | ok r w3 =>
     simp only[Ke]
     cases r with
     | true=>simp;simpa using ih (w:=w3)
     | false=>simp
    | halt h w3=>simp
   | halt h w2=>simp
  | halt h w1=>simp
theorem Jiu{T:TT}{d t:Nat}{l m:List AV}{b:Bool}(h:JbX T (d+1) t l m=some b):∃ ti,lk t T=some ti/\l.length=ti.size/\m.length=ti.size:=by
 unfold JbX at h
 cases hl:lk t T with
 | none=>rw[hl]at h;cases h
 | some ti =>
  rw[hl]at h
  simp only at h
  split at h
  . cases h
  rename_i hc
  simp only[Ks,Bool.not_eq_false,Kd]at hc
  exact⟨ti,rfl,Kc hc.1,Kc hc.2⟩
theorem Jfi{T:TT}(hT:TOK P T){d t:Nat}{ti:TI}{l m:List AV}{b:Bool}(hl:lk t T=some ti)(h:JbX T (d+1) t l m=some b):ti.agg=true ∨ ti.size=1:=by
 obtain⟨dd,i,z,k⟩:=Jk (hT t ti hl)
 have hk:=k.kind
 unfold JbX at h
 rw[hl]at h
 simp only at h
 split at h
 . cases h
 cases hkk:ti.k with
 | int q=>rw[hkk]at h;simp only at h;split at h
          . rename_i hb;simp only[Kd]at hb;exact .inr (Kc hb.1)
          . cases h
 | bool=>rw[hkk]at h;simp only at h;split at h
         . rename_i hb;simp only[Kd]at hb;exact .inr (Kc hb.1)
         . cases h
 | str=>rw[hkk]at h;simp only at h;split at h
        . rename_i hb;simp only[Kd]at hb;exact .inr (Kc hb.1)
        . cases h
 | slice e es eb=>rw[hkk]at h;cases h
 | map q e=>rw[hkk]at h;cases h
 | other=>rw[hkk]at h;cases h
 | arr n e es=>exact .inl (k.arrKind hkk).2.1
 | struct fs =>
  rw[hkk]at hk
  cases dd <;> simp only[JQ,reduceCtorEq,false_and,and_false,exists_false]at hk
  exact .inl hk.1
theorem Jec{T:TT}(hT:TOK P T):∀ (d c t:Nat) (l m:List AV) (b:Bool) (u v:Value) (ti:TI),lk t T=some ti->JbX T d t l m=some b->VR X w ti.agg u l->VR X w ti.agg v m->(Op.equalIn (d+c) t u v).run P w=.ok b w
 | 0,_,_,_,_,_,_,_,_,_,h,_,_=>by simp[JbX]at h
 | d+1,c,t,l,m,b,u,v,ti,hl,h,hu,hv=>by
  obtain⟨dd,i,z,k⟩:=Jk (hT t ti hl)
  have hk:=k.kind
  have hd1:d+1+c=(d+c)+1:=by omega
  rw[hd1]
  have scal:ti.agg=false->((∃ q,ti.k=.int q/\dd=.int q) ∨ (ti.k=.bool/\dd=.bool) ∨ (ti.k=.str/\dd=.string))->l.all (Xb ti.k)=true->VZ l m=some b->(Op.equalIn ((d+c)+1) t u v).run P w=.ok b w:=by
   intro ha hkd hal he
   rw[ha]at hu hv
   obtain⟨x,rfl,hx⟩:=hu
   obtain⟨y,rfl,hy⟩:=hv
   exact Jiv k.und hkd hx hy (Jed he) (by simpa using hal) (d+c)
  unfold JbX at h
  rw[hl]at h
  simp only at h
  split at h
  · cases h
  rename_i hc
  simp only[Ks,Bool.not_eq_false,Kd]at hc
  cases hkk:ti.k with
  | slice e es eb=>rw[hkk]at h;cases h
  | map q e=>rw[hkk]at h;cases h
  | other=>rw[hkk]at h;cases h
  | int q =>
   rw[hkk]at h;simp only at h
   split at h
   · rename_i hb
     simp only[Kd]at hb
     have hdd:=k.intKind hkk
     subst hdd
     rw[hkk]at hk
     exact scal hk.2 (.inl ⟨q,hkk,rfl⟩) (by rw[hkk];exact hb.2) h
   cases h
  | bool =>
   rw[hkk]at h;simp only at h
   split at h
   · rename_i hb
     simp only[Kd]at hb
     rw[hkk]at hk
     have hdd:dd=.bool:=by cases dd <;> simp only[JQ,reduceCtorEq,false_and,and_false,exists_false]at hk;rfl
     subst hdd
     exact scal hk.2 (.inr (.inl ⟨hkk,rfl⟩)) (by rw[hkk];exact hb.2) h
   cases h
  | str =>
   rw[hkk]at h;simp only at h
   split at h
   · rename_i hb
     simp only[Kd]at hb
     have hdd:=k.strKind hkk
     subst hdd
     rw[hkk]at hk
     exact scal hk.2 (.inr (.inr ⟨hkk,rfl⟩)) (by rw[hkk];exact hb.2) h
   cases h
  | struct fs =>
   rw[hkk]at h;simp only at h
   split at h
   · rename_i heq
     rw[hkk]at hk
     cases dd <;> simp only[JQ,reduceCtorEq,false_and,and_false,exists_false]at hk
     case struct flds =>
      obtain⟨hag,hnm,l',hl',e'⟩:=hk
      simp only[TK.struct.injEq]at e'
      subst e'
      rw[hag]at hu hv
      obtain⟨xs,rfl,hzx⟩:=hu
      obtain⟨ys,rfl,hzy⟩:=hv
      have hf:P.fieldsOf t=flds:=by unfold Program.fieldsOf;rw[k.und]
      rw[run_equalIn_struct w (d+c) t xs ys (by rw[hf];exact k.und) (k.eqd heq).2.1,hf]
      clear hl k heq hkk hc hf scal
      generalize flds.toList=fl at hl' hnm ⊢
      induction fl generalizing fs b with
      | nil =>
       simp at hl'
       subst hl'
       simp only[JbY]at h
       cases h
       simp[Op.eqFields]
      | cons f fl ih =>
       simp only[List.mapM_cons,Option.bind_eq_bind,Option.pure_def]at hl'
       cases hi:P.info? f.type with
       | none=>simp[hi]at hl'
       | some fi =>
        cases hr:fl.mapM (fun f=>(P.info? f.type).map fun fi=>(f.offset,f.type,fi.size))with
        | none=>simp[hi,hr]at hl'
        | some rest =>
         simp[hi,hr]at hl'
         subst hl'
         simp only[List.any_cons,Bool.or_eq_false_iff]at hnm
         simp only[JbY]at h
         split at h
         · cases h
         rename_i hfit
         simp only[Ks,Bool.not_eq_false,Kd]at hfit
         cases he1:JbX T d f.type ((l.drop f.offset).take fi.size) ((m.drop f.offset).take fi.size)with
         | none=>simp[he1]at h
         | some p =>
          cases he2:JbY (JbX T d) rest l m with
          | none=>simp[he1,he2]at h
          | some q =>
           simp[he1,he2]at h
           subst h
           cases d with
           | zero=>simp[JbX]at he1
           | succ d =>
            obtain⟨tf,htf,hl1,hl2⟩:=Jiu he1
            obtain⟨d2,i2,z2,k2⟩:=Jk (hT _ tf htf)
            have hsz:tf.size=fi.size:=by
             have:=k2.info;rw[hi]at this;cases this;exact k2.size
            have hag2:=Jfi hT htf he1
            have f1:=Kl hfit.1
            have f2:=Kl hfit.2
            obtain⟨u1,hu1,hr1⟩:=Jby k2 hzx (off:=f.offset) (by rw[hsz];exact f1) hag2
            obtain⟨v1,hv1,hr2⟩:=Jby k2 hzy (off:=f.offset) (by rw[hsz];exact f2) hag2
            rw[hsz]at hr1 hr2
            have hrec:=Jec hT (d+1) c f.type _ _ p u1 v1 tf htf he1 hr1 hr2
            have hrest:=ih q rest he2 hr hnm.2
            have hne : f.name ≠ "_" := by
             intro e;rw[e]at hnm;simp at hnm
            simp only[Op.eqFields]
            rw[if_pos hne]
            simp only[Ki,hu1,hv1,hrec,Ke]
            cases p with
            | true=>simpa using hrest
            | false=>simp
   cases h
  | arr n e es =>
   rw[hkk]at h;simp only at h
   split at h
   · rename_i heq
     obtain⟨hdd,hag,ei,hei,hes⟩:=k.arrKind hkk
     subst hdd
     rw[hag]at hu hv
     obtain⟨xs,rfl,hzx⟩:=hu
     obtain⟨ys,rfl,hzy⟩:=hv
     rw[UL (d+c) t n e es xs ys k.und (fun w=>by simp[Go.sizeOf,typeInfo,hei,hes])]
     clear hl k heq hkk hc scal
     generalize List.range n=is at h ⊢
     induction is generalizing b with
     | nil =>
      simp only[List.map_nil,JbY]at h
      cases h
      simp[UR]
     | cons j is ih =>
      simp only[List.map_cons,JbY]at h
      split at h
      · cases h
      rename_i hfit
      simp only[Ks,Bool.not_eq_false,Kd]at hfit
      cases he1:JbX T d e ((l.drop (j * es)).take es) ((m.drop (j * es)).take es)with
      | none=>simp[he1]at h
      | some p =>
       cases he2:JbY (JbX T d) (is.map fun i=>(i * es,e,es)) l m with
       | none=>simp[he1,he2]at h
       | some q =>
        simp[he1,he2]at h
        subst h
        cases d with
        | zero=>simp[JbX]at he1
        | succ d =>
         obtain⟨tf,htf,hl1,hl2⟩:=Jiu he1
         obtain⟨d2,i2,z2,k2⟩:=Jk (hT _ tf htf)
         have hsz:tf.size=es:=by
          have:=k2.info;rw[hei]at this;cases this;rw[<- hes];exact k2.size
         have hag2:=Jfi hT htf he1
         have f1:=Kl hfit.1
         have f2:=Kl hfit.2
         obtain⟨u1,hu1,hr1⟩:=Jby k2 hzx (off:=j * es) (by rw[hsz];exact f1) hag2
         obtain⟨v1,hv1,hr2⟩:=Jby k2 hzy (off:=j * es) (by rw[hsz];exact f2) hag2
         rw[hsz]at hr1 hr2
         have hrec:=Jec hT (d+1) c e _ _ p u1 v1 tf htf he1 hr1 hr2
         have hrest:=ih q he2
         simp only[UR,Ki,hu1,hv1,hrec,Ke]
         cases p with
         | true=>simpa using hrest
         | false=>simp
   cases h
end
section
variable {K : Ctx} {ρ : Pl} {slot : Nat → Option AV} {B : Nat → ABlk} {a : Act} {w : World}
structure Setup(K:Ctx)(ρ:Pl)(slot:Nat->Option AV)(B:Nat->ABlk)(a:Act)(w:World)(nid:Nat)(o:Oper)(ins:List AV)(bs:BL):Prop where
 tok:TOK K.P K.T
 rel:RelW K ρ slot B a w
 ops:∃ xs,QP o.op=some xs/\Xe ρ B (XX K.X0 ρ B) w a xs ins
 bsd:∀ id,id ∈ JaY o.op bs (Vb o.op ins)->Jr bs id=B id
 fresh:Fresh slot B nid
 ment:∀ av,av ∈ ins->nid ∉ Qn av
theorem Setup.bs{K:Ctx}{ρ:Pl}{slot:Nat->Option AV}{B:Nat->ABlk}{a:Act}{w:World}{nid:Nat}{o:Oper}{ins:List AV}{bs:BL}(s:Setup K ρ slot B a w nid o ins bs):∀ id,id ∈ Vb o.op ins->Jr bs id=B id:=fun id h=>s.bsd id (JfY h)
abbrev XW(K:Ctx)(slot:Nat->Option AV)(B:Nat->ABlk)(a:Act)(w:World)(o:Oper)(ou:Out):Prop:=Does K.P o a w (Post K slot B a ou.wr ou.v)
theorem Jn{v:AV}{c:List Cd}{ou:Out}(h:out v c=some ou):ou=⟨v,[],c,[]⟩:=by
 unfold out at h;cases h;rfl
theorem Jd4{X:Nat->Prop}{x:Operand}{ins:List AV}(h:Xe ρ B X w a [x] ins):∃ av,ins=[av]/\SRep ρ B X w (a.eval x) av:=by
 match ins,h with
 | [av],h=>exact⟨av,rfl,h.1⟩
theorem JlZ{X:Nat->Prop}{x y:Operand}{ins:List AV}(h:Xe ρ B X w a [x,y] ins):∃ av bv,ins=[av,bv]/\SRep ρ B X w (a.eval x) av/\SRep ρ B X w (a.eval y) bv:=by
 match ins,h with
 | [av,bv],h=>exact⟨av,bv,rfl,h.1,h.2.1⟩
theorem ins3{X:Nat->Prop}{x y z:Operand}{ins:List AV}(h:Xe ρ B X w a [x,y,z] ins):∃ av bv cv,ins=[av,bv,cv]/\SRep ρ B X w (a.eval x) av/\SRep ρ B X w (a.eval y) bv/\SRep ρ B X w (a.eval z) cv:=by
 match ins,h with
 | [av,bv,cv],h=>exact⟨av,bv,cv,rfl,h.1,h.2.1,h.2.2.1⟩
variable {nid : Nat} {o : Oper} {ins : List AV} {bs : BL} {ou : Out}
theorem s_move(s:Setup K ρ slot B a w nid o ins bs){x:Operand}(ho:o.op=.move x)(h:aMove ins=some ou):XW K slot B a w o ou:=by
 obtain⟨xs,hx,hi⟩:=s.ops
 rw[ho]at hx;cases hx
 obtain⟨av,rfl,hv⟩:=Jd4 hi
 obtain rfl:=Jn h
 exact JhT s.rel (.inl ho) hv
theorem JjY(s:Setup K ρ slot B a w nid o ins bs){x:Operand}(ho:o.op=.assign x){fr:Bool}{ty:Nat}(h:Jeu K.T nid fr ty ins=some ou):XW K slot B a w o ou:=by
 obtain⟨xs,hx,hi⟩:=s.ops
 rw[ho]at hx;cases hx
 obtain⟨av,rfl,hv⟩:=Jd4 hi
 cases fr with
 | false=>obtain rfl:=Jn h;exact JhT s.rel (.inr ho) hv
 | true =>
  simp only[Jeu,if_true]at h
  cases av <;> simp only[reduceCtorEq]at h
  case ex v =>
   split at h
   . rename_i hn
     have:=SRep.ex_inv hv
     subst this
     split at h
     . split at h
       . cases h
         exact Jb6 s.rel s.fresh ho (JD hn) _ _
       cases h
     cases h
   cases h
theorem s_pick(s:Setup K ρ slot B a w nid o ins bs){c x y:Operand}(ho:o.op=.pick c x y)(h:Jox ins=some ou)(hc:All ou.cond):XW K slot B a w o ou:=by
 obtain⟨xs,hx,hi⟩:=s.ops
 rw[ho]at hx;cases hx
 obtain⟨av,bv,cv,rfl,h1,h2,h3⟩:=ins3 hi
 unfold Jox at h
 split at h
 . rename_i heq
   simp only[List.cons.injEq,and_true]at heq
   obtain⟨rfl,rfl,rfl⟩:=heq
   obtain rfl:=Jn h
   exact JdO s.rel ho (SRep.bool_inv h1) (fun _=>SRep.bool_inv h2) (fun _=>SRep.bool_inv h3)
 . rename_i heq
   simp only[List.cons.injEq,and_true]at heq
   obtain⟨rfl,rfl,rfl⟩:=heq
   obtain rfl:=Jn h
   exact JdO s.rel ho (SRep.bool_inv h1) (fun e=>SRep.bool_inv (ρ:=ρ) (B:=B) (SRep.of1 (h2.1 (hc.1 e)))) (fun _=>SRep.bool_inv h3)
 . rename_i heq
   simp only[List.cons.injEq,and_true]at heq
   obtain⟨rfl,rfl,rfl⟩:=heq
   obtain rfl:=Jn h
   exact JdO s.rel ho (SRep.bool_inv h1) (fun _=>SRep.bool_inv h2) (fun e=>SRep.bool_inv (ρ:=ρ) (B:=B) (SRep.of1 (h3.1 (hc.1 e))))
 . rename_i heq
   simp only[List.cons.injEq,and_true]at heq
   obtain⟨rfl,rfl,rfl⟩:=heq
   obtain rfl:=Jn h
   exact JnE s.rel ho (SRep.bool_inv h1) h2
 cases h
theorem Jnn(s:Setup K ρ slot B a w nid o ins bs){t:Nat}(ho:o.op=.alloc t){fr:Bool}(h:JiW K.T nid fr t=some ou):XW K slot B a w o ou:=by
 unfold JiW at h
 split at h
 . rename_i ti hti
   exact(Jk1 s.tok s.rel s.fresh ho hti h).2
 cases h
theorem s_box(s:Setup K ρ slot B a w nid o ins bs){t:Nat}{x:Operand}(ho:o.op=.box t x){fr:Bool}(h:aBox K.T nid fr t ins=some ou):XW K slot B a w o ou:=by
 obtain⟨xs,hx,hi⟩:=s.ops
 rw[ho]at hx;cases hx
 obtain⟨av,rfl,hv⟩:=Jd4 hi
 simp only[aBox]at h
 split at h
 . split at h
   . rename_i l hl
     exact(box_ok s.rel s.fresh ho hv hl (s.ment av (by simp)) h).2
   cases h
 cases h
theorem Jnm(s:Setup K ρ slot B a w nid o ins bs){t:Nat}{parts:Array (Nat × Operand)}(ho:o.op=.build t parts)(h:JiV K.T t (parts.toList.map (·.1)) ins=some ou):XW K slot B a w o ou:=by
 obtain⟨xs,hx,hi⟩:=s.ops
 rw[ho]at hx;cases hx
 unfold JiV at h
 split at h
 . rename_i ti hti
   split at h
   . rename_i l hl
     obtain rfl:=Jn h
     exact JkY s.tok s.rel ho hti hi hl
   split at h
   . rename_i l hl
     obtain rfl:=Jn h
     exact JiL s.tok s.rel ho hti hi hl
   cases h
 cases h
theorem Jct(s:Setup K ρ slot B a w nid o ins bs){t n:Nat}{parts:Array (Nat × Operand)}(ho:o.op=.buildSlice t n parts){fr:Bool}(h:V2 K.T nid fr t n (parts.toList.map (·.1)) ins=some ou):XW K slot B a w o ou:=by
 obtain⟨xs,hx,hi⟩:=s.ops
 rw[ho]at hx;cases hx
 unfold V2 at h
 split at h
 . rename_i ti hti
   split at h
   . rename_i e es eb hk
     split at h
     . rename_i te hte
       split at h
       . rename_i hb
         simp only[Kd,Ks]at hb
         split at h
         . rename_i l hl
           exact(Jb5 s.tok s.rel s.fresh ho hti hk hte (Kc hb.1.2) (Nat.ne_of_beq_eq_false hb.2) (Kl hb.1.1) hi hl h).2
         split at h
         . cases h
         split at h
         . rename_i l hl
           cases h
           exact JaI s.tok s.rel s.fresh ho hti hk hte (Kc hb.1.2) (Nat.ne_of_beq_eq_false hb.2) (Kl hb.1.1) hi (fun av hav=>s.ment av hav) hl
         cases h
       cases h
     cases h
   cases h
 cases h
theorem JdB(s:Setup K ρ slot B a w nid o ins bs){t:Nat}{x y:Operand}(ho:o.op=.makeSlice t x y){fr:Bool}(h:U0 K.T nid fr t ins=some ou)(hc:All ou.cond):XW K slot B a w o ou:=by
 obtain⟨xs,hx,hi⟩:=s.ops
 rw[ho]at hx;cases hx
 obtain⟨av,bv,rfl,h1,h2⟩:=JlZ hi
 unfold U0 at h
 split at h
 . rename_i kx n ky c heq
   simp only[List.cons.injEq,and_true]at heq
   obtain⟨rfl,rfl⟩:=heq
   split at h
   . rename_i ti hti
     split at h
     . rename_i e es eb hk
       split at h
       . rename_i te hte
         split at h
         . rename_i hb
           simp only[Kd]at hb
           have hcond:All [0<=n,n<=c,c<=9223372036854775807,c * eb<=140737488355328]:=by
            cases fr
            . simp only[Bool.false_eq_true,if_false]at h;cases h;exact hc
            simp only[if_true]at h;obtain rfl:=Jn h;exact hc
           exact(JcH s.tok s.rel s.fresh ho hti hk hte (SRep.int_inv h1) (SRep.int_inv h2) (Kc hb.1) hcond.1 hcond.2.1 hcond.2.2.1 hcond.2.2.2.1 h).2
         cases h
       cases h
     cases h
   cases h
 cases h
theorem VF(s:Setup K ρ slot B a w nid o ins bs)(hn:Vb o.op ins=ins.flatMap mids1){av:AV}(hm:av ∈ ins){id:Nat}(hid:id ∈ mids1 av):Jr bs id=B id :=
 s.bs id (by rw[hn,Kn];exact⟨av,hm,hid⟩)
theorem s_load(s:Setup K ρ slot B a w nid o ins bs){t:Nat}{x:Operand}(ho:o.op=.load t x)(h:Jk4 K.T t bs ins=some ou)(hc:All ou.cond):XW K slot B a w o ou:=by
 obtain⟨xs,hx,hi⟩:=s.ops
 rw[ho]at hx;cases hx
 obtain⟨av,rfl,hv⟩:=Jd4 hi
 have hn:Vb o.op [av]=[av].flatMap mids1:=by rw[ho];rfl
 simp only[Jk4]at h
 split at h
 . rename_i ti hti
   cases av <;> simp only[reduceCtorEq]at h
   case elt k rows i j =>
    split at h
    . rename_i hb
      simp only[Kd,Bool.or_eq_true]at hb
      have ha:ti.agg=true ∨ ti.size=1:=hb.2.imp (fun h=>h) Kc
      have hl:=Jko s.tok s.rel ho hti hv (Kl hb.1) ha
      split at h
      . rename_i hw
        obtain rfl:=Jn h
        simp only[Kd]at hw
        obtain⟨b,off,cs,_,_,_,_,hk,_⟩:=Rep.elt_inv (show Rep _ w (a.eval x) (.elt k rows i j)from hv)
        have hj:=Kc hw.1.2
        have hs:=Kc hw.2
        rw[hj,hw.1.1,JcX (by rw[hk,hs])]at hl
        exact hl
      obtain rfl:=Jn h
      exact hl
    cases h
   case ptr id off =>
    rw[VF s hn (av:=.ptr id off) (by simp) (by simp[mids1,mids0])]at h
    cases hB:B id <;> rw[hB]at h <;> simp only[reduceCtorEq]at h
    case box cells =>
     split at h
     . rename_i hb
       simp only[Kd,Bool.or_eq_true,Ks]at hb
       obtain rfl:=Jn h
       exact Je2 s.tok s.rel ho hti hv hB (Kl hb.1.1) (hb.1.2.imp (fun h=>h) Kc) (fun e=>hb.2.resolve_left (by simp[e]))
     split at h
     . rename_i hb
       simp only[Kd]at hb
       obtain rfl:=Jn h
       exact Jh0 s.tok s.rel ho hti hv hB (Kl hb.1) hb.2
     cases h
   case optr id i j =>
    rw[VF s hn (av:=.optr id i j) (by simp) (by simp[mids1,mids0])]at h
    cases hB:B id <;> rw[hB]at h <;> simp only[reduceCtorEq]at h
    case buf e k rows =>
     split at h
     . rename_i hb
       simp only[Kd,Bool.or_eq_true]at hb
       have ha:ti.agg=true ∨ ti.size=1:=hb.2.imp (fun h=>h) Kc
       split at h
       . rename_i hw
         obtain rfl:=Jn h
         have hl:=JcI s.tok s.rel ho hti hv hB hc.1 (Kl hb.1) ha
         simp only[Kd]at hw
         have hbl:=s.rel.blks id
         unfold BlkOK at hbl
         rw[hB]at hbl
         have hj:=Kc hw.1.2
         have hs:=Kc hw.2
         rw[hj,hw.1.1,JcX (by rw[hbl.1 i hc.1,hs])]at hl
         exact hl
       obtain rfl:=Jn h
       exact JcI s.tok s.rel ho hti hv hB hc.1 (Kl hb.1) ha
     cases h
 cases h
theorem Jnf(s:Setup K ρ slot B a w nid o ins bs){t:Nat}{x y:Operand}(ho:o.op=.store t x y)(h:Jfu K.T t bs ins=some ou)(hc:All ou.cond):XW K slot B a w o ou:=by
 obtain⟨xs,hx,hi⟩:=s.ops
 rw[ho]at hx;cases hx
 obtain⟨av,bv,rfl,h1,h2⟩:=JlZ hi
 have hn:Vb o.op [av,bv]=[av,bv].flatMap mids1:=by rw[ho];rfl
 simp only[Jfu]at h
 split at h
 . rename_i ti hti
   split at h
   . rename_i l hl
     cases av <;> simp only[reduceCtorEq]at h
     case ptr id off =>
      rw[VF s hn (av:=.ptr id off) (by simp) (by simp[mids1,mids0])]at h
      cases hB:B id <;> rw[hB]at h <;> simp only[reduceCtorEq]at h
      case box cells =>
       split at h
       . rename_i hb
         cases h
         exact Jcn s.tok s.rel ho hti h1 h2 hB hl (Kl hb)
       cases h
     case optr id i j =>
      rw[VF s hn (av:=.optr id i j) (by simp) (by simp[mids1,mids0])]at h
      cases hB:B id <;> rw[hB]at h <;> simp only[reduceCtorEq]at h
      case buf e k rows =>
       split at h
       . rename_i hb
         simp only[Kd]at hb
         cases h
         exact JfM s.tok s.rel ho hti h1 h2 hB hl hb.2 hc.1 (Kl hb.1)
       cases h
   cases h
 cases h
theorem Jni(s:Setup K ρ slot B a w nid o ins bs){t:Nat}{x:Operand}(ho:o.op=.load t x)(h:Jfw K.T t bs ins=some ou)(hc:All ou.cond):XW K slot B a w o ou:=by
 obtain⟨xs,hx,hi⟩:=s.ops
 rw[ho]at hx;cases hx
 obtain⟨av,rfl,hv⟩:=Jd4 hi
 have hn:Vb o.op [av]=[av].flatMap mids1:=by rw[ho];rfl
 simp only[Jfw]at h
 split at h
 . rename_i ti hti
   cases av <;> simp only[reduceCtorEq]at h
   case ptr id off =>
    rw[VF s hn (av:=.ptr id off) (by simp) (by simp[mids1,mids0])]at h
    cases hB:B id <;> rw[hB]at h <;> simp only[reduceCtorEq]at h
    case box cells =>
     split at h
     . rename_i hb
       simp only[Kd,Ks]at hb
       have h1:=Kc hb.2
       obtain rfl:=Jn h
       have hc1:off+1<=cells.length:=hc.1
       have:=Je2 s.tok s.rel ho hti hv hB (by rw[h1];exact hc1) (.inr h1) (fun e=>by rw[hb.1]at e;cases e)
       rw[h1,hb.1]at this
       exact this
     cases h
 cases h
theorem Jer:∀ {l m:List Cd},All (l++m)->All l/\All m
 | [],_,h=>⟨trivial,h⟩
 | ⟨_,_⟩::l,_,h=>⟨⟨h.1,(Jer (l:=l) h.2).1⟩,(Jer (l:=l) h.2).2⟩
theorem JnC{off j:Nat}{c x:AV}(h:All (Jpy off j c x).2):(Jpy off j c x).1=if off=j then x else c:=by
 unfold Jpy at h ⊢
 split
 . rename_i k n k' m
   split
   . rename_i e
     subst e
     by_cases q:off=j <;> simp[q]
   rename_i e
   simp only[if_neg e]at h
   have h1:¬ off=j:=h.1
   simp[h1]
 . by_cases q:off=j <;> simp[q]
 . by_cases q:off=j <;> simp[q]
 rename_i c' x' h1 h2 h3
 have hq:¬ off=j:=by
  revert h
  split
  . rename_i k n k' m;exact absurd rfl (h1 _ _ _ _ rfl)
  . exact absurd rfl (h2 _ _ rfl)
  . exact absurd rfl (h3 _ _ rfl)
  intro h;exact h.1
 simp[hq]
theorem JhC{off:Nat}{x:AV}:∀ {l:List AV} {j:Nat},All (Jj9 off x j l).2->(Jj9 off x j l).1=(l.mapIdx fun i c=>if off=j+i then x else c)
 | [],_,_=>rfl
 | c::l,j,h=>by
  obtain⟨h1,h2⟩:=Jer h
  show(Jpy off j c x).1::(Jj9 off x (j+1) l).1=_
  rw[JnC h1,JhC h2,List.mapIdx_cons]
  simp only[Nat.add_zero,Nat.add_assoc,Nat.add_comm 1]
theorem JdL{off:Nat}{x:AV}{l:List AV}(h:All (Jj9 off x 0 l).2)(hl:off+1<=l.length):(Jj9 off x 0 l).1=Av.splice l off [x]:=by
 rw[JhC h]
 unfold Av.splice
 refine List.ext_getElem? fun i=>?_
 rw[List.getElem?_mapIdx,List.append_assoc,List.getElem?_append]
 have e1:(l.take off).length=off:=by rw[Kg];omega
 rw[e1]
 by_cases h1:i < off
 . rw[if_pos h1,List.getElem?_take,if_pos h1]
   have h2:¬ off=0+i:=by omega
   simp only[if_neg h2]
   cases l[i]? <;> rfl
 rw[if_neg h1]
 by_cases q:i=off
 . subst q
   rw[Kj (by omega)]
   have h2:i=0+i:=by omega
   simp
 have h2:¬ off=0+i:=by omega
 simp only[if_neg h2]
 rw[show i-off=(i-off-1)+1 by omega]
 simp only[List.singleton_append,List.getElem?_cons_succ,List.getElem?_drop,List.length_singleton]
 rw[show off+1+(i-off-1)=i by omega]
 cases l[i]? <;> rfl
theorem JjW(s:Setup K ρ slot B a w nid o ins bs){t:Nat}{x y:Operand}(ho:o.op=.store t x y)(h:Jb8 K.T t bs ins=some ou)(hc:All ou.cond):XW K slot B a w o ou:=by
 obtain⟨xs,hx,hi⟩:=s.ops
 rw[ho]at hx;cases hx
 obtain⟨av,bv,rfl,h1,h2⟩:=JlZ hi
 have hn:Vb o.op [av,bv]=[av,bv].flatMap mids1:=by rw[ho];rfl
 simp only[Jb8]at h
 split at h
 . rename_i ti hti
   split at h
   . rename_i l hl
     cases av <;> simp only[reduceCtorEq]at h
     case ptr id off =>
      rw[VF s hn (av:=.ptr id off) (by simp) (by simp[mids1,mids0])]at h
      cases hB:B id <;> rw[hB]at h <;> simp only[reduceCtorEq]at h
      case box cells =>
       cases h
       have hsz:ti.size=1:=by
        unfold QT at hl
        split at hl
        . split at hl
          . rename_i q
            simp only[Kd]at q
            cases hl
            have:=Kc q.2
            simpa using this.symm
          cases hl
        . split at hl
          . rename_i q
            simp only[Kd]at q
            cases hl
            have:=Kc q.2
            simpa using this.symm
          cases hl
        split at hl
        . rename_i q
          simp only[Kd]at q
          exact Kc q.2
        cases hl
       have hcl:off+ti.size<=cells.length:=hc.1
       have:=Jcn s.tok s.rel ho hti h1 h2 hB hl hcl
       rw[hsz]at hcl
       rw[<- JdL hc.2 hcl]at this
       exact this
   cases h
 cases h
theorem JfT(s:Setup K ρ slot B a w nid o ins bs){x:Operand}(ho:o.op=.nilCheck x)(h:Jax bs ins=some ou):XW K slot B a w o ou:=by
 obtain⟨xs,hx,hi⟩:=s.ops
 rw[ho]at hx;cases hx
 obtain⟨av,rfl,hv⟩:=Jd4 hi
 have hn:Vb o.op [av]=[av].flatMap mids1:=by rw[ho];rfl
 simp only[Jax]at h
 cases av <;> try simp only[reduceCtorEq]at h
 case ptr id off =>
  split at h
  . rename_i hb
    obtain rfl:=Jn h
    obtain⟨cells,hb⟩:=Uo hb
    rw[VF s hn (av:=.ptr id off) (by simp) (by simp[mids1,mids0])]at hb
    obtain⟨b,_,e⟩:=Jbx hv hb
    exact XN s.rel ho hv (.inl ⟨_,e⟩)
  cases h
 case optr id i j =>
  split at h
  . rename_i hb
    obtain rfl:=Jn h
    obtain⟨e,k,rows,hb⟩:=Un hb
    rw[VF s hn (av:=.optr id i j) (by simp) (by simp[mids1,mids0])]at hb
    obtain⟨b,_,e⟩:=Wr hv hb
    exact XN s.rel ho hv (.inl ⟨_,e⟩)
  cases h
 case elt k rows i j =>
  obtain rfl:=Jn h
  obtain⟨b,off,cs,e,_⟩:=Rep.elt_inv (show Rep _ w (a.eval x) (.elt k rows i j)from hv)
  exact XN s.rel ho hv (.inl ⟨_,e⟩)
 case fn f p q =>
  cases f with
  | func g =>
   obtain rfl:=Jn h
   obtain⟨fs,cs,e,_⟩:=(show SRep1 ρ B (XX K.X0 ρ B) w (a.eval x) (.fn _ p q)from hv)
   exact XN s.rel ho hv (.inr ⟨_,_,_,e⟩)
  | method _=>cases h
  | methodOf _ _=>cases h
  | via _ _ _ _=>cases h
  | yield _=>cases h
end
section
variable {K : Ctx} {ρ : Pl} {slot : Nat → Option AV} {B : Nat → ABlk} {a : Act} {w : World}
variable {nid : Nat} {o : Oper} {ins : List AV} {bs : BL} {ou : Out}
theorem Jae(P:Program){op:BinOp}{t:Nat}{x y:Operand}{p q:Array Value}(h:P.eqGuardType P.depth t=false):(eqGuard op t x y (.agg p) (.agg q)).run P w=.ok () w:=by
 unfold eqGuard
 cases op <;> simp[h]
theorem JiQ(s:Setup K ρ slot B a w nid o ins bs){op:BinOp}{t u:Nat}{x y:Operand}(ho:o.op=.binOp op t x y u){l m:List AV}(hx:SRep ρ B (XX K.X0 ρ B) w (a.eval x) (.agg l))(hy:SRep ρ B (XX K.X0 ρ B) w (a.eval y) (.agg m)){b:Bool}{ti:TI}(hti:lk t K.T=some ti)(hq:ti.eqd=true)
 (he:JbX K.T 9 t l m=some b)(hop:op=.eql ∨ op=.neq):Does K.P o a w (Post K slot B a [] (.bool (if op=.eql then b else !b))):=by
 obtain⟨d,inf,z,kk⟩:=Jk (s.tok t ti hti)
 obtain⟨p,hp,hzp⟩:=Rep.agg_inv (show Rep _ w (a.eval x) (.agg l)from hx)
 obtain⟨q,hq2,hzq⟩:=Rep.agg_inv (show Rep _ w (a.eval y) (.agg m)from hy)
 obtain⟨hag,_,hgd⟩:=kk.eqd hq
 have heq:=Jec s.tok 9 9991 t l m b (.agg p) (.agg q) ti hti he (by rw[hag];exact⟨p,rfl,hzp⟩) (by rw[hag];exact⟨q,rfl,hzq⟩)
 have heq':(Op.equalIn 10000 t (.agg p) (.agg q)).run K.P w=.ok b w:=heq
 refine Does.pureV s.rel (v:=.bool (if op=.eql then b else !b)) ?_ (SRep.mk_bool _)
 unfold execOp
 rw[ho]
 rcases hop with rfl | rfl
 . simp only[hp,hq2,Ki,Jae K.P hgd,run_eql_struct,heq',Ke]
   rfl
 . simp only[hp,hq2,Ki,Jae K.P hgd,run_neq_struct,heq',Ke]
   rfl
theorem s_bin(s:Setup K ρ slot B a w nid o ins bs){op:BinOp}{t u:Nat}{x y:Operand}(ho:o.op=.binOp op t x y u){nw:Bool}(h:aBin K.T nw op t bs ins=some ou)(hc:All ou.cond):XW K slot B a w o ou:=by
 obtain⟨xs,hx,hi⟩:=s.ops
 rw[ho]at hx;cases hx
 obtain⟨av,bv,rfl,h1,h2⟩:=JlZ hi
 unfold aBin at h
 split at h
 . rename_i k n k' m heq
   simp only[List.cons.injEq,and_true]at heq
   obtain⟨rfl,rfl⟩:=heq
   split at h
   . rename_i e
     subst e
     obtain⟨e1,_,hd⟩:=JnW s.rel ho (SRep.int_inv h1) (SRep.int_inv h2) h hc
     show Does _ _ _ _ (Post K slot B a ou.wr ou.v)
     rw[e1];exact hd
   obtain⟨e1,_,hd⟩:=JjQ s.rel ho (SRep.int_inv h1) (SRep.int_inv h2) h hc
   show Does _ _ _ _ (Post K slot B a ou.wr ou.v)
   rw[e1];exact hd
 . rename_i heq
   simp only[List.cons.injEq,and_true]at heq
   obtain⟨rfl,rfl⟩:=heq
   obtain⟨e1,_,hd⟩:=JmZ s.rel ho (SRep.str_inv h1) (SRep.str_inv h2) h hc
   show Does _ _ _ _ (Post K slot B a ou.wr ou.v)
   rw[e1];exact hd
 . rename_i p q heq
   simp only[List.cons.injEq,and_true]at heq
   obtain⟨rfl,rfl⟩:=heq
   split at h
   . rename_i ti hti
     split at h
     . rename_i hk
       obtain rfl:=Jn h
       exact Jfk s.rel s.tok ho hti hk (SRep.bool_inv h1) (SRep.bool_inv h2) (.inl rfl)
     . rename_i hk
       obtain rfl:=Jn h
       exact Jfk s.rel s.tok ho hti hk (SRep.bool_inv h1) (SRep.bool_inv h2) (.inr rfl)
     cases h
   cases h
 . rename_i l m heq
   simp only[List.cons.injEq,and_true]at heq
   obtain⟨rfl,rfl⟩:=heq
   split at h
   . rename_i ti hti
     split at h
     . rename_i hq
       split at h
       . split at h
         . rename_i b he
           obtain rfl:=Jn h
           exact JiQ s ho h1 h2 hti hq he (.inl rfl)
         cases h
       . split at h
         . rename_i b he
           obtain rfl:=Jn h
           exact JiQ s ho h1 h2 hti hq he (.inr rfl)
         cases h
       cases h
     cases h
   cases h
 . rename_i k r rows v heq
   simp only[List.cons.injEq,and_true]at heq
   obtain⟨rfl,rfl⟩:=heq
   split at h
   . rename_i hv
     split at h
     . rename_i ti hti
       split at h
       . rename_i hk
         obtain rfl:=Jn h
         exact JhR s.rel s.tok ho hti hk (Jm8 h1) (by rw[SRep.ex_inv h2];exact JD hv)
       cases h
     cases h
   cases h
 . rename_i id n v heq
   simp only[List.cons.injEq,and_true]at heq
   obtain⟨rfl,rfl⟩:=heq
   split at h
   . rename_i hv
     rw[Kd]at hv
     split at h
     . rename_i ti hti
       split at h
       . rename_i hk
         obtain rfl:=Jn h
         obtain⟨e',k,rows,hB⟩:=Un hv.2
         have hn:Vb o.op [AV.own id (n+1),AV.ex v]=[AV.own id (n+1),AV.ex v].flatMap mids1:=by rw[ho];rfl
         rw[VF s hn (av:=.own id (n+1)) (by simp) (by simp[mids1,mids0])]at hB
         obtain⟨hlen,hown⟩:=(show SRep0 ρ B (XX K.X0 ρ B) w (a.eval x) (.own id (n+1))from h1).2 e' k rows hB
         rcases hown with⟨hr0,_⟩ | ⟨b,cap,cur,hr,e1,_⟩
         . have hbl:=s.rel.blks id
           unfold BlkOK at hbl
           rw[hB]at hbl
           rcases hbl.2.2 with⟨_,h3⟩ | ⟨b,cur,h3,_⟩
           . subst h3;simp at hlen
           rw[hr0]at h3;cases h3
         exact JhR s.rel s.tok ho hti hk ⟨_,_,_,e1⟩ (by rw[SRep.ex_inv h2];exact JD hv.1)
       cases h
     cases h
   cases h
 cases h
theorem s_un(s:Setup K ρ slot B a w nid o ins bs){op:UnOp}{t:Nat}{x:Operand}(ho:o.op=.unOp op t x){nw:Bool}(h:aUn nw op ins=some ou)(hc:All ou.cond):XW K slot B a w o ou:=by
 obtain⟨xs,hx,hi⟩:=s.ops
 rw[ho]at hx;cases hx
 obtain⟨av,rfl,h1⟩:=Jd4 hi
 unfold aUn at h
 split at h
 . rename_i heq
   simp only[List.cons.injEq,and_true]at heq
   subst heq
   split at h
   . obtain⟨e1,_,hd⟩:=JjJ s.rel ho (SRep.int_inv h1) h hc
     show Does _ _ _ _ (Post K slot B a ou.wr ou.v)
     rw[e1];exact hd
   cases h
 . rename_i heq
   simp only[List.cons.injEq,and_true]at heq
   subst heq
   split at h
   . obtain rfl:=Jn h
     exact JjI s.rel ho (SRep.bool_inv h1)
   cases h
 . rename_i l k n heq
   simp only[List.cons.injEq,and_true]at heq
   subst heq
   split at h
   . obtain rfl:=Jn h
     obtain⟨bv,hv,hb⟩:=(show SRep0 ρ B (XX K.X0 ρ B) w (a.eval x) (.yb l k n)from h1)
     refine Does.pureV s.rel (JkO ho hv) ⟨!bv,rfl,fun rows hr hk=>?_,hb.2⟩
     rw[hb.1 rows hr hk]
     cases rdy w l <;> cases n <;> rfl
   cases h
 cases h
theorem Jhv(s:Setup K ρ slot B a w nid o ins bs){t d:Nat}{x:Operand}(ho:o.op=.convert t d x)(h:Jcb K.T nid bs t d ins=some ou)(hc:All ou.cond):XW K slot B a w o ou:=by
 obtain⟨xs,hx,hi⟩:=s.ops
 rw[ho]at hx;cases hx
 obtain⟨av,rfl,h1⟩:=Jd4 hi
 unfold Jcb at h
 split at h
 . rename_i heq
   simp only[List.cons.injEq,and_true]at heq
   subst heq
   split at h
   . rename_i hti hts
     split at h
     . rename_i hk
       obtain rfl:=Jn h
       exact Jei s.tok s.rel ho hti hts hk (SRep.int_inv h1)
     cases h
   cases h
 . rename_i heq
   simp only[List.cons.injEq,and_true]at heq
   subst heq
   split at h
   . rename_i hti hts
     split at h
     . rename_i hk hk2
       obtain rfl:=Jn h
       exact Jeh s.tok s.rel ho hti hts hk hk2 (SRep.str_inv h1)
     . rename_i hk hk2
       split at h
       . rename_i te hte
         split at h
         . rename_i hke
           obtain rfl:=Jn h
           exact Jb1 s.tok s.rel ho hti hts hk hk2 hte hke hc.1 (SRep.str_inv h1)
         cases h
       cases h
     cases h
   cases h
 . rename_i id n heq
   simp only[List.cons.injEq,and_true]at heq
   subst heq
   split at h
   . rename_i hsd
     have hsd:=Kc hsd
     subst hsd
     split at h
     . rename_i ti hti
       split at h
       . rename_i hk
         split at h
         . rename_i te hte
           split at h
           . rename_i hke
             split at h
             . rename_i e' k rows hB
               split at h
               . rename_i hlen
                 cases h
                 have hn:Vb o.op [AV.own id (n+1)]=[AV.own id (n+1)].flatMap mids1:=by rw[ho];rfl
                 rw[VF s hn (av:=.own id (n+1)) (by simp) (by simp[mids1,mids0])]at hB
                 exact JcY s.tok s.rel s.fresh ho hti hk hte hke hB (Kc hlen) (show SRep0 ρ B (XX K.X0 ρ B) w (a.eval x) (.own id (n+1))from h1)
               cases h
             cases h
           cases h
         cases h
       cases h
     cases h
   cases h
 . rename_i r rows heq
   simp only[List.cons.injEq,and_true]at heq
   subst heq
   split at h
   . rename_i hti hts
     split at h
     . rename_i hk hk2
       split at h
       . rename_i te hte
         split at h
         . rename_i hke
           split at h
           . rename_i ns hns
             obtain rfl:=Jn h
             exact JcZ s.tok s.rel ho hti hts hk hk2 hte hke hns h1
           cases h
         cases h
       cases h
     cases h
   cases h
 cases h
theorem JfU(s:Setup K ρ slot B a w nid o ins bs){f:Fn}{first cap:Array Operand}(ho:o.op=.makeFunc f first cap)(h:Jay f first.size cap.size ins=some ou):XW K slot B a w o ou:=by
 obtain⟨xs,hx,hi⟩:=s.ops
 rw[ho]at hx;cases hx
 unfold Jay at h
 split at h
 . rename_i hb
   simp only[Kd]at hb
   obtain rfl:=Jn h
   exact JdY s.rel ho hi (Kc hb.1.1.1) (Kc hb.1.1.2) hb.1.2 hb.2
 cases h
theorem JdD(s:Setup K ρ slot B a w nid o ins bs){t f:Nat}{x:Operand}(ho:o.op=.fieldAddr t x f)(h:U2 K.T t f bs ins=some ou):XW K slot B a w o ou:=by
 obtain⟨xs,hx,hi⟩:=s.ops
 rw[ho]at hx;cases hx
 obtain⟨av,rfl,hv⟩:=Jd4 hi
 have hn:Vb o.op [av]=[av].flatMap mids1:=by rw[ho];rfl
 simp only[U2]at h
 split at h
 . rename_i ti hti
   split at h
   . rename_i fs hk
     split at h
     . rename_i off ft size hf
       split at h
       . cases h
       rename_i hsz
       have hs:size ≠ 0:=fun e=>hsz (by rw[e];rfl)
       cases av <;> try simp only[reduceCtorEq]at h
       case ptr id o2 =>
        split at h
        . rename_i hb
          obtain rfl:=Jn h
          obtain⟨cells,hb⟩:=Uo hb
          rw[VF s hn (av:=.ptr id o2) (by simp) (by simp[mids1,mids0])]at hb
          obtain⟨b,_,e⟩:=Jbx hv hb
          exact Vi s.tok s.rel ho hti hk hf hs e (SRep.ptr_move hb (by rw[<- e];exact hv) off)
        cases h
       case optr id i j =>
        split at h
        . rename_i hb
          obtain rfl:=Jn h
          obtain⟨e',k,rows,hb⟩:=Un hb
          rw[VF s hn (av:=.optr id i j) (by simp) (by simp[mids1,mids0])]at hb
          obtain⟨b,_,e⟩:=Wr hv hb
          exact Vi s.tok s.rel ho hti hk hf hs e (SRep.optr_move hb (by rw[<- e];exact hv) off)
        cases h
       case elt k rows i j =>
        obtain rfl:=Jn h
        obtain⟨b,p,e,hr⟩:=Rep.elt_move (show Rep _ w (a.eval x) (.elt k rows i j)from hv) off
        exact Vi s.tok s.rel ho hti hk hf hs e (SRep.of_rep hr)
     cases h
   cases h
 cases h
theorem Jnk(s:Setup K ρ slot B a w nid o ins bs){t f:Nat}{x:Operand}(ho:o.op=.field t x f)(h:JiT K.T t f ins=some ou):XW K slot B a w o ou:=by
 obtain⟨xs,hx,hi⟩:=s.ops
 rw[ho]at hx;cases hx
 obtain⟨av,rfl,hv⟩:=Jd4 hi
 unfold JiT at h
 split at h
 . rename_i heq
   simp only[List.cons.injEq,and_true]at heq
   subst heq
   split at h
   . rename_i ti hti
     split at h
     . rename_i fs hk
       split at h
       . rename_i off ft size hf
         split at h
         . rename_i tf htf
           split at h
           . rename_i hb
             simp only[Kd,Bool.or_eq_true]at hb
             obtain rfl:=Jn h
             have hsz:=Kc hb.1.2
             exact JkN s.tok s.rel ho hti hk hf htf hv (Kl hb.1.1) hsz (hb.2.imp (fun h=>h) (fun e=>by rw[hsz];exact Kc e))
           cases h
         cases h
       cases h
     cases h
   cases h
 cases h
theorem Rep.elt_rows{X:Nat->Prop}{w:World}{v:Value}{k i j m es n:Nat}{rows:List (List AV)}(h:Rep X w v (.elt k rows i j))(hfit:j+m * es<=k)(hes:es ≠ 0)(hn:n < m) :
 ∃ b p,v=.pointer (some ⟨b,p,none⟩)/\Rep X w (.pointer (some ⟨b,p+n * es,none⟩)) (.elt es (Qc es m ((Ji rows i).drop j)) n 0):=by
 obtain⟨b,p,cs,hv,hb,hX,hi,hkk,hz,hc⟩:=Rep.elt_inv h
 refine⟨b,p+j,hv,?_⟩
 have hlen:(Qc es m ((Ji rows i).drop j)).length=m:=QW _ _ _
 exact Rep.elt (X:=X) (w:=w) b (p+j) es (Qc es m ((Ji rows i).drop j)) n 0 (fun q r=>cs.getD (j+q * es+r) undef) hb hX (by omega)
  (fun q hq=>by
   rw[hlen]at hq
   rw[XL _ _ _ _ hq,Kg,Kh,Kh,hkk]
   have:=J2 (j:=es-1) (k:=es) hq (by omega)
   omega)
  (fun q hq r hr=>by
   rw[hlen]at hq
   have hlt:=J2 hq hr
   have hcl:j+q * es+r < cs.length:=by rw[hz.1,hkk];omega
   have:=hc (j+q * es+r) _ (Kj hcl)
   rw[show p+j+q * es+r=p+(j+q * es+r) by omega,this]
   simp[List.getD_eq_getElem?_getD,List.getElem?_eq_getElem hcl])
  (fun q hq r hr=>by
   rw[hlen]at hq
   have hlt:=J2 hq hr
   obtain⟨u,hu,hcp⟩:=hz.at (i:=j+q * es+r) (by rw[hkk];omega)
   rw[XL _ _ _ _ hq]
   have e1:cs.getD (j+q * es+r) undef=u:=by simp[List.getD_eq_getElem?_getD,hu]
   have e2:nth ((((Ji rows i).drop j).drop (q * es)).take es) r=nth (Ji rows i) (j+q * es+r):=by
    unfold nth
    rw[Ka,Ka,List.getElem?_take,if_pos hr,List.getElem?_drop,List.getElem?_drop,show j+(q * es+r)=j+q * es+r by omega]
   rw[e1,e2]
   exact hcp.2)
  (fun q hq r hr=>by
   rw[hlen]at hq
   have hlt:=J2 hq hr
   obtain⟨u,hu,hcp⟩:=hz.at (i:=j+q * es+r) (by rw[hkk];omega)
   have e1:cs.getD (j+q * es+r) undef=u:=by simp[List.getD_eq_getElem?_getD,hu]
   rw[e1]
   exact hcp.1)
theorem JdC(s:Setup K ρ slot B a w nid o ins bs){t:Nat}{x y:Operand}(ho:o.op=.indexAddr t x y)(h:U1 K.T t bs ins=some ou)(hc:All ou.cond):XW K slot B a w o ou:=by
 obtain⟨xs,hx,hi⟩:=s.ops
 rw[ho]at hx;cases hx
 obtain⟨av,bv,rfl,hv,h2⟩:=JlZ hi
 have hn:Vb o.op [av,bv]=[av,bv].flatMap mids1:=by rw[ho];rfl
 unfold U1 at h
 split at h
 . rename_i a' ky n heq
   simp only[List.cons.injEq,and_true]at heq
   obtain⟨rfl,rfl⟩:=heq
   have hy:=SRep.int_inv h2
   split at h
   . rename_i ti hti
     split at h
     . rename_i e es eb hk
       cases av <;> try simp only[reduceCtorEq]at h
       case sl k rows =>
        split at h
        . rename_i hb
          obtain rfl:=Jn h
          have:=Kc hb
          subst this
          obtain⟨h0,h1,_⟩:=hc
          obtain⟨b,off,cap,e1,hr⟩:=Rep.sl_elt (show Rep _ w (a.eval x) (.sl k rows)from hv) (i:=n.toNat) (by omega)
          exact Q7 s.tok s.rel ho hti hk hy e1 h0 h1 (SRep.of_rep hr)
        cases h
       case own id m =>
        rw[VF s hn (av:=.own id m) (by simp) (by simp[mids1,mids0])]at h
        cases hB:B id <;> rw[hB]at h <;> simp only[reduceCtorEq]at h
        case buf e' k rows =>
         split at h
         . rename_i hb
           obtain rfl:=Jn h
           have:=Kc hb
           subst this
           obtain⟨h0,h1,_⟩:=hc
           obtain⟨hlen,hown⟩:=(show SRep0 ρ B (XX K.X0 ρ B) w (a.eval x) (.own id m)from hv).2 e' k rows hB
           rcases hown with⟨hr0,_⟩ | ⟨b,cap,cur,hr,e1,_⟩
           . have hbl:=s.rel.blks id
             unfold BlkOK at hbl
             rw[hB]at hbl
             rcases hbl.2.2 with⟨_,h3⟩ | ⟨b,cur,h3,_⟩
             . subst h3;simp at hlen;omega
             rw[hr0]at h3;cases h3
           refine Q7 s.tok s.rel ho hti hk hy e1 h0 h1 (SRep.of1 ⟨rfl,fun e2 k2 rows2 hB2=>⟨b,hr,?_⟩⟩)
           rw[hB]at hB2
           cases hB2
           simp
         cases h
       case bsl id m =>
        split at h
        . rename_i hb
          obtain rfl:=Jn h
          obtain⟨cells,hb⟩:=Uo hb
          rw[VF s hn (av:=.bsl id m) (by simp) (by simp[mids1,mids0])]at hb
          obtain⟨h0,h1,_⟩:=hc
          obtain⟨b,cap,hr,e1,_⟩:=(show SRep0 ρ B (XX K.X0 ρ B) w (a.eval x) (.bsl id m)from hv).2 cells hb
          refine Q7 s.tok s.rel ho hti hk hy e1 h0 h1 (SRep.of1 ⟨rfl,fun c2 hB2=>⟨b,hr,?_⟩⟩)
          simp
        cases h
     . rename_i m e es hk
       split at h
       . cases h
       cases av <;> try simp only[reduceCtorEq]at h
       case ptr id o2 =>
        split at h
        . rename_i hb
          obtain rfl:=Jn h
          obtain⟨cells,hb⟩:=Uo hb
          rw[VF s hn (av:=.ptr id o2) (by simp) (by simp[mids1,mids0])]at hb
          obtain⟨b,_,e1⟩:=Jbx hv hb
          exact Q0 s.tok s.rel ho hti hk hy e1 hc.1 hc.2.1 (SRep.ptr_move hb (by rw[<- e1];exact hv) _)
        cases h
       case optr id i j =>
        split at h
        . rename_i hb
          obtain rfl:=Jn h
          obtain⟨e',k,rows,hb⟩:=Un hb
          rw[VF s hn (av:=.optr id i j) (by simp) (by simp[mids1,mids0])]at hb
          obtain⟨b,_,e1⟩:=Wr hv hb
          exact Q0 s.tok s.rel ho hti hk hy e1 hc.1 hc.2.1 (SRep.optr_move hb (by rw[<- e1];exact hv) _)
        cases h
       case elt k rows i j =>
        split at h
        . rename_i hb
          rw[Kd,Ks]at hb
          obtain rfl:=Jn h
          have h0:=hc.1
          have h1:=hc.2.1
          obtain⟨b,p,e1,hr⟩:=Rep.elt_rows (show Rep _ w (a.eval x) (.elt k rows i j)from hv) (m:=m) (es:=es) (n:=n.toNat) (Kl hb.1) (fun e=>by rw[e]at hb;exact absurd hb.2 (by decide)) (by omega)
          exact Q0 s.tok s.rel ho hti hk hy e1 h0 h1 (SRep.of_rep hr)
        obtain rfl:=Jn h
        obtain⟨b,p,e1,hr⟩:=Rep.elt_move (show Rep _ w (a.eval x) (.elt k rows i j)from hv) (n.toNat * es)
        exact Q0 s.tok s.rel ho hti hk hy e1 hc.1 hc.2.1 (SRep.of_rep hr)
     cases h
   cases h
 cases h
theorem Jnj(s:Setup K ρ slot B a w nid o ins bs){t:Nat}{x y:Operand}(ho:o.op=.index t x y)(h:JiS K.T t ins=some ou)(hc:All ou.cond):XW K slot B a w o ou:=by
 obtain⟨xs,hx,hi⟩:=s.ops
 rw[ho]at hx;cases hx
 obtain⟨av,bv,rfl,hv,h2⟩:=JlZ hi
 unfold JiS at h
 split at h
 . rename_i heq
   simp only[List.cons.injEq,and_true]at heq
   obtain⟨rfl,rfl⟩:=heq
   split at h
   . rename_i ti hti
     split at h
     . rename_i hk
       obtain rfl:=Jn h
       exact Jid s.tok s.rel ho hti hk (SRep.int_inv h2) (SRep.str_inv hv) hc.1 hc.2.1
     cases h
   cases h
 . rename_i heq
   simp only[List.cons.injEq,and_true]at heq
   obtain⟨rfl,rfl⟩:=heq
   split at h
   . rename_i ti hti
     split at h
     . rename_i m e es hk
       split at h
       . rename_i te hte
         split at h
         . rename_i hb
           simp only[Kd,Bool.or_eq_true]at hb
           obtain rfl:=Jn h
           have hsz:=Kc hb.1.2
           exact Jie s.tok s.rel ho hti hk hte (SRep.int_inv h2) hv hc.1 hc.2.1 (Kc hb.1.1) hsz (hb.2.imp (fun h=>h) (fun e=>by rw[hsz];exact Kc e))
         cases h
       cases h
     cases h
   cases h
 cases h
theorem Qx{a b:Nat}(h:a.blt b=true):a < b:=Kl h
theorem Jhu(s:Setup K ρ slot B a w nid o ins bs){x:Operand}{i:Nat}(ho:o.op=.extract x i)(h:Jca i ins=some ou):XW K slot B a w o ou:=by
 obtain⟨xs,hx,hi⟩:=s.ops
 rw[ho]at hx;cases hx
 obtain⟨av,rfl,hv⟩:=Jd4 hi
 unfold Jca at h
 split at h
 . rename_i heq
   simp only[List.cons.injEq,and_true]at heq
   subst heq
   split at h
   . rename_i hb
     obtain rfl:=Jn h
     exact Jgc s.rel ho hv (Qx hb)
   cases h
 cases h
theorem Jc5{X:Nat->Prop}{len:Nat}{lo hi:Option Operand}{rest:List AV}{l h:Int}(hi2:Xe ρ B X w a (lo.toList++hi.toList) rest)(hb:Jar len lo.isSome hi.isSome rest=some (l,h)):Vo (lo.map a.eval) 0 l/\Vo (hi.map a.eval) len h:=by
 cases lo with
 | none =>
  cases hi with
  | none =>
   match rest,hi2 with
   | [],_=>simp[Jar]at hb;obtain⟨rfl,rfl⟩:=hb;exact⟨.inl ⟨rfl,rfl⟩,.inl ⟨rfl,rfl⟩⟩
  | some y =>
   obtain⟨av,rfl,hv⟩:=Jd4 (x:=y) hi2
   cases av <;> simp[Jar]at hb
   obtain⟨rfl,rfl⟩:=hb
   exact⟨.inl ⟨rfl,rfl⟩,.inr ⟨_,by simp[SRep.int_inv hv];exact rfl⟩⟩
 | some x =>
  cases hi with
  | none =>
   obtain⟨av,rfl,hv⟩:=Jd4 (x:=x) hi2
   cases av <;> simp[Jar]at hb
   obtain⟨rfl,rfl⟩:=hb
   exact⟨.inr ⟨_,by simp[SRep.int_inv hv];exact rfl⟩,.inl ⟨rfl,rfl⟩⟩
  | some y =>
   obtain⟨av,bv,rfl,hv,hv2⟩:=JlZ (x:=x) (y:=y) hi2
   cases av <;> cases bv <;> simp[Jar]at hb
   obtain⟨rfl,rfl⟩:=hb
   exact⟨.inr ⟨_,by simp[SRep.int_inv hv];exact rfl⟩,.inr ⟨_,by simp[SRep.int_inv hv2];exact rfl⟩⟩
theorem Jng(s:Setup K ρ slot B a w nid o ins bs){t:Nat}{x:Operand}{lo hi m:Option Operand}(ho:o.op=.slice t x lo hi m)(h:Jfv K.T t lo.isSome hi.isSome m.isSome ins=some ou)(hc:All ou.cond):XW K slot B a w o ou:=by
 obtain⟨xs,hx,hi1⟩:=s.ops
 rw[ho]at hx;cases hx
 match ins,hi1 with
 | av::rest,hi1 =>
  obtain⟨hv,hi2⟩:=hi1
  cases m with
  | some m=>simp[Jfv]at h
  | none =>
   simp only[Option.toList_none,List.append_nil]at hi2
   simp only[Jfv,Option.isSome_none,Bool.false_eq_true,if_false]at h
   split at h
   . rename_i ti hti
     split at h
     . rename_i e es eb k rows hk
       split at h
       . rename_i l hh hb
         split at h
         . rename_i hbk
           obtain rfl:=Jn h
           have:=Kc hbk
           subst this
           obtain⟨b1,b2⟩:=Jc5 hi2 hb
           exact Jdt s.tok s.rel ho hti hk hv b1 b2 hc.1 hc.2.1 hc.2.2.1
         cases h
       cases h
     . rename_i sl hk
       split at h
       . rename_i l hh hb
         obtain rfl:=Jn h
         obtain⟨b1,b2⟩:=Jc5 hi2 hb
         exact Jhn s.tok s.rel ho hti hk (SRep.str_inv hv) b1 b2 hc.1 hc.2.1 hc.2.2.1
       cases h
     . rename_i n e es k rows i j hk
       split at h
       . rename_i hb
         simp only[Kd,Ks]at hb
         obtain rfl:=Jn h
         have hl:lo=none:=by cases lo <;> simp_all
         have hr:hi=none:=by cases hi <;> simp_all
         subst hl
         subst hr
         exact Jhp s.tok s.rel ho hti hk hv (Kl hb.1.1.2) (Nat.ne_of_beq_eq_false hb.1.2) (by have:=Kl hb.2;unfold maxLen;omega)
       cases h
     cases h
   cases h
theorem Jdz(s:Setup K ρ slot B a w nid o ins bs){t:Nat}{x:Operand}{lo hi m:Option Operand}(ho:o.op=.slice t x lo hi m)(h:UY K.T t lo.isSome hi.isSome m.isSome bs ins=some ou)(hc:All ou.cond):XW K slot B a w o ou:=by
 obtain⟨xs,hx,hi1⟩:=s.ops
 rw[ho]at hx;cases hx
 have hbs:∀ av ∈ ins,∀ id,id ∈ mids1 av->Jr bs id=B id:=fun av hav id hid=>s.bs id (by rw[ho];exact List.mem_flatMap.2 ⟨av,hav,hid⟩)
 unfold UY at h
 split at h
 . rename_i id m0 k n
   split at h
   . cases h
   rename_i hb
   simp only[Bool.or_eq_true,not_or,Ks,Bool.not_eq_true]at hb
   obtain⟨⟨hm,hh⟩,hl⟩:=hb
   cases hi with
   | some _=>simp at hh
   | none =>
   cases m with
   | some _=>simp at hm
   | none =>
   cases lo with
   | none=>simp at hl
   | some y =>
   obtain⟨hv,hy,_⟩:=(show SRep ρ B (XX K.X0 ρ B) w (a.eval x) (.own id m0)/\SRep ρ B (XX K.X0 ρ B) w (a.eval y) (.int k n)/\True from hi1)
   have hyv:=SRep.int_inv hy
   cases hti:lk t K.T with
   | none=>rw[hti]at h;cases h
   | some ti =>
   rw[hti]at h
   obtain⟨d,inf,z,kk⟩:=Jk (s.tok t ti hti)
   simp only at h
   cases hk:ti.k with
   | slice e0 es eb =>
    rw[hk]at h
    simp only at h
    obtain⟨rfl,ei,hei,rfl,rfl⟩:=kk.sliceKind hk
    rw[hbs (.own id m0) (by simp) id (by simp[mids1,mids0])]at h
    cases hB:B id <;> rw[hB]at h <;> simp only[reduceCtorEq]at h
    case buf e k2 rows =>
     split at h
     . rename_i hb
       obtain rfl:=Jn h
       have:=Kc hb
       subst this
       obtain⟨h0,h1,_⟩:=hc
       obtain⟨h2,hown⟩:=(show SRep0 ρ B (XX K.X0 ρ B) w (a.eval x) (.own id m0)from hv).2 _ _ _ hB
       rcases hown with⟨h3,h4⟩ | ⟨b,cap,cur,hr,hxv,hh2,hn,hm2,hsz⟩
       . have hr0:rows=[]:=by
          have hbl:=s.rel.blks id
          unfold BlkOK at hbl
          rw[hB]at hbl
          rcases hbl.2.2 with⟨_,h5⟩ | ⟨b,cur,hr,_⟩
          . exact h5
          rw[h3]at hr;cases hr
         have hm00:m0=0:=by rw[<- h2,hr0];rfl
         have hn0:n=0:=by omega
         have hr:=Qm (P:=K.P) (w:=w) (isSlice:=true) (len:=0) (cap:=0) (lo:=some (a.eval y)) (hi:=none) (l:=0) (h:=0) (.inr ⟨k,by rw[hyv,hn0]⟩) (.inl ⟨rfl,rfl⟩) (by omega) (by omega) (by omega)
         refine Does.pureV s.rel (Qo ho (v:=.slice none 0 0) ?_) (SRep.of1 ⟨rfl,fun e2 k3 rows2 hB2=>⟨?_,fun _=>⟨none,0,rfl⟩,fun hlt=>?_⟩⟩)
         . rw[h4]
           unfold Instr.sliceAt
           simp only[Ki,run_underlying kk.und,Ke,Option.map_none,Option.map_some]
           unfold Instr.slice
           simp only[Ki,run_underlying kk.und,Ke,hr]
           simp[Go.sizeOf,typeInfo,hei]
         . rw[hB]at hB2
           cases hB2
           exact h2
         omega
       have hr2:=Qm (P:=K.P) (w:=w) (isSlice:=true) (len:=m0) (cap:=cap) (lo:=some (a.eval y)) (hi:=none) (l:=n) (h:=m0) (.inr ⟨k,by rw[hyv]⟩) (.inl ⟨rfl,rfl⟩) (by omega) (by omega) (by omega)
       refine Does.pureV s.rel (Qo ho (v:=.slice (if cap=n.toNat then some ⟨b,0,none⟩else some ⟨b,n.toNat * ei.size,none⟩) (m0-n.toNat) (cap-n.toNat)) ?_) (SRep.of1 ⟨rfl,fun e2 k3 rows2 hB2=>⟨?_,fun hle=>?_,fun hlt=>?_⟩⟩)
       . rw[hxv]
         unfold Instr.sliceAt
         simp only[Ki,run_underlying kk.und,Ke,Option.map_none,Option.map_some]
         unfold Instr.slice
         simp only[Ki,run_underlying kk.und,Ke,hr2]
         simp[Go.sizeOf,typeInfo,hei,Qh]
       . rw[hB]at hB2
         cases hB2
         exact h2
       . exact⟨_,_,by rw[show m0-n.toNat=0 by omega]⟩
       rw[hB]at hB2
       cases hB2
       exact⟨b,cap-n.toNat,hr,by rw[if_neg (by omega)]⟩
     cases h
   | _=>rw[hk]at h;simp at h
 cases h
theorem JfS(s:Setup K ρ slot B a w nid o ins bs){t:Nat}{x:Operand}{lo hi m:Option Operand}(ho:o.op=.slice t x lo hi m)(h:Jaw K.T nid t lo.isSome hi.isSome m.isSome bs ins=some ou)(hc:All ou.cond):XW K slot B a w o ou:=by
 obtain⟨xs,hx,hi1⟩:=s.ops
 rw[ho]at hx;cases hx
 have hbs:∀ av ∈ ins,∀ id,id ∈ mids1 av->Jr bs id=B id:=fun av hav id hid=>s.bs id (by rw[ho];exact List.mem_flatMap.2 ⟨av,hav,hid⟩)
 unfold Jaw at h
 split at h
 . rename_i av k n
   split at h
   . cases h
   rename_i hb
   simp only[Bool.or_eq_true,not_or,Ks,Bool.not_eq_true]at hb
   obtain⟨⟨hl,hm⟩,hh⟩:=hb
   cases lo with
   | some _=>simp at hl
   | none =>
   cases m with
   | some _=>simp at hm
   | none =>
   cases hi with
   | none=>simp at hh
   | some y =>
   obtain⟨hv,hy,_⟩:=(show SRep ρ B (XX K.X0 ρ B) w (a.eval x) av/\SRep ρ B (XX K.X0 ρ B) w (a.eval y) (.int k n)/\True from hi1)
   have hyv:=SRep.int_inv hy
   cases hti:lk t K.T with
   | none=>rw[hti]at h;cases h
   | some ti =>
   rw[hti]at h
   obtain⟨d,inf,z,kk⟩:=Jk (s.tok t ti hti)
   simp only at h
   cases hk:ti.k with
   | slice e0 es eb =>
    rw[hk]at h
    simp only at h
    obtain⟨rfl,ei,hei,rfl,rfl⟩:=kk.sliceKind hk
    cases av <;> try simp only[reduceCtorEq]at h
    case ex v =>
     split at h
     . rename_i hn
       obtain rfl:=Jn h
       obtain⟨h0,h1,_⟩:=hc
       have hxv:a.eval x=.slice none 0 0:=by rw[SRep.ex_inv hv];exact JD hn
       have hr:=Qm (P:=K.P) (w:=w) (isSlice:=true) (len:=0) (cap:=0) (lo:=none) (hi:=some (a.eval y)) (l:=0) (h:=n) (.inl ⟨rfl,rfl⟩) (.inr ⟨k,by rw[hyv]⟩) (by omega) h0 (by omega)
       have hn0:n=0:=by omega
       subst hn0
       refine Does.pureV s.rel (Qo ho (v:=.slice none 0 0) ?_) ?_
       . rw[hxv]
         unfold Instr.sliceAt
         simp only[Ki,run_underlying kk.und,Ke,Option.map_none,Option.map_some]
         unfold Instr.slice
         simp only[Ki,run_underlying kk.und,Ke,hr]
         simp[Go.sizeOf,typeInfo,hei]
       rw[JD hn]at hv
       show SRep ρ B (XX K.X0 ρ B) w (.slice none 0 0) (.ex v)
       rw[JD hn]
       rw[hxv]at hv
       exact hv
     cases h
    case own id m =>
     rw[hbs (.own id m) (by simp) id (by simp[mids1,mids0])]at h
     cases hB:B id <;> rw[hB]at h <;> simp only[reduceCtorEq]at h
     case buf e k2 rows =>
      split at h
      . rename_i hb
        cases h
        have:=Kc hb
        subst this
        obtain⟨h0,h1,_⟩:=hc
        obtain⟨h2,hown⟩:=(show SRep0 ρ B (XX K.X0 ρ B) w (a.eval x) (.own id m)from hv).2 _ _ _ hB
        subst h2
        have hal:(B id).alive:=by rw[hB];trivial
        have hbl:=s.rel.blks id
        unfold BlkOK at hbl
        rw[hB]at hbl
        obtain⟨hkr,hmx,hbl⟩:=hbl
        have hle:n.toNat<=rows.length:=by omega
        have htl:(rows.take n.toNat).length=n.toNat:=by rw[Kg];omega
        have hnth:∀ i,i < n.toNat->Ji (rows.take n.toNat) i=Ji rows i:=fun i hi=>by
         have:=JbC rows 0 n.toNat i hi
         simpa using this
        rcases hown with⟨h3,h4⟩ | ⟨b,cap,cur,hr,hxv,hh,hn,hm,hsz⟩
        . have hr0:rows=[]:=by
           rcases hbl with⟨_,h5⟩ | ⟨b,cur,hr,_⟩
           . exact h5
           rw[h3]at hr;cases hr
          subst hr0
          have hn0:n=0:=by simp at h1;omega
          subst hn0
          have hr:=Qm (P:=K.P) (w:=w) (isSlice:=true) (len:=0) (cap:=0) (lo:=none) (hi:=some (a.eval y)) (l:=0) (h:=0) (.inl ⟨rfl,rfl⟩) (.inr ⟨k,by rw[hyv]⟩) (by omega) (by omega) (by omega)
          refine Does.of_run (Qo ho (v:=.slice none 0 0) (w:=w) ?_) ?_
          . rw[h4]
            unfold Instr.sliceAt
            simp only[Ki,run_underlying kk.und,Ke,Option.map_none,Option.map_some]
            unfold Instr.slice
            simp only[Ki,run_underlying kk.und,Ke,hr]
            simp[Go.sizeOf,typeInfo,hei]
          have:=s.rel.appended (id:=id) (nid:=nid) (e:=e) (k:=ei.size) (rows:=[]) (xs:=[]) (w':=w) (v':=.slice none 0 0) (p':=none) s.fresh (fun cells e=>by rw[hB]at e;cases e) (Keeps.refl _ _ _) (fun _ _ _=>rfl) (fun i hi=>by simp at hi) (by simp) (.inl ⟨rfl,rfl,rfl⟩)
          simpa using this
        have hr2:=Qm (P:=K.P) (w:=w) (isSlice:=true) (len:=rows.length) (cap:=cap) (lo:=none) (hi:=some (a.eval y)) (l:=0) (h:=n) (.inl ⟨rfl,rfl⟩) (.inr ⟨k,by rw[hyv]⟩) (by omega) h0 (by omega)
        refine Does.of_run (Qo ho (v:=.slice (some ⟨b,0,none⟩) n.toNat cap) (w:=w) ?_) ?_
        . rw[hxv]
          unfold Instr.sliceAt
          simp only[Ki,run_underlying kk.und,Ke,Option.map_none,Option.map_some]
          unfold Instr.slice
          simp only[Ki,run_underlying kk.und,Ke,hr2]
          simp[Go.sizeOf,typeInfo,hei]
          intro _
          rfl
        have:=s.rel.appended (id:=id) (nid:=nid) (e:=e) (k:=ei.size) (rows:=rows.take n.toNat) (xs:=[]) (w':=w) (v':=.slice (some ⟨b,0,none⟩) n.toNat cap) (p':=some b) s.fresh (fun cells e=>by rw[hB]at e;cases e) (Keeps.refl _ _ _) (fun _ _ _=>rfl)
         (fun i hi=>by
          rw[List.append_nil]at hi ⊢
          rw[htl]at hi
          rw[hnth i hi];exact hkr i (by omega))
         (by rw[List.append_nil,htl];omega)
         (.inr ⟨b,cur,cap,rfl,.inl ⟨hal,hr⟩,by rw[List.append_nil,htl],hh,by rw[List.append_nil,htl];omega,hm,hsz,by
          rw[List.append_nil]
          rcases hbl with⟨h3,_⟩ | ⟨b',cur',hr',hh',hs',hc'⟩
          . rw[hr]at h3;cases h3
          . rw[hr]at hr';cases hr'
            rw[hh]at hh';cases hh'
            refine⟨fun i hi=>?_,?_,fun i hi j hj=>?_⟩
            . rw[htl]at hi
              rw[hnth i hi];exact hkr i (by omega)
            . rw[htl]
              exact Nat.le_trans (K1 _ hle) hs'
            . rw[htl]at hi
              rw[hnth i hi];exact hc' i (by omega) j hj⟩)
        rw[List.append_nil,htl]at this
        exact this
      cases h
   | _=>rw[hk]at h;cases h
 cases h
end
end Go.Av
namespace Go.Av
open Go Go.RowKit Go.MapKept
section
variable {K : Ctx} {ρ : Pl} {slot : Nat → Option AV} {B : Nat → ABlk} {a : Act} {w : World}
variable {nid : Nat} {o : Oper} {ins : List AV} {bs : BL} {ou : Out}
theorem TIOK.mapKind{P:Program}{t:Nat}{ti:TI}{d:TypeDesc}{i:TypeInfo}{z:Value}(k:TIOK P t ti d i z){q e:Nat}(hk:ti.k=.map q e):d=.map q e:=by
 have hkk:=k.kind
 rw[hk]at hkk
 cases d <;> simp only[JQ,reduceCtorEq,false_and,and_false,exists_false,TK.map.injEq]at hkk
 obtain⟨⟨rfl,rfl⟩,_⟩:=hkk
 rfl
theorem Ja1{P:Program}{T:TT}(hT:TOK P T){kt:Nat}{k:AV}(h:W9 T kt k=true):∃ d,P.underlying kt=some d/\((∃ q,d=.int q)/\(∃ q n,k=.int q n) ∨ d=.string/\∃ l,k=.str l):=by
 unfold W9 at h
 cases hl:lk kt T with
 | none=>rw[hl]at h;cases h
 | some tk =>
  rw[hl]at h
  obtain⟨d,i,z,kk⟩:=Jk (hT kt tk hl)
  simp only at h
  cases hk:tk.k with
  | int q =>
   rw[hk]at h
   refine⟨d,kk.und,.inl ⟨⟨q,kk.intKind hk⟩,?_⟩⟩
   cases k <;> simp[Xb]at h
   exact⟨_,_,rfl⟩
  | str =>
   rw[hk]at h
   refine⟨d,kk.und,.inr ⟨kk.strKind hk,?_⟩⟩
   cases k <;> simp[Xb]at h
   exact⟨_,rfl⟩
  | _=>rw[hk]at h;cases h
theorem JI{P:Program}{kt:TypeId}{d:TypeDesc}(hd:P.underlying kt=some d)(hk:(∃ q,d=.int q) ∨ d=.string)(e:Bool)(n:Nat)(k:Value):(Instr.checkKey e (n+1) kt k).run P w=.ok () w:=by
 unfold Instr.checkKey
 simp only[Ki,run_underlying hd,Result.andThen]
 rcases hk with⟨q,rfl⟩ | rfl <;> rfl
theorem JiK{a b:List UInt8}(h:(⟨a.toArray⟩:ByteArray)=⟨b.toArray⟩):a=b:=by
 have:=congrArg (fun x:ByteArray=>x.data.toList) h
 simpa using this
theorem Jm0(x y:List UInt8):((⟨x.toArray⟩:ByteArray) == ⟨y.toArray⟩)=(x == y):=by
 rw[Bool.eq_iff_iff,bytes_beq]
 constructor
 . intro h;rw[JiK h];simp
 intro h;rw[eq_of_beq h]
theorem JaU{X:Nat->Prop}{d:TypeDesc}{k k':AV}{u u':Value}{b:Bool}(hd:(∃ q,d=.int q)/\(∃ q n,k=.int q n) ∨ d=.string/\∃ l,k=.str l)(hu:Rep X w u k)(hu':Rep X w u' k')(he:Qw k k'=some b) :
 Instr.sameNow d u u'=some b/\(b=true->u'=u):=by
 rcases hd with⟨⟨p,rfl⟩,q,n,rfl⟩ | ⟨rfl,l,rfl⟩
 . cases hu
   cases hu' <;> simp[Qw]at he
   obtain⟨rfl,rfl⟩:=he
   refine⟨by simp[Instr.sameNow],fun e=>?_⟩
   have:=eq_of_beq e
   rw[this]
 . cases hu
   cases hu' <;> simp[Qw]at he
   rename_i m
   subst he
   refine⟨by simp only[Instr.sameNow,Jm0],fun e=>?_⟩
   have:=eq_of_beq e
   rw[this]
theorem Ja3{X:Nat->Prop}{d:TypeDesc}{k:AV}{u:Value}(hd:(∃ q,d=.int q)/\(∃ q n,k=.int q n) ∨ d=.string/\∃ l,k=.str l)(hu:Rep X w u k) :
 ∀ {arr:List MapEntry} {es:List (AV × AV)} (i:Nat) {r:Option AV},MapR X w arr es->J7 k es=some r →
  (match r with
   | none=>Instr.findNow d u arr i=some none
   | some v=>∃ j e,Instr.findNow d u arr i=some (some (i+j,e.val))/\arr[j]?=some e/\Rep X w e.val v)
 | [],[],i,r,_,h=>by
  simp only[J7,Option.some.injEq]at h
  subst h
  rfl
 | [],_::_,_,_,h,_=>h.elim
 | _::_,[],_,_,h,_=>h.elim
 | e::arr,(k',v')::es,i,r,hm,h=>by
  obtain⟨h1,h2,h3,h4⟩:=hm
  simp only[J7]at h
  cases hc:Qw k k' with
  | none=>rw[hc]at h;cases h
  | some b =>
   rw[hc]at h
   obtain⟨hs,_⟩:=JaU hd hu h2 hc
   cases b with
   | true =>
    simp only[Option.some.injEq]at h
    subst h
    exact⟨0,e,by simp[Instr.findNow,hs],rfl,h3⟩
   | false =>
    have ih:=Ja3 hd hu (i+1) h4 h
    cases r with
    | none=>simp only[Instr.findNow,hs];exact ih
    | some v =>
     obtain⟨j,e',g1,g2,g3⟩:=ih
     refine⟨j+1,e',?_,by simpa using g2,g3⟩
     simp only[Instr.findNow,hs]
     rw[g1,show i+1+j=i+(j+1) by omega]
theorem MapR.append{X:Nat->Prop}:∀ {arr arr':List MapEntry} {es es':List (AV × AV)},MapR X w arr es->MapR X w arr' es'->MapR X w (arr++arr') (es++es')
 | [],_,[],_,_,h=>h
 | [],_,_::_,_,h,_=>h.elim
 | _::_,_,[],_,h,_=>h.elim
 | _::_,_,(_,_)::_,_,h,h'=>⟨h.1,h.2.1,h.2.2.1,MapR.append h.2.2.2 h'⟩
theorem MapR.set{X:Nat->Prop}{e':MapEntry}{k v:AV}(hk:JnU k=true)(h1:Rep X w e'.key k)(h2:Rep X w e'.val v):∀ {arr:List MapEntry} {es:List (AV × AV)} (j:Nat),MapR X w arr es->MapR X w (arr.set j e') (es.set j (k,v))
 | [],[],_,h=>by simpa using h
 | [],_::_,_,h=>h.elim
 | _::_,[],_,h=>h.elim
 | _::_,(_,_)::_,0,h=>⟨hk,h1,h2,h.2.2.2⟩
 | _::_,(_,_)::_,j+1,h=>⟨h.1,h.2.1,h.2.2.1,MapR.set hk h1 h2 j h.2.2.2⟩
theorem Ja2{X:Nat->Prop}{d:TypeDesc}{k v:AV}{u:Value}(hd:(∃ q,d=.int q)/\(∃ q n,k=.int q n) ∨ d=.string/\∃ l,k=.str l)(hu:Rep X w u k) :
 ∀ {arr:List MapEntry} {es es':List (AV × AV)} (i:Nat),MapR X w arr es->Q6 k v es=some es' →
  (Instr.findNow d u arr i=some none/\es'=es++[(k,v)]) ∨ (∃ j e,Instr.findNow d u arr i=some (some (i+j,e.val))/\arr[j]?=some e/\e.key=u/\es'=es.set j (k,v))
 | [],[],es',i,_,h=>by
  simp only[Q6,Option.some.injEq]at h
  subst h
  exact .inl ⟨rfl,rfl⟩
 | [],_::_,_,_,h,_=>h.elim
 | _::_,[],_,_,h,_=>h.elim
 | e::arr,(k',v')::es,es',i,hm,h=>by
  obtain⟨h1,h2,h3,h4⟩:=hm
  simp only[Q6]at h
  cases hc:Qw k k' with
  | none=>rw[hc]at h;cases h
  | some b =>
   rw[hc]at h
   obtain⟨hs,hsame⟩:=JaU hd hu h2 hc
   cases b with
   | true =>
    simp only[Option.some.injEq]at h
    subst h
    exact .inr ⟨0,e,by simp[Instr.findNow,hs],rfl,hsame rfl,rfl⟩
   | false =>
    simp only at h
    cases hp:Q6 k v es with
    | none=>rw[hp]at h;cases h
    | some es1 =>
     rw[hp]at h
     simp only[Option.some.injEq]at h
     subst h
     rcases Ja2 hd hu (i+1) h4 hp with⟨g1,g2⟩ | ⟨j,e',g1,g2,g3,g4⟩
     . exact .inl ⟨by simp only[Instr.findNow,hs];exact g1,by rw[g2];rfl⟩
     refine .inr ⟨j+1,e',?_,by simpa using g2,g3,by rw[g4];rfl⟩
     simp only[Instr.findNow,hs]
     rw[g1,show i+1+j=i+(j+1) by omega]
theorem Je8{d:TypeDesc}{k:AV}(hd:(∃ q,d=.int q)/\(∃ q n,k=.int q n) ∨ d=.string/\∃ l,k=.str l):JnU k=true:=by
 rcases hd with⟨_,_,_,rfl⟩ | ⟨_,_,rfl⟩ <;> rfl
theorem Jks{d:TypeDesc}{k:AV}(hd:(∃ q,d=.int q)/\(∃ q n,k=.int q n) ∨ d=.string/\∃ l,k=.str l):(∃ q,d=.int q) ∨ d=.string:=hd.imp And.left And.left
theorem Jh8{X:Nat->Prop}{d:TypeDesc}{k:AV}{u:Value}(hd:(∃ q,d=.int q)/\(∃ q n,k=.int q n) ∨ d=.string/\∃ l,k=.str l)(h:SRep ρ B X w u k):Rep X w u k:=by
 rcases hd with⟨_,_,_,rfl⟩ | ⟨_,_,rfl⟩ <;> exact h
theorem JeP{P:Program}{t kt et:Nat}{d:TypeDesc}{ok:Bool}{x u:Value}{arr:Array MapEntry}(hm:P.underlying t=some (.map kt et))(hd:P.underlying kt=some d)(hk:(∃ q,d=.int q) ∨ d=.string)
 (hx:(x=.map none/\arr=#[]) ∨ ∃ b clock,x=.map (some b)/\w.heap[b]?=some (.map arr clock)){r:Option (Nat × Value)}(hf:Instr.findNow d u arr.toList 0=some r){z:Value}(hz:r=none->(zeroValue et).run P w=.ok z w) :
 (Instr.lookup t x u ok).run P w=.ok (match r with
  | some (_,v)=>if ok then .tuple #[v,.bool true]else v
  | none=>if ok then .tuple #[z,.bool false]else z) w:=by
 unfold Instr.lookup
 rcases hx with⟨rfl,rfl⟩ | ⟨b,clock,rfl,hb⟩
 . cases r with
   | none=>simp[run_underlying hm,JI hd hk,run_findKey hd hf,hz rfl,Result.andThen]
   | some p=>obtain⟨i,v⟩:=p;simp[run_underlying hm,JI hd hk,run_findKey hd hf,Result.andThen]
 . cases r with
   | none=>simp[run_underlying hm,MapKept.run_getObj_map hb,JI hd hk,run_findKey hd hf,hz rfl,Result.andThen]
   | some p=>obtain⟨i,v⟩:=p;simp[run_underlying hm,MapKept.run_getObj_map hb,JI hd hk,run_findKey hd hf,Result.andThen]
theorem JfH{P:Program}{t:Nat}{ti:TI}{d:TypeDesc}{i:TypeInfo}{z:Value}(k:TIOK P t ti d i z){X:Nat->Prop}{v:AV}(h:JeC ti=some v):Rep X w z v:=by
 have hc:=J8 (w:=w) k X
 unfold JeC at h
 by_cases hg:ti.agg=true
 . rw[if_pos hg]at h
   cases h
   have hz:=k.zagg
   rw[hg]at hz
   cases z <;> simp[JcN]at hz
   exact Rep.agg_mk hc
 rw[if_neg hg]at h
 split at h
 . rename_i x hx
   cases h
   rw[hx]at hc
   have hl:=hc.1
   cases z with
   | agg cs =>
    have hz:=k.zagg
    simp[JcN,hg]at hz
   | _=>exact hc.uncons.1.2
 cases h
theorem JjX(s:Setup K ρ slot B a w nid o ins bs){t:Nat}{x y:Operand}{ok:Bool}(ho:o.op=.lookup t x y ok)(h:Jet K.T t ok bs ins=some ou)(hc:All ou.cond):XW K slot B a w o ou:=by
 obtain⟨xs,hx,hi⟩:=s.ops
 rw[ho]at hx;cases hx
 obtain⟨m,k,rfl,h1,h2⟩:=JlZ hi
 have hbs:∀ id,id ∈ mids1 m->Jr bs id=B id:=fun id hid=>s.bs id (by rw[ho];exact List.mem_flatMap.2 ⟨m,by simp,hid⟩)
 unfold Jet at h
 simp only at h
 cases hl:lk t K.T with
 | none=>rw[hl]at h;cases h
 | some ti =>
 rw[hl]at h
 obtain⟨dt,inf,zt,kk⟩:=Jk (s.tok t ti hl)
 simp only at h
 cases hk:ti.k with
 | map kt et =>
  rw[hk]at h
  simp only at h
  have hu:=kk.und
  rw[kk.mapKind hk]at hu
  cases hm:JnM bs m with
  | none=>rw[hm]at h;cases h
  | some es =>
  rw[hm]at h
  simp only at h
  by_cases hkk:W9 K.T kt k=true
  . rw[if_pos hkk]at h
    obtain⟨d,hd,hdk⟩:=Ja1 s.tok hkk
    have hkey:=Jh8 hdk h2
    -- the map as it lies
    obtain⟨arr,hmx,hmr⟩:∃ arr:Array MapEntry,((a.eval x=.map none/\arr=#[]) ∨ ∃ b clock,a.eval x=.map (some b)/\w.heap[b]?=some (.map arr clock))/\MapR (XX K.X0 ρ B) w arr.toList es:=by
     unfold JnM at hm
     split at hm
     . rename_i id
       rw[hbs id (by simp[mids1,mids0])]at hm
       cases hB:B id with
       | map es' =>
        rw[hB]at hm
        simp only[Option.some.injEq]at hm
        subst hm
        obtain⟨b,hr,hv⟩:=(show SRep0 ρ B (XX K.X0 ρ B) w (a.eval x) (.ref id)from h1).2.1 es' hB
        have hbl:=s.rel.blks id
        unfold BlkOK at hbl
        rw[hB]at hbl
        obtain⟨b',arr,clock,hr',hh,hmr⟩:=hbl
        rw[hr]at hr';cases hr'
        exact⟨arr,.inr ⟨b,clock,hv,hh⟩,hmr⟩
       | _=>rw[hB]at hm;cases hm
     . rename_i v
       split at hm
       . rename_i hn
         cases hm
         have hv:=SRep.ex_inv h1
         refine⟨#[],.inl ⟨?_,rfl⟩,trivial⟩
         rw[hv]
         cases v <;> simp[JlW]at hn
         rename_i q
         cases q <;> simp at hn
         rfl
       cases hm
     cases hm
    cases hle:lk et K.T with
    | none=>rw[hle]at h;cases h
    | some te =>
    rw[hle]at h
    simp only at h
    obtain⟨de,ie,ze,ke⟩:=Jk (s.tok et te hle)
    cases hz:JeC te with
    | none=>rw[hz]at h;cases h
    | some z =>
    rw[hz]at h
    obtain rfl:=Jn h
    have hsm:=hc.1
    cases hlk:J7 k es with
    | none=>rw[hlk]at hsm;simp at hsm
    | some r =>
     have hf:=Ja3 hdk hkey 0 hmr hlk
     have fin:∀ v,(Instr.lookup t (a.eval x) (a.eval y) ok).run K.P w=.ok v w->(execOp a.eval o).run K.P w=.ok (.value v) w:=by
      intro v hv
      unfold execOp
      rw[ho]
      simp only[Ki,hv,Ke]
      rfl
     suffices hG:Does K.P o a w (Post K slot B a [] (Um ok z (some r))) by
      exact hG
     cases r with
     | some v =>
      obtain⟨j,e,g1,g2,g3⟩:=hf
      have hrun:=JeP (ok:=ok) hu hd (Jks hdk) hmx g1 (z:=undef) (fun e=>by cases e)
      refine Does.pureV s.rel (fin _ hrun) ?_
      cases ok with
      | true=>exact SRep.of_rep (Rep.tup_mk (Z.cons g3 (Z.cons (.bool true) Z.nil)))
      | false=>exact SRep.of_rep g3
     | none =>
      have hrun:=JeP (ok:=ok) hu hd (Jks hdk) hmx hf (z:=ze) (fun _=>ke.zeroValue w)
      refine Does.pureV s.rel (fin _ hrun) ?_
      have hzr:Rep (XX K.X0 ρ B) w ze z:=JfH ke hz
      cases ok with
      | true=>exact SRep.of_rep (Rep.tup_mk (Z.cons hzr (Z.cons (.bool false) Z.nil)))
      | false=>exact SRep.of_rep hzr
  rw[if_neg hkk]at h;cases h
 | _=>rw[hk]at h;cases h
theorem Jh9{F:Nat->Prop}{n b:Nat}{o':Obj}(hn:n<=b ∨ F b):Keeps F n w { w with heap:=w.heap.setIfInBounds b o' } :=
 ⟨rfl,rfl,rfl,by simp,fun k hk hF=>by
  have hne:b ≠ k:=by
   rintro rfl
   rcases hn with h | h
   . omega
   exact hF h
  show(w.heap.setIfInBounds b o')[k]?=w.heap[k]?
  simp[hne]⟩
theorem RelW.put_obj(h:RelW K ρ slot B a w){id b:Nat}{blk:ABlk}{ob o':Obj}(hr:ρ id=some b)(hal:(B id).alive)(hmake:sameMake (B id) blk)(hh:w.heap[b]?=some ob)(hnc:∀ cur e,ob ≠ .cells cur e (0,0))
 (hblk:(∀ v av,Rep (XX K.X0 ρ B) w v av->Rep (XX K.X0 ρ (upd B id blk)) { w with heap:=w.heap.setIfInBounds b o' } v av)->BlkOK ρ (upd B id blk) (XX K.X0 ρ (upd B id blk)) { w with heap:=w.heap.setIfInBounds b o' } id) :
 RelW K ρ slot (upd B id blk) a { w with heap:=w.heap.setIfInBounds b o' }:=by
 have hlv:=h.live id b hal hr
 have hk:Keeps K.F K.w0.heap.size w { w with heap:=w.heap.setIfInBounds b o' }:=Jh9 (hlv.1.symm)
 refine h.modify id blk hk hmake hal (fun b' hb' cur e hc=>?_) (fun b' hb' hne=>?_) (fun _ hm=>hblk hm)
 . rw[hr]at hb';cases hb'
   rw[hh]at hc
   exact absurd (Option.some.inj hc) (hnc cur e)
 . have:b ≠ b':=fun e=>hne (by rw[hr,e])
   show(w.heap.setIfInBounds b o')[b']?=w.heap[b']?
   simp[this]
theorem Jhs{b:Nat}{ob o':Obj}(hh:w.heap[b]?=some ob):(w.heap.setIfInBounds b o')[b]?=some o':=by
 have:b < w.heap.size:=(Array.getElem?_eq_some_iff.1 hh).1
 simp[this]
theorem VQ{arr:Array MapEntry}{j:Nat}{e:MapEntry}{f:MapEntry->MapEntry}(hj:arr[j]?=some e):(arr.modify j f).toList=arr.toList.set j (f e):=by
 apply List.ext_getElem?
 intro i
 have hlt:j < arr.size:=(Array.getElem?_eq_some_iff.1 hj).1
 rw[List.getElem?_set]
 by_cases he:j=i
 . subst he
   have he:arr[j]=e:=by rw[Array.getElem?_eq_getElem hlt]at hj;exact Option.some.inj hj
   simp[hlt,he]
 simp[he]
theorem JdA(s:Setup K ρ slot B a w nid o ins bs){t:Nat}{x y u:Operand}(ho:o.op=.mapUpdate t x y u)(h:UZ K.T t bs ins=some ou)(hc:All ou.cond):XW K slot B a w o ou:=by
 obtain⟨xs,hx,hi⟩:=s.ops
 rw[ho]at hx;cases hx
 obtain⟨m,k,v,rfl,h1,h2,h3⟩:=ins3 hi
 have hbs:∀ id,id ∈ mids1 m->Jr bs id=B id:=fun id hid=>s.bs id (by rw[ho];exact List.mem_flatMap.2 ⟨m,by simp,hid⟩)
 unfold UZ at h
 split at h
 . rename_i id k' v' heq
   simp only[List.cons.injEq,and_true]at heq
   obtain⟨rfl,rfl,rfl⟩:=heq
   cases hl:lk t K.T with
   | none=>rw[hl]at h;cases h
   | some ti =>
   rw[hl]at h
   obtain⟨dt,inf,zt,kk⟩:=Jk (s.tok t ti hl)
   simp only at h
   cases hk:ti.k with
   | map kt et =>
    rw[hk,hbs id (by simp[mids1,mids0])]at h
    simp only at h
    have hu:=kk.und
    rw[kk.mapKind hk]at hu
    cases hB:B id with
    | map es =>
     rw[hB]at h
     simp only at h
     split at h
     . rename_i hb
       simp only[Kd]at hb
       obtain⟨d,hd,hdk⟩:=Ja1 s.tok hb.1
       have hkey:=Jh8 hdk h2
       have hval:=SRep.one1 hb.2 h3
       cases h
       have hsm:=hc.1
       cases hp:Q6 k v es with
       | none=>rw[hp]at hsm;simp at hsm
       | some es' =>
        suffices hG:XW K slot B a w o ⟨.tup [],[(id,.map es')],[],[]⟩ by
         exact hG
        obtain⟨b,hr,hv⟩:=(show SRep0 ρ B (XX K.X0 ρ B) w (a.eval x) (.ref id)from h1).2.1 es hB
        have hbl:=s.rel.blks id
        unfold BlkOK at hbl
        rw[hB]at hbl
        obtain⟨b',arr,clock,hr',hh,hmr⟩:=hbl
        rw[hr]at hr';cases hr'
        have hal:(B id).alive:=by rw[hB];trivial
        have fin:∀ w',(Instr.mapUpdate t (a.eval x) (a.eval y) (a.eval u)).run K.P w=.ok () w'->(execOp a.eval o).run K.P w=.ok .skip w':=by
         intro w' hv
         unfold execOp
         rw[ho]
         simp only[Ki,hv,Ke]
         rfl
        have goal:∀ o':Obj,(Instr.mapUpdate t (a.eval x) (a.eval y) (a.eval u)).run K.P w=.ok () { w with heap:=w.heap.setIfInBounds b o' } →
         ((∀ v av,Rep (XX K.X0 ρ B) w v av->Rep (XX K.X0 ρ (upd B id (.map es'))) { w with heap:=w.heap.setIfInBounds b o' } v av)->∃ arr' clock',o'=.map arr' clock'/\MapR (XX K.X0 ρ (upd B id (.map es'))) { w with heap:=w.heap.setIfInBounds b o' } arr'.toList es') →
         XW K slot B a w o ⟨.tup [],[(id,.map es')],[],[]⟩:=by
         intro o' hrun hm
         refine Does.of_skip (fin _ hrun) ⟨ρ,?_,SRep.of_rep WH⟩
         refine s.rel.put_obj hr hal (by rw[hB];trivial) hh (fun _ _ e=>by cases e) fun hmono=>?_
         obtain⟨arr',clock',rfl,hmr'⟩:=hm hmono
         unfold BlkOK
         rw[Jb]
         exact⟨b,arr',clock',hr,Jhs hh,hmr'⟩
        have hmono:∀ {o':Obj} {l:List MapEntry} {m:List (AV × AV)},(∀ v av,Rep (XX K.X0 ρ B) w v av->Rep (XX K.X0 ρ (upd B id (.map es'))) { w with heap:=w.heap.setIfInBounds b o' } v av)->MapR (XX K.X0 ρ B) w l m->MapR (XX K.X0 ρ (upd B id (.map es'))) { w with heap:=w.heap.setIfInBounds b o' } l m:=by
         intro o' l
         induction l with
         | nil=>intro m hm h;cases m with
          | nil=>trivial
          | cons _ _=>exact h.elim
         | cons e l ih=>intro m hm h;cases m with
          | nil=>exact h.elim
          | cons p m=>exact⟨h.1,hm _ _ h.2.1,hm _ _ h.2.2.1,ih hm h.2.2.2⟩
        rcases Ja2 hdk hkey 0 hmr hp with⟨g1,rfl⟩ | ⟨j,e,g1,g2,g3,rfl⟩
        . refine goal (.map (arr.push { key:=a.eval y,val:=a.eval u,born:=clock }) (clock+1)) ?_ fun hm=>⟨_,_,rfl,?_⟩
          . rw[hv]
            simp[Instr.mapUpdate,run_underlying hu,MapKept.run_getObj_map hh,JI hd (Jks hdk),run_findKey hd g1,run_setObj_map _ hh,Result.andThen]
          rw[Array.toList_push]
          refine(hmono hm hmr).append (arr':=[{ key:=a.eval y,val:=a.eval u,born:=clock }]) (es':=[(k,v)]) ?_
          exact⟨Je8 hdk,hm _ _ hkey,hm _ _ hval,trivial⟩
        have hj:arr[j]?=some e:=by simpa using g2
        refine goal (.map (arr.modify j fun e=>{ e with key:=a.eval y,val:=a.eval u }) clock) ?_ fun hm=>⟨_,_,rfl,?_⟩
        . have hks:(Instr.keyThatStays (a.eval y) (a.eval y)).run K.P w=.ok (a.eval y) w:=by
           have hs:Instr.sameBits 10000 (a.eval y) (a.eval y)=true:=by
            rcases hdk with⟨_,q,n,rfl⟩ | ⟨_,l,rfl⟩
            . rw[SRep.int_inv h2];simp[Instr.sameBits]
            rw[SRep.str_inv h2];simp[Instr.sameBits,bytes_beq]
           simp[Instr.keyThatStays,hs]
          rw[hv]
          simp[Instr.mapUpdate,run_underlying hu,MapKept.run_getObj_map hh,JI hd (Jks hdk),run_findKey hd g1,hj,g3,hks,run_setObj_map _ hh,Result.andThen]
        rw[VQ hj]
        exact MapR.set (e':={ e with key:=a.eval y,val:=a.eval u }) (Je8 hdk) (hm _ _ hkey) (hm _ _ hval) j (hmono hm hmr)
     cases h
    | _=>rw[hB]at h;cases h
   | _=>rw[hk]at h;cases h
 cases h
theorem RelW.newObj(h:RelW K ρ slot B a w){nid:Nat}(hf:Fresh slot B nid){blk:ABlk}{ob:Obj}(hbt:¬ blk.tracey)(hbp:∀ n,blk ≠ .pins n)
 (hblk:BlkOK (upd ρ nid (some w.heap.size)) (upd B nid blk) (XX K.X0 (upd ρ nid (some w.heap.size)) (upd B nid blk)) (w.alloc ob) nid) :
 RelW K (upd ρ nid (some w.heap.size)) slot (upd B nid blk) a (w.alloc ob):=by
 have hb:=QF w ob
 have hr:=h.replace nid nid blk (some w.heap.size) (Keeps.of_below hb h.le_size) hf.dead hf.zero hbt hbp (fun cells e=>hf.dead (by rw[e];trivial)) hf.slots hf.blks (fun b hlt _=>hb.block b hlt)
  (fun b hp=>by cases hp;exact .inr ⟨Kr _,by simp⟩) (fun _ _ _=>by rw[Xq];exact hblk)
 rw[Xq]at hr
 exact hr.1
theorem Jht(s:Setup K ρ slot B a w nid o ins bs){t:Nat}{r:Option Operand}(ho:o.op=.makeMap t r)(h:Jb9 nid ins=some ou):XW K slot B a w o ou:=by
 obtain⟨xs,hx,hi⟩:=s.ops
 rw[ho]at hx
 cases r with
 | some q=>cases hx
 | none =>
  unfold Jb9 at h
  split at h
  . cases h
    refine Does.of_run (v:=.map (some w.heap.size)) (w':=w.alloc (.map #[] 0)) ?_ ⟨_,s.rel.newObj s.fresh (fun h=>h) (fun n h=>by cases h) ?_,?_⟩
    . unfold execOp
      rw[ho]
      simp[run_makeMap]
    . unfold BlkOK
      rw[Jb]
      exact⟨w.heap.size,#[],0,Jb _ _ _,heap_alloc_new w _,trivial⟩
    refine⟨rfl,fun es _=>⟨w.heap.size,Jb _ _ _,rfl⟩,fun l p hc=>?_⟩
    simp only[wrB,Jb]at hc
    cases hc
  cases h
theorem Jnh(s:Setup K ρ slot B a w nid o ins bs){t:Nat}{x:Operand}(ho:o.op=.range t x)(h:JiR K.T nid t ins=some ou):XW K slot B a w o ou:=by
 obtain⟨xs,hx,hi⟩:=s.ops
 rw[ho]at hx;cases hx
 obtain⟨av,rfl,h1⟩:=Jd4 hi
 unfold JiR at h
 split at h
 . rename_i l heq
   simp only[List.cons.injEq,and_true]at heq
   subst heq
   cases hl:lk t K.T with
   | none=>rw[hl]at h;cases h
   | some ti =>
    rw[hl]at h
    obtain⟨dt,inf,zt,kk⟩:=Jk (s.tok t ti hl)
    simp only at h
    cases hk:ti.k with
    | str =>
     rw[hk]at h
     cases h
     have hu:=kk.und
     rw[kk.strKind hk]at hu
     refine Does.of_run (v:=.pointer (some ⟨w.heap.size,0,none⟩)) (w':=w.alloc (.stringIter ⟨l.toArray⟩ 0)) ?_ ⟨_,s.rel.newObj s.fresh (fun h=>h) (fun n h=>by cases h) ?_,?_⟩
     . unfold execOp
       rw[ho]
       simp[SRep.str_inv h1,Instr.range,run_underlying hu,Result.andThen]
     . unfold BlkOK
       rw[Jb]
       exact⟨w.heap.size,_,Jb _ _ _,heap_alloc_new w _,by simp⟩
     refine⟨rfl,fun es hc=>?_,fun l' p _=>⟨w.heap.size,Jb _ _ _,rfl⟩⟩
     simp only[wrB,Jb]at hc
     cases hc
    | _=>rw[hk]at h;cases h
 cases h
theorem JcW{s s':ByteArray}{i j:Nat}(hg:∀ k,s.get! (i+k)=s'.get! (j+k))(hs:∀ k,(i+k < s.size)=(j+k < s'.size)):Utf8.decode s i=Utf8.decode s' j:=by
 unfold Utf8.decode
 simp only[hg,hs]
theorem Jee{s:ByteArray}{pos:Nat}{l:List UInt8}(h:s.data.toList.drop pos=l):Utf8.decode s pos=dec l:=by
 subst h
 have hsz:s.size=s.data.toList.length:=by cases s;rfl
 refine JcW (fun k=>?_) (fun k=>?_)
 . have e1:s.get! (pos+k)=s.data.toList.getD (pos+k) 0:=by
    cases s with | mk d=>simp[ByteArray.get!,getElem!_def,Array.getElem?_toList,List.getD_eq_getElem?_getD];cases d[pos+k]? <;> rfl
   have e2:(⟨(s.data.toList.drop pos).toArray⟩:ByteArray).get! (0+k)=(s.data.toList.drop pos).getD k 0:=by
    simp[ByteArray.get!,getElem!_def,List.getD_eq_getElem?_getD];cases s.data[pos+k]? <;> rfl
   rw[e1,e2]
   simp[List.getD_eq_getElem?_getD]
 have e2:(⟨(s.data.toList.drop pos).toArray⟩:ByteArray).size=s.data.toList.length-pos:=by
  show(s.data.toList.drop pos).toArray.size=_
  simp
 rw[hsz,e2,eq_iff_iff]
 omega
theorem s_next(s:Setup K ρ slot B a w nid o ins bs){x:Operand}{st:Bool}(ho:o.op=.next x st)(h:Joy bs ins=some ou):XW K slot B a w o ou:=by
 obtain⟨xs,hx,hi⟩:=s.ops
 rw[ho]at hx
 cases st with
 | false=>cases hx
 | true =>
 cases hx
 obtain⟨av,rfl,h1⟩:=Jd4 hi
 have hbs:∀ id,id ∈ mids1 av->Jr bs id=B id:=fun id hid=>s.bs id (by rw[ho];exact List.mem_flatMap.2 ⟨av,by simp,hid⟩)
 unfold Joy at h
 split at h
 . rename_i id heq
   simp only[List.cons.injEq,and_true]at heq
   subst heq
   rw[hbs id (by simp[mids1,mids0])]at h
   cases hB:B id with
   | iter l pos =>
    rw[hB]at h
    simp only at h
    obtain⟨b,hr,hv⟩:=(show SRep0 ρ B (XX K.X0 ρ B) w (a.eval x) (.ref id)from h1).2.2 l pos hB
    have hbl:=s.rel.blks id
    unfold BlkOK at hbl
    rw[hB]at hbl
    obtain⟨b',str,hr',hh,hd⟩:=hbl
    rw[hr]at hr';cases hr'
    have hal:(B id).alive:=by rw[hB];trivial
    have hget:(getObj b).run K.P w=.ok (.stringIter str pos) w:=by simp[getObj,Sem.run,hh]
    have hset:∀ o',(setObj b o').run K.P w=.ok () { w with heap:=w.heap.setIfInBounds b o' }:=fun o'=>by simp[setObj,Sem.run,hh]
    have fin:∀ v w',(Instr.next (a.eval x) true o.type).run K.P w=.ok v w'->(execOp a.eval o).run K.P w=.ok (.value v) w':=by
     intro v w' hv
     unfold execOp
     rw[ho]
     simp only[Ki,hv,Ke]
     rfl
    have hlen:str.size=str.data.toList.length:=by cases str;rfl
    cases l with
    | nil =>
     obtain rfl:=Jn h
     have hge:¬ pos < str.size:=by
      have:=List.drop_eq_nil_iff.1 hd
      omega
     refine Does.pureV s.rel (v:=.tuple #[.bool false]) (fin _ _ ?_) (SRep.of_rep (Rep.tup_mk (Z.cons (.bool false) Z.nil)))
     rw[hv]
     simp[Instr.next,hget,hge,Result.andThen]
    | cons c r =>
     cases h
     have hlt:pos < str.size:=by
      rw[hlen]
      apply Classical.byContradiction
      intro hn
      rw[List.drop_eq_nil_iff.2 (by omega)]at hd
      cases hd
     have hdec:=Jee hd
     refine Does.of_run (v:=.tuple #[.bool true,.int .i64 pos,.int .i32 (dec (c::r)).1]) (fin _ { w with heap:=w.heap.setIfInBounds b (.stringIter str (pos+(dec (c::r)).2)) } ?_) ⟨ρ,?_,?_⟩
     . rw[hv]
       simp[Instr.next,hget,hlt,hdec,hset,Result.andThen,goInt]
     . refine s.rel.put_obj hr hal (by rw[hB];trivial) hh (fun _ _ e=>by cases e) fun _=>?_
       unfold BlkOK
       rw[Jb]
       exact⟨b,str,hr,Jhs hh,by rw[<- hd,List.drop_drop]⟩
     exact SRep.of_rep (Rep.tup_mk (Z.cons (.bool true) (Z.cons (.int _ _) (Z.cons (.int _ _) Z.nil))))
   | _=>rw[hB]at h;cases h
 cases h
end
end Go.Av
