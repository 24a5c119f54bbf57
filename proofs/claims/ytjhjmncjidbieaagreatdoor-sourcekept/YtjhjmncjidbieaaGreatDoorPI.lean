/-
  Plain laws for what is kept: totals of flights that are turned, of all but the first one; the loudest flight. What is kept: the pieces of its statement. SourceKept returns true. No condition but the theorems' own.
-/
import Derived.Test.YtjhjmncjidbieaaGreatDoorPH
import Derived.Test.YtjhjmncjidbieaaGreatDoorAvD
import Derived.Test.YtjhjmncjidbieaaGreatDoorPE
import Derived.Test.YtjhjmncjidbieaaGreatDoorPD
import Derived.Test.YtjhjmncjidbieaaGreatDoorPF
namespace Go.Proofs.YtjhjmncjidbieaaGreatDoor
open Go Go.Av Go.RowKit
theorem Jb8(l:List Int)(i:Nat)(h:i < l.length):(l.take (i+1)).sum=(l.take i).sum+l.getD i default:=by
 rw[List.take_add_one,List.sum_append,Kj h,Ka,Kj h]
 show _+(l[i]+0)=_+l[i]
 rw[Int.add_zero]
def bdE(l:List Int):Prop:=∀ x,x ∈ l->0<=x/\x<=100000000000000
theorem JqP{l:List Int}(h:bdE l):∀ i,i<=l.length->0<=(l.take i).sum/\(l.take i).sum<=100000000000000 * i
 | 0,_=>by simp
 | i+1,hi=>by
  have ih:=JqP h i (by omega)
  have hx:=h (l.getD i default) (JG (by omega))
  rw[Jb8 l i (by omega),Int.natCast_add,Int.mul_add]
  omega
theorem Jga{l:List Int}(h:bdE l)(hl:l.length<=1000):∀ i,i<=l.length->JbA l i=(l.take i).sum
 | 0,_=>by simp[JbA]
 | i+1,hi=>by
  have ih:=Jga h hl i (by omega)
  have hb:=JqP h (i+1) hi
  show IntKind.i64.wrap (JbA l i+l.getD i default)=_
  rw[ih,<- Jb8 l i (by omega)]
  have:(100000000000000:Int) * ((i+1:Nat):Int)<=100000000000000 * 1000:=by omega
  exact QF (by unfold Jg;omega)
theorem WM{l:List Int}(h:bdE l)(hl:l.length<=1000):Jo2 l=l.sum:=by
 unfold Jo2
 rw[Jga h hl _ (Kr _),Ky]
theorem expF_b{ts:List Ty}{f:Fl}(h:FlOK ts f)(x y z:Int):0<=XT ts x y z f/\XT ts x y z f<=100000000000000:=by
 have hn:=h.o.n1
 have hs:=h.s
 have hm:=Xm h.o 0 (f.tr.length-1) (Nat.zero_le _) (by omega)
 have e1:JB f.tr=(f.tr.getD (f.tr.length-1) default).t:=rfl
 have e2:Jm f.tr=(f.tr.getD 0 default).t:=rfl
 have hb:=Jjg (f:=JdR (tyF ts f) f.tr x y z) (a:=Jm f.tr) (n:=(JB f.tr-Jm f.tr).toNat) (fun i hi=>by
  have ha:=at_ok (tk:=Jm f.tr+i) h.o (by omega) (by omega)
  exact hrd_b h.t ha.p) _ (Kr _)
 unfold XT JtE
 have:(((JB f.tr-Jm f.tr).toNat:Nat):Int)<=1000:=by omega
 omega
theorem JcX{ts:List Ty}{fs:List Fl}(h:∀ f,f ∈ fs->FlOK ts f)(x y z:Int):bdE (fs.map (XT ts x y z)):=fun n hn=>by
 obtain⟨f,hf,rfl⟩:=List.mem_map.1 hn
 exact expF_b (h f hf) x y z
structure FlW(ts:List Ty)(f:Fl):Prop where
 nm:JH f.n=true
 kn:JdS (knT ts) (.str f.y)=true
 tr:Jp f.tr=0
theorem Jsa(fs:List Fl)(s:List UInt8):JdS (knF fs) (.str s)=fs.any fun f=>f.n == s:=Wb Fl.n s fs
theorem fFl_z{ts:List Ty}{fs:List Fl}{i:Nat}:fFl ts fs i=0 ↔ FlW ts (fs.getD i default)/\((fs.take i).any fun f=>f.n == (fs.getD i default).n)=false:=by
 unfold fFl
 rw[Jd,Jd,Jd,Jd,Qn (by decide),Qn (by decide),Qn (by decide),Jsa]
 constructor
 . intro h
   exact⟨⟨by simpa using h.1,by simpa using h.2.2.1,h.2.2.2.1⟩,h.2.1⟩
 intro h
 exact⟨by simpa using h.1.nm,h.2,by simpa using h.1.kn,h.1.tr,rfl⟩
theorem XJ(fs:List Fl):(∀ i,i < fs.length->((fs.take i).any fun f=>f.n == (fs.getD i default).n)=false) ↔ (fs.map Fl.n).Nodup:=by
 unfold List.Nodup
 rw[List.pairwise_iff_getElem]
 constructor
 . intro h i j hi hj hij
   rw[Kb]at hi hj
   have h2:=h j hj
   rw[List.any_eq_false]at h2
   have h3:=h2 fs[i] (List.mem_take_iff_getElem.2 ⟨i,by omega,rfl⟩)
   rw[Ka,Kj hj]at h3
   rw[List.getElem_map,List.getElem_map]
   intro e
   apply h3
   rw[beq_iff_eq]
   exact e
 intro h j hj
 rw[List.any_eq_false]
 intro f hf
 obtain⟨i,hi,rfl⟩:=List.mem_take_iff_getElem.1 hf
 have h2:=h i j (by rw[Kb];omega) (by rw[Kb];omega) (by omega)
 rw[List.getElem_map,List.getElem_map]at h2
 rw[Ka,Kj hj,beq_iff_eq]
 exact h2
structure FsW(ts:List Ty)(fs:List Fl):Prop where
 n:fs.length<=16
 f:∀ f,f ∈ fs->FlW ts f
 u:(fs.map Fl.n).Nodup
theorem getD_in{α:Type}[Inhabited α]{l:List α}{P:α->Prop}:(∀ x,x ∈ l->P x) ↔ ∀ i,i < l.length->P (l.getD i default):=by
 constructor
 . intro h i hi
   exact h _ (JG hi)
 intro h x hx
 obtain⟨i,hi,rfl⟩:=List.getElem_of_mem hx
 have:=h i hi
 rwa [Ka,Kj hi]at this
theorem fs_w{ts:List Ty}{fs:List Fl}(h:V6 ts fs=0):FsW ts fs:=by
 unfold V6 at h
 split at h
 . cases h
 obtain⟨h2,h3⟩:=XH h
 split at h3
 . cases h3
 rename_i h4
 obtain⟨h5,_⟩:=XH h3
 simp only[Ko]at h4
 exact⟨by omega,getD_in.2 fun i hi=>(fFl_z.1 (h5 i hi)).1,(XJ fs).1 fun i hi=>(fFl_z.1 (h5 i hi)).2⟩
theorem Jlj{ts:List Ty}{fs gs:List Fl}(h:V6 ts fs=0)(hg:FsW ts gs):V6 ts gs=0:=by
 unfold V6 at h ⊢
 split at h
 . cases h
 rename_i h1
 rw[if_neg h1]
 obtain⟨h2,_⟩:=XH h
 rw[Xn h2,if_neg (by rw[Ko];have:=hg.n;omega)]
 exact Xn fun i hi=>fFl_z.2 ⟨hg.f _ (JG hi),(XJ gs).2 hg.u i hi⟩
theorem FsW.turn{ts:List Ty}{fs:List Fl}(h:FsW ts fs)(k:Nat):FsW ts (fs.drop k++fs.take k):=by
 have hp:(fs.drop k++fs.take k).Perm fs:=by
  have:=List.perm_append_comm (l₁:=fs.drop k) (l₂:=fs.take k)
  rwa [List.take_append_drop]at this
 exact⟨by rw[hp.length_eq];exact h.n,fun f hf=>h.f f (hp.mem_iff.1 hf),(hp.map Fl.n).nodup_iff.2 h.u⟩
theorem FsW.tail{ts:List Ty}{fs:List Fl}(h:FsW ts fs)(k:Nat):FsW ts (fs.drop k):=by
 refine⟨by rw[Kh];have:=h.n;omega,fun f hf=>h.f f (List.mem_of_mem_drop hf),?_⟩
 exact List.Pairwise.sublist ((List.drop_sublist k fs).map Fl.n) h.u
theorem chkP_z{ts:List Ty}{fs:List Fl}{x y z:Int}:Q9 ts fs x y z=0 ↔ V6 ts fs=0/\JT x y z=0:=by
 unfold Q9
 rw[Jd,Jd]
 exact⟨fun h=>⟨h.1,h.2.1⟩,fun h=>⟨h.1,h.2,rfl⟩⟩
structure SumK(ts:List Ty)(fs:List Fl)(x y z:Int)(k:Nat):Prop where
 z0:Q9 ts fs x y z=0
 z1:Q9 ts (fs.drop k++fs.take k) x y z=0
 z2:Q9 ts (fs.drop 1) x y z=0
 t0:JV ts fs x y z=Jo2 (fs.map (XT ts x y z))
 t1:JV ts (fs.drop k++fs.take k) x y z=JV ts fs x y z
 t2:JV ts fs x y z-JV ts (fs.drop 1) x y z=(fs.map (XT ts x y z)).getD 0 default
 i2:Jg (JV ts fs x y z-JV ts (fs.drop 1) x y z)
 p0:Jl5 ts fs x y z=fs.map (XT ts x y z)
 nn:0<=(fs.map (XT ts x y z)).getD 0 default
theorem sum_k{ts:List Ty}{fs:List Fl}{x y z:Int}(k:Nat)(h:V6 ts fs=0)(hp:JT x y z=0)(hn:1<=fs.length)(hl:fs.length<=16):SumK ts fs x y z k:=by
 have w:=fs_w h
 have hc1:=Jlj h (w.turn k)
 have hc2:=Jlj h (w.tail 1)
 have z0:Q9 ts fs x y z=0:=chkP_z.2 ⟨h,hp⟩
 have z1:Q9 ts (fs.drop k++fs.take k) x y z=0:=chkP_z.2 ⟨hc1,hp⟩
 have z2:Q9 ts (fs.drop 1) x y z=0:=chkP_z.2 ⟨hc2,hp⟩
 have b0:=JcX (JkX h) x y z
 have b1:=JcX (JkX hc1) x y z
 have b2:=JcX (JkX hc2) x y z
 have e0:JV ts fs x y z=(fs.map (XT ts x y z)).sum:=by
  rw[(Wd z0).1,WM b0 (by rw[Kb];omega)]
 have e1:JV ts (fs.drop k++fs.take k) x y z=((fs.drop k++fs.take k).map (XT ts x y z)).sum:=by
  rw[(Wd z1).1,WM b1 (by rw[Kb,Kf,Kh,Kg];omega)]
 have e2:JV ts (fs.drop 1) x y z=((fs.drop 1).map (XT ts x y z)).sum:=by
  rw[(Wd z2).1,WM b2 (by rw[Kb,Kh];omega)]
 have e3:(fs.map (XT ts x y z)).getD 0 default+((fs.drop 1).map (XT ts x y z)).sum=(fs.map (XT ts x y z)).sum:=by
  match fs,hn with
  | f::r,_=>rfl
 have hb:=b0 ((fs.map (XT ts x y z)).getD 0 default) (JG (by rw[Kb];omega))
 have ht2:JV ts fs x y z-JV ts (fs.drop 1) x y z=(fs.map (XT ts x y z)).getD 0 default:=by rw[e0,e2];omega
 refine⟨z0,z1,z2,(Wd z0).1,?_,ht2,?_,(Wd z0).2.1,hb.1⟩
 . rw[e0,e1,Db,List.sum_append,Int.add_comm,<- List.sum_append,<- Db,List.take_append_drop]
 rw[ht2]
 unfold Jg
 omega
theorem JpA(e:Nat->Int):∀ i,(∀ k,k<=i->e k<=e (bsI e i))/\∀ k,k < bsI e i->e k < e (bsI e i)
 | 0=>by
  refine⟨fun k hk=>?_,fun k hk=>absurd hk (by simp[bsI])⟩
  rw[show k=0 by omega]
  exact Ks _
 | i+1=>by
  obtain⟨h1,h2⟩:=JpA e i
  have hl:=Jea e i
  simp only[bsI]
  by_cases h:e (i+1) > e (bsI e i)
  . rw[if_pos (decide_eq_true h)]
    refine⟨fun k hk=>?_,fun k hk=>?_⟩
    . by_cases q:k=i+1
      . rw[q];exact Ks _
      have:=h1 k (by omega);omega
    have:=h1 k (by omega);omega
  rw[if_neg (by rw[Ko];exact h)]
  refine⟨fun k hk=>?_,h2⟩
  by_cases q:k=i+1
  . rw[q];omega
  exact h1 k (by omega)
def JaC(ts:List Ty)(fs:List Fl)(x y z:Int):Nat:=bsI (fun k=>XT ts x y z (fs.getD k default)) (fs.length-1)
theorem lou_k{ts:List Ty}{fs:List Fl}{x y z:Int}(h:V6 ts fs=0)(hp:JT x y z=0)(hn:1<=fs.length):Jg3 ts fs x y z=0/\fiI (pF fs (Jbh ts fs x y z)) fs.length=(JaC ts fs x y z:Int)/\JaC ts fs x y z < fs.length /\
 ∀ k,k < fs.length->(fs.map (XT ts x y z)).getD k default<=(fs.map (XT ts x y z)).getD (JaC ts fs x y z) default/\(k < JaC ts fs x y z->(fs.map (XT ts x y z)).getD k default < (fs.map (XT ts x y z)).getD (JaC ts fs x y z) default):=by
 have z0:Q9 ts fs x y z=0:=chkP_z.2 ⟨h,hp⟩
 have w:=fs_w h
 obtain⟨_,_,g1,g2⟩:=Wd z0
 have hz:((fs.length:Int) == 0)=false:=by
  rw[beq_eq_false_iff_ne]
  omega
 have hlt:JaC ts fs x y z < fs.length:=by
  have:=Jea (fun k=>XT ts x y z (fs.getD k default)) (fs.length-1)
  unfold JaC
  omega
 have hr:Jbh ts fs x y z=(fs.getD (JaC ts fs x y z) default).n:=by
  rw[g2]
  unfold louR
  rw[hz,if_neg (by decide)]
  rfl
 have hc:Jg3 ts fs x y z=0:=by
  rw[g1]
  unfold louE
  rw[hz,if_neg (by decide)]
 refine⟨hc,?_,hlt,fun k hk=>?_⟩
 . have hu:=(XJ fs).2 w.u _ hlt
   rw[Jc0 (Da hlt)]at hu
   have hf:∀ j,j < JaC ts fs x y z->pF fs (Jbh ts fs x y z) j=false:=fun j hj=>by
    cases q:pF fs (Jbh ts fs x y z) j with
    | false=>rfl
    | true =>
     exfalso
     unfold pF at q
     rw[hr]at q
     have:=fi_ex (p:=fun j=>(fs.getD j default).n == (fs.getD (JaC ts fs x y z) default).n) hj q
     exact absurd this (K1 hu)
   have hs:=VF hf (by unfold pF;rw[hr];exact Kz _) hlt
   unfold fiI
   rw[hs,if_neg (by omega)]
 . have eg:∀ j,j < fs.length->(fs.map (XT ts x y z)).getD j default=XT ts x y z (fs.getD j default):=fun j hj=>by
    rw[Ka,Kk,Kj hj,Ka,Kj hj]
    rfl
   obtain⟨m1,m2⟩:=JpA (fun k=>XT ts x y z (fs.getD k default)) (fs.length-1)
   rw[eg k hk,eg _ hlt]
   exact⟨m1 k (by omega),m2 k⟩
theorem c_ofH {f : Nat} {args : List AV} {r : AV} (fn : Func) (B : BA) (ms : List (Option (List GS × AS × Prop))) {q : Prop} (hq : q) (h : JbI (Qh Tryz.prog T0 G0 fn.ntmps []) B (Jo6 T0 fn fun v => v = r) (VB (Xx fn)) ms (Jae args) = q) (hf : Tryz.prog.funcs[f]? = some fn := by kernel_rfl) (hb : fn.body = some (Xx fn) := by kernel_rfl) (hn : (fn.name == "runtime.NumGoroutine") = false := by kernel_rfl) (hlen : Nat.ble args.length fn.ntmps = true := by kernel_rfl) : P0 f args r :=
 Jbo tok mix hf hb hn (Kl hlen) B ms (Ji4 hq h)
def mdK(g:List GS)(p:Prop)(l:List (Nat × AV))(b:BL)(n:Nat):Option (List GS × AS × Prop):=some (g++[.keep (l.map (·.1)) (b.map (·.1)),.bound n],⟨l,b,n⟩,p)
def v6(l:List Fx)(k:Int)(i:Nat):Int:=cJ [rAt l k] 0 i
def st6(l:List Fx)(k:Int):List AV:=[.i (v6 l k 0),.i (v6 l k 1),.i (v6 l k 2),.i (v6 l k 3),.i (v6 l k 4),.i (v6 l k 5)]
theorem at_six(l:List Fx)(k:Int):rAt l k=st6 l k:=by
 unfold st6 v6 rAt
 split
 . rfl
 split <;> rfl
theorem JoV{t u:Ty}{a b c d:Int}(h:AV.tup [.agg (Jf t),.i a,.i b]=.tup [.agg (Jf u),.i c,.i d]):t=u/\a=c/\b=d:=by
 injection h with h
 injection h with h1 h
 injection h with h2 h
 injection h with h3 _
 injection h1 with h1
 injection h2 with _ h2
 injection h3 with _ h3
 exact⟨by rw[<- XQ t,h1,XQ],h2,h3⟩
theorem Jrr{t:Ty}(h:PrOK t)(hT:Qs t=0)(hl:(prX t).length<=990):JjP (prX t)=t/\JjQ (prX t)=0/\JjR (prX t)=0 :=
 JoV ((JjO (prX t)).symm.trans (ps_p t h hT hl))
theorem prs_m{t:Ty}(h:PrOK t)(h1:1<=t.st.length)(hl:(prX t).length<=990){s:List UInt8}(hs:s=(prX t).take ((prX t).length-1)):JjP s=zT/\JjQ s=3+(t.st.length:Int)/\JjR s=25 :=
 JoV ((JjO s).symm.trans (ps_m t h h1 hl hs))
def pv(a:List Fx)(sp:Int)(i:Nat):Nat:=(Jck a sp (a.length-1)).getD (i-1) 0
def psK(a:List Fx)(sp:Int)(i:Nat):Nat:=(Jck a sp (a.length-1)).getD i 0
theorem pv_s(a:List Fx)(sp:Int)(i:Nat):pv a sp (i+1)=psK a sp i:=rfl
def pE(ts:List Ty)(fs:List Fl)(x y z:Int):List Int:=fs.map (XT ts x y z)
structure KA(ts:List Ty)(fs:List Fl)(x y z:Int):Prop where
 n1:1<=ts.length
 n2:ts.length<=3
 m1:1<=fs.length
 m2:fs.length<=4
 c:Jd4 ts fs=0
 p:JT x y z=0
structure KB(ts:List Ty)(fs:List Fl)(x y z:Int):Prop extends KA ts fs x y z where
 s:∀ j,j < fs.length->JB (fs.getD j default).tr-Jm (fs.getD j default).tr<=100
theorem KA.f{ts:List Ty}{fs:List Fl}{x y z:Int}(h:KA ts fs x y z):V6 ts fs=0:=by rw[Jr3];exact h.c
theorem KA.tr{ts:List Ty}{fs:List Fl}{x y z:Int}(h:KA ts fs x y z){j:Nat}(hj:j < fs.length):TrackOK (fs.getD j default).tr/\JB (fs.getD j default).tr-Jm (fs.getD j default).tr<=1000/\Jp (fs.getD j default).tr=0:=by
 have hf:=(Jli h.f).2.2.2 j hj
 have:=Jmu hf.2
 exact⟨this.1,this.2,hf.2⟩
theorem KA.ty{ts:List Ty}{fs:List Fl}{x y z:Int}(h:KA ts fs x y z):Qs (ts.getD 0 default)=0:=(Jli h.f).2.2.1 0 h.n1
theorem cj_t(l:List Fx)(i:Nat):cJ (l.map Ja) i 0=(l.getD i default).t:=by
 unfold cJ Jn
 rw[Ka,Ka,Kk]
 cases l[i]? <;> rfl
theorem Jcz{α:Type}(enc:α->List AV)(l:List α):(((l.map enc).length:Int)-1).toNat=l.length-1:=by
 rw[Kb]
 omega
theorem WU(l:List Fx):cJ (l.map Ja) 0 0=Jm l:=cj_t l 0
theorem JcT(l:List Fx):cJ (l.map Ja) (((l.map Ja).length:Int)-1).toNat 0=JB l:=by
 rw[Jcz,cj_t]
 rfl
theorem Jja{n m:Int}(hn:0<=n)(hm:0 < m):0<=n.tmod m/\n.tmod m<=n/\n.tmod m < m:=by
 rw[Int.tmod_eq_emod_of_nonneg hn]
 refine⟨Int.emod_nonneg n (by omega),?_,Int.emod_lt_of_pos n hm⟩
 have h:=Int.emod_add_mul_ediv n m
 have h2:0<=m * (n / m):=Int.mul_nonneg (by omega) (Int.ediv_nonneg hn (by omega))
 omega
theorem W8{α:Type}(enc:α->List AV)(l:List α){k:Int}(h0:0<=k):([]++List.take (((l.map enc).length:Int)-k).toNat (List.drop k.toNat (l.map enc))++List.take (k-0).toNat (List.drop 0 (l.map enc)))=(l.drop k.toNat++l.take k.toNat).map enc:=by
 rw[List.nil_append,List.drop_zero,Db,List.map_drop,List.map_take,Int.sub_zero]
 congr 1
 refine Kv ?_
 rw[Kh,Kb]
 omega
theorem Jab{α:Type}(enc:α->List AV)(l:List α):List.take (((l.map enc).length:Int)-1).toNat (List.drop 1 (l.map enc))=(l.drop 1).map enc:=by
 rw[List.map_drop]
 refine Kv ?_
 rw[Kh,Kb]
 omega
theorem Jle(s:List UInt8):List.take (((s.length:Int)-1)-0).toNat (List.drop 0 s)=s.take (s.length-1):=by
 rw[List.drop_zero,show(((s.length:Int)-1)-0).toNat=s.length-1 by omega]
theorem rep_le{a:List Fx}(sd:Int)(h:1<=a.length):(QD a sd).length<=a.length:=by
 unfold QD
 split
 . exact Nat.zero_le _
 have:=(Jaq (l:=a) (sp:=sd) (a.length-1)).2
 omega
def TrB(l:List Fx):Prop:=0<=Jm l/\JB l<=100000000/\Jm l < JB l
theorem tr_b{l:List Fx}(h:TrackOK l):TrB l:=by
 have n1:=h.n1
 exact⟨(h.b 0 (by omega)).1.1,(h.b (l.length-1) (by omega)).1.2,t_lt h (by omega) (by omega)⟩
structure KF(ts:List Ty)(fs:List Fl)(x y z tn:Int)(a l:List Fx)(t:Ty):Prop where
 m1:1<=fs.length
 m2:fs.length<=4
 n1:1<=ts.length
 n2:ts.length<=3
 oa:TrackOK a
 sa:JB a-Jm a<=100
 za:Jp a=0
 ba:TrB a
 ol:TrackOK l
 sl:JB l-Jm l<=100
 bl:TrB l
 ty:Qs t=0
 sh:ShortTy t
 po:PrOK t
 pl:(prX t).length<=990
 st:1<=t.st.length
 sk:SumK ts fs x y z (tn.tmod fs.length).toNat
 lk:Jg3 ts fs x y z=0/\fiI (pF fs (Jbh ts fs x y z)) fs.length=(JaC ts fs x y z:Int)/\JaC ts fs x y z < fs.length/\∀ k,k < fs.length->(pE ts fs x y z).getD k default<=(pE ts fs x y z).getD (JaC ts fs x y z) default/\(k < JaC ts fs x y z->(pE ts fs x y z).getD k default < (pE ts fs x y z).getD (JaC ts fs x y z) default)
 pb:bdE (pE ts fs x y z)
 tm:0<=tn.tmod fs.length/\tn.tmod fs.length < fs.length
 pe:(pE ts fs x y z).length=fs.length
theorem kf{ts:List Ty}{fs:List Fl}{x y z tn:Int}{a l:List Fx}{t:Ty}(hK:KB ts fs x y z)(hS:∀ t,t ∈ ts->ShortTy t)(hqa:a=(fs.getD 0 default).tr)(hqb:l=(fs.getD (fs.length-1) default).tr)(ht:t=ts.getD 0 default)(htn:0<=tn):KF ts fs x y z tn a l t:=by
 have m1:=hK.m1
 have t1:=hK.tr (j:=0) (by omega)
 have t2:=hK.tr (j:=fs.length-1) (by omega)
 have s1:=hK.s 0 (by omega)
 have s2:=hK.s (fs.length-1) (by omega)
 rw[<- hqa]at t1 s1
 rw[<- hqb]at t2 s2
 have hty:Qs t=0:=by rw[ht];exact hK.ty
 have hsh:ShortTy t:=by rw[ht];exact hS _ (JG hK.n1)
 obtain⟨po,pl⟩:=pr_ok hsh hty
 have tm:=Jja (m:=(fs.length:Int)) htn (by omega)
 exact⟨m1,hK.m2,hK.n1,hK.n2,t1.1,s1,t1.2.2,tr_b t1.1,t2.1,s2,tr_b t2.1,hty,hsh,po,pl,(JhK hty).n1,sum_k _ hK.f hK.p m1 (by have:=hK.m2;omega),lou_k hK.f hK.p m1,JcX (JkX hK.f) x y z,⟨tm.1,tm.2.2⟩,Kb _⟩
theorem k61(ts:List Ty)(gs:List Fl)(x y z:Int)(hl:ts.length<=1000)(hm:gs.length<=1000)(hS:∀ t,t ∈ ts->ShortTy t)(hF:∀ f,f ∈ gs->f.n.length<=1000/\f.y.length<=1000/\f.tr.length<=1000)(hz:Q9 ts gs x y z=0):P0 61 [.sl 13 (ts.map Jf),.sl 3 (gs.map Jr),.agg [.i x,.i y,.i z]] (.tup [.i (JV ts ((gs.map Jr).map Jbm) x y z),.i 0]):=by
 have k:=c61 ts gs x y z hl hm hS hF
 rw[hz]at k
 rw[XB VI]
 exact k
theorem Jgz{α:Type}{l:List α}{k:Nat}{P:α->Prop}(h:∀ f,f ∈ l->P f):∀ f,f ∈ l.drop k++l.take k->P f:=fun f hf=>(List.mem_append.1 hf).elim (fun q=>h f (List.mem_of_mem_drop q)) fun q=>h f (List.mem_of_mem_take q)
theorem JgA{α:Type}{l:List α}{k:Nat}{P:α->Prop}(h:∀ f,f ∈ l->P f):∀ f,f ∈ l.drop k->P f:=fun f hf=>h f (List.mem_of_mem_drop hf)
theorem eqFx_t{f g:Fx}(h:Jde f g=true):f.t=g.t:=by
 unfold Jde at h
 simp only[Kd]at h
 exact eq_of_beq h.1.1
theorem Jpu(f:Fx):Jde f f=true:=by simp[Jde]
theorem if6{a b:Bool}(h:(if a=true then true else b)=false):a=false/\b=false:=by
 cases a
 . exact⟨rfl,h⟩
 cases h
theorem JjL{l:List Fx}{d:Int}{g:Nat}(hg:g < l.length):Qo ((shN l d g).map Ja) g 0 [.i ((l.getD g default).t+d)]=(shN l d (g+1)).map Ja:=by
 have h:=JoY (d:=d) hg
 unfold Qo
 rw[Jq Ja (by rw[Ua];exact hg),h,shN,List.map_set]
 rfl
theorem k56(l:List Fx)(k:Int)(hl:l.length<=1000):P0 56 [.sl 5 (l.map Ja),.i k] (.tup [.agg (st6 l k),.i (Qf l k)]):=by
 rw[<- at_six]
 exact c56 l k hl
theorem Jsb{P:Nat->Prop}{g:Nat}(h:∀ j,j < g->P j)(h2:P g):∀ j,j < g+1->P j:=fun j hj=>by
 by_cases e:j=g
 . rw[e];exact h2
 exact h j (by omega)
theorem Jd3{l:List Fx}{i:Nat}(h:i < l.length):nth (Jn (l.map Ja) i) 0=.i (cJ (l.map Ja) i 0):=by
 rw[cj_t,Jq Ja h]
 rfl
theorem JqX{l:List Fx}{d:Int}{g:Nat}(hg:g < l.length):(shN l d (g+1)).getD g default=shF d (l.getD g default):=by
 rw[shN,Ka,List.getElem?_set_self (by rw[Ua];exact hg)]
 rfl
theorem pr_pos{t:Ty}(h:PrOK t):1<=(prX t).length:=by
 refine Nat.pos_of_ne_zero fun e=>?_
 have h2:=Jgs t h
 rw[List.eq_nil_of_length_eq_zero e]at h2
 have h3:=congrArg List.length h2
 rw[Kf,UW,show(spl 10 []).length=1 from rfl,Kx]at h3
 omega
theorem sp_len{t:Ty}(h:PrOK t):(List.map Jx (spl 10 (prX t))).length=5+t.st.length:=by
 rw[Kb,Jgs t h,Kf,UW,Kx]
 omega
theorem c57(l:List Fx)(hl:l.length<=1000):P0 57 [.sl 5 (l.map Ja)] (.fresh 110 5 (l.map Ja)):=by
 have key :
  0+(List.map Ja l).length<=9223372036854775807/\(0+(List.map Ja l).length) * 40<=140737488355328/\AV.fresh 110 5 ([]++List.map Ja l)=AV.fresh 110 5 (List.map Ja l):=by
   have hlm:(List.map Ja l).length=l.length:=Kb _
   have:(List.map Ja l).length=l.length:=by simp only[Kb]
   exact⟨by omega,by omega,rfl⟩
 exact JU Tryz.f57 (Jkc 1 2 (fun q=>{ q with fz:=false }) (mkB spR 57 [] QJ)) key (by kernel_rfl)
def rdLt(l:List Fx)(d:Int):List AV->Option AV
 | [.optr _ i _]=>some (.i ((l.getD i default).t+d))
 | _=>none
def rdL0(l:List Fx):List AV->Option AV
 | [.optr _ i _]=>some (.i (l.getD i default).t)
 | _=>none
def sp12(ts:List Ty)(fs:List Fl)(x y z:Int)(t:Ty):Nat->List AV->Option AV
 | 13,_=>some (.bool true)
 | 60,_=>some (.bool (sSF ts fs))
 | 66,_=>some (.i (Jd4 ts fs))
 | 35,_=>some (.i (JT x y z))
 | 29,[.sl _ rows]=>some (.sl 5 rows)
 | 24,[.sl _ rows]=>some (.sl 5 rows)
 | 23,[.sl _ p,.sl _ q]=>some (.bool (U6 (J7 p) (J7 q)))
 | 39,[.sl _ rows,.int _ s]=>some (.tup [.sl 5 ((JiG (J7 rows) s).map Ja),.i (Q2 (J7 rows) s)])
 | 57,[.sl _ rows]=>some (.fresh 110 5 rows)
 | 71,[.sl _ p,.sl _ q]=>some (.tup [.sl 5 ((rJ (J7 p) (J7 q)).map Ja),.i (Jfw (J7 p) (J7 q))])
 | 56,[.sl _ p,.int _ n]=>some (.tup [.agg (st6 (J7 p) n),.i (Qf (J7 p) n)])
 | 62,[.sl _ rows]=>some (.sl 13 rows)
 | 63,[.sl _ rows]=>some (.sl 3 rows)
 | 61,[_,.sl _ rows,_]=>some (.tup [.i (JV ts (rows.map Jbm) x y z),.i 0])
 | 64,_=>some (.tup [.sl 1 ((Jl5 ts fs x y z).map Jh),.i 0])
 | 65,_=>some (.tup [.str (Jbh ts fs x y z),.i 0])
 | 83,_=>some (.i (JaC ts fs x y z:Int))
 | 28,_=>some (.agg (Jf t))
 | 77,_=>some (.tup [.str (prX t),.i 0])
 | 78,[.str s]=>some (.tup [.agg (Jf (JjP s)),.i (JjQ s),.i (JjR s)])
 | 82,[.agg l]=>some (.agg l)
 | 81,_=>some (.bool true)
 | 84,[.str s,_]=>some (.sl 1 ((spl 10 s).map Jx))
 | n,w=>spR n w
def A12(ts:List Ty)(fs:List Fl)(x y z sp tn:Int):List (Nat × AV):=[(0,.sl 13 (ts.map Jf)),(1,.sl 3 (fs.map Jr)),(5,.elt 5 [[.i x,.i y,.i z,.int .u16 sp,.int .u16 tn]] 0 0)]
def JeC(a l:List Fx):Bool:=decide (((a.map Ja).length:Int)+((l.map Ja).length:Int)<=16)
def C12(ts:List Ty)(fs:List Fl)(x y z sp tn:Int)(a:List Fx)(sd:Int):List (Nat × AV):=A12 ts fs x y z sp tn++[(9,.i sd),(10,.sl 5 (a.map Ja)),(11,.sl 5 ((QD a sd).map Ja))]
def la12(ts:List Ty)(fs:List Fl)(x y z sp tn:Int)(a l:List Fx)(sd dl:Int)(b:Nat):Option LA :=
 if b.beq 0 then some {
  pre:=[.keep [0,1,5,93,94,95] [],.bound 1],post:=[.keep [0,1,5,93,94,95] [],.bound 1]
  Gh:=Nat
  st:=fun i=>⟨A12 ts fs x y z sp tn++[(93,.sl 3 (fs.map Jr)),(94,.i (fs.map Jr).length),(95,.i i)],[],1⟩
  ok:=fun i=>i<=fs.length/\∀ j,j < i->JB (fs.getD j default).tr-Jm (fs.getD j default).tr<=100
  ms:=fun i=>fs.length-i }
 else if b.beq 2 then some {
  pre:=[.keep [0,1,5,9,10,11,15,174,175,176] [],.bound 1],post:=[.keep [0,1,5,9,10,11,15,174,175,176] [],.bound 1]
  Gh:=Nat
  st:=fun i=>⟨C12 ts fs x y z sp tn a sd++[(15,.i (pv a sd i)),(174,.sl 5 ((QD a sd).map Ja)),(175,.i ((QD a sd).map Ja).length),(176,.i i)],[],1⟩
  ok:=fun i=>i<=(QD a sd).length
  ms:=fun i=>(QD a sd).length-i }
 else if b.beq 4 then some {
  pre:=[.keep [0,1,5,9,10,11,15,174,175,176,16,17] [],.bound 1],post:=[.keep [0,1,5,9,10,11,15,174,175,176,16,17] [],.bound 1]
  Gh:=Nat × Nat
  st:=fun q=>⟨C12 ts fs x y z sp tn a sd++[(15,.i q.2),(174,.sl 5 ((QD a sd).map Ja)),(175,.i ((QD a sd).map Ja).length),(176,.i q.1),(16,.i q.1),(17,.elt 5 [Ja ((QD a sd).getD q.1 default)] 0 0)],[],1⟩
  ok:=fun q=>q.1 < (QD a sd).length/\q.2<=psK a sd q.1
  rel:=some fun q0 q=>q.1=q0.1
  ms:=fun q=>a.length-q.2 }
 else if b.beq 6 then some {
  pre:=[.reno 20 1,.keep [0,1,5,10,20,21,22,300,301] [1],.bound 2],post:=[.reno 20 1,.keep [0,1,5,10,20,21,22,300,301] [1],.bound 2]
  Gh:=Nat
  st:=fun i=>⟨A12 ts fs x y z sp tn++[(10,.sl 5 (a.map Ja)),(20,.own 1 (l.map Ja).length),(21,.i dl),(22,.bool (JcM l dl (JeC a l) i)),(300,.i (l.map Ja).length),(301,.i i)],[(1,.buf 110 5 ((shN l dl i).map Ja))],2⟩
  ok:=fun i=>i<=l.length
  ms:=fun i=>l.length-i }
 else if b.beq 10 then some {
  pre:=[.keep [0,1,5,33,40,44,45,513,514,515] [],.bound 1],post:=[.keep [0,1,5,33,40,44,45,513,514,515] [],.bound 1]
  Gh:=Nat
  st:=fun i=>⟨A12 ts fs x y z sp tn++[(33,.i (JV ts fs x y z)),(40,.sl 1 ((pE ts fs x y z).map Jh)),(44,.i ((pE ts fs x y z).take i).sum),(45,.i (JaC ts fs x y z:Int)),(513,.sl 1 ((pE ts fs x y z).map Jh)),(514,.i ((pE ts fs x y z).map Jh).length),(515,.i i)],[],1⟩
  ok:=fun i=>i<=(pE ts fs x y z).length
  ms:=fun i=>(pE ts fs x y z).length-i }
 else none
def m12(ts:List Ty)(fs:List Fl)(x y z sp tn:Int)(a l:List Fx)(sd dl:Int)(t:Ty):List (Option (List GS × AS × Prop)) :=
 let A:=A12 ts fs x y z sp tn
 let K:=KB ts fs x y z
 let T:Nat × AV:=(33,.i (JV ts fs x y z))
 let P:Nat × AV:=(40,.sl 1 ((pE ts fs x y z).map Jh))
 [none,none,mdK [] (KA ts fs x y z) A [] 1,none,mdK [] K A [] 1,none,none,
  mdK [] K (C12 ts fs x y z sp tn a sd++[(12,.i (JeQ a sd))]) [] 1,none,
  mdK [] K (A++[(10,.sl 5 (a.map Ja))]) [] 1,
  mdK [.reno 20 1] K (A++[(10,.sl 5 (a.map Ja)),(20,.own 1 (l.map Ja).length)]) [(1,.buf 110 5 (l.map Ja))] 2,none,none,none,
  mdK [.frzo 20] K (A++[(10,.sl 5 (a.map Ja)),(20,.sl 5 ((shN l dl l.length).map Ja)),(22,.bool (JcM l dl (JeC a l) l.length))]) [] 1,none,
  mdK [] K A [] 1,
  mdK [] K (A++[T,(34,.i 0)]) [] 1,none,
  mdK [] K (A++[T,(34,.i 0),(36,.i (JV ts fs x y z)),(37,.i 0)]) [] 1,
  mdK [] K (A++[T,(34,.i 0),(36,.i (JV ts fs x y z)),(37,.i 0),(38,.i (JV ts (fs.drop 1) x y z)),(39,.i 0)]) [] 1,
  mdK [] K (A++[T,(34,.i 0),(36,.i (JV ts fs x y z)),(37,.i 0),(38,.i (JV ts (fs.drop 1) x y z)),(39,.i 0),P,(41,.i 0)]) [] 1,
  mdK [] K (A++[T,(34,.i 0),(36,.i (JV ts fs x y z)),(37,.i 0),(38,.i (JV ts (fs.drop 1) x y z)),(39,.i 0),P,(41,.i 0),(42,.str (Jbh ts fs x y z)),(43,.i 0)]) [] 1,none,
  mdK [] K (A++[T,P,(42,.str (Jbh ts fs x y z))]) [] 1,none,none,
  mdK [] K (A++[T,P,(44,.i 0),(45,.i (JaC ts fs x y z:Int))]) [] 1,none,
  mdK [] K (A++[T,(44,.i ((pE ts fs x y z).take (pE ts fs x y z).length).sum)]) [] 1,
  mdK [] K (A++[T,(44,.i ((pE ts fs x y z).take (pE ts fs x y z).length).sum),(48,.str (prX t)),(49,.i 0)]) [] 1,none,none,
  mdK [] K (A++[(48,.str (prX t))]) [] 1,none,none,none]
def tk12(i:Nat):Nat:=if i.beq 14 then 173 else if i.beq 22 then 198 else if i.beq 27 then 263 else if i.beq 30 then 266 else if i.beq 43 then 343 else if i.beq 51 then 396 else if i.beq 60 then 507 else if i.beq 63 then 512 else if i.beq 69 then 541 else if i.beq 74 then 592 else 0
def ks12(i:Nat):List Nat:=if i.beq 14 then[0,1,5,9,10,11,173]else if i.beq 22 then[0,1,5,9,10,11,15,174,175,176,16,17,198]else if i.beq 27 then[0,1,5,9,10,11,15,174,175,176,263]else if i.beq 30 then[0,1,5,10,266]else if i.beq 43 then[0,1,5,10,20,24,343]else if i.beq 51 then[0,1,5,24,346,347,396]else if i.beq 60 then[0,1,5,33,40,42,507]else if i.beq 63 then[0,1,5,33,40,44,45,512]else if i.beq 69 then[0,1,5,33,40,44,45,513,514,515,541]else if i.beq 74 then[0,1,5,48,592]else[]
def gs12(i:Nat):List GS:=if(tk12 i).beq 0 then[]else[.keep (ks12 i) [],.bound 1]
def cut12(i:Nat):Option (AS->AS):=if(tk12 i).beq 0 then none else some (Jnw (ks12 i) [] 1 (tk12 i) fun _=>.bool false)
def B12(ts:List Ty)(fs:List Fl)(x y z sp tn:Int)(a l:List Fx)(sd dl:Int)(t:Ty):BA:={ gsB gs12 (fzB (mkB (sp12 ts fs x y z t) 12 [(1,3,rdF),(5,1,rdL 3 Jr fs 3 true),(6,8,rdC),(6,13,rdC),(10,3,rdL 3 Jr fs 1 false),(14,25,rdL 5 Ja (QD a sd) 5 true),(14,28,rdL 5 Ja a 5 true),(19,2,rdL 5 Ja (QD a sd) 5 true),(20,8,rdL 5 Ja a 5 true),(25,4,rdL 5 Ja (QD a sd) 5 true),(32,6,rdL 3 Jr fs 1 false),(33,6,rdL 5 Ja a 1 false),(33,16,rdL0 l),(38,4,rdL0 l),(39,6,rdLt l dl),(48,3,rdC),(48,13,rdC),(48,17,rdC),(60,36,rdL 1 Jh (pE ts fs x y z) 1 false),(60,42,rdL 1 Jh (pE ts fs x y z) 1 false),(67,2,rdL 1 Jh (pE ts fs x y z) 1 false),(69,4,rdL 1 Jh (pE ts fs x y z) 1 false),(69,11,rdL 1 Jh (pE ts fs x y z) 1 false),(72,2,rdL 13 Jf ts 13 true),(74,20,rdL 13 Jf ts 13 true),(74,31,rdL 13 Jf ts 1 false),(77,7,rdL 13 Jf ts 1 false)] (la12 ts fs x y z sp tn a l sd dl)))with cl:=clL [173,198,263,266,343,348,396,507,512,541,592],cut:=cut12 }
abbrev WG(l:List Fx)(dl:Int):=List.map Ja (shN l dl l.length)
abbrev Jbs(tn:Int):=IntKind.i64.wrap tn
abbrev UY(l:List Fx)(dl:Int):=((WG l dl).length:Int)
abbrev Vl(l:List Fx)(dl:Int)(tn:Int):=cJ (WG l dl) 0 0+(Jbs tn).tmod (cJ (WG l dl) ((UY l dl)-1).toNat 0-cJ (WG l dl) 0 0)
abbrev Jsi(a:List Fx)(sd:Int):=J7 ([]++List.map Ja (QD a sd))
abbrev Jek(a:List Fx)(sd:Int):=List.map Ja (JiG (Jsi a sd) sd)
abbrev XU(a:List Fx)(sd:Int):=List.map Ja (QD a sd)
abbrev Z65i(a:List Fx)(sd:Int):=if(Q2 (Jsi a sd) sd != 0)=true then true else !U6 (J7 (Jek a sd)) (J7 (XU a sd))
abbrev Jbb(a:List Fx)(sd:Int):=((XU a sd).length:Int)
abbrev JlM(a:List Fx)(sd:Int):=if(Z65i a sd)=true then true else decide ((Jbb a sd) < 2)
abbrev QY(a:List Fx):=List.map Ja a
abbrev VW(a:List Fx):=((QY a).length:Int)
abbrev Jma(a:List Fx)(sd:Int):=!if(JlM a sd)=true then true else decide ((Jbb a sd) > (VW a))
abbrev XY(a:List Fx)(tn:Int):=cJ (QY a) 0 0+(Jbs tn).tmod (cJ (QY a) ((VW a)-1).toNat 0-cJ (QY a) 0 0)
abbrev JfQ(ts:List Ty)(fs:List Fl)(x:Int)(y:Int)(z:Int):=List.take (pE ts fs x y z).length (pE ts fs x y z)
abbrev Jqc(ts:List Ty)(fs:List Fl)(x:Int)(y:Int)(z:Int):=(JfQ ts fs x y z).sum != JV ts fs x y z
abbrev Z65d(ts:List Ty)(fs:List Fl)(x:Int)(y:Int)(z:Int)(t:Ty):=if(if(Jqc ts fs x y z)=true then true else false)=true then true else JjR (prX t) != 0
abbrev QK(a:List Fx):=J7 (QY a)
abbrev QV(l:List Fx)(dl:Int):=J7 (WG l dl)
abbrev XW(a:List Fx)(l:List Fx)(dl:Int):=J7 ([]++List.map Ja (rJ (QK a) (QV l dl)))
abbrev Qm(x:Int)(y:Int)(z:Int)(sp:Int)(tn:Int):=[[AV.i x,AV.i y,AV.i z,AV.int IntKind.u16 sp,AV.int IntKind.u16 tn]]
abbrev JX(fs:List Fl):=List.map Jr fs
abbrev Vk(fs:List Fl):=((JX fs).length:Int)
abbrev J2(ts:List Ty):=List.map Jf ts
abbrev Ja9(ts:List Ty):=((J2 ts).length:Int)
abbrev Z65B(ts:List Ty):=if decide ((Ja9 ts) < 1)=true then true else decide ((Ja9 ts) > 3)
abbrev Z65h(ts:List Ty)(fs:List Fl):=if(Z65B ts)=true then true else decide ((Vk fs) < 1)
abbrev Xk(ts:List Ty)(fs:List Fl)(x:Int)(y:Int)(z:Int):=(↑(JaC ts fs x y z):Int)
abbrev JlD(ts:List Ty)(fs:List Fl)(x:Int)(y:Int)(z:Int)(g:Nat):=(pE ts fs x y z).getD (g:Int).toNat default > (pE ts fs x y z).getD (Xk ts fs x y z).toNat default
abbrev JfW(t:Ty):=((prX t).length:Int)
abbrev JtG(t:Ty):=List.take ((JfW t)-1-0).toNat (List.drop 0 (prX t))
abbrev WA(ts:List Ty)(fs:List Fl)(x:Int)(y:Int)(z:Int):=List.map Jh (pE ts fs x y z)
abbrev V3(ts:List Ty)(fs:List Fl)(x:Int)(y:Int)(z:Int):=((WA ts fs x y z).length:Int)
abbrev JnY(ts:List Ty)(fs:List Fl)(x:Int)(y:Int)(z:Int):=if(JV ts fs x y z != JV ts fs x y z)=true then true else(V3 ts fs x y z) != (Vk fs)
abbrev JlC(ts:List Ty)(fs:List Fl)(x:Int)(y:Int)(z:Int):=!if(JnY ts fs x y z)=true then true else JV ts fs x y z-JV ts (List.drop 1 fs) x y z != (pE ts fs x y z).getD 0 default
abbrev JlG(ts:List Ty)(fs:List Fl)(x:Int)(y:Int)(z:Int)(t:Ty):=if(Z65d ts fs x y z t)=true then true else JjQ (prX t) != 0
abbrev JnS(ts:List Ty)(fs:List Fl)(x:Int)(y:Int)(z:Int)(t:Ty):=!if(JlG ts fs x y z t)=true then true else false
abbrev Jp9(ts:List Ty)(fs:List Fl)(x:Int)(y:Int)(z:Int):=!if(JV ts fs x y z != JV ts fs x y z)=true then true else(V3 ts fs x y z) != (Vk fs)
abbrev Vg(g_1:Nat × Nat):=(↑g_1.fst:Int)
abbrev JtF(a:List Fx)(sd:Int)(g_1:Nat × Nat):=(QD a sd).getD ((Vg g_1)-1).toNat default
abbrev Jl9(fs:List Fl)(g:Nat):=List.map Ja (fs.getD (g:Int).toNat default).tr
abbrev Jii(a:List Fx)(sd:Int)(g_1:Nat × Nat):=(QD a sd).getD g_1.fst default
abbrev JnR(ts:List Ty)(fs:List Fl)(x:Int)(y:Int)(z:Int)(t:Ty):=!if(Z65d ts fs x y z t)=true then true else JjQ (prX t) != 0
abbrev JnX(ts:List Ty)(fs:List Fl):=if(Z65h ts fs)=true then true else decide ((Vk fs) > 4)
abbrev JnQ(ts:List Ty)(fs:List Fl):=!if(JnX ts fs)=true then true else Jd4 ts fs != 0
abbrev Jqd(a:List Fx)(l:List Fx)(dl:Int):=(!Jfw (QK a) (QV l dl) != 0)=true->(!Jfw (QK a) (QV l dl) != 0)=true
abbrev JiM:=Int.toNat (0:Int)
abbrev JtO(a:List Fx)(sd:Int):=!if(Q2 (Jsi a sd) sd != 0)=true then true else !U6 (J7 (Jek a sd)) (J7 (XU a sd))
abbrev JtN(ts:List Ty)(fs:List Fl)(x:Int)(y:Int)(z:Int)(g:Nat):=!decide (JlD ts fs x y z g) && (pE ts fs x y z).getD (g:Int).toNat default == (pE ts fs x y z).getD (Xk ts fs x y z).toNat default
abbrev Jir(a:List Fx)(l:List Fx)(dl:Int):=List.map Ja (rJ (QK a) (QV l dl))
abbrev Vf(g_1:Nat × Nat):=(↑g_1.snd:Int)
abbrev JfV(a:List Fx)(g_1:Nat × Nat):=a.getD (Vf g_1).toNat default
abbrev Z65I(g_1:Nat × Nat)(a:List Fx)(sd:Int):=if decide ((Vf g_1) < (VW a))=true then !((JfV a g_1).t == (Jii a sd g_1).t && true && ((JfV a g_1).x == (Jii a sd g_1).x && true && ((JfV a g_1).y == (Jii a sd g_1).y && true && ((JfV a g_1).z == (Jii a sd g_1).z && true && true)) && ((JfV a g_1).p == (Jii a sd g_1).p && true && true)))else false
abbrev JtM(tn:Int)(fs:List Fl):=List.drop ((Jbs tn).tmod (Vk fs)).toNat (JX fs)
abbrev Z65L(a:List Fx)(sd:Int):=!if(Z65i a sd)=true then true else decide ((Jbb a sd) < 2)
abbrev Jsv(g_1:Nat × Nat)(a:List Fx):=decide ((Vf g_1) < (VW a))=true->decide ((Vf g_1) < (VW a))=true
abbrev JtL(ts:List Ty):=!if decide ((Ja9 ts) < 1)=true then true else decide ((Ja9 ts) > 3)
abbrev Jel(t:Ty):=JjR (JtG t) == 25
abbrev Jn2(t:Ty):=(Jel t)=true->(Jel t)=true
abbrev Jn1(ts:List Ty)(fs:List Fl)(x:Int)(y:Int)(z:Int)(sp:Int)(tn:Int):=[(0,AV.sl 13 (J2 ts)),(1,AV.sl 3 (JX fs)),(5,AV.elt 5 (Qm x y z sp tn) 0 0)]
abbrev JtK(a:List Fx)(l:List Fx)(dl:Int)(tn:Int):=!if(Qf (XW a l dl) (Vl l dl tn) != 0)=true then true else Qf (QV l dl) (Vl l dl tn) != 0
abbrev JnV(ts:List Ty):=List.map Ji (ts.getD JiM default).st
abbrev JlE(ts:List Ty):=((JnV ts).length:Int)
abbrev Z65R(t:Ty)(ts:List Ty):=if(Jel t)=true then JjQ (JtG t) == 3+(JlE ts)else false
abbrev Jn0(ts:List Ty)(fs:List Fl):=!if(Z65h ts fs)=true then true else decide ((Vk fs) > 4)
abbrev JtJ(a:List Fx)(l:List Fx)(dl:Int)(tn:Int):=!if(Qf (XW a l dl) (XY a tn) != 0)=true then true else Qf (QK a) (XY a tn) != 0
abbrev Jba(l:List Fx):=List.map Ja l
abbrev Jiq(l:List Fx):=((Jba l).length:Int)
abbrev Jqb(ts:List Ty)(fs:List Fl)(x:Int)(y:Int)(z:Int)(g:Nat):=(!decide (JlD ts fs x y z g))=true->(!decide (JlD ts fs x y z g))=true
abbrev JtI(fs:List Fl)(tn:Int):=(Vk fs)-(Jbs tn).tmod (Vk fs)
abbrev Jqa(sp:Int):=(1:Int)+(IntKind.i64.wrap sp).tmod (1000:Int)
abbrev Jmb(ts:List Ty)(fs:List Fl)(x:Int)(y:Int)(z:Int)(t:Ty):=(JnS ts fs x y z t)=true->(JnS ts fs x y z t)=true
abbrev JfO(a:List Fx)(sd:Int):=!Q2 (Jsi a sd) sd != 0
abbrev JtH(a:List Fx)(sd:Int):=(JfO a sd)=true->(JfO a sd)=true
abbrev Jbr(fs:List Fl):=List.map Ja (fs.getD JiM default).tr
abbrev Jsn(ts:List Ty)(fs:List Fl)(x:Int)(y:Int)(z:Int)(sp:Int)(tn:Int):=[(0,AV.sl 13 (J2 ts)),(1,AV.sl 3 (JX fs)),(5,AV.elt 5 (Qm x y z sp tn) 0 0),(33,AV.i (JV ts fs x y z)),(34,AV.i 0),(36,AV.i (JV ts fs x y z)),(37,AV.i 0),(38,AV.i (JV ts (List.drop 1 fs) x y z)),(39,AV.i 0),(40,AV.sl 1 (WA ts fs x y z)),(41,AV.i 0),(42,AV.str (Jbh ts fs x y z)),(43,AV.i 0)]
abbrev JfS(l:List Fx)(dl:Int)(a:List Fx)(g:Nat):=JcM l dl (JeC a l) g=true->JcM l dl (JeC a l) g=true
abbrev Jin(fs:List Fl):=List.map Ja (fs.getD ((Vk fs)-1).toNat default).tr
abbrev JlJ(ts:List Ty)(fs:List Fl)(x:Int)(y:Int)(z:Int):=(!JV ts fs x y z != JV ts fs x y z)=true->(!JV ts fs x y z != JV ts fs x y z)=true
abbrev Jim(fs:List Fl):=List.take ((Vk fs)-1).toNat (List.drop 1 (JX fs))
abbrev Ja8(a:List Fx)(sd:Int)(g_1:Nat × Nat):=(Jii a sd g_1).x-(JtF a sd g_1).x
abbrev Ja7(a:List Fx)(sd:Int)(g_1:Nat × Nat):=(Jii a sd g_1).y-(JtF a sd g_1).y
abbrev JfL(l:List Fx)(dl:Int)(g:Nat):=List.map Ja (shN l dl g)
abbrev Jio(l:List Fx)(g:Nat):=l.getD (g:Int).toNat default
abbrev JnW(l:List Fx)(dl:Int)(g:Nat):=Qo (JfL l dl g) (g:Int).toNat 0 [AV.i ((Jio l g).t+dl)]
abbrev Jc5:=true=true->true=true
abbrev Jil(ts:List Ty)(fs:List Fl):=!if(Z65B ts)=true then true else decide ((Vk fs) < 1)
abbrev JlI(ts:List Ty)(fs:List Fl)(x:Int)(y:Int)(z:Int)(sp:Int)(tn:Int)(a:List Fx):=[(0,AV.sl 13 (J2 ts)),(1,AV.sl 3 (JX fs)),(5,AV.elt 5 (Qm x y z sp tn) 0 0),(10,AV.sl 5 (QY a))]
abbrev JfR(tn:Int)(fs:List Fl):=(Jbs tn).tmod (Vk fs)-0
abbrev JfP(a:List Fx)(sd:Int):=(Jma a sd)=true->(Jma a sd)=true
abbrev Jbt(fs:List Fl)(g:Nat):=((Jl9 fs g).length:Int)
abbrev JfZ(ts:List Ty)(fs:List Fl)(x:Int)(y:Int)(z:Int):=(Jp9 ts fs x y z)=true->(Jp9 ts fs x y z)=true
abbrev JfY(ts:List Ty)(fs:List Fl)(x:Int)(y:Int)(z:Int)(t:Ty):=(JnR ts fs x y z t)=true->(JnR ts fs x y z t)=true
abbrev JfX:=false=false->true=true
abbrev JlL(g:Nat)(ts:List Ty)(fs:List Fl)(x:Int)(y:Int)(z:Int):=(List.take g (pE ts fs x y z)).sum+(pE ts fs x y z).getD (g:Int).toNat default
abbrev Jc6(a:List Fx)(sd:Int)(g_1:Nat × Nat):=(Jii a sd g_1).z-(JtF a sd g_1).z
abbrev Jsu(ts:List Ty)(fs:List Fl)(x:Int)(y:Int)(z:Int)(sp:Int)(tn:Int):=[(0,AV.sl 13 (J2 ts)),(1,AV.sl 3 (JX fs)),(5,AV.elt 5 (Qm x y z sp tn) 0 0),(33,AV.i (JV ts fs x y z)),(40,AV.sl 1 (WA ts fs x y z)),(44,AV.i 0),(45,AV.i (Xk ts fs x y z)),(512,AV.bool false)]
abbrev Jst(ts:List Ty)(fs:List Fl)(x:Int)(y:Int)(z:Int)(sp:Int)(tn:Int)(sd:Int)(a:List Fx)(g':Nat):=[(0,AV.sl 13 (J2 ts)),(1,AV.sl 3 (JX fs)),(5,AV.elt 5 (Qm x y z sp tn) 0 0),(9,AV.i sd),(10,AV.sl 5 (QY a)),(11,AV.sl 5 (XU a sd)),(15,AV.i (↑(pv a sd g'):Int)),(174,AV.sl 5 (XU a sd)),(175,AV.i (Jbb a sd)),(176,AV.i (g':Int))]
abbrev Jip(a:List Fx):=a.getD ((VW a)-1).toNat default
abbrev Jss(ts:List Ty)(fs:List Fl)(x:Int)(y:Int)(z:Int)(sp:Int)(tn:Int)(sd:Int)(a:List Fx)(g_1:Nat × Nat):=[(0,AV.sl 13 (J2 ts)),(1,AV.sl 3 (JX fs)),(5,AV.elt 5 (Qm x y z sp tn) 0 0),(9,AV.i sd),(10,AV.sl 5 (QY a)),(11,AV.sl 5 (XU a sd)),(15,AV.i (Vf g_1)),(174,AV.sl 5 (XU a sd)),(175,AV.i (Jbb a sd)),(176,AV.i ((Vg g_1)+1))]
abbrev JfN(fs:List Fl):=List.drop 0 (JX fs)
abbrev Jsr(fs:List Fl)(tn:Int):=List.map Jbm ([]++List.take (JtI fs tn).toNat (JtM tn fs)++List.take (JfR tn fs).toNat (JfN fs))
abbrev Jsq(ts:List Ty)(fs:List Fl)(x:Int)(y:Int)(z:Int)(sp:Int)(tn:Int):=[(0,AV.sl 13 (J2 ts)),(1,AV.sl 3 (JX fs)),(5,AV.elt 5 (Qm x y z sp tn) 0 0),(33,AV.i (JV ts fs x y z)),(40,AV.sl 1 (WA ts fs x y z)),(44,AV.i 0),(45,AV.i (Xk ts fs x y z))]
abbrev Jsp(g:Nat)(fs:List Fl):=(g<=fs.length/\∀ (j:Nat),j < g->JB (fs.getD j default).tr-Jm (fs.getD j default).tr<=100)
abbrev JnZ(ts:List Ty)(fs:List Fl)(x:Int)(y:Int)(z:Int)(t:Ty):=!if(if(Jqc ts fs x y z)=true then true else false)=true then true else JjR (prX t) != 0
abbrev JfU(a:List Fx)(sd:Int):=(QD a sd).getD JiM default
abbrev Jso(ts:List Ty)(fs:List Fl)(x:Int)(y:Int)(z:Int)(sp:Int)(tn:Int):=[(0,AV.sl 13 (J2 ts)),(1,AV.sl 3 (JX fs)),(5,AV.elt 5 (Qm x y z sp tn) 0 0),(33,AV.i (JV ts fs x y z)),(40,AV.sl 1 (WA ts fs x y z)),(42,AV.str (Jbh ts fs x y z))]
abbrev JfT(a:List Fx)(sd:Int)(g_1:Nat × Nat):=(Jii a sd g_1).t-(JtF a sd g_1).t
abbrev JlK(a:List Fx)(sd:Int):=(Z65L a sd)=true->(Z65L a sd)=true
abbrev JlH(fs:List Fl)(tn:Int):=List.take (JtI fs tn).toNat (JtM tn fs)
abbrev Jsm(ts:List Ty)(fs:List Fl)(x:Int)(y:Int)(z:Int)(sp:Int)(tn:Int)(t:Ty):=[(0,AV.sl 13 (J2 ts)),(1,AV.sl 3 (JX fs)),(5,AV.elt 5 (Qm x y z sp tn) 0 0),(33,AV.i (JV ts fs x y z)),(44,AV.i (JfQ ts fs x y z).sum),(48,AV.str (prX t)),(49,AV.i 0)]
abbrev Jik(a:List Fx)(l:List Fx)(dl:Int):=[AV.sl 5 (QY a),AV.sl 5 (WG l dl)]
abbrev JnU(ts:List Ty)(fs:List Fl):=if(JnX ts fs)=true then true else Jd4 ts fs != 0
abbrev Jij(ts:List Ty):=!decide ((Ja9 ts) < 1)
abbrev Jsl(fs:List Fl)(g:Nat):=cJ (Jl9 fs g) ((Jbt fs g)-1).toNat (0+0)-cJ (Jl9 fs g) JiM (0+0) > 100
abbrev JfM(a:List Fx):=a.getD JiM default
abbrev Jsk(ts:List Ty)(fs:List Fl)(x:Int)(y:Int)(z:Int):=if(JnY ts fs x y z)=true then true else JV ts fs x y z-JV ts (List.drop 1 fs) x y z != (pE ts fs x y z).getD 0 default
abbrev JlF(ts:List Ty):=Jf (ts.getD JiM default)
abbrev JnT(ts:List Ty)(fs:List Fl)(x:Int)(y:Int)(z:Int):=[AV.sl 13 (J2 ts),AV.sl 3 (JX fs),AV.agg [AV.i x,AV.i y,AV.i z]]
abbrev JfK(g:Nat):=(g:Int)+1
abbrev Jsj(a:List Fx)(l:List Fx)(dl:Int)(tn:Int):=if(Qf (XW a l dl) (Vl l dl tn) != 0)=true then true else Qf (QV l dl) (Vl l dl tn) != 0
set_option maxHeartbeats 4000000 in
theorem c12_ok(ts:List Ty)(fs:List Fl)(x y z sp tn:Int)(a l:List Fx)(sd dl:Int)(t:Ty)(hA:P0 13 [] (.bool true))(hl:ts.length<=maxLen)(hm:fs.length<=maxLen)(hst:∀ t,t ∈ ts->t.st.length<=maxLen)(hs:sSF ts fs=true)(hsp:0<=sp/\sp<=65535)(htn:0<=tn/\tn<=65535)(hqa:a=(fs.getD 0 default).tr)(hqb:l=(fs.getD (fs.length-1) default).tr)(hsd:sd=1+sp.tmod 1000)(hdl:dl=JB a+1+sp.tmod 9-Jm l)(ht:t=ts.getD 0 default):P0 12 [.sl 13 (ts.map Jf),.sl 3 (fs.map Jr),.agg [.i x,.i y,.i z,.int .u16 sp,.int .u16 tn]] (.bool true):=by
 have key :
  Jc5/\Jc5/\JfX/\((Jij ts)=true->(Jij ts)=true)/\((Jij ts)=true->(Jij ts)=true)/\(decide ((Ja9 ts) < 1)=false->(Jij ts)=true)/\((JtL ts)=true->(JtL ts)=true)/\((JtL ts)=true->(JtL
  ts)=true)/\((Z65B ts)=false->(JtL ts)=true)/\((Jil ts fs)=true->(Jil ts fs)=true)/\((Jil ts fs)=true->(Jil ts fs)=true)/\((Z65h ts fs)=false->(Jil ts fs)=true)/\((Jn0 ts fs)=true->(Jn0 ts
  fs)=true)/\((Jn0 ts fs)=true->(Jn0 ts fs)=true)/\((Jn0 ts fs)=true->(Jn0 ts fs)=true)/\((JnX ts fs)=false->(Jn0 ts fs)=true)/\((JnQ ts fs)=true->(JnQ ts fs)=true)/\((JnQ ts fs)=true->(JnQ ts
  fs)=true)/\((JnQ ts fs)=true->(JnQ ts fs)=true)/\((JnU ts fs)=false->(JnQ ts fs)=true)/\P0 60 [AV.sl 13 (J2 ts),AV.sl 3 (JX fs)] (AV.bool (sSF ts fs))/\(AV.bool !sSF ts fs)=AV.bool false/\Wx (Jn0 ts
  fs) (P0 66 [AV.sl 13 (J2 ts),AV.sl 3 (JX fs)] (AV.i (Jd4 ts fs)))/\Wx (JnQ ts fs) (P0 35 [AV.agg [AV.i x,AV.i y,AV.i z]] (AV.i (JT x y z)))/\(((if(JnU ts fs)=true then true else JT x y z != 0)=true->P0
  13 [] (AV.bool true)/\AV.bool true=AV.bool true)/\((if(JnU ts fs)=true then true else JT x y z != 0)=false->AS.mk (Jn1 ts fs x y z sp tn) [] 1=AS.mk (Jn1 ts fs x y z sp tn) [] 1/\KA ts fs x y z))/\(KA ts fs x
  y z->((∃ (g:Nat),(Jsp g fs)/\AS.mk [(0,AV.sl 13 (J2 ts)),(1,AV.sl 3 (JX fs)),(5,AV.elt 5 (Qm x y z sp tn) 0 0),(93,AV.sl 3 (JX fs)),(94,AV.i (Vk fs)),(95,AV.i 0)] [] 1=AS.mk [(0,AV.sl 13 (J2 ts)),
  (1,AV.sl 3 (JX fs)),(5,AV.elt 5 (Qm x y z sp tn) 0 0),(93,AV.sl 3 (JX fs)),(94,AV.i (Vk fs)),(95,AV.i (g:Int))] [] 1)/\∀ (g:Nat),(Jsp g fs)->(decide ((g:Int) < (Vk fs))=true->(0:Int)<=(↑g :
  Int)/\(g:Int) < (Vk fs)/\AV.agg (Jn (JX fs) (g:Int).toNat)=AV.agg (Jr (fs.getD (g:Int).toNat default))/\Jg ((Jbt fs g)-1)/\(0:Int)<=(Jbt fs g)-1/\(Jbt fs g)-1 < (Jbt fs g)/\(0:Int)<=0
  /\ (0:Int) < (Jbt fs g)/\Jg (cJ (Jl9 fs g) ((Jbt fs g)-1).toNat 0-cJ (Jl9 fs g) 0 0)/\nth (Jn (Jl9 fs g) ((Jbt fs g)-1).toNat) 0=AV.i (cJ (Jl9 fs g) ((Jbt fs g)-1).toNat 0)/\nth (Jn (Jl9 fs g) 0) 0
  = AV.i (cJ (Jl9 fs g) 0 0)/\(decide (Jsl fs g)=true->P0 13 [] (AV.bool true)/\AV.bool true=AV.bool true)/\(decide (Jsl fs g)=false->Jg (JfK g)/\∃ (g':Nat),(g'<=fs.length/\∀ (j:Nat),j < g'->JB
  (fs.getD j default).tr-Jm (fs.getD j default).tr<=100)/\fs.length-g' < fs.length-g/\AS.mk [(0,AV.sl 13 (J2 ts)),(1,AV.sl 3 (JX fs)),(5,AV.elt 5 (Qm x y z sp tn) 0 0),(93,AV.sl 3 (JX fs)),(94,AV.i (Vk
  fs)),(95,AV.i (JfK g))] [] 1=AS.mk [(0,AV.sl 13 (J2 ts)),(1,AV.sl 3 (JX fs)),(5,AV.elt 5 (Qm x y z sp tn) 0 0),(93,AV.sl 3 (JX fs)),(94,AV.i (Vk fs)),(95,AV.i (g':Int))] [] 1))/\(decide ((g:Int) <
  (Vk fs))=false->AS.mk (Jn1 ts fs x y z sp tn) [] 1=AS.mk (Jn1 ts fs x y z sp tn) [] 1/\KB ts fs x y z))/\(KB ts fs x y z->¬(1000:Int)=(0:Int)/\Jg (Jqa sp)/\(0:Int)<=0/\(0:Int) < (Vk fs)/\nth (Jn
  (JX fs) 0) 2=AV.sl 5 (Jbr fs)/\(P0 29 [AV.sl 5 (Jbr fs)] (AV.sl 5 (Jbr fs))/\P0 39 [AV.sl 5 (Jbr fs),AV.i (Jqa sp)] (AV.tup [AV.sl 5 (List.map Ja (JiG (J7 (Jbr fs)) (Jqa sp))),AV.i (Q2 (J7 (Jbr
  fs)) (Jqa sp))])/\AS.mk [(0,AV.sl 13 (J2 ts)),(1,AV.sl 3 (JX fs)),(5,AV.elt 5 (Qm x y z sp tn) 0 0),(9,AV.i (Jqa sp)),(10,AV.sl 5 (Jbr fs)),(11,AV.sl 5 (List.map Ja (JiG (J7 (Jbr fs)) (Jqa sp)))),
  (12,AV.i (Q2 (J7 (Jbr fs)) (Jqa sp)))] [] 1=AS.mk [(0,AV.sl 13 (J2 ts)),(1,AV.sl 3 (JX fs)),(5,AV.elt 5 (Qm x y z sp tn) 0 0),(9,AV.i sd),(10,AV.sl 5 (QY a)),(11,AV.sl 5 (XU a sd)),(12,AV.i (JeQ
  a sd))] [] 1/\KB ts fs x y z)/\(KB ts fs x y z->(((JeQ a sd == 0)=true->0+(XU a sd).length<=9223372036854775807/\(0+(XU a sd).length) * 40<=140737488355328/\P0 39 [AV.sl 5 ([]++List.map Ja (QD a sd)),AV.i
  sd] (AV.tup [AV.sl 5 (Jek a sd),AV.i (Q2 (Jsi a sd) sd)])/\((JtH a sd)/\(JtH a sd)/\(JtH a sd)/\(JtH a sd)/\(JtH a sd)/\((Q2 (Jsi a sd) sd != 0)=false->(JfO a sd)=true)/\((JtO a sd)=true->(JtO a
  sd)=true)/\((JtO a sd)=true->(JtO a sd)=true)/\((Z65i a sd)=false->(JtO a sd)=true)/\(JlK a sd)/\(JlK a sd)/\(JlK a sd)/\(JlK a sd)/\((JlM a sd)=false->(Z65L a sd)=true)/\(JfP a sd)/\((Jma
  a sd)=true->(0:Int)<=0)/\((Jma a sd)=true->(0:Int) < (Jbb a sd))/\(JfP a sd)/\(JfP a sd)/\((Jma a sd)=true->(0:Int)<=0)/\((Jma a sd)=true->(0:Int) < (VW a))/\(JfP a sd)/\(JfP a sd) /\
  (JfP a sd)/\((if(JlM a sd)=true then true else decide ((Jbb a sd) > (VW a)))=false->(Jma a sd)=true)/\Wx (JfO a sd) (P0 24 [AV.sl 5 (Jek a sd)] (AV.sl 5 (Jek a sd)))/\Wx (JfO a sd) (P0 24 [AV.sl 5
  (XU a sd)] (AV.sl 5 (XU a sd)))/\Wx (JfO a sd) (P0 23 [AV.sl 5 (Jek a sd),AV.sl 5 (XU a sd)] (AV.bool (U6 (J7 (Jek a sd)) (J7 (XU a sd)))))/\Wx (Jma a sd) (AV.agg (Jn (XU a sd) 0)=AV.agg (Ja
  (JfU a sd)))/\Wx (Jma a sd) (AV.agg (Jn (QY a) 0)=AV.agg (Ja (JfM a)))/\AS.mk [(0,AV.sl 13 (J2 ts)),(1,AV.sl 3 (JX fs)),(5,AV.elt 5 (Qm x y z sp tn) 0 0),(9,AV.i sd),(10,AV.sl 5 (QY a)),(11,
  AV.sl 5 (XU a sd)),(173,AV.bool (if(if(JlM a sd)=true then true else decide ((Jbb a sd) > (VW a)))=true then true else !((JfU a sd).t == (JfM a).t && true && ((JfU a sd).x == (JfM a).x && true && ((JfU a
  sd).y == (JfM a).y && true && ((JfU a sd).z == (JfM a).z && true && true)) && ((JfU a sd).p == (JfM a).p && true && true)))))] [] 1=AS.mk [(0,AV.sl 13 (J2 ts)),(1,AV.sl 3 (JX fs)),(5,AV.elt 5 (Qm x y z sp tn)
  0 0),(9,AV.i sd),(10,AV.sl 5 (QY a)),(11,AV.sl 5 (XU a sd)),(173,AV.bool false)] [] 1)/\(∃ (g:Nat),g<=(QD a sd).length/\AS.mk [(0,AV.sl 13 (J2 ts)),(1,AV.sl 3 (JX fs)),(5,AV.elt 5 (Qm x y z sp tn) 0
  0),(9,AV.i sd),(10,AV.sl 5 (QY a)),(11,AV.sl 5 (XU a sd)),(15,AV.i 0),(174,AV.sl 5 (XU a sd)),(175,AV.i (Jbb a sd)),(176,AV.i 0)] [] 1=AS.mk [(0,AV.sl 13 (J2 ts)),(1,AV.sl 3 (JX fs)),(5,AV.elt 5
  (Qm x y z sp tn) 0 0),(9,AV.i sd),(10,AV.sl 5 (QY a)),(11,AV.sl 5 (XU a sd)),(15,AV.i (↑(pv a sd g):Int)),(174,AV.sl 5 (XU a sd)),(175,AV.i (Jbb a sd)),(176,AV.i (g:Int))] [] 1)/\∀ (g:Nat),g<=(QD
  a sd).length->(decide ((g:Int) < (Jbb a sd))=true->(0:Int)<=(g:Int)/\(g:Int) < (Jbb a sd)/\AV.agg (Jn (XU a sd) (g:Int).toNat)=AV.agg (Ja ((QD a sd).getD (g:Int).toNat default))/\∃ (g0:Nat ×
  Nat),(g0.fst < (QD a sd).length/\g0.snd<=psK a sd g0.fst)/\g0.fst=g0.fst/\AS.mk [(0,AV.sl 13 (J2 ts)),(1,AV.sl 3 (JX fs)),(5,AV.elt 5 (Qm x y z sp tn) 0 0),(9,AV.i sd),(10,AV.sl 5 (QY a)),(11,AV.sl 5
  (XU a sd)),(15,AV.i (↑(pv a sd g):Int)),(174,AV.sl 5 (XU a sd)),(175,AV.i (Jbb a sd)),(176,AV.i (g:Int)),(16,AV.i (g:Int)),(17,AV.elt 5 [(Ja ((QD a sd).getD (g:Int).toNat default))] 0 0)] [] 1 =
  AS.mk [(0,AV.sl 13 (J2 ts)),(1,AV.sl 3 (JX fs)),(5,AV.elt 5 (Qm x y z sp tn) 0 0),(9,AV.i sd),(10,AV.sl 5 (QY a)),(11,AV.sl 5 (XU a sd)),(15,AV.i (↑g0.snd:Int)),(174,AV.sl 5 (XU a sd)),(175,AV.i (Jbb
  a sd)),(176,AV.i (↑g0.fst:Int)),(16,AV.i (↑g0.fst:Int)),(17,AV.elt 5 [(Ja ((QD a sd).getD g0.fst default))] 0 0)] [] 1/\∀ (g_1:Nat × Nat),g_1.fst < (QD a sd).length/\g_1.snd<=psK a sd g_1.fst->g_1.fst =
  g0.fst->(Jsv g_1 a)/\(Jsv g_1 a)/\(decide ((Vf g_1) < (VW a))=true->(0:Int)<=(Vf g_1))/\(decide ((Vf g_1) < (VW a))=true->(Vf g_1) < (VW a))/\(Jsv g_1 a)/\(Jsv g_1 a)/\(Jsv g_1 a)/\(Jsv g_1
  a)/\Wx (decide ((Vf g_1) < (VW a))) (AV.agg (Jn (QY a) (Vf g_1).toNat)=AV.agg (Ja (JfV a g_1)))/\((Z65I g_1 a sd)=true->Jg ((Vf g_1)+1)/\∃ (g':Nat × Nat),(g'.fst < (QD a sd).length/\g'.snd ≤
  psK a sd g'.fst)/\g'.fst=g0.fst/\a.length-g'.snd < a.length-g_1.snd/\AS.mk [(0,AV.sl 13 (J2 ts)),(1,AV.sl 3 (JX fs)),(5,AV.elt 5 (Qm x y z sp tn) 0 0),(9,AV.i sd),(10,AV.sl 5 (QY a)),(11,AV.sl 5 (XU a
  sd)),(15,AV.i ((Vf g_1)+1)),(174,AV.sl 5 (XU a sd)),(175,AV.i (Jbb a sd)),(176,AV.i (Vg g_1)),(16,AV.i (Vg g_1)),(17,AV.elt 5 [(Ja (Jii a sd g_1))] 0 0)] [] 1=AS.mk [(0,AV.sl 13 (J2 ts)),(1,
  AV.sl 3 (JX fs)),(5,AV.elt 5 (Qm x y z sp tn) 0 0),(9,AV.i sd),(10,AV.sl 5 (QY a)),(11,AV.sl 5 (XU a sd)),(15,AV.i (↑g'.snd:Int)),(174,AV.sl 5 (XU a sd)),(175,AV.i (Jbb a sd)),(176,AV.i (↑g'.fst :
  Int)),(16,AV.i (↑g'.fst:Int)),(17,AV.elt 5 [(Ja ((QD a sd).getD g'.fst default))] 0 0)] [] 1)/\((Z65I g_1 a sd)=false->AS.mk [(0,AV.sl 13 (J2 ts)),(1,AV.sl 3 (JX fs)),(5,AV.elt 5 (Qm x y z sp tn) 0 0),(9,
  AV.i sd),(10,AV.sl 5 (QY a)),(11,AV.sl 5 (XU a sd)),(15,AV.i (Vf g_1)),(174,AV.sl 5 (XU a sd)),(175,AV.i (Jbb a sd)),(176,AV.i (Vg g_1)),(16,AV.i (Vg g_1)),(17,AV.elt 5 [(Ja (Jii a sd g_1))] 0
  0),(198,AV.bool ((Vf g_1) == (VW a)))] [] 1=AS.mk [(0,AV.sl 13 (J2 ts)),(1,AV.sl 3 (JX fs)),(5,AV.elt 5 (Qm x y z sp tn) 0 0),(9,AV.i sd),(10,AV.sl 5 (QY a)),(11,AV.sl 5 (XU a sd)),(15,AV.i (Vf
  g_1)),(174,AV.sl 5 (XU a sd)),(175,AV.i (Jbb a sd)),(176,AV.i (Vg g_1)),(16,AV.i (Vg g_1)),(17,AV.elt 5 [(Ja (Jii a sd g_1))] 0 0),(198,AV.bool false)] [] 1/\(decide ((Vg g_1) > 0)=true->Jg ((Vg
  g_1)-1)/\(0:Int)<=(Vg g_1)-1/\(Vg g_1)-1 < (Jbb a sd)/\AV.agg (Jn (XU a sd) ((Vg g_1)-1).toNat)=AV.agg (Ja (JtF a sd g_1))/\Jg (JfT a sd g_1)/\Jg (sd * (JfT a sd g_1))/\(Jg (Ja8 a sd
  g_1)/\Jg (Ja8 a sd g_1)/\Jg ((Ja8 a sd g_1) * (Ja8 a sd g_1))/\Jg (Ja7 a sd g_1)/\Jg (Ja7 a sd g_1)/\Jg ((Ja7 a sd g_1) * (Ja7 a sd g_1))/\Jg ((Ja8 a sd g_1) * (Ja8 a sd g_1)+(Ja7 a sd g_1) *
  (Ja7 a sd g_1))/\Jg (Jc6 a sd g_1)/\Jg (Jc6 a sd g_1)/\Jg ((Jc6 a sd g_1) * (Jc6 a sd g_1))/\Jg ((Ja8 a sd g_1) * (Ja8 a sd g_1)+(Ja7 a sd g_1) * (Ja7 a sd g_1)+(Jc6 a sd g_1) * (Jc6 a sd g_1))
  /\ Jg (sd * (JfT a sd g_1) * (sd * (JfT a sd g_1)))/\AS.mk [(0,AV.sl 13 (J2 ts)),(1,AV.sl 3 (JX fs)),(5,AV.elt 5 (Qm x y z sp tn) 0 0),(9,AV.i sd),(10,AV.sl 5 (QY a)),(11,AV.sl 5 (XU a sd)),(15,AV.i
  (Vf g_1)),(174,AV.sl 5 (XU a sd)),(175,AV.i (Jbb a sd)),(176,AV.i (Vg g_1)),(263,AV.bool (decide ((Ja8 a sd g_1) * (Ja8 a sd g_1)+(Ja7 a sd g_1) * (Ja7 a sd g_1)+(Jc6 a sd g_1) * (Jc6 a sd g_1) > sd
  * (JfT a sd g_1) * (sd * (JfT a sd g_1)))))] [] 1=AS.mk [(0,AV.sl 13 (J2 ts)),(1,AV.sl 3 (JX fs)),(5,AV.elt 5 (Qm x y z sp tn) 0 0),(9,AV.i sd),(10,AV.sl 5 (QY a)),(11,AV.sl 5 (XU a sd)),(15,AV.i (Vf
  g_1)),(174,AV.sl 5 (XU a sd)),(175,AV.i (Jbb a sd)),(176,AV.i (Vg g_1)),(263,AV.bool false)] [] 1)/\Jg ((Vg g_1)+1)/\∃ (g':Nat),g'<=(QD a sd).length/\(QD a sd).length-g' < (QD a sd).length-g /\
  AS.mk (Jss ts fs x y z sp tn sd a g_1) [] 1=AS.mk (Jst ts fs x y z sp tn sd a g') [] 1)/\(decide ((Vg g_1) > 0)=false->Jg ((Vg g_1)+1)/\∃ (g':Nat),g'<=(QD a sd).length/\(QD a sd).length-g' < (QD a
  sd).length-g/\AS.mk (Jss ts fs x y z sp tn sd a g_1) [] 1=AS.mk (Jst ts fs x y z sp tn sd a g') [] 1)))/\(decide ((g:Int) < (Jbb a sd))=false->AS.mk (JlI ts fs x y z sp tn a) [] 1=AS.mk (JlI ts fs x y z sp tn
  a) [] 1/\KB ts fs x y z))/\((JeQ a sd == 0)=false->AS.mk [(0,AV.sl 13 (J2 ts)),(1,AV.sl 3 (JX fs)),(5,AV.elt 5 (Qm x y z sp tn) 0 0),(10,AV.sl 5 (QY a)),(266,AV.bool (JeQ a sd != 16))] [] 1=AS.mk [(0,
  AV.sl 13 (J2 ts)),(1,AV.sl 3 (JX fs)),(5,AV.elt 5 (Qm x y z sp tn) 0 0),(10,AV.sl 5 (QY a)),(266,AV.bool false)] [] 1/\AS.mk (JlI ts fs x y z sp tn a) [] 1=AS.mk (JlI ts fs x y z sp tn a) [] 1/\KB ts fs x y
  z))/\(KB ts fs x y z->(Jg ((Vk fs)-1)/\(0:Int)<=(Vk fs)-1/\(Vk fs)-1 < (Vk fs)/\nth (Jn (JX fs) ((Vk fs)-1).toNat) 2=AV.sl 5 (Jin fs)/\P0 57 [AV.sl 5 (Jin fs)] (AV.fresh 110 5 (Jin fs)) /\
  AS.mk [(0,AV.sl 13 (J2 ts)),(1,AV.sl 3 (JX fs)),(5,AV.elt 5 (Qm x y z sp tn) 0 0),(10,AV.sl 5 (QY a)),(20,AV.own 1 (Jin fs).length)] [(1,ABlk.buf 110 5 (Jin fs))] 2=AS.mk [(0,AV.sl 13 (J2 ts)),(1,AV.sl
  3 (JX fs)),(5,AV.elt 5 (Qm x y z sp tn) 0 0),(10,AV.sl 5 (QY a)),(20,AV.own 1 (Jba l).length)] [(1,ABlk.buf 110 5 (Jba l))] 2/\KB ts fs x y z)/\(KB ts fs x y z->Jg ((VW a)-1)/\(0:Int)<=(VW a)-1 /\
  (VW a)-1 < (VW a)/\Jg ((Jip a).t+1)/\¬(9:Int)=(0:Int)/\Jg ((Jip a).t+1+(IntKind.i64.wrap sp).tmod (9:Int))/\(0:Int)<=0/\(0:Int) < (Jiq l)/\0 < (Jba l).length/\Jg ((Jip a).t+1 +
  (IntKind.i64.wrap sp).tmod (9:Int)-(l.getD JiM default).t)/\nth (Jn (QY a) ((VW a)-1).toNat) 0=AV.i (Jip a).t/\nth (Jn (Jba l) 0) 0=AV.i (l.getD JiM default).t/\Jg ((VW a)+(Jiq l))/\((∃ (g:Nat),
  g<=l.length/\AS.mk [(0,AV.sl 13 (J2 ts)),(1,AV.sl 3 (JX fs)),(5,AV.elt 5 (Qm x y z sp tn) 0 0),(10,AV.sl 5 (QY a)),(20,AV.own 1 (Jba l).length),(21,AV.i ((Jip a).t+1+(IntKind.i64.wrap sp).tmod (9:Int)
  - (l.getD JiM default).t)),(22,AV.bool (decide ((VW a)+(Jiq l)<=16))),(300,AV.i (Jiq l)),(301,AV.i 0)] [(1,ABlk.buf 110 5 (Jba l))] 2=AS.mk [(0,AV.sl 13 (J2 ts)),(1,AV.sl 3 (JX fs)),(5,AV.elt 5 (Qm x y
  z sp tn) 0 0),(10,AV.sl 5 (QY a)),(20,AV.own 1 (Jba l).length),(21,AV.i dl),(22,AV.bool (JcM l dl (JeC a l) g)),(300,AV.i (Jiq l)),(301,AV.i (g:Int))] [(1,ABlk.buf 110 5 (JfL l dl g))] 2)/\∀ (g:Nat),g ≤
  l.length->(decide ((g:Int) < (Jiq l))=true->(0:Int)<=(g:Int)/\(g:Int) < (Jiq l)/\(g:Int).toNat < (JfL l dl g).length/\Jg ((Jio l g).t+dl)/\(0:Int)<=(g:Int)/\(g:Int) < (Jiq l)/\(↑g :
  Int).toNat < (JfL l dl g).length/\nth (Jn (JfL l dl g) (g:Int).toNat) 0=AV.i (Jio l g).t/\(JfS l dl a g)/\(JfS l dl a g)/\(JcM l dl (JeC a l) g=true->(0:Int)<=(g:Int))/\(JcM l dl (JeC a l) g =
  true->(g:Int) < (Jiq l))/\(JfS l dl a g)/\(JfS l dl a g)/\(JcM l dl (JeC a l) g=true->(g:Int).toNat < (JnW l dl g).length)/\(JfS l dl a g)/\(JfS l dl a g)/\Wx (JcM l dl (JeC a l) g) (nth (Jn
  (JnW l dl g) (g:Int).toNat) 0=AV.i ((Jio l g).t+dl))/\Jg (JfK g)/\∃ (g':Nat),g'<=l.length/\l.length-g' < l.length-g/\AS.mk [(0,AV.sl 13 (J2 ts)),(1,AV.sl 3 (JX fs)),(5,AV.elt 5 (Qm x y z sp tn)
  0 0),(10,AV.sl 5 (QY a)),(20,AV.own 1 (Jba l).length),(21,AV.i dl),(22,AV.bool (if JcM l dl (JeC a l) g=true then decide ((Jio l g).t+dl<=100000000)else false)),(300,AV.i (Jiq l)),(301,AV.i (JfK g))]
  [(1,ABlk.buf 110 5 (JnW l dl g))] 2=AS.mk [(0,AV.sl 13 (J2 ts)),(1,AV.sl 3 (JX fs)),(5,AV.elt 5 (Qm x y z sp tn) 0 0),(10,AV.sl 5 (QY a)),(20,AV.own 1 (Jba l).length),(21,AV.i dl),(22,AV.bool (JcM l dl
  (JeC a l) g')),(300,AV.i (Jiq l)),(301,AV.i (g':Int))] [(1,ABlk.buf 110 5 (List.map Ja (shN l dl g')))] 2)/\(decide ((g:Int) < (Jiq l))=false->AS.mk [(0,AV.sl 13 (J2 ts)),(1,AV.sl 3 (JX fs)),(5,AV.elt
  5 (Qm x y z sp tn) 0 0),(10,AV.sl 5 (QY a)),(20,AV.sl 5 (JfL l dl g)),(22,AV.bool (JcM l dl (JeC a l) g))] [] 1=AS.mk [(0,AV.sl 13 (J2 ts)),(1,AV.sl 3 (JX fs)),(5,AV.elt 5 (Qm x y z sp tn) 0 0),(10,
  AV.sl 5 (QY a)),(20,AV.sl 5 (WG l dl)),(22,AV.bool (JcM l dl (JeC a l) l.length))] [] 1/\KB ts fs x y z))/\(KB ts fs x y z->((JcM l dl (JeC a l) l.length=true->P0 29 [AV.sl 5 (QY a)] (AV.sl 5 (QY a))/\P0 29
  [AV.sl 5 (WG l dl)] (AV.sl 5 (WG l dl))/\P0 71 (Jik a l dl) (AV.tup [AV.sl 5 (Jir a l dl),AV.i (Jfw (QK a) (QV l dl))])/\((Jqd a l dl)/\(Jqd a l dl)/\(Jqd a l dl)/\(Jqd a l dl)/\(Jqd a l dl)/\((!Jfw
  (QK a) (QV l dl) != 0)=true->Jg ((VW a)+(UY l dl)))/\(Jqd a l dl)/\(Jqd a l dl)/\((Jfw (QK a) (QV l dl) != 0)=false->(!Jfw (QK a) (QV l dl) != 0)=true)/\AS.mk [(0,AV.sl 13 (J2 ts)),(1,
  AV.sl 3 (JX fs)),(5,AV.elt 5 (Qm x y z sp tn) 0 0),(10,AV.sl 5 (QY a)),(20,AV.sl 5 (WG l dl)),(24,AV.sl 5 (Jir a l dl)),(343,AV.bool (if(Jfw (QK a) (QV l dl) != 0)=true then true else((Jir a l
  dl).length:Int) != (VW a)+(UY l dl)))] [] 1=AS.mk [(0,AV.sl 13 (J2 ts)),(1,AV.sl 3 (JX fs)),(5,AV.elt 5 (Qm x y z sp tn) 0 0),(10,AV.sl 5 (QY a)),(20,AV.sl 5 (WG l dl)),(24,AV.sl 5 (Jir a l dl)),
  (343,AV.bool false)] [] 1)/\(0:Int)<=0/\(0:Int) < (2:Int)/\(0:Int)<=0/\(0:Int) < (VW a)/\Jg ((VW a)-1)/\(0:Int)<=(VW a)-1/\(VW a)-1 < (VW a)/\(0:Int)<=0/\(0:Int) < (VW a)/\Jg
  (cJ (QY a) ((VW a)-1).toNat 0-cJ (QY a) 0 0)/\¬cJ (QY a) ((VW a)-1).toNat 0-cJ (QY a) 0 0=(0:Int)/\Jg (XY a tn)/\nth (Jn (QY a) 0) 0=AV.i (cJ (QY a) 0 0)/\nth (Jn (QY a) ((VW a) -
  1).toNat) 0=AV.i (cJ (QY a) ((VW a)-1).toNat 0)/\nth (Jn (QY a) 0) 0=AV.i (cJ (QY a) 0 0)/\0+(Jir a l dl).length<=9223372036854775807/\(0+(Jir a l dl).length) * 40<=140737488355328/\P0 56 [AV.sl 5 ([] ++
  List.map Ja (rJ (QK a) (QV l dl))),AV.i (XY a tn)] (AV.tup [AV.agg [AV.i (v6 (XW a l dl) (XY a tn) 0),AV.i (v6 (XW a l dl) (XY a tn) 1),AV.i (v6 (XW a l dl) (XY a tn) 2),AV.i (v6 (XW a l dl) (XY a tn)
  3),AV.i (v6 (XW a l dl) (XY a tn) 4),AV.i (v6 (XW a l dl) (XY a tn) 5)],AV.i (Qf (XW a l dl) (XY a tn))])/\P0 29 [AV.sl 5 (QY a)] (AV.sl 5 (QY a))/\P0 56 [AV.sl 5 (QY a),AV.i (XY a tn)] (AV.tup [AV.agg
  [AV.i (v6 (QK a) (XY a tn) 0),AV.i (v6 (QK a) (XY a tn) 1),AV.i (v6 (QK a) (XY a tn) 2),AV.i (v6 (QK a) (XY a tn) 3),AV.i (v6 (QK a) (XY a tn) 4),AV.i (v6 (QK a) (XY a tn) 5)],AV.i (Qf (QK
  a) (XY a tn))])/\(((!Qf (XW a l dl) (XY a tn) != 0)=true->(!Qf (XW a l dl) (XY a tn) != 0)=true)/\((Qf (XW a l dl) (XY a tn) != 0)=false->(!Qf (XW a l dl) (XY a tn) != 0)=true)/\((JtJ a l
  dl tn)=true->(JtJ a l dl tn)=true)/\((JtJ a l dl tn)=true->(JtJ a l dl tn)=true)/\((if(Qf (XW a l dl) (XY a tn) != 0)=true then true else Qf (QK a) (XY a tn) != 0)=false->(JtJ a l dl tn)=true)
  /\ AS.mk [(0,AV.sl 13 (J2 ts)),(1,AV.sl 3 (JX fs)),(5,AV.elt 5 (Qm x y z sp tn) 0 0),(24,AV.sl 5 (Jir a l dl)),(346,AV.agg (Jik a l dl)),(347,AV.i 0),(396,AV.bool (if(if(Qf (XW a l dl) (XY a tn) != 0)
  = true then true else Qf (QK a) (XY a tn) != 0)=true then true else !(v6 (XW a l dl) (XY a tn) 0 == v6 (QK a) (XY a tn) 0 && true && (v6 (XW a l dl) (XY a tn) 1 == v6 (QK a) (XY a tn) 1 && true && (v6
  (XW a l dl) (XY a tn) 2 == v6 (QK a) (XY a tn) 2 && true && true)) && (v6 (XW a l dl) (XY a tn) 3 == v6 (QK a) (XY a tn) 3 && true && (v6 (XW a l dl) (XY a tn) 4 == v6 (QK a) (XY a tn) 4 && true && true)
  && (v6 (XW a l dl) (XY a tn) 5 == v6 (QK a) (XY a tn) 5 && true && true)))))] [] 1=AS.mk [(0,AV.sl 13 (J2 ts)),(1,AV.sl 3 (JX fs)),(5,AV.elt 5 (Qm x y z sp tn) 0 0),(24,AV.sl 5 (Jir a l dl)),(346,AV.agg
  (Jik a l dl)),(347,AV.i 0),(396,AV.bool false)] [] 1)/\Jg ((0:Int)+1)/\(0:Int)<=0+1/\(0:Int)+1 < (2:Int)/\(0:Int)<=0/\(0:Int) < (UY l dl)/\Jg ((UY l dl)-1)/\(0:Int)<=(UY l dl)-1
  /\ (UY l dl)-1 < (UY l dl)/\(0:Int)<=0/\(0:Int) < (UY l dl)/\Jg (cJ (WG l dl) ((UY l dl)-1).toNat 0-cJ (WG l dl) 0 0)/\¬cJ (WG l dl) ((UY l dl)-1).toNat 0-cJ (WG l dl) 0 0=(0:Int) /\
  Jg (Vl l dl tn)/\nth (Jn (WG l dl) 0) 0=AV.i (cJ (WG l dl) 0 0)/\nth (Jn (WG l dl) ((UY l dl)-1).toNat) 0=AV.i (cJ (WG l dl) ((UY l dl)-1).toNat 0)/\nth (Jn (WG l dl) 0) 0=AV.i (cJ (WG l dl)
  0 0)/\0+(Jir a l dl).length<=9223372036854775807/\(0+(Jir a l dl).length) * 40<=140737488355328/\P0 56 [AV.sl 5 ([]++List.map Ja (rJ (QK a) (QV l dl))),AV.i (Vl l dl tn)] (AV.tup [AV.agg [AV.i (v6 (XW a l
  dl) (Vl l dl tn) 0),AV.i (v6 (XW a l dl) (Vl l dl tn) 1),AV.i (v6 (XW a l dl) (Vl l dl tn) 2),AV.i (v6 (XW a l dl) (Vl l dl tn) 3),AV.i (v6 (XW a l dl) (Vl l dl tn) 4),AV.i (v6 (XW a l dl) (Vl l dl tn)
  5)],AV.i (Qf (XW a l dl) (Vl l dl tn))])/\P0 29 [AV.sl 5 (WG l dl)] (AV.sl 5 (WG l dl))/\P0 56 [AV.sl 5 (WG l dl),AV.i (Vl l dl tn)] (AV.tup [AV.agg [AV.i (v6 (QV l dl) (Vl l dl tn) 0),AV.i (v6 (QV l dl)
  (Vl l dl tn) 1),AV.i (v6 (QV l dl) (Vl l dl tn) 2),AV.i (v6 (QV l dl) (Vl l dl tn) 3),AV.i (v6 (QV l dl) (Vl l dl tn) 4),AV.i (v6 (QV l dl) (Vl l dl tn) 5)],AV.i (Qf (QV l dl) (Vl l dl tn))]) /\
  (((!Qf (XW a l dl) (Vl l dl tn) != 0)=true->(!Qf (XW a l dl) (Vl l dl tn) != 0)=true)/\((Qf (XW a l dl) (Vl l dl tn) != 0)=false->(!Qf (XW a l dl) (Vl l dl tn) != 0)=true)/\((JtK a l dl tn)
  = true->(JtK a l dl tn)=true)/\((JtK a l dl tn)=true->(JtK a l dl tn)=true)/\((Jsj a l dl tn)=false->(JtK a l dl tn)=true)/\AS.mk [(0,AV.sl 13 (J2 ts)),(1,AV.sl 3 (JX fs)),(5,AV.elt 5 (Qm x y z sp
  tn) 0 0),(24,AV.sl 5 (Jir a l dl)),(346,AV.agg (Jik a l dl)),(347,AV.i ((0:Int)+1)),(396,AV.bool (if(Jsj a l dl tn)=true then true else !(v6 (XW a l dl) (Vl l dl tn) 0 == v6 (QV l dl) (Vl l dl tn) 0 &&
  true && (v6 (XW a l dl) (Vl l dl tn) 1 == v6 (QV l dl) (Vl l dl tn) 1 && true && (v6 (XW a l dl) (Vl l dl tn) 2 == v6 (QV l dl) (Vl l dl tn) 2 && true && true)) && (v6 (XW a l dl) (Vl l dl tn) 3 == v6 (QV l
  dl) (Vl l dl tn) 3 && true && (v6 (XW a l dl) (Vl l dl tn) 4 == v6 (QV l dl) (Vl l dl tn) 4 && true && true) && (v6 (XW a l dl) (Vl l dl tn) 5 == v6 (QV l dl) (Vl l dl tn) 5 && true && true)))))] [] 1=AS.mk
  [(0,AV.sl 13 (J2 ts)),(1,AV.sl 3 (JX fs)),(5,AV.elt 5 (Qm x y z sp tn) 0 0),(24,AV.sl 5 (Jir a l dl)),(346,AV.agg (Jik a l dl)),(347,AV.i ((0:Int)+1)),(396,AV.bool false)] [] 1)/\Jg ((0:Int)+1+1)
  /\ AS.mk (Jn1 ts fs x y z sp tn) [] 1=AS.mk (Jn1 ts fs x y z sp tn) [] 1/\KB ts fs x y z)/\(JcM l dl (JeC a l) l.length=false->AS.mk (Jn1 ts fs x y z sp tn) [] 1=AS.mk (Jn1 ts fs x y z sp tn) [] 1/\KB ts fs x y z)) /\
  (KB ts fs x y z->(P0 62 [AV.sl 13 (J2 ts)] (AV.sl 13 (J2 ts))/\P0 63 [AV.sl 3 (JX fs)] (AV.sl 3 (JX fs))/\P0 61 (JnT ts fs x y z) (AV.tup [AV.i (JV ts (List.map Jbm (JX fs)) x y z),AV.i 0])/\AS.mk [(0,AV.sl 13
  (J2 ts)),(1,AV.sl 3 (JX fs)),(5,AV.elt 5 (Qm x y z sp tn) 0 0),(33,AV.i (JV ts (List.map Jbm (JX fs)) x y z)),(34,AV.i 0)] [] 1=AS.mk [(0,AV.sl 13 (J2 ts)),(1,AV.sl 3 (JX fs)),(5,AV.elt 5 (Qm x y z
  sp tn) 0 0),(33,AV.i (JV ts fs x y z)),(34,AV.i 0)] [] 1/\KB ts fs x y z)/\(KB ts fs x y z->¬(Vk fs)=(0:Int)/\((0:Int)<=(Jbs tn).tmod (Vk fs)/\(Jbs tn).tmod (Vk fs)<=(Vk fs)/\(Vk fs)<=(Vk fs) /\
  0+(JlH fs tn).length<=9223372036854775807/\(0+(JlH fs tn).length) * 56<=140737488355328/\(0:Int)<=0/\(0:Int)<=(Jbs tn).tmod (Vk fs)/\(Jbs tn).tmod (Vk fs)<=(Vk fs)/\0+(JlH fs tn).length +
  (List.take (JfR tn fs).toNat (JfN fs)).length<=9223372036854775807/\(0+(JlH fs tn).length+(List.take (JfR tn fs).toNat (JfN fs)).length) * 56<=140737488355328/\P0 62 [AV.sl 13 (J2 ts)] (AV.sl 13 (J2 ts))/\P0
  63 [AV.sl 3 ([]++List.take (JtI fs tn).toNat (JtM tn fs)++List.take (JfR tn fs).toNat (JfN fs))] (AV.sl 3 ([]++List.take (JtI fs tn).toNat (JtM tn fs)++List.take (JfR tn fs).toNat (JfN fs)))/\P0 61 [AV.sl 13
  (J2 ts),AV.sl 3 ([]++List.take (JtI fs tn).toNat (JtM tn fs)++List.take (JfR tn fs).toNat (JfN fs)),AV.agg [AV.i x,AV.i y,AV.i z]] (AV.tup [AV.i (JV ts (Jsr fs tn) x y z),AV.i 0])/\AS.mk [(0,AV.sl 13 (J2
  ts)),(1,AV.sl 3 (JX fs)),(5,AV.elt 5 (Qm x y z sp tn) 0 0),(33,AV.i (JV ts fs x y z)),(34,AV.i 0),(36,AV.i (JV ts (Jsr fs tn) x y z)),(37,AV.i 0)] [] 1=AS.mk [(0,AV.sl 13 (J2 ts)),(1,AV.sl 3 (JX fs)),
  (5,AV.elt 5 (Qm x y z sp tn) 0 0),(33,AV.i (JV ts fs x y z)),(34,AV.i 0),(36,AV.i (JV ts fs x y z)),(37,AV.i 0)] [] 1/\KB ts fs x y z)/\(KB ts fs x y z->((0:Int)<=1/\(1:Int)<=(Vk fs)/\(Vk fs)<=(Vk
  fs)/\P0 62 [AV.sl 13 (J2 ts)] (AV.sl 13 (J2 ts))/\P0 63 [AV.sl 3 (Jim fs)] (AV.sl 3 (Jim fs))/\P0 61 [AV.sl 13 (J2 ts),AV.sl 3 (Jim fs),AV.agg [AV.i x,AV.i y,AV.i z]] (AV.tup [AV.i (JV ts (List.map Jbm (Jim
  fs)) x y z),AV.i 0])/\AS.mk [(0,AV.sl 13 (J2 ts)),(1,AV.sl 3 (JX fs)),(5,AV.elt 5 (Qm x y z sp tn) 0 0),(33,AV.i (JV ts fs x y z)),(34,AV.i 0),(36,AV.i (JV ts fs x y z)),(37,AV.i 0),(38,AV.i (JV ts
  (List.map Jbm (Jim fs)) x y z)),(39,AV.i 0)] [] 1=AS.mk [(0,AV.sl 13 (J2 ts)),(1,AV.sl 3 (JX fs)),(5,AV.elt 5 (Qm x y z sp tn) 0 0),(33,AV.i (JV ts fs x y z)),(34,AV.i 0),(36,AV.i (JV ts fs x y z)),
  (37,AV.i 0),(38,AV.i (JV ts (List.drop 1 fs) x y z)),(39,AV.i 0)] [] 1/\KB ts fs x y z)/\(KB ts fs x y z->(P0 62 [AV.sl 13 (J2 ts)] (AV.sl 13 (J2 ts))/\P0 63 [AV.sl 3 (JX fs)] (AV.sl 3 (JX fs))/\P0 64 (JnT ts
  fs x y z) (AV.tup [AV.sl 1 (List.map Jh (Jl5 ts fs x y z)),AV.i 0])/\AS.mk [(0,AV.sl 13 (J2 ts)),(1,AV.sl 3 (JX fs)),(5,AV.elt 5 (Qm x y z sp tn) 0 0),(33,AV.i (JV ts fs x y z)),(34,AV.i 0),(36,AV.i (JV ts
  fs x y z)),(37,AV.i 0),(38,AV.i (JV ts (List.drop 1 fs) x y z)),(39,AV.i 0),(40,AV.sl 1 (List.map Jh (Jl5 ts fs x y z))),(41,AV.i 0)] [] 1=AS.mk [(0,AV.sl 13 (J2 ts)),(1,AV.sl 3 (JX fs)),(5,AV.elt 5 (Qm
  x y z sp tn) 0 0),(33,AV.i (JV ts fs x y z)),(34,AV.i 0),(36,AV.i (JV ts fs x y z)),(37,AV.i 0),(38,AV.i (JV ts (List.drop 1 fs) x y z)),(39,AV.i 0),(40,AV.sl 1 (WA ts fs x y z)),(41,AV.i 0)] [] 1/\KB ts fs
  x y z)/\(KB ts fs x y z->(P0 62 [AV.sl 13 (J2 ts)] (AV.sl 13 (J2 ts))/\P0 63 [AV.sl 3 (JX fs)] (AV.sl 3 (JX fs))/\P0 65 (JnT ts fs x y z) (AV.tup [AV.str (Jbh ts fs x y z),AV.i 0])/\AS.mk (Jsn ts fs x y z sp tn)
  [] 1=AS.mk (Jsn ts fs x y z sp tn) [] 1/\KB ts fs x y z)/\(KB ts fs x y z->(Jc5/\JfX/\Jc5/\JfX/\Jc5/\JfX/\Jc5/\JfX/\Jc5/\Jc5/\JfX/\(JlJ ts fs x y z)/\(JlJ ts fs x y z)/\(JlJ ts fs x y
  z)/\(JlJ ts fs x y z)/\((JV ts fs x y z != JV ts fs x y z)=false->(!JV ts fs x y z != JV ts fs x y z)=true)/\(JfZ ts fs x y z)/\(JfZ ts fs x y z)/\((Jp9 ts fs x y z)=true->Jg (JV ts fs x y z-JV
  ts (List.drop 1 fs) x y z))/\(JfZ ts fs x y z)/\((Jp9 ts fs x y z)=true->(0:Int)<=0)/\((Jp9 ts fs x y z)=true->(0:Int) < (V3 ts fs x y z))/\(JfZ ts fs x y z)/\(JfZ ts fs x y z)/\(JfZ ts fs x y z) /\
  ((JnY ts fs x y z)=false->(Jp9 ts fs x y z)=true)/\((JlC ts fs x y z)=true->(JlC ts fs x y z)=true)/\((JlC ts fs x y z)=true->(0:Int)<=0)/\((JlC ts fs x y z)=true->(0:Int) < (V3 ts fs x y z)) /\
  ((JlC ts fs x y z)=true->(JlC ts fs x y z)=true)/\((JlC ts fs x y z)=true->(JlC ts fs x y z)=true)/\((Jsk ts fs x y z)=false->(JlC ts fs x y z)=true)/\Wx (Jp9 ts fs x y z) (nth (Jn (WA ts fs x y z)
  0) 0=AV.i ((pE ts fs x y z).getD 0 default))/\Wx (JlC ts fs x y z) (nth (Jn (WA ts fs x y z) 0) 0=AV.i ((pE ts fs x y z).getD 0 default))/\AS.mk [(0,AV.sl 13 (J2 ts)),(1,AV.sl 3 (JX fs)),(5,AV.elt 5 (Qm x y
  z sp tn) 0 0),(33,AV.i (JV ts fs x y z)),(40,AV.sl 1 (WA ts fs x y z)),(42,AV.str (Jbh ts fs x y z)),(507,AV.bool (if(Jsk ts fs x y z)=true then true else decide ((pE ts fs x y z).getD JiM default < 0)))] [] 1 =
  AS.mk [(0,AV.sl 13 (J2 ts)),(1,AV.sl 3 (JX fs)),(5,AV.elt 5 (Qm x y z sp tn) 0 0),(33,AV.i (JV ts fs x y z)),(40,AV.sl 1 (WA ts fs x y z)),(42,AV.str (Jbh ts fs x y z)),(507,AV.bool false)] [] 1)/\(AS.mk
  (Jso ts fs x y z sp tn) [] 1=AS.mk (Jso ts fs x y z sp tn) [] 1/\KB ts fs x y z)/\(KB ts fs x y z->P0 83 [AV.sl 3 (JX fs),AV.str (Jbh ts fs x y z)] (AV.i (Xk ts fs x y z))/\AS.mk (Jsu ts fs x y z sp tn) [] 1 =
  AS.mk (Jsu ts fs x y z sp tn) [] 1/\(AS.mk (Jsq ts fs x y z sp tn) [] 1=AS.mk (Jsq ts fs x y z sp tn) [] 1/\KB ts fs x y z)/\(KB ts fs x y z->((∃ (g:Nat),g<=(pE ts fs x y z).length/\AS.mk [(0,AV.sl 13 (J2 ts)),
  (1,AV.sl 3 (JX fs)),(5,AV.elt 5 (Qm x y z sp tn) 0 0),(33,AV.i (JV ts fs x y z)),(40,AV.sl 1 (WA ts fs x y z)),(44,AV.i 0),(45,AV.i (Xk ts fs x y z)),(513,AV.sl 1 (WA ts fs x y z)),(514,AV.i (V3 ts fs
  x y z)),(515,AV.i 0)] [] 1=AS.mk [(0,AV.sl 13 (J2 ts)),(1,AV.sl 3 (JX fs)),(5,AV.elt 5 (Qm x y z sp tn) 0 0),(33,AV.i (JV ts fs x y z)),(40,AV.sl 1 (WA ts fs x y z)),(44,AV.i (List.take g (pE ts fs x y
  z)).sum),(45,AV.i (Xk ts fs x y z)),(513,AV.sl 1 (WA ts fs x y z)),(514,AV.i (V3 ts fs x y z)),(515,AV.i (g:Int))] [] 1)/\∀ (g:Nat),g<=(pE ts fs x y z).length->(decide ((g:Int) < (V3 ts fs x y z)) =
  true->(0:Int)<=(g:Int)/\(g:Int) < (V3 ts fs x y z)/\nth (Jn (WA ts fs x y z) (g:Int).toNat) 0=AV.i ((pE ts fs x y z).getD (g:Int).toNat default)/\Jg (JlL g ts fs x y z)/\((0:Int)<=(Xk ts fs x
  y z)/\(Xk ts fs x y z) < (V3 ts fs x y z)/\(Jqb ts fs x y z g)/\(Jqb ts fs x y z g)/\((!decide (JlD ts fs x y z g))=true->(0:Int)<=(Xk ts fs x y z))/\((!decide (JlD ts fs x y z g))=true->(Xk ts fs x y
  z) < (V3 ts fs x y z))/\(Jqb ts fs x y z g)/\(Jqb ts fs x y z g)/\(Jqb ts fs x y z g)/\(Jqb ts fs x y z g)/\((JtN ts fs x y z g)=true->(JtN ts fs x y z g)=true)/\((JtN ts fs x y z g)=true->(JtN ts fs x y z
  g)=true)/\(Jqb ts fs x y z g)/\((!decide (JlD ts fs x y z g))=true->((pE ts fs x y z).getD (g:Int).toNat default == (pE ts fs x y z).getD (Xk ts fs x y z).toNat default)=true->(JtN ts fs x y z g)=true) /\
  (decide (JlD ts fs x y z g)=false->(!decide (JlD ts fs x y z g))=true)/\nth (Jn (WA ts fs x y z) (Xk ts fs x y z).toNat) 0=AV.i ((pE ts fs x y z).getD (Xk ts fs x y z).toNat default)/\Wx (!decide (JlD ts fs
  x y z g)) (nth (Jn (WA ts fs x y z) (Xk ts fs x y z).toNat) 0=AV.i ((pE ts fs x y z).getD (Xk ts fs x y z).toNat default))/\AS.mk [(0,AV.sl 13 (J2 ts)),(1,AV.sl 3 (JX fs)),(5,AV.elt 5 (Qm x y z sp tn) 0 0),
  (33,AV.i (JV ts fs x y z)),(40,AV.sl 1 (WA ts fs x y z)),(44,AV.i (JlL g ts fs x y z)),(45,AV.i (Xk ts fs x y z)),(513,AV.sl 1 (WA ts fs x y z)),(514,AV.i (V3 ts fs x y z)),(515,AV.i (g:Int)),(541,
  AV.bool (if decide (JlD ts fs x y z g)=true then true else if((pE ts fs x y z).getD (g:Int).toNat default == (pE ts fs x y z).getD (Xk ts fs x y z).toNat default)=true then decide ((g:Int) < (Xk ts fs x y z))else
  false))] [] 1=AS.mk [(0,AV.sl 13 (J2 ts)),(1,AV.sl 3 (JX fs)),(5,AV.elt 5 (Qm x y z sp tn) 0 0),(33,AV.i (JV ts fs x y z)),(40,AV.sl 1 (WA ts fs x y z)),(44,AV.i (JlL g ts fs x y z)),(45,AV.i (Xk ts fs
  x y z)),(513,AV.sl 1 (WA ts fs x y z)),(514,AV.i (V3 ts fs x y z)),(515,AV.i (g:Int)),(541,AV.bool false)] [] 1)/\Jg (JfK g)/\∃ (g':Nat),g'<=(pE ts fs x y z).length/\(pE ts fs x y z).length-g' < (pE ts
  fs x y z).length-g/\AS.mk [(0,AV.sl 13 (J2 ts)),(1,AV.sl 3 (JX fs)),(5,AV.elt 5 (Qm x y z sp tn) 0 0),(33,AV.i (JV ts fs x y z)),(40,AV.sl 1 (WA ts fs x y z)),(44,AV.i (JlL g ts fs x y z)),(45,AV.i
  (Xk ts fs x y z)),(513,AV.sl 1 (WA ts fs x y z)),(514,AV.i (V3 ts fs x y z)),(515,AV.i (JfK g))] [] 1=AS.mk [(0,AV.sl 13 (J2 ts)),(1,AV.sl 3 (JX fs)),(5,AV.elt 5 (Qm x y z sp tn) 0 0),(33,AV.i (JV
  ts fs x y z)),(40,AV.sl 1 (WA ts fs x y z)),(44,AV.i (List.take g' (pE ts fs x y z)).sum),(45,AV.i (Xk ts fs x y z)),(513,AV.sl 1 (WA ts fs x y z)),(514,AV.i (V3 ts fs x y z)),(515,AV.i (g':Int))] [] 1) /\
  (decide ((g:Int) < (V3 ts fs x y z))=false->AS.mk [(0,AV.sl 13 (J2 ts)),(1,AV.sl 3 (JX fs)),(5,AV.elt 5 (Qm x y z sp tn) 0 0),(33,AV.i (JV ts fs x y z)),(44,AV.i (List.take g (pE ts fs x y z)).sum)] [] 1 =
  AS.mk [(0,AV.sl 13 (J2 ts)),(1,AV.sl 3 (JX fs)),(5,AV.elt 5 (Qm x y z sp tn) 0 0),(33,AV.i (JV ts fs x y z)),(44,AV.i (JfQ ts fs x y z).sum)] [] 1/\KB ts fs x y z))/\(KB ts fs x y z->((0:Int)<=0/\(0:Int)
  < (Ja9 ts)/\AV.agg (Jn (J2 ts) 0)=AV.agg (JlF ts)/\P0 28 [AV.agg (JlF ts)] (AV.agg (Jf t))/\P0 77 [AV.agg (Jf t)] (AV.tup [AV.str (prX t),AV.i 0])/\AS.mk (Jsm ts fs x y z sp tn t) [] 1=AS.mk (Jsm ts fs
  x y z sp tn t) [] 1/\KB ts fs x y z)/\(KB ts fs x y z->P0 78 [AV.str (prX t)] (AV.tup [AV.agg (Jf (JjP (prX t))),AV.i (JjQ (prX t)),AV.i (JjR (prX t))])/\(((!(JfQ ts fs x y z).sum != JV ts fs x y z)=true →
  (!(JfQ ts fs x y z).sum != JV ts fs x y z)=true)/\((Jqc ts fs x y z)=false->(!(JfQ ts fs x y z).sum != JV ts fs x y z)=true)/\((!if(Jqc ts fs x y z)=true then true else false)=true->(!if(Jqc ts fs x y z)
  = true then true else false)=true)/\((if(Jqc ts fs x y z)=true then true else false)=false->(!if(Jqc ts fs x y z)=true then true else false)=true)/\((JnZ ts fs x y z t)=true->(JnZ ts fs x y z t)=true) /\
  ((Z65d ts fs x y z t)=false->(JnZ ts fs x y z t)=true)/\(JfY ts fs x y z t)/\(JfY ts fs x y z t)/\((JnR ts fs x y z t)=true->(0:Int)<=0)/\((JnR ts fs x y z t)=true->(0:Int) < (Ja9 ts))/\(JfY ts fs x
  y z t)/\(JfY ts fs x y z t)/\(JfY ts fs x y z t)/\(JfY ts fs x y z t)/\((JlG ts fs x y z t)=false->(JnR ts fs x y z t)=true)/\(Jmb ts fs x y z t)/\(Jmb ts fs x y z t)/\(Jmb ts fs x y z t)/\((JnS ts fs x y
  z t)=true->(0:Int)<=0)/\((JnS ts fs x y z t)=true->(0:Int) < (Ja9 ts))/\(Jmb ts fs x y z t)/\(Jmb ts fs x y z t)/\(Jmb ts fs x y z t)/\(Jmb ts fs x y z t)/\((JnS ts fs x y z t)=true->Jg ((5:Int) +
  (JlE ts)))/\(Jmb ts fs x y z t)/\(Jmb ts fs x y z t)/\((if(JlG ts fs x y z t)=true then true else false)=false->(JnS ts fs x y z t)=true)/\Wx (JnR ts fs x y z t) (P0 82 [AV.agg (Jf (JjP (prX t)))] (AV.agg
  (Jf (JjP (prX t)))))/\Wx (JnR ts fs x y z t) (AV.agg (Jn (J2 ts) 0)=AV.agg (JlF ts))/\Wx (JnR ts fs x y z t) (P0 81 [AV.agg (Jf (JjP (prX t))),AV.agg (JlF ts)] (AV.bool true))/\Wx (JnS ts fs x y z t)
  (P0 84 [AV.str (prX t),AV.int IntKind.u8 (10:Int)] (AV.sl 1 (List.map Jx (spl (10:UInt8) (prX t)))))/\Wx (JnS ts fs x y z t) (nth (Jn (J2 ts) 0) 12=AV.sl 2 (JnV ts))/\AS.mk [(0,AV.sl 13 (J2 ts)),(1,AV.sl 3
  (JX fs)),(5,AV.elt 5 (Qm x y z sp tn) 0 0),(48,AV.str (prX t)),(592,AV.bool (if(if(JlG ts fs x y z t)=true then true else false)=true then true else(↑(List.map Jx (spl (10:UInt8) (prX t))).length:Int) != 5
  + (JlE ts)))] [] 1=AS.mk [(0,AV.sl 13 (J2 ts)),(1,AV.sl 3 (JX fs)),(5,AV.elt 5 (Qm x y z sp tn) 0 0),(48,AV.str (prX t)),(592,AV.bool false)] [] 1)/\(AS.mk [(0,AV.sl 13 (J2 ts)),(1,AV.sl 3 (JX fs)),(5,
  AV.elt 5 (Qm x y z sp tn) 0 0),(48,AV.str (prX t))] [] 1=AS.mk [(0,AV.sl 13 (J2 ts)),(1,AV.sl 3 (JX fs)),(5,AV.elt 5 (Qm x y z sp tn) 0 0),(48,AV.str (prX t))] [] 1/\KB ts fs x y z)/\(KB ts fs x y z->Jg
  ((JfW t)-1)/\(0:Int)<=0/\(0:Int)<=(JfW t)-1/\(JfW t)-1<=(JfW t)/\P0 78 [AV.str (JtG t)] (AV.tup [AV.agg (Jf (JjP (List.take ((JfW t)-1-0).toNat (List.drop JiM (prX t))))),AV.i (JjQ (JtG t)),
  AV.i (JjR (JtG t))])/\(Jn2 t)/\((Jel t)=true->(0:Int)<=0)/\((Jel t)=true->(0:Int) < (Ja9 ts))/\(Jn2 t)/\(Jn2 t)/\(Jn2 t)/\(Jn2 t)/\((Jel t)=true->Jg ((3:Int)+(JlE ts)))/\(Jn2 t) /\
  (Jn2 t)/\(Jn2 t)/\((Z65R t ts)=true->(Z65R t ts)=true)/\Wx (Jel t) (nth (Jn (J2 ts) 0) 12=AV.sl 2 (JnV ts))/\Wx (Z65R t ts) (P0 13 [] (AV.bool true))/\AV.bool (if(Z65R t ts)=true then true else false) =
  AV.bool true))))))))))))))))):=by
   delta Vl Jma XY Z65d XW Qm Vk Z65h Z65i JlD WG JtG JlC JnS Jp9 QY JtF XU J2 JX Jsi Jl9 VW Jii JnR JnQ Jqd Z65B JiM Jbb WA JtO JtN Jir Z65I Jqc JtM Z65L Jsv JtL Jn2 Jn1 JtK Z65R Jn0 JtJ Jiq Jqb JtI Jqa Jmb JtH Jbr V3 Jsn Ja9 JfS Jin UY JlJ Jim JnY QK Xk JnX Ja8 Ja7 JnW Jc5 Jil QV JlI JfR JnV Vf JfQ Jek JfP Jbt JlM JfZ JfY JfX JlL Jc6 Vg Jsu Jst Jip Jss Jsr Jsq Jsp Jbs JnZ Jio JfW JfV JfU Jso JfT Jba JlK Jel JlH Jsm JfO Jik JlG JnU JfN Jij Jsl JfM Jsk JlF JnT JlE JfL JfK Jsj
   have e1:IntKind.i64.wrap sp=sp:=QF (by unfold Jg;omega)
   have e2:IntKind.i64.wrap tn=tn:=QF (by unfold Jg;omega)
   rw[e1,e2]
   have lts:(List.map Jf ts).length=ts.length:=Kb _
   have lfs:(List.map Jr fs).length=fs.length:=Kb _
   have lal:(List.map Ja a).length=a.length:=Kb _
   have lll:(List.map Ja l).length=l.length:=Kb _
   have lrl:(List.map Ja (QD a sd)).length=(QD a sd).length:=Kb _
   have lpl:(List.map Jh (pE ts fs x y z)).length=(pE ts fs x y z).length:=Kb _
   obtain⟨z1,z2,hS,hF⟩:=sf_of hs
   have hsd1:1<=sd/\sd<=1000:=by rw[hsd,Int.tmod_eq_emod_of_nonneg hsp.1];omega
   have hs9:0<=sp.tmod 9/\sp.tmod 9<=8:=by rw[Int.tmod_eq_emod_of_nonneg hsp.1];omega
   have hsk:0<=sp.tmod 1000/\sp.tmod 1000<=999:=by rw[Int.tmod_eq_emod_of_nonneg hsp.1];omega
   have:(List.map Jf ts).length=ts.length:=by simp only[Kb]
   have:(List.map Jr fs).length=fs.length:=by simp only[Kb]
   have:(List.map Ja (QD a sd)).length=(QD a sd).length:=by simp only[Kb]
   have:(List.map Ja a).length=a.length:=by simp only[Kb]
   have:(List.map Ja l).length=l.length:=by simp only[Kb]
   have:(List.map Ja (shN l dl l.length)).length=(shN l dl l.length).length:=by simp only[Kb]
   have:(List.map Jh (pE ts fs x y z)).length=(pE ts fs x y z).length:=by simp only[Kb]
   have:(List.map Jx (spl (10:UInt8) (prX t))).length=(spl (10:UInt8) (prX t)).length:=by simp only[Kb]
   refine⟨fun h=>h,fun h=>h,fun h=>by first | exact h | (rw[h];rfl) | simp_all,fun h=>h,fun h=>h,fun h=>by first | exact h | (rw[h];rfl) | simp_all,fun h=>h,fun h=>h,fun h=>by first | exact h | (rw[h];rfl) | simp_all,fun h=>h,fun h=>h,fun h=>by first | exact h | (rw[h];rfl) | simp_all,fun h=>h,fun h=>h,fun h=>h,fun h=>by first | exact h | (rw[h];rfl) | simp_all,fun h=>h,fun h=>h,fun h=>h,fun h=>by first | exact h | (rw[h];rfl) | simp_all,((c60 ts fs hl hm hst)),?_,impB_iff.2 fun hb=>((c66 ts fs (by omega) (by omega) hS hF)),impB_iff.2 fun hb=>((c35 x y z)),⟨fun h1=>⟨hA,rfl⟩,fun h1=>?_⟩,fun h1=>?_⟩
   . rw[hs]
     rfl
   . have hG:=h1
     refine⟨rfl,?_⟩
     obtain⟨h2,p6⟩:=if6 hG
     obtain⟨h3,p5⟩:=if6 h2
     obtain⟨h4,p4⟩:=if6 h3
     obtain⟨h5,p3⟩:=if6 h4
     obtain⟨p1,p2⟩:=if6 h5
     have p1:=K1 p1
     have p2:=K1 p2
     have p3:=K1 p3
     have p4:=K1 p4
     exact⟨by omega,by omega,by omega,by omega,UU p5,UU p6⟩
   have hK:=h1
   have k2:=hK.m2
   refine⟨⟨⟨0,⟨by omega,by intros;omega⟩,rfl⟩,fun g ⟨hg,ha⟩=>⟨fun hd=>?_,fun hd=>?_⟩⟩,fun h2=>?_⟩
   . have hlt:g < fs.length:=by have h9:=K0 hd;have h8:=hg;(try simp only[Kb]at h8);(try simp only[Kb]at h9);omega
     have hT:=hK.tr hlt
     have hTb:=tr_b hT.1
     obtain⟨hT1,hT2,hT3⟩:=hTb
     have hTn:=hT.1.n1
     have hTm:=hT.1.n2
     have hTl:(List.map Ja (fs.getD g default).tr).length=(fs.getD g default).tr.length:=Kb _
     have hc1:cJ (List.map Ja (fs.getD g default).tr) ((↑(List.map Ja (fs.getD g default).tr).length:Int)-(1:Int)).toNat ((0:Nat)+(0:Nat))=JB (fs.getD g default).tr:=JcT _
     have hc2:cJ (List.map Ja (fs.getD g default).tr) (Int.toNat (0:Int)) ((0:Nat)+(0:Nat))=Jm (fs.getD g default).tr:=WU _
     have hc3:=JcT (fs.getD g default).tr
     have hc4:=WU (fs.getD g default).tr
     try rw[show(g:Int).toNat=g from Km g]
     refine⟨by omega,by omega,(congrArg AV.agg (Jq Jr (by omega))),by unfold Jg;omega,by omega,by omega,by omega,by omega,by unfold Jg;omega,(Jd3 (by omega)),(Jd3 (by omega)),fun h2=>⟨hA,rfl⟩,fun h2=>⟨by unfold Jg;omega,⟨g+1,⟨by omega,Jsb ha ?_⟩,by omega,rfl⟩⟩⟩
     have h9:=K1 h2
     omega
   . have hge:g=fs.length:=by have h9:=K1 hd;have h8:=hg;(try simp only[Kb]at h8);(try simp only[Kb]at h9);omega
     subst hge
     refine⟨rfl,?_⟩
     first
      | exact hK
      | exact⟨hK,ha⟩
      | exact⟨hK,fun j hj=>ha j (by omega)⟩
   have hK:=h2
   have F:=kf hK hS hqa hqb ht htn.1
   have m1:=F.m1
   have m2:=F.m2
   have n1:=F.n1
   have n2:=F.n2
   have oa1:=F.oa.n1
   have oa2:=F.oa.n2
   have ol1:=F.ol.n1
   have ol2:=F.ol.n2
   have rl:=rep_le sd (a:=a) (by omega)
   have pe:=F.pe
   obtain⟨ba1,ba2,ba3⟩:=F.ba
   obtain⟨bl1,bl2,bl3⟩:=F.bl
   have i2:=F.sk.i2
   unfold Jg at i2
   have lou:=F.lk.2.2.1
   have pl:=F.pl
   have pp:=pr_pos F.po
   have tl:=F.sh.st
   have ls:=sp_len F.po
   have lt0:(List.map Ji (ts.getD (Int.toNat (0:Int)) default).st).length=t.st.length:=by rw[Kb,ht];rfl
   have tm:=F.tm
   rw[<- lfs]at tm
   have hta:(List.take (((List.map Jr fs).length:Int)-tn.tmod ((List.map Jr fs).length:Int)).toNat (List.drop (tn.tmod ((List.map Jr fs).length:Int)).toNat (List.map Jr fs))).length<=fs.length:=by rw[Kg,Kh];omega
   have htb:(List.take (tn.tmod ((List.map Jr fs).length:Int)-(0:Int)).toNat (List.drop 0 (List.map Jr fs))).length<=fs.length:=by rw[Kg,Kh];omega
   have sa:=F.sa
   have sl:=F.sl
   have al:(a.getD (((List.map Ja a).length:Int)-(1:Int)).toNat default).t=JB a:=by rw[Jcz];rfl
   have lf:(l.getD (Int.toNat (0:Int)) default).t=Jm l:=rfl
   refine⟨by decide,by unfold Jg;omega,by omega,by omega,(congrArg (fun r=>nth r 2) (Jq Jr (by omega))),⟨((by rw[hqa]at oa2;exact(c29 _ (by show(fs.getD 0 default).tr.length<=1000;omega)).un)),((by rw[JI];rw[hqa]at oa2;exact c39 _ _ (by show(fs.getD 0 default).tr.length<=1000;omega))),?_,?_⟩,fun h3=>?_⟩
   . rw[JI,show Int.toNat (0:Int)=0 from rfl,<- hqa,<- hsd,(Jdx F.za hsd1).1,(Jdx F.za hsd1).2]
   . first
      | exact hK
      | exact⟨hK,ha⟩
      | exact⟨hK,fun j hj=>ha j (by omega)⟩
   have hK:=h3
   refine⟨⟨fun h4=>?_,fun h4=>⟨?_,rfl,?_⟩⟩,fun h4=>?_⟩
   . have hre:JeQ a sd=0:=eq_of_beq h4
     have kp:=JmI F.oa hre
     have ks:=kp.same F.oa (by omega) hsd1
     have kl:=kp.len
     have k2:=kp.n2
     refine⟨by omega,by omega,((by rw[List.nil_append,JI];exact c39 _ _ (by omega))),⟨fun h=>h,fun h=>h,fun h=>h,fun h=>h,fun h=>h,fun h=>by first | exact h | (rw[h];rfl) | simp_all,fun h=>h,fun h=>h,fun h=>by first | exact h | (rw[h];rfl) | simp_all,fun h=>h,fun h=>h,fun h=>h,fun h=>h,fun h=>by first | exact h | (rw[h];rfl) | simp_all,fun h=>h,fun _=>by omega,fun _=>by omega,fun h=>h,fun h=>h,fun _=>by omega,fun _=>by omega,fun h=>h,fun h=>h,fun h=>h,fun h=>by first | exact h | (rw[h];rfl) | simp_all,impB_iff.2 fun hb=>((by rw[List.nil_append,JI,ks.2];exact(c24 _ (by omega)).un)),impB_iff.2 fun hb=>((c24 _ (by omega)).un),impB_iff.2 fun hb=>((by simp only[List.nil_append,JI];rw[ks.2];exact c23 _ _ (by omega))),impB_iff.2 fun hb=>(congrArg AV.agg (Jq Ja (by omega))),impB_iff.2 fun hb=>(congrArg AV.agg (Jq Ja (by omega))),?_⟩,⟨⟨0,by omega,by rw[show pv a sd 0=0 from kp.p0];rfl⟩,fun g hg=>⟨fun hd=>?_,fun hd=>?_⟩⟩⟩
     . simp only[List.nil_append,JI]
       have y1:Jde ((QD a sd).getD (Int.toNat (0:Int)) default) (a.getD (Int.toNat (0:Int)) default)=true:=by
        have h9:=kp.at (i:=0) (by omega)
        rw[kp.p0]at h9
        show Jde ((QD a sd).getD 0 default) (a.getD 0 default)=true
        rw[h9]
        exact Jpu _
       unfold Jde at y1
       rw[ks.1,ks.2,Jjw,y1,decide_eq_false (show ¬ ((List.map Ja (QD a sd)).length:Int) < 2 by omega),decide_eq_false (show ¬ ((List.map Ja (QD a sd)).length:Int) > (List.map Ja a).length by omega)]
       rfl
     . have hlt:g < (QD a sd).length:=by have h9:=K0 hd;have h8:=hg;(try simp only[Kb]at h8);(try simp only[Kb]at h9);omega
       try rw[show(g:Int).toNat=g from Km g]
       refine⟨by omega,by omega,(congrArg AV.agg (Jq Ja (by omega))),?_⟩
       refine⟨(g,pv a sd g),⟨hlt,?_⟩,rfl,rfl,fun q hok hr=>?_⟩
       . show pv a sd g<=psK a sd g
         unfold pv psK
         by_cases e:g=0
         . rw[e];exact Kr _
         exact Da (kp.lt (by omega) (by omega))
       obtain⟨i2,j2⟩:=q
       dsimp only at hok hr ⊢
       obtain⟨hi2,hj2⟩:=hok
       have hr4:g=i2:=hr.symm
       subst hr4
       have hpl:psK a sd g < a.length:=kp.b g (by omega)
       have hrow:(QD a sd).getD g default=a.getD (psK a sd g) default:=kp.at (by omega)
       have hj3:decide ((j2:Int) < ((List.map Ja a).length:Int))=true:=decide_eq_true (by omega)
       refine⟨fun h=>h,fun h=>h,fun _=>by omega,fun _=>by omega,fun h=>h,fun h=>h,fun h=>h,fun h=>h,impB_iff.2 fun _=>congrArg AV.agg (Jq Ja (by rw[Km];omega)),fun hc=>?_,fun hc=>?_⟩
       . rw[if_pos hj3]at hc
         have hc2:(!Jde (a.getD j2 default) ((QD a sd).getD g default))=true:=hc
         have hne:j2 ≠ psK a sd g:=by
          intro e
          rw[hrow,e,Jpu]at hc2
          cases hc2
         exact⟨by unfold Jg;omega,(g,j2+1),⟨hlt,by show j2+1<=psK a sd g;omega⟩,rfl,by show a.length-(j2+1) < a.length-j2;omega,rfl⟩
       rw[if_pos hj3]at hc
       have hc2:(!Jde (a.getD j2 default) ((QD a sd).getD g default))=false:=hc
       have hjk:j2=psK a sd g:=by
        rw[Bool.not_eq_false']at hc2
        have h9:=eqFx_t hc2
        rw[hrow]at h9
        by_cases e:j2=psK a sd g
        . exact e
        have:=t_lt F.oa (i:=j2) (j:=psK a sd g) (by omega) hpl
        omega
       have hjf:((j2:Int) == ((List.map Ja a).length:Int))=false:=beq_eq_false_iff_ne.2 (by omega)
       refine⟨by rw[hjf],fun h0=>?_,fun h0=>?_⟩
       . have h0:=K0 h0
         have e6:((g:Int)-(1:Int)).toNat=g-1:=by omega
         rw[e6]
         have hR:=kp.ok F.oa (by omega)
         have hD:=Jpx (hR.1.fb (i:=g) (by omega)) (hR.1.fb (i:=g-1) (by omega))
         have hup:=hR.1.up (g-1) (by omega)
         rw[show g-1+1=g by omega]at hup
         have hm1:=Xm hR.1 0 (g-1) (by omega) (by omega)
         have hm2:=Xm hR.1 g ((QD a sd).length-1) (by omega) (by omega)
         have hR2:((QD a sd).getD ((QD a sd).length-1) default).t-((QD a sd).getD 0 default).t<=1000:=hR.2
         have hway:=way_b (d:=((QD a sd).getD g default).t-((QD a sd).getD (g-1) default).t) hsd1 (by omega) (by omega)
         have hnr:=kp.near (g-1) (by omega)
         rw[show g-1+1=g by omega]at hnr
         unfold Jpz at hnr
         have hnr:=K0 hnr
         have hS2:=hD.s
         unfold sqF at hnr hS2
         have hfr:=decide_eq_false (Int.not_lt.2 hnr)
         refine⟨by unfold Jg;omega,by omega,by omega,congrArg AV.agg (Jq Ja (by omega)),by unfold Jg;omega,hway.1,⟨hD.x,hD.x,hD.x2,hD.y,hD.y,hD.y2,hD.xy,hD.z,hD.z,hD.z2,hS2,hway.2,by first | rw[hfr] | exact congrArg (fun b=>AS.mk _ [] 1) hfr⟩,?_⟩
         exact⟨by unfold Jg;omega,g+1,by omega,by omega,by rw[pv_s,<- hjk];rfl⟩
       exact⟨by unfold Jg;omega,g+1,by omega,by omega,by rw[pv_s,<- hjk];rfl⟩
     have hge:g=(QD a sd).length:=by have h9:=K1 hd;have h8:=hg;(try simp only[Kb]at h8);(try simp only[Kb]at h9);omega
     subst hge
     refine⟨rfl,?_⟩
     first
      | exact hK
      | exact⟨hK,ha⟩
      | exact⟨hK,fun j hj=>ha j (by omega)⟩
   . rcases Jrn a sd with e | e
     . rw[e]at h4
       cases h4
     rw[e]
     rfl
   . first
      | exact hK
      | exact⟨hK,ha⟩
      | exact⟨hK,fun j hj=>ha j (by omega)⟩
   have hK:=h4
   refine⟨⟨by unfold Jg;omega,by omega,by omega,(congrArg (fun r=>nth r 2) (Jq Jr (by omega))),((by subst hqb;rw[Jcz];exact c57 _ (by omega))),?_,?_⟩,fun h5=>?_⟩
   . subst hqb
     rw[Jcz]
   . first
      | exact hK
      | exact⟨hK,ha⟩
      | exact⟨hK,fun j hj=>ha j (by omega)⟩
   have hK:=h5
   refine⟨by unfold Jg;omega,by omega,by omega,by unfold Jg;omega,by decide,by unfold Jg;omega,by omega,by omega,by omega,by unfold Jg;omega,(congrArg (fun r=>nth r 0) (Jq Ja (by omega))),(congrArg (fun r=>nth r 0) (Jq Ja (by omega))),by unfold Jg;omega,⟨⟨0,by omega,by rw[al,lf,<- hdl];rfl⟩,fun g hg=>⟨fun hd=>?_,fun hd=>?_⟩⟩,fun h6=>?_⟩
   . have hlt:g < l.length:=by have h9:=K0 hd;have h8:=hg;(try simp only[Kb]at h8);(try simp only[Kb]at h9);omega
     have hlg:=(F.ol.b g hlt).1
     have hsl:(List.map Ja (shN l dl g)).length=l.length:=by rw[Kb,Ua]
     have hpl:(Qo (List.map Ja (shN l dl g)) g 0 [AV.i ((l.getD g default).t+dl)]).length=l.length:=by rw[JjL hlt,Kb,Ua]
     try rw[show(g:Int).toNat=g from Km g]
     refine⟨by omega,by omega,by omega,by unfold Jg;omega,by omega,by omega,by omega,?_,fun h=>h,fun h=>h,fun _=>by omega,fun _=>by omega,fun h=>h,fun h=>h,fun _=>by omega,fun h=>h,fun h=>h,impB_iff.2 fun hb=>?_,by unfold Jg;omega,⟨g+1,by omega,by omega,?_⟩⟩
     . exact(congrArg (fun r=>nth r 0) (Jq Ja (by rw[Ua];exact hlt))).trans (by rw[JoY hlt];rfl)
     . try rw[show(g:Int).toNat=g from Km g]
       rw[JjL hlt]
       exact(congrArg (fun r=>nth r 0) (Jq Ja (by rw[Ua];exact hlt))).trans (by rw[JqX hlt];rfl)
     try rw[show(g:Int).toNat=g from Km g]
     rw[JjL hlt]
     rfl
   . have hge:g=l.length:=by have h9:=K1 hd;have h8:=hg;(try simp only[Kb]at h8);(try simp only[Kb]at h9);omega
     subst hge
     refine⟨rfl,?_⟩
     first
      | exact hK
      | exact⟨hK,ha⟩
      | exact⟨hK,fun j hj=>ha j (by omega)⟩
   have hK:=h6
   refine⟨⟨fun h7=>?_,fun h7=>⟨rfl,?_⟩⟩,fun h7=>?_⟩
   . have hfit:=Jpq h7
     have hsz:=K0 (show decide (((a.map Ja).length:Int)+((l.map Ja).length:Int)<=16)=true from hfit.1)
     have lo:LatOK a l dl:=⟨F.oa,F.ol,F.sa,F.sl,by omega,by omega,by omega,hfit.2⟩
     have hjn:=lo.join
     have hsh:=JqY l dl
     have q1:=tk_in F.oa htn.1
     have q2:=tk_in lo.ok htn.1
     have w1:=lo.at1 q1.1 q1.2
     have w2:=lo.at2 q2.1 q2.2
     have lf2:=lo.fst
     have ll2:=lo.lst
     have lsl:(l.map (shF dl)).length=l.length:=Kb _
     have c1:=WU a
     have c2:=JcT a
     have c3:=WU (shN l dl l.length)
     have c4:=JcT (shN l dl l.length)
     rw[hsh]at c3 c4 ⊢
     have t1:=Jja (n:=tn) (m:=cJ (List.map Ja a) (((List.map Ja a).length:Int)-(1:Int)).toNat 0-cJ (List.map Ja a) 0 0) htn.1 (by omega)
     have t2:=Jja (n:=tn) (m:=cJ (List.map Ja (l.map (shF dl))) ((↑(List.map Ja (l.map (shF dl))).length:Int)-(1:Int)).toNat 0-cJ (List.map Ja (l.map (shF dl))) 0 0) htn.1 (by omega)
     have lbm:(List.map Ja (l.map (shF dl))).length=l.length:=by rw[Kb,Kb]
     have ljm:(List.map Ja (a++l.map (shF dl))).length=a.length+l.length:=by rw[Kb,Kf,Kb]
     rw[JI a,JI (l.map (shF dl)),hjn.1,hjn.2,List.nil_append,JI (a++l.map (shF dl))]
     refine⟨((c29 _ (by omega)).un),((by first | exact(c29 _ (by omega)).un | (rw[hsh];exact(c29 _ (by omega)).un))),((by have k:=c71 a (l.map (shF dl)) (by omega) (by omega);rw[hjn.1,hjn.2]at k;exact k)),⟨fun h=>h,fun h=>h,fun h=>h,fun h=>h,fun h=>h,fun _=>by unfold Jg;omega,fun h=>h,fun h=>h,fun h=>by first | exact h | (rw[h];rfl) | simp_all,?_⟩,by omega,by omega,by omega,by omega,by unfold Jg;omega,by omega,by omega,by omega,by omega,by unfold Jg;omega,by omega,by unfold Jg;omega,(Jd3 (by omega)),(Jd3 (by omega)),(Jd3 (by omega)),by omega,by omega,((by first | exact k56 _ _ (by rw[Kf];omega) | exact k56 _ _ (by omega) | (rw[JI];exact k56 _ _ (by omega)))),((c29 _ (by omega)).un),((by first | exact k56 _ _ (by rw[Kf];omega) | exact k56 _ _ (by omega) | (rw[JI];exact k56 _ _ (by omega)))),⟨fun h=>h,fun h=>by first | exact h | (rw[h];rfl) | simp_all,fun h=>h,fun h=>h,fun h=>by first | exact h | (rw[h];rfl) | simp_all,?_⟩,by unfold Jg;omega,by omega,by omega,by omega,by omega,by unfold Jg;omega,by omega,by omega,by omega,by omega,by unfold Jg;omega,by omega,by unfold Jg;omega,(Jd3 (by omega)),(Jd3 (by omega)),(Jd3 (by omega)),by omega,by omega,((by first | exact k56 _ _ (by rw[Kf];omega) | exact k56 _ _ (by omega) | (rw[JI];exact k56 _ _ (by omega)))),((by first | exact(c29 _ (by omega)).un | (rw[hsh];exact(c29 _ (by omega)).un))),((by first | exact k56 _ _ (by rw[Kf];omega) | exact k56 _ _ (by omega) | (rw[JI];exact k56 _ _ (by omega)))),⟨fun h=>h,fun h=>by first | exact h | (rw[h];rfl) | simp_all,fun h=>h,fun h=>h,fun h=>by first | exact h | (rw[h];rfl) | simp_all,?_⟩,by unfold Jg;omega,rfl,?_⟩
     . rw[ljm,lal,lbm,bne_self_eq_false]
       simp
     . first
        | (rw[c1,c2]
           have u1:=w1
           unfold tkF at u1
           unfold v6
           rw[u1.1,u1.2.1,u1.2.2]
           simp)
        | (rw[c3,c4]
           have u1:=w2
           unfold tkF at u1
           unfold v6
           rw[u1.1,u1.2.1,u1.2.2]
           simp)
     . first
        | (rw[c1,c2]
           have u1:=w1
           unfold tkF at u1
           unfold v6
           rw[u1.1,u1.2.1,u1.2.2]
           simp)
        | (rw[c3,c4]
           have u1:=w2
           unfold tkF at u1
           unfold v6
           rw[u1.1,u1.2.1,u1.2.2]
           simp)
     first
      | exact hK
      | exact⟨hK,ha⟩
      | exact⟨hK,fun j hj=>ha j (by omega)⟩
   . first
      | exact hK
      | exact⟨hK,ha⟩
      | exact⟨hK,fun j hj=>ha j (by omega)⟩
   have hK:=h7
   refine⟨⟨((c62 ts (by omega) hS).un),((c63 fs (by omega) (fun f hf=>(hF f hf).2.2)).un),((k61 ts fs x y z (by omega) (by omega) hS hF F.sk.z0)),?_,?_⟩,fun h8=>?_⟩
   . rw[XB VI]
   . first
      | exact hK
      | exact⟨hK,ha⟩
      | exact⟨hK,fun j hj=>ha j (by omega)⟩
   have hK:=h8
   refine⟨by omega,⟨by omega,by omega,by omega,by omega,by omega,by omega,by omega,by omega,by omega,by omega,((c62 ts (by omega) hS).un),((by rw[W8 Jr fs (by omega)];exact(c63 _ (by rw[Kf,Kh,Kg];omega) (Jgz fun f hf=>(hF f hf).2.2)).un)),((by rw[W8 Jr fs (by omega)];exact k61 ts _ x y z (by omega) (by rw[Kf,Kh,Kg];omega) hS (Jgz hF) (by rw[lfs];exact F.sk.z1))),?_,?_⟩,fun h9=>?_⟩
   . rw[W8 Jr fs (by omega),XB VI,lfs,F.sk.t1]
   . first
      | exact hK
      | exact⟨hK,ha⟩
      | exact⟨hK,fun j hj=>ha j (by omega)⟩
   have hK:=h9
   refine⟨⟨by omega,by omega,by omega,((c62 ts (by omega) hS).un),((by rw[Jab];exact(c63 _ (by rw[Kh];omega) (JgA fun f hf=>(hF f hf).2.2)).un)),((by rw[Jab];exact k61 ts _ x y z (by omega) (by rw[Kh];omega) hS (JgA hF) F.sk.z2)),?_,?_⟩,fun h10=>?_⟩
   . rw[Jab,XB VI]
   . first
      | exact hK
      | exact⟨hK,ha⟩
      | exact⟨hK,fun j hj=>ha j (by omega)⟩
   have hK:=h10
   refine⟨⟨((c62 ts (by omega) hS).un),((c63 fs (by omega) (fun f hf=>(hF f hf).2.2)).un),((by have k:=c64 ts fs x y z (by omega) (by omega) hS hF;rw[F.sk.z0]at k;exact k)),?_,?_⟩,fun h11=>?_⟩
   . rw[F.sk.p0]
     rfl
   . first
      | exact hK
      | exact⟨hK,ha⟩
      | exact⟨hK,fun j hj=>ha j (by omega)⟩
   have hK:=h11
   refine⟨⟨((c62 ts (by omega) hS).un),((c63 fs (by omega) (fun f hf=>(hF f hf).2.2)).un),((by have k:=c65 ts fs x y z (by omega) (by omega) hS hF;rw[F.lk.1]at k;exact k)),rfl,?_⟩,fun h12=>?_⟩
   . first
      | exact hK
      | exact⟨hK,ha⟩
      | exact⟨hK,fun j hj=>ha j (by omega)⟩
   have hK:=h12
   refine⟨⟨fun h=>h,fun h=>by first | exact h | (rw[h];rfl) | simp_all,fun h=>h,fun h=>by first | exact h | (rw[h];rfl) | simp_all,fun h=>h,fun h=>by first | exact h | (rw[h];rfl) | simp_all,fun h=>h,fun h=>by first | exact h | (rw[h];rfl) | simp_all,fun h=>h,fun h=>h,fun h=>by first | exact h | (rw[h];rfl) | simp_all,fun h=>h,fun h=>h,fun h=>h,fun h=>h,fun h=>by first | exact h | (rw[h];rfl) | simp_all,fun h=>h,fun h=>h,fun _=>by unfold Jg;omega,fun h=>h,fun _=>by omega,fun _=>by omega,fun h=>h,fun h=>h,fun h=>h,fun h=>by first | exact h | (rw[h];rfl) | simp_all,fun h=>h,fun _=>by omega,fun _=>by omega,fun h=>h,fun h=>h,fun h=>by first | exact h | (rw[h];rfl) | simp_all,impB_iff.2 fun hb=>(congrArg (fun r=>nth r 0) (Jq Jh (by omega))),impB_iff.2 fun hb=>(congrArg (fun r=>nth r 0) (Jq Jh (by omega))),?_⟩,⟨rfl,?_⟩,fun h13=>?_⟩
   . have y1:(pE ts fs x y z).getD (Int.toNat (0:Int)) default=(pE ts fs x y z).getD 0 default:=rfl
     have y2:JV ts fs x y z-JV ts (fs.drop 1) x y z=(pE ts fs x y z).getD 0 default:=F.sk.t2
     have y3:0<=(pE ts fs x y z).getD 0 default:=F.sk.nn
     rw[y1,y2,lpl,lfs,pe,bne_self_eq_false,bne_self_eq_false,bne_self_eq_false,decide_eq_false (show ¬ (pE ts fs x y z).getD 0 default < 0 by omega)]
     rfl
   . first
      | exact hK
      | exact⟨hK,ha⟩
      | exact⟨hK,fun j hj=>ha j (by omega)⟩
   have hK:=h13
   refine⟨((by have k:=c83 fs (Jbh ts fs x y z) (by omega);rw[F.lk.2.1]at k;exact k)),rfl,⟨rfl,?_⟩,fun h14=>?_⟩
   . first
      | exact hK
      | exact⟨hK,ha⟩
      | exact⟨hK,fun j hj=>ha j (by omega)⟩
   have hK:=h14
   refine⟨⟨⟨0,by omega,rfl⟩,fun g hg=>⟨fun hd=>?_,fun hd=>?_⟩⟩,fun h15=>?_⟩
   . have hlt:g < (pE ts fs x y z).length:=by have h9:=K0 hd;have h8:=hg;(try simp only[Kb]at h8);(try simp only[Kb]at h9);omega
     have hpg:=F.lk.2.2.2 g (by omega)
     have hsb:=JqP F.pb g (by omega)
     have hpb:=F.pb _ (JG hlt)
     try rw[show(g:Int).toNat=g from Km g]
     refine⟨by omega,by omega,(congrArg (fun r=>nth r 0) (Jq Jh (by omega))),by unfold Jg;omega,⟨by omega,by omega,fun h=>h,fun h=>h,fun _=>by omega,fun _=>by omega,fun h=>h,fun h=>h,fun h=>h,fun h=>h,fun h=>h,fun h=>h,fun h=>h,fun h15=>fun h=>by first | exact h | (rw[h];rfl) | simp_all,fun h=>by first | exact h | (rw[h];rfl) | simp_all,(congrArg (fun r=>nth r 0) (Jq Jh (by omega))),impB_iff.2 fun hb=>(congrArg (fun r=>nth r 0) (Jq Jh (by omega))),?_⟩,by unfold Jg;omega,⟨g+1,by omega,by omega,?_⟩⟩
     . try rw[show(g:Int).toNat=g from Km g]
       rw[Km,decide_eq_false (show ¬ (pE ts fs x y z).getD g default > (pE ts fs x y z).getD (JaC ts fs x y z) default by omega)]
       by_cases e:(g:Int) < (JaC ts fs x y z:Int)
       . have h9:=hpg.2 (by omega)
         rw[beq_eq_false_iff_ne.2 (show(pE ts fs x y z).getD g default ≠ (pE ts fs x y z).getD (JaC ts fs x y z) default by omega)]
         rfl
       rw[decide_eq_false e]
       cases ((pE ts fs x y z).getD g default == (pE ts fs x y z).getD (JaC ts fs x y z) default) <;> rfl
     try rw[show(g:Int).toNat=g from Km g]
     rw[<- Jb8 _ _ hlt]
     rfl
   . have hge:g=(pE ts fs x y z).length:=by have h9:=K1 hd;have h8:=hg;(try simp only[Kb]at h8);(try simp only[Kb]at h9);omega
     subst hge
     refine⟨?_,?_⟩
     . rfl
     first
      | exact hK
      | exact⟨hK,ha⟩
      | exact⟨hK,fun j hj=>ha j (by omega)⟩
   have hK:=h15
   refine⟨⟨by omega,by omega,(congrArg AV.agg (Jq Jf (by omega))),((by subst ht;exact c28 (ts.getD 0 default) (by have:=F.sh.st;omega) (by have:=F.sh.s;omega) (by have:=F.sh.q;omega) (fun u hu=>by have:=F.sh.e u hu;omega))),((by have k:=k77 t F.sh;rw[ppX,if_neg (by rw[F.ty];decide),F.ty]at k;exact k)),rfl,?_⟩,fun h16=>?_⟩
   . first
      | exact hK
      | exact⟨hK,ha⟩
      | exact⟨hK,fun j hj=>ha j (by omega)⟩
   have hK:=h16
   refine⟨((k78 _ (.inl F.pl) (by have:=F.pl;omega))),⟨fun h=>h,fun h=>by first | exact h | (rw[h];rfl) | simp_all,fun h=>h,fun h=>by first | exact h | (rw[h];rfl) | simp_all,fun h=>h,fun h=>by first | exact h | (rw[h];rfl) | simp_all,fun h=>h,fun h=>h,fun _=>by omega,fun _=>by omega,fun h=>h,fun h=>h,fun h=>h,fun h=>h,fun h=>by first | exact h | (rw[h];rfl) | simp_all,fun h=>h,fun h=>h,fun h=>h,fun _=>by omega,fun _=>by omega,fun h=>h,fun h=>h,fun h=>h,fun h=>h,fun _=>by unfold Jg;omega,fun h=>h,fun h=>h,fun h=>by first | exact h | (rw[h];rfl) | simp_all,impB_iff.2 fun hb=>((by rw[(Jrr F.po F.ty F.pl).1];exact c82 _ (by have:=F.sh.st;omega) (by have:=F.sh.s;omega) (by have:=F.sh.q;omega) (fun u hu=>by have:=F.sh.e u hu;omega))),impB_iff.2 fun hb=>(congrArg AV.agg (Jq Jf (by omega))),impB_iff.2 fun hb=>((by rw[(Jrr F.po F.ty F.pl).1];subst ht;exact c81 (ts.getD 0 default) (by have:=F.sh.s;omega) (by have:=F.sh.q;omega) (by have:=F.sh.st;omega) (fun u hu=>by have:=F.sh.e u hu;omega))),impB_iff.2 fun hb=>((c84 _ 10 (by have:=F.pl;omega) (by omega))),impB_iff.2 fun hb=>(congrArg (fun r=>nth r 12) (Jq Jf (by omega))),?_⟩,⟨rfl,?_⟩,fun h17=>?_⟩
   . obtain⟨y1,y2,y3⟩:=Jrr F.po F.ty F.pl
     have y4:=Jgs t F.po
     have y5:(List.map Ji (ts.getD (Int.toNat (0:Int)) default).st).length=t.st.length:=by rw[Kb,ht];rfl
     have y6:(List.map Jx (spl 10 (prX t))).length=5+t.st.length:=by rw[Kb,y4,Kf,UW,Kx];omega
     have y7:((pE ts fs x y z).take (pE ts fs x y z).length).sum=JV ts fs x y z:=by
      rw[Ky,F.sk.t0]
      exact(WM F.pb (by omega)).symm
     rw[y2,y3,y5,y6,y7,bne_self_eq_false,bne_self_eq_false]
     simp
   . first
      | exact hK
      | exact⟨hK,ha⟩
      | exact⟨hK,fun j hj=>ha j (by omega)⟩
   have hK:=h17
   refine⟨by unfold Jg;omega,by omega,by omega,by omega,((by(try rw[show Int.toNat (0:Int)=0 from rfl]);rw[Jle];exact k78 _ (.inl (by have:=F.pl;rw[Kg];omega)) (by have:=F.pl;rw[Kg];omega))),fun h=>h,fun _=>by omega,fun _=>by omega,fun h=>h,fun h=>h,fun h=>h,fun h=>h,fun _=>by unfold Jg;omega,fun h=>h,fun h=>h,fun h=>h,fun h=>h,impB_iff.2 fun hb=>(congrArg (fun r=>nth r 12) (Jq Jf (by omega))),impB_iff.2 fun hb=>hA,?_⟩
   obtain⟨y1,y2,y3⟩:=prs_m F.po F.st F.pl (s:=(prX t).take ((prX t).length-1)) rfl
   have y5:(List.map Ji (ts.getD 0 default).st).length=t.st.length:=by rw[Kb,ht]
   (try rw[show Int.toNat (0:Int)=0 from rfl])
   rw[Jle,y2,y3,y5,Kz,Kz]
   rfl
 exact c_ofH Tryz.f12 (B12 ts fs x y z sp tn a l sd dl t) (m12 ts fs x y z sp tn a l sd dl t) key (by kernel_rfl)
def m12_0(ts:List Ty)(fs:List Fl)(x y z sp tn:Int):List (Option (List GS × AS × Prop)):=[mdK [] True (A12 ts fs x y z sp tn) [] 1,mdK [] True (A12 ts fs x y z sp tn++[(91,.bool true)]) [] 1]
abbrev Jsh:=true=false->false=true
abbrev Z66b(x:Int)(y:Int)(z:Int)(sp:Int)(tn:Int):=[[AV.i x,AV.i y,AV.i z,AV.int IntKind.u16 sp,AV.int IntKind.u16 tn]]
theorem c12_0(ts:List Ty)(fs:List Fl)(x y z sp tn:Int)(t:Ty)(hA:P0 13 [] (.bool true))(hl:ts.length<=maxLen)(hm:fs.length<=maxLen)(hst:∀ t,t ∈ ts->t.st.length<=maxLen)(h0:(!sSF ts fs)=true):P0 12 [.sl 13 (ts.map Jf),.sl 3 (fs.map Jr),.agg [.i x,.i y,.i z,.int .u16 sp,.int .u16 tn]] (.bool true):=by
 have key :
  (AS.mk [(0,AV.sl 13 (List.map Jf ts)),(1,AV.sl 3 (List.map Jr fs)),(5,AV.elt 5 (Z66b x y z sp tn) 0 0)] [] 1=AS.mk [(0,AV.sl 13 (List.map Jf ts)),(1,AV.sl 3 (List.map Jr fs)),(5,AV.elt 5 (Z66b x y z sp tn) 0
  0)] [] 1/\True)/\(True->(Jsh/\Jsh/\Jsh/\Jsh/\Jsh/\Jsh/\P0 60 [AV.sl 13 (List.map Jf ts),AV.sl 3 (List.map Jr fs)] (AV.bool (sSF ts fs))/\(AV.bool !sSF ts fs)=AV.bool true/\AS.mk [(0,AV.sl 13 (List.map
  Jf ts)),(1,AV.sl 3 (List.map Jr fs)),(5,AV.elt 5 (Z66b x y z sp tn) 0 0),(91,AV.bool true)] [] 1=AS.mk [(0,AV.sl 13 (List.map Jf ts)),(1,AV.sl 3 (List.map Jr fs)),(5,AV.elt 5 (Z66b x y z sp tn) 0 0),(91,
  AV.bool true)] [] 1/\True)/\(True->P0 13 [] (AV.bool true)/\AV.bool true=AV.bool true)):=by
   delta Jsh Z66b
   refine⟨⟨rfl,trivial⟩,fun _=>⟨⟨by simp,by simp,by simp,by simp,by simp,by simp,c60 ts fs hl hm hst,congrArg AV.bool h0,rfl,trivial⟩,fun _=>⟨hA,rfl⟩⟩⟩
 exact c_ofH Tryz.f12 ({ noSym 1 (fzB (mkB (sp12 ts fs x y z t) 12 [(1,3,rdT)] QJ))with cl:=clL [91] }) (m12_0 ts fs x y z sp tn) key (by kernel_rfl)
theorem c12(ts:List Ty)(fs:List Fl)(x y z sp tn:Int)(hA:P0 13 [] (.bool true))(hl:ts.length<=maxLen)(hm:fs.length<=maxLen)(hst:∀ t,t ∈ ts->t.st.length<=maxLen)(hsp:0<=sp/\sp<=65535)(htn:0<=tn/\tn<=65535):P0 12 [.sl 13 (ts.map Jf),.sl 3 (fs.map Jr),.agg [.i x,.i y,.i z,.int .u16 sp,.int .u16 tn]] (.bool true):=by
 cases h0:sSF ts fs with
 | false=>exact c12_0 ts fs x y z sp tn default hA hl hm hst (by rw[h0];rfl)
 | true=>exact c12_ok ts fs x y z sp tn _ _ _ _ _ hA hl hm hst h0 hsp htn rfl rfl rfl rfl rfl
end Go.Proofs.YtjhjmncjidbieaaGreatDoor
namespace Go.Proofs.YtjhjmncjidbieaaGreatDoor
open Go Go.Av Go.RowKit Go.ChangeShapes Go.WideShapes
theorem jp0_12:(Rows.sourceKeptRow.inPlace == Tryz.prog.inPlace 12)=true:=by kernel_rfl
theorem jp1_12:(Rows.sourceKeptRow.unfollowed == Tryz.prog.unfollowed 12)=true:=by kernel_rfl
theorem jp2_12:(Rows.sourceKeptRow.recurses == Tryz.prog.recurses 12)=true:=by kernel_rfl
theorem jp3_12:(Rows.sourceKeptRow.named == Tryz.prog.varsNamed 12)=true:=by kernel_rfl
theorem JkB:joinedFacts Tryz.prog 12 Tryz.f12 Rows.sourceKeptSpec Rows.sourceKeptRow=true:=by
 unfold joinedFacts
 rw[jp0_12,jp1_12,jp2_12,jp3_12]
 kernel_rfl
end Go.Proofs.YtjhjmncjidbieaaGreatDoor
