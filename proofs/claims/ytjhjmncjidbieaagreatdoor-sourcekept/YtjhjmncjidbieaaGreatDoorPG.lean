/-
  Numbers in words, and the words left as numbers: contracts. How the words of a line are taken into a type: contracts. What the source reads of the lines of a string: definitions and lemmas. No condition but the theorems' own.
-/
import Derived.Test.YtjhjmncjidbieaaGreatDoorPF
import Derived.Test.YtjhjmncjidbieaaGreatDoorAvD
import Derived.Test.YtjhjmncjidbieaaGreatDoorPC
import Derived.Test.YtjhjmncjidbieaaGreatDoorPD
namespace Go.Proofs.YtjhjmncjidbieaaGreatDoor
open Go Go.Av Go.RowKit
def JcR(c:UInt8):Bool:=decide (48<=c.toNat) && decide (c.toNat<=57)
def Wi(s:List UInt8):Nat->Int
 | 0=>0
 | k+1=>10 * Wi s k+((s.getD k 0).toNat-48:Int)
def XR(s:List UInt8)(n:Nat):Bool:=(List.range n).all fun i=>JcR (s.getD i 0)
theorem dg_bd{s:List UInt8}:∀ k,XR s k=true->0<=Wi s k/\Wi s k < 10 ^ k
 | 0,_=>by simp[Wi]
 | k+1,h=>by
  unfold XR at h
  rw[List.range_succ,List.all_append,Kd]at h
  have ih:=dg_bd k h.1
  have h2:=h.2
  simp only[List.all_cons,List.all_nil,Bool.and_true,JcR,Kd,Ko]at h2
  rw[Wi,Int.pow_succ]
  omega
theorem wr_dig{n:Int}(h:48<=n/\n<=57):IntKind.i64.wrap (IntKind.i32.wrap (n-48))=n-48/\IntKind.i64.wrap (IntKind.u8.wrap (n-48))=n-48:=by
 have:n=48 ∨ n=49 ∨ n=50 ∨ n=51 ∨ n=52 ∨ n=53 ∨ n=54 ∨ n=55 ∨ n=56 ∨ n=57:=by omega
 rcases this with rfl | rfl | rfl | rfl | rfl | rfl | rfl | rfl | rfl | rfl <;> exact⟨by decide,by decide⟩
theorem JrY{s:List UInt8}{g:Nat}(ha:XR s g=true)(hf:JcR (s.getD g 0)=true):XR s (g+1)=true:=by
 unfold XR at ha ⊢
 rw[List.range_succ,List.all_append,ha]
 simp only[List.all_cons,List.all_nil,hf,Bool.and_self]
theorem dg_dec(c:UInt8)(r:List UInt8):(JcR c=true->dec (c::r)=(c.toNat,1))/\((48<=(dec (c::r)).1/\(dec (c::r)).1<=57) ↔ JcR c=true):=by
 by_cases h:c.toNat < 128
 . rw[JdY r h]
   refine⟨fun _=>rfl,?_⟩
   unfold JcR
   simp
 have h1:=Jla r h
 have h2:JcR c=false:=by
  unfold JcR
  rw[Bool.and_eq_false_iff,decide_eq_false_iff_not,decide_eq_false_iff_not]
  omega
 refine⟨fun q=>(by rw[h2]at q;cases q),⟨fun q=>(by omega),fun q=>(by rw[h2]at q;cases q)⟩⟩
theorem Jnv{s:List UInt8}{g:Nat}(h:g < s.length)(hf:JcR (s.getD g 0)=false):XR s s.length=false :=
 List.all_eq_false.2 ⟨g,by simpa using h,by rw[hf];decide⟩
def q0N(s:List UInt8)(b:Bool):Bool:=if(if b=true then true else decide ((s.length:Int) > 12))=true then true else if decide ((s.length:Int) > 1)=true then((s.getD (Int.toNat 0) 0).toNat:Int) == 48 else false
def dpN(s:List UInt8):Nat:=fiN (fun i=>!JcR (s.getD i 0)) s.length
def nvS(s:List UInt8)(b:Bool):Int:=if b=true then 0 else Wi s (dpN s)
def nvW(ws:List (List UInt8))(b:Bool):Int:=nvS (ws.headD []) (q0N (ws.headD []) (wdB ws b))
def nbW(ws:List (List UInt8))(b:Bool):Bool:=if q0N (ws.headD []) (wdB ws b)=true then true else !XR (ws.headD []) (ws.headD []).length
theorem q0_12{s:List UInt8}{b:Bool}(h:q0N s b=false):s.length<=12:=by
 unfold q0N at h
 obtain⟨h1,_⟩:=or_f h
 obtain⟨_,h2⟩:=or_f h1
 have:=K1 h2
 omega
theorem dg_at{s:List UInt8}{g:Nat}(h:XR s g=true):∀ j,j < g->JcR (s.getD j 0)=true:=fun j hj=>List.all_eq_true.1 h j (by simpa using hj)
theorem dp_at{s:List UInt8}{g:Nat}(h:XR s g=true)(hg:g < s.length)(hf:JcR (s.getD g 0)=false):dpN s=g :=
 VF (fun j hj=>by rw[dg_at h j hj];rfl) (by rw[hf];rfl) hg
theorem Jpw{s:List UInt8}(h:XR s s.length=true):dpN s=s.length:=VG fun j hj=>by rw[dg_at h j hj];rfl
def hs223:Nat->List AV->List ABlk->Option AV
 | 139,_,[.box [.sl _ rows,.bool b]]=>some (.gv true (.tup [.str ((dS rows).headD []),.agg [.sl 1 ((wdR (dS rows)).map Jx),.bool (wdB (dS rows) b)]]))
 | _,_,_=>none
def la223(ws:List (List UInt8))(b:Bool):LA:={
 pre:=[.keep [0,3,4,32] [0,1,3],.bound 4],post:=[.keep [0,3,4,32] [0,1,3],.bound 4]
 Gh:=Nat
 st:=fun i=>⟨[(0,.ptr 1 0),(3,.str (ws.headD [])),(4,.i (Wi (ws.headD []) i)),(32,.ref 3)],[(0,.pins 2),(1,.box [.sl 1 ((wdR ws).map Jx),.bool (q0N (ws.headD []) (wdB ws b))]),(3,.iter ((ws.headD []).drop i) i)],4⟩
 ok:=fun i=>i<=(ws.headD []).length/\XR (ws.headD []) i=true/\(q0N (ws.headD []) (wdB ws b)=true->i=0)
 ms:=fun i=>(ws.headD []).length-i
 it:=some 3 }
abbrev Jdf(ws:List (List UInt8)):=dS (List.map Jx ws)
abbrev Jqj(ws:List (List UInt8)):=(↑((Jdf ws).headD []).length:Int)
abbrev Jt8(ws:List (List UInt8))(b:Bool):=!if wdB (Jdf ws) b=true then true else decide ((Jqj ws) > 12)
abbrev Jt7(ws:List (List UInt8))(b:Bool):=[AV.sl 1 (List.map Jx (wdR ws)),AV.bool (q0N (ws.headD []) (wdB ws b))]
abbrev JsM(c:UInt8)(r:List UInt8):=(↑(dec (c::r)).fst:Int)
abbrev Jqi(ws:List (List UInt8))(b:Bool):=(Jt8 ws b) && decide ((Jqj ws) > 1)
abbrev Z50g(ws:List (List UInt8))(b:Bool):=[ABlk.box [AV.sl 1 (List.map Jx (wdR ws)),AV.bool (nbW ws b)]]
abbrev Z50h(ws:List (List UInt8))(b:Bool)(c:UInt8)(r:List UInt8):=!if q0N (ws.headD []) (wdB ws b)=true then true else decide ((JsM c r) < 48)
abbrev Z50i(ws:List (List UInt8))(b:Bool)(c:UInt8)(r:List UInt8):=if q0N (ws.headD []) (wdB ws b)=true then true else decide ((JsM c r) < 48)
abbrev Z50j(ws:List (List UInt8))(b:Bool):=(Jt8 ws b)=true->(Jt8 ws b)=true
theorem Ji0(ws:List (List UInt8))(b:Bool)(hw:ws.length<=1000000)(hl:∀ x,x ∈ ws->x.length<=1000000):WCall Tryz.prog G0 223 [.ptr 1 0] [ABlk.box [.sl 1 (ws.map Jx),.bool b]] (.i (nvW ws b)) [ABlk.box [.sl 1 ((wdR ws).map Jx),.bool (nbW ws b)]]:=by
 have key :
  WCall Tryz.prog G0 139 [AV.ptr 1 0] [ABlk.box [AV.sl 1 (List.map Jx ws),AV.bool b]] (AV.str ((Jdf ws).headD [])) [ABlk.box [AV.sl 1 (List.map Jx (wdR (Jdf ws))),AV.bool (wdB (Jdf ws) b)]]/\((!wdB (Jdf ws) b)=true →
  (!wdB (Jdf ws) b)=true)/\((!wdB (Jdf ws) b)=true->(!wdB (Jdf ws) b)=true)/\(wdB (Jdf ws) b=false->(!wdB (Jdf ws) b)=true)/\(Z50j ws b)/\(Z50j ws b)/\(Z50j ws b)/\((Jqi ws b)=true->(Jqi ws b)=true) /\
  ((Jqi ws b)=true->(0:Int)<=0)/\((Jqi ws b)=true->(0:Int) < (Jqj ws))/\((Jqi ws b)=true->(Jqi ws b)=true)/\(Z50j ws b)/\((Jt8 ws b)=true->decide ((Jqj ws) > 1)=true->(Jqi ws b)=true)/\((if wdB
  (Jdf ws) b=true then true else decide ((Jqj ws) > 12))=false->(Jt8 ws b)=true)/\AV.bool (if(if wdB (Jdf ws) b=true then true else decide ((Jqj ws) > 12))=true then true else if decide ((Jqj ws) > 1)=true then
  (↑(((Jdf ws).headD []).getD (Int.toNat (0:Int)) (0:UInt8)).toNat:Int) == 48 else false)=AV.bool (q0N (ws.headD []) (wdB ws b))/\(∃ (g:Nat),(g<=(ws.headD []).length/\XR (ws.headD []) g=true/\(q0N (ws.headD [])
  (wdB ws b)=true->g=0))/\AS.mk [(0,AV.ptr 1 0),(3,AV.str ((Jdf ws).headD [])),(4,AV.i 0),(32,AV.ref 3)] [(0,ABlk.pins 2),(1,ABlk.box [AV.sl 1 (List.map Jx (wdR (Jdf ws))),AV.bool (q0N (ws.headD []) (wdB ws
  b))]),(3,ABlk.iter ((Jdf ws).headD []) 0)] 4=AS.mk [(0,AV.ptr 1 0),(3,AV.str (ws.headD [])),(4,AV.i (Wi (ws.headD []) g)),(32,AV.ref 3)] [(0,ABlk.pins 2),(1,ABlk.box (Jt7 ws b)),(3,ABlk.iter (List.drop g
  (ws.headD [])) g)] 4)/\∀ (g:Nat),g<=(ws.headD []).length/\XR (ws.headD []) g=true/\(q0N (ws.headD []) (wdB ws b)=true->g=0)->(∀ (c:UInt8) (r:List UInt8),List.drop g (ws.headD [])=c::r->(true=true →
  ((!q0N (ws.headD []) (wdB ws b))=true->(!q0N (ws.headD []) (wdB ws b))=true)/\(q0N (ws.headD []) (wdB ws b)=false->(!q0N (ws.headD []) (wdB ws b))=true)/\((Z50h ws b c r)=true->(Z50h ws b c r)=true)/\((Z50i ws b c
  r)=false->(Z50h ws b c r)=true)/\((if(Z50i ws b c r)=true then true else decide ((JsM c r) > 57))=true->AV.i (Wi (ws.headD []) g)=AV.i (nvW ws b)/\[ABlk.box [AV.sl 1 (List.map Jx (wdR ws)),AV.bool true]] =
  (Z50g ws b))/\((if(Z50i ws b c r)=true then true else decide ((JsM c r) > 57))=false->Jg ((10:Int) * Wi (ws.headD []) g)/\Jg ((10:Int) * Wi (ws.headD []) g+IntKind.i64.wrap (IntKind.i32.wrap ((JsM c r) -
  48)))/\∃ (g':Nat),(g'<=(ws.headD []).length/\XR (ws.headD []) g'=true/\(q0N (ws.headD []) (wdB ws b)=true->g'=0))/\(ws.headD []).length-g' < (ws.headD []).length-g/\AS.mk [(0,AV.ptr 1 0),(3,AV.str
  (ws.headD [])),(4,AV.i ((10:Int) * Wi (ws.headD []) g+IntKind.i64.wrap (IntKind.i32.wrap ((JsM c r)-48)))),(32,AV.ref 3)] [(0,ABlk.pins 2),(1,ABlk.box (Jt7 ws b)),(3,ABlk.iter (List.drop (dec (c::r)).snd (c ::
  r)) (g+(dec (c::r)).snd))] 4=AS.mk [(0,AV.ptr 1 0),(3,AV.str (ws.headD [])),(4,AV.i (Wi (ws.headD []) g')),(32,AV.ref 3)] [(0,ABlk.pins 2),(1,ABlk.box (Jt7 ws b)),(3,ABlk.iter (List.drop g' (ws.headD [])) g')]
  4))/\(true=false->AV.i (Wi (ws.headD []) g)=AV.i (nvW ws b)/\[ABlk.box (Jt7 ws b)]=(Z50g ws b)))/\(List.drop g (ws.headD [])=[]->(false=true->False)/\(false=false->AV.i (Wi (ws.headD []) g)=AV.i (nvW ws
  b)/\[ABlk.box (Jt7 ws b)]=(Z50g ws b))):=by
   delta Jt8 Jqj Jt7 Jdf JsM Jqi Z50g Z50h Z50i Z50j
   rw[WT]
   refine⟨w139 ws b hw,fun h=>h,fun h=>h,fun h=>by rw[h];rfl,fun h=>h,fun h=>h,fun h=>h,fun h=>h,fun _=>Ks _,fun h=>?_,fun h=>h,fun h=>h,fun h1 h2=>by rw[h1,h2];rfl,fun h=>by rw[h];rfl,rfl,⟨0,⟨Nat.zero_le _,rfl,fun _=>rfl⟩,rfl⟩,fun g ⟨hg,ha,hz⟩=>⟨fun c r hcr=>⟨fun _=>?_,fun h=>by cases h⟩,fun hnil=>⟨fun h=>(by cases h),fun _=>?_⟩⟩⟩
   . rw[Kd]at h
     have:=K0 h.2
     omega
   . have h12:q0N (ws.headD []) (wdB ws b)=false->(ws.headD []).length<=12:=q0_12
     unfold nvW nbW
     generalize q0N (ws.headD []) (wdB ws b)=w at *
     generalize ws.headD []=s at *
     have hlt:g < s.length:=by
      by_cases h:g < s.length
      . exact h
      rw[List.drop_eq_nil_of_le (by omega)]at hcr;cases hcr
     have hcg:s.getD g 0=c:=by
      have:=congrArg (fun l=>l.getD 0 0) hcr
      simpa[List.getD_eq_getElem?_getD]using this
     have hr:r=s.drop (g+1):=by
      have:=congrArg (fun l=>l.drop 1) hcr
      simpa using this.symm
     obtain⟨d1,d2⟩:=dg_dec c r
     refine⟨fun h=>h,fun h=>by rw[h];rfl,fun h=>h,fun h=>by rw[h];rfl,fun h=>?_,fun h=>?_⟩
     . cases w with
       | true =>
        rw[hz rfl]
        exact⟨rfl,rfl⟩
       | false =>
        have hb:JcR c=false:=by
         cases q:JcR c with
         | false=>rfl
         | true =>
          have:=d2.2 q
          rw[decide_eq_false (show ¬ ((dec (c::r)).1:Int) < 48 by omega),decide_eq_false (show ¬ ((dec (c::r)).1:Int) > 57 by omega)]at h
          cases h
        rw[Jnv hlt (by rw[hcg];exact hb),nvS,if_neg (by decide),dp_at ha hlt (by rw[hcg];exact hb)]
        exact⟨rfl,rfl⟩
     obtain⟨h1,h3⟩:=or_f h
     obtain⟨h1,h2⟩:=or_f h1
     subst h1
     have h2:=K1 h2
     have h3:=K1 h3
     have q:=d2.1 (by omega)
     have hd:=d1 q
     have hl12:=h12 rfl
     have hb:=dg_bd g ha
     have hp:(10:Int) ^ g<=10 ^ 12:=by
      exact_mod_cast Nat.pow_le_pow_right (show 0 < 10 by decide) (show g<=12 by omega)
     have hp:(10:Int) ^ g<=1000000000000:=hp
     rw[hd]at h2 h3 ⊢
     have hw:=(wr_dig (n:=(c.toNat:Int)) (by constructor <;> (dsimp only at h2 h3;omega))).1
     have h2:¬ (c.toNat:Int) < 48:=h2
     have h3:¬ (c.toNat:Int) > 57:=h3
     dsimp only
     rw[hw]
     refine⟨by unfold Jg;omega,by unfold Jg;omega,g+1,⟨hlt,JrY ha (by rw[hcg];exact q),fun h=>by cases h⟩,by omega,?_⟩
     rw[show Wi s (g+1)=10 * Wi s g+((c.toNat:Int)-48) by rw[Wi,hcg],hr]
     rfl
   unfold nvW nbW
   generalize q0N (ws.headD []) (wdB ws b)=w at *
   generalize ws.headD []=s at *
   have hge:g=s.length:=by
    have:=congrArg List.length hnil
    rw[Kh]at this
    simp only[List.length_nil]at this
    omega
   subst hge
   cases w with
   | true =>
    rw[hz rfl]
    exact⟨rfl,rfl⟩
   | false =>
    rw[nvS,if_neg (by decide),Jpw ha,if_neg (by decide),ha]
    exact⟨rfl,rfl⟩
 exact JoT Tryz.f223 (gsB (fun i=>if i.beq 3 then[.keep [0,3,4] [0,1],.bound 2]else[]) { mkB Jgh 223 [(2,19,fun _=>some (.bool (q0N (ws.headD []) (wdB ws b))))] (fun i=>if i.beq 0 then some (la223 ws b)else none)with hs:=hs223 }) key (by kernel_rfl)
def inQ(s:List UInt8):Bool:=if(if(s == [])=true then true else decide ((s.length:Int) > 12))=true then true else if decide ((s.length:Int) > 1)=true then((s.getD (Int.toNat 0) 0).toNat:Int) == 48 else false
def inB(s:List UInt8):Bool:=if inQ s=true then false else XR s s.length
def dgV(s:List UInt8):Int:=if inB s=true then Wi s s.length else 0
def tkW(ws:List (List UInt8))(b:Bool):Nat->List (List UInt8) × Bool
 | 0=>(ws,b)
 | k+1=>(wdR (tkW ws b k).1,nbW (tkW ws b k).1 (tkW ws b k).2)
def tkL(ws:List (List UInt8))(b:Bool):Nat->List Int
 | 0=>[]
 | k+1=>tkL ws b k++[nvW (tkW ws b k).1 (tkW ws b k).2]
theorem Jaa(ws:List (List UInt8))(b:Bool):∀ k,(tkL ws b k).length=k
 | 0=>rfl
 | k+1=>by rw[tkL,Kf,Jaa ws b k];rfl
theorem Jez(ws:List (List UInt8)):(wdR ws).Sublist ws:=by
 unfold wdR
 split
 . exact List.nil_sublist _
 exact List.tail_sublist ws
theorem Jf9(ws:List (List UInt8))(b:Bool):∀ k,(tkW ws b k).1.Sublist ws
 | 0=>List.Sublist.refl _
 | k+1=>(Jez _).trans (Jf9 ws b k)
def hs228:Nat->List AV->List ABlk->Option AV
 | 223,_,[.box [.sl _ rows,.bool b]]=>some (.gv true (.tup [.i (nvW (dS rows) b),.agg [.sl 1 ((wdR (dS rows)).map Jx),.bool (nbW (dS rows) b)]]))
 | _,_,_=>none
def la228(ws:List (List UInt8))(b:Bool):LA:={
 pre:=[.own 3 3 1,.reno 3 2,.keep [0,3,4,11,12] [0,1,2],.bound 3],post:=[.reno 3 2,.keep [0,3,4,11,12] [0,1,2],.bound 3]
 Gh:=Nat
 st:=fun k=>⟨[(0,.ptr 1 0),(3,.own 2 ((tkL ws b k).map Jh).length),(4,.fn (.func 223) [.ptr 1 0] []),(11,.i (ws.map Jx).length),(12,.i k)],[(0,.pins 2),(1,.box [.sl 1 ((tkW ws b k).1.map Jx),.bool (tkW ws b k).2]),(2,.buf 3 1 ((tkL ws b k).map Jh))],3⟩
 ok:=fun k=>k<=ws.length
 ms:=fun k=>ws.length-k }
abbrev JsL(ws:List (List UInt8)):=((List.map Jx ws).length:Int)
abbrev Jqh(ws:List (List UInt8))(b:Bool)(g:Nat):=List.map Jx (tkW ws b g).fst
abbrev Z51c(ws:List (List UInt8))(b:Bool)(g:Nat):=[AV.sl 1 (List.map Jx (wdR (dS (Jqh ws b g)))),AV.bool (nbW (dS (Jqh ws b g)) (tkW ws b g).snd)]
theorem w228(ws:List (List UInt8))(b:Bool)(hw:ws.length<=1000000)(hl:∀ x,x ∈ ws->x.length<=1000000):WCall Tryz.prog G0 228 [.ptr 1 0] [ABlk.box [.sl 1 (ws.map Jx),.bool b]] (.sl 1 ((tkL ws b ws.length).map Jh)) [ABlk.box [.sl 1 ((tkW ws b ws.length).1.map Jx),.bool (tkW ws b ws.length).2]]:=by
 have key :
  (∃ (g:Nat),g<=ws.length/\AS.mk [(0,AV.ptr 1 0),(3,AV.own 2 0),(4,AV.fn (Fn.func 223) [AV.ptr 1 0] []),(11,AV.i (JsL ws)),(12,AV.i 0)] [(0,ABlk.pins 2),(1,ABlk.box [AV.sl 1 (List.map Jx ws),AV.bool b]),(2,
  ABlk.buf 3 1 [])] 3=AS.mk [(0,AV.ptr 1 0),(3,AV.own 2 (List.map Jh (tkL ws b g)).length),(4,AV.fn (Fn.func 223) [AV.ptr 1 0] []),(11,AV.i (JsL ws)),(12,AV.i (g:Int))] [(0,ABlk.pins 2),(1,ABlk.box [AV.sl 1 (Jqh
  ws b g),AV.bool (tkW ws b g).snd]),(2,ABlk.buf 3 1 (List.map Jh (tkL ws b g)))] 3)/\∀ (g:Nat),g<=ws.length->(decide ((g:Int) < (JsL ws))=true->(List.map Jh (tkL ws b g)).length+1<=9223372036854775807 /\
  ((List.map Jh (tkL ws b g)).length+1) * 8<=140737488355328/\WCall Tryz.prog G0 223 [AV.ptr 1 0] [ABlk.box [AV.sl 1 (Jqh ws b g),AV.bool (tkW ws b g).snd]] (AV.i (nvW (dS (Jqh ws b g)) (tkW ws b g).snd)) [ABlk.box (Z51c ws
  b g)]/\Jg ((g:Int)+1)/\∃ (g':Nat),g'<=ws.length/\ws.length-g' < ws.length-g/\AS.mk [(0,AV.ptr 1 0),(3,AV.own 2 ((List.map Jh (tkL ws b g)).length+1)),(4,AV.fn (Fn.func 223) [AV.ptr 1 0] []),(11,AV.i
  (JsL ws)),(12,AV.i ((g:Int)+1))] [(0,ABlk.pins 2),(1,ABlk.box (Z51c ws b g)),(2,ABlk.buf 3 1 (List.map Jh (tkL ws b g)++[[AV.i (nvW (dS (Jqh ws b g)) (tkW ws b g).snd)]]))] 3=AS.mk [(0,AV.ptr 1 0),(3,AV.own 2
  (List.map Jh (tkL ws b g')).length),(4,AV.fn (Fn.func 223) [AV.ptr 1 0] []),(11,AV.i (JsL ws)),(12,AV.i (g':Int))] [(0,ABlk.pins 2),(1,ABlk.box [AV.sl 1 (List.map Jx (tkW ws b g').fst),AV.bool (tkW ws b g').snd]),
  (2,ABlk.buf 3 1 (List.map Jh (tkL ws b g')))] 3)/\(decide ((g:Int) < (JsL ws))=false->AV.sl 1 (List.map Jh (tkL ws b g))=AV.sl 1 (List.map Jh (tkL ws b ws.length))/\[ABlk.box [AV.sl 1 (Jqh ws b g),AV.bool (tkW
  ws b g).snd]]=[ABlk.box [AV.sl 1 (List.map Jx (tkW ws b ws.length).fst),AV.bool (tkW ws b ws.length).snd]]):=by
   delta JsL Jqh Z51c
   have hwm:(List.map Jx ws).length=ws.length:=Kb _
   have hsub:=Jf9 ws b
   refine⟨⟨0,Nat.zero_le _,rfl⟩,fun g hg=>⟨fun hd=>?_,fun hd=>?_⟩⟩
   . have hlt:g < ws.length:=by have:=K0 hd;omega
     have hln:(List.map Jh (tkL ws b g)).length=g:=by rw[Kb,Jaa]
     rw[WT]
     have hs:=hsub g
     refine⟨by omega,by omega,Ji0 _ _ (Nat.le_trans hs.length_le hw) (fun x hx=>hl x (hs.subset hx)),by unfold Jg;omega,g+1,hlt,by omega,?_⟩
     rw[show(List.map Jh (tkL ws b (g+1)))=List.map Jh (tkL ws b g)++[[AV.i (nvW (tkW ws b g).1 (tkW ws b g).2)]] by rw[tkL,Db];rfl,Kf]
     rfl
   have hge:g=ws.length:=by have:=K1 hd;omega
   subst hge
   exact⟨rfl,rfl⟩
 exact JoT Tryz.f228 (gsB (fun i=>if i.beq 7 then[.frzo 2]else[]) { mkB Jgh 228 [] (fun i=>if i.beq 0 then some (la228 ws b)else none)with hs:=hs228 }) key (by kernel_rfl)
def hsT:Nat->List AV->List ABlk->Option AV
 | 139,_,[.box [.sl _ rows,.bool b]]=>some (.gv true (.tup [.str ((dS rows).headD []),.agg [.sl 1 ((wdR (dS rows)).map Jx),.bool (wdB (dS rows) b)]]))
 | 223,_,[.box [.sl _ rows,.bool b]]=>some (.gv true (.tup [.i (nvW (dS rows) b),.agg [.sl 1 ((wdR (dS rows)).map Jx),.bool (nbW (dS rows) b)]]))
 | 228,_,[.box [.sl _ rows,.bool b]]=>some (.gv true (.tup [.sl 1 ((tkL (dS rows) b (dS rows).length).map Jh),.agg [.sl 1 ((tkW (dS rows) b (dS rows).length).1.map Jx),.bool (tkW (dS rows) b (dS rows).length).2]]))
 | _,_,_=>none
def clL(l:List Nat):Operand->Bool
 | .tmp t=>l.any fun x=>x.beq t
 | _=>false
def nm1(ws:List (List UInt8))(b:Bool):List (List UInt8) × Bool:=(wdR ws,nbW ws b)
def rs1(ws:List (List UInt8))(b:Bool):List (List UInt8) × Bool:=tkW ws b ws.length
theorem h_len{ws:List (List UInt8)}{m:Nat}(hl:∀ x,x ∈ ws->x.length<=m):(ws.headD []).length<=m:=by
 cases ws with
 | nil=>exact Nat.zero_le _
 | cons x t=>exact hl x (by simp)
theorem Jb4(ws:List (List UInt8)):(wdR ws).length<=ws.length:=(Jez ws).length_le
theorem JeA{ws:List (List UInt8)}{m:Nat}(hl:∀ x,x ∈ ws->x.length<=m):∀ x,x ∈ wdR ws->x.length<=m:=fun x hx=>hl x ((Jez ws).subset hx)
abbrev Jos(ws:List (List UInt8)):=dS (List.map Jx ws)
abbrev JsK(ws:List (List UInt8)):=List.map Jx (wdR (Jos ws))
abbrev Z52c(ws:List (List UInt8))(b:Bool):=[AV.sl 1 (List.map Jx (wdR (dS (JsK ws)))),AV.bool (nbW (dS (JsK ws)) (wdB (Jos ws) b))]
theorem w226(t:Ty)(ws:List (List UInt8))(b:Bool)(ht:t.st.length<=1000000)(hw:ws.length<=1000000)(hl:∀ x,x ∈ ws->x.length<=1000000):WCall Tryz.prog G0 226 [.ptr 1 0,.ptr 2 0] [ABlk.box [.str t.name,.sl 1 (t.sh.map Jh),.i t.d0,.i t.d1,.i t.d2,.i t.d3,.i t.d4,.i t.d5,.i t.d6,.i t.d7,.i t.side,.sl 1 (t.sq.map Jh),.own 3 (t.st.map Ji).length],ABlk.box [.sl 1 (ws.map Jx),.bool b],ABlk.buf 182 2 (t.st.map Ji)] (.tup []) [ABlk.box [.str (ws.headD []),.sl 1 (t.sh.map Jh),.i t.d0,.i t.d1,.i t.d2,.i t.d3,.i t.d4,.i t.d5,.i t.d6,.i t.d7,.i (nvW (wdR ws) (wdB ws b)),.sl 1 (t.sq.map Jh),.own 3 (t.st.map Ji).length],ABlk.box [.sl 1 ((nm1 (wdR ws) (wdB ws b)).1.map Jx),.bool (nm1 (wdR ws) (wdB ws b)).2],ABlk.buf 182 2 (t.st.map Ji)]:=by
 have key :
  WCall Tryz.prog G0 139 [AV.ptr 1 0] [ABlk.box [AV.sl 1 (List.map Jx ws),AV.bool b]] (AV.str ((Jos ws).headD [])) [ABlk.box [AV.sl 1 (JsK ws),AV.bool (wdB (Jos ws) b)]]/\WCall Tryz.prog G0 223 [AV.ptr 1 0] [ABlk.box [AV.sl 1
  (JsK ws),AV.bool (wdB (Jos ws) b)]] (AV.i (nvW (dS (JsK ws)) (wdB (Jos ws) b))) [ABlk.box (Z52c ws b)]/\AV.tup []=AV.tup []/\[ABlk.box [AV.str ((Jos ws).headD []),AV.sl 1 (List.map Jh t.sh),AV.i t.d0,AV.i t.d1,AV.i
  t.d2,AV.i t.d3,AV.i t.d4,AV.i t.d5,AV.i t.d6,AV.i t.d7,AV.i (nvW (dS (JsK ws)) (wdB (Jos ws) b)),AV.sl 1 (List.map Jh t.sq),AV.own 3 (List.map Ji t.st).length],ABlk.box (Z52c ws b),ABlk.buf 182 2 (List.map Ji
  t.st)]=[ABlk.box [AV.str (ws.headD []),AV.sl 1 (List.map Jh t.sh),AV.i t.d0,AV.i t.d1,AV.i t.d2,AV.i t.d3,AV.i t.d4,AV.i t.d5,AV.i t.d6,AV.i t.d7,AV.i (nvW (wdR ws) (wdB ws b)),AV.sl 1 (List.map Jh t.sq),AV.own 3
  (List.map Ji t.st).length],ABlk.box [AV.sl 1 (List.map Jx (wdR (wdR ws))),AV.bool (nbW (wdR ws) (wdB ws b))],ABlk.buf 182 2 (List.map Ji t.st)]:=by
   delta JsK Jos Z52c
   simp only[WT]
   exact⟨w139 ws b hw,Ji0 _ _ (Nat.le_trans (Jb4 ws) hw) (JeA hl),trivial,by first | trivial | rfl⟩
 exact JoT Tryz.f226 ({ mkB Jgh 226 [] QJ with hs:=hsT }) key (by kernel_rfl)
abbrev Jor(ws:List (List UInt8)):=dS (List.map Jx ws)
abbrev Z53a(ws:List (List UInt8))(b:Bool):=[AV.sl 1 (List.map Jx (tkW (Jor ws) b (Jor ws).length).fst),AV.bool (tkW (Jor ws) b (Jor ws).length).snd]
theorem w227(t:Ty)(ws:List (List UInt8))(b:Bool)(ht:t.st.length<=1000000)(hw:ws.length<=1000000)(hl:∀ x,x ∈ ws->x.length<=1000000):WCall Tryz.prog G0 227 [.ptr 1 0,.ptr 2 0] [ABlk.box [.str t.name,.sl 1 (t.sh.map Jh),.i t.d0,.i t.d1,.i t.d2,.i t.d3,.i t.d4,.i t.d5,.i t.d6,.i t.d7,.i t.side,.sl 1 (t.sq.map Jh),.own 3 (t.st.map Ji).length],ABlk.box [.sl 1 (ws.map Jx),.bool b],ABlk.buf 182 2 (t.st.map Ji)] (.tup []) [ABlk.box [.str t.name,.sl 1 ((tkL ws b ws.length).map Jh),.i t.d0,.i t.d1,.i t.d2,.i t.d3,.i t.d4,.i t.d5,.i t.d6,.i t.d7,.i t.side,.sl 1 (t.sq.map Jh),.own 3 (t.st.map Ji).length],ABlk.box [.sl 1 ((rs1 ws b).1.map Jx),.bool (rs1 ws b).2],ABlk.buf 182 2 (t.st.map Ji)]:=by
 have key :
  WCall Tryz.prog G0 228 [AV.ptr 1 0] [ABlk.box [AV.sl 1 (List.map Jx ws),AV.bool b]] (AV.sl 1 (List.map Jh (tkL (Jor ws) b (Jor ws).length))) [ABlk.box (Z53a ws b)]/\AV.tup []=AV.tup []/\[ABlk.box [AV.str t.name,AV.sl 1
  (List.map Jh (tkL (Jor ws) b (Jor ws).length)),AV.i t.d0,AV.i t.d1,AV.i t.d2,AV.i t.d3,AV.i t.d4,AV.i t.d5,AV.i t.d6,AV.i t.d7,AV.i t.side,AV.sl 1 (List.map Jh t.sq),AV.own 3 (List.map Ji t.st).length],ABlk.box
  (Z53a ws b),ABlk.buf 182 2 (List.map Ji t.st)]=[ABlk.box [AV.str t.name,AV.sl 1 (List.map Jh (tkL ws b ws.length)),AV.i t.d0,AV.i t.d1,AV.i t.d2,AV.i t.d3,AV.i t.d4,AV.i t.d5,AV.i t.d6,AV.i t.d7,AV.i t.side,AV.sl
  1 (List.map Jh t.sq),AV.own 3 (List.map Ji t.st).length],ABlk.box [AV.sl 1 (List.map Jx (rs1 ws b).fst),AV.bool (rs1 ws b).snd],ABlk.buf 182 2 (List.map Ji t.st)]:=by
   delta Z53a Jor
   simp only[WT]
   exact⟨w228 ws b hw hl,trivial,rfl⟩
 exact JoT Tryz.f227 ({ mkB Jgh 227 [] QJ with hs:=hsT }) key (by kernel_rfl)
abbrev Joq(ws:List (List UInt8)):=dS (List.map Jx ws)
abbrev Z54a(ws:List (List UInt8))(b:Bool):=[AV.sl 1 (List.map Jx (tkW (Joq ws) b (Joq ws).length).fst),AV.bool (tkW (Joq ws) b (Joq ws).length).snd]
theorem w230(t:Ty)(ws:List (List UInt8))(b:Bool)(ht:t.st.length<=1000000)(hw:ws.length<=1000000)(hl:∀ x,x ∈ ws->x.length<=1000000):WCall Tryz.prog G0 230 [.ptr 1 0,.ptr 2 0] [ABlk.box [.str t.name,.sl 1 (t.sh.map Jh),.i t.d0,.i t.d1,.i t.d2,.i t.d3,.i t.d4,.i t.d5,.i t.d6,.i t.d7,.i t.side,.sl 1 (t.sq.map Jh),.own 3 (t.st.map Ji).length],ABlk.box [.sl 1 (ws.map Jx),.bool b],ABlk.buf 182 2 (t.st.map Ji)] (.tup []) [ABlk.box [.str t.name,.sl 1 (t.sh.map Jh),.i t.d0,.i t.d1,.i t.d2,.i t.d3,.i t.d4,.i t.d5,.i t.d6,.i t.d7,.i t.side,.sl 1 ((tkL ws b ws.length).map Jh),.own 3 (t.st.map Ji).length],ABlk.box [.sl 1 ((rs1 ws b).1.map Jx),.bool (rs1 ws b).2],ABlk.buf 182 2 (t.st.map Ji)]:=by
 have key :
  WCall Tryz.prog G0 228 [AV.ptr 1 0] [ABlk.box [AV.sl 1 (List.map Jx ws),AV.bool b]] (AV.sl 1 (List.map Jh (tkL (Joq ws) b (Joq ws).length))) [ABlk.box (Z54a ws b)]/\AV.tup []=AV.tup []/\[ABlk.box [AV.str t.name,AV.sl 1
  (List.map Jh t.sh),AV.i t.d0,AV.i t.d1,AV.i t.d2,AV.i t.d3,AV.i t.d4,AV.i t.d5,AV.i t.d6,AV.i t.d7,AV.i t.side,AV.sl 1 (List.map Jh (tkL (Joq ws) b (Joq ws).length)),AV.own 3 (List.map Ji t.st).length],ABlk.box
  (Z54a ws b),ABlk.buf 182 2 (List.map Ji t.st)]=[ABlk.box [AV.str t.name,AV.sl 1 (List.map Jh t.sh),AV.i t.d0,AV.i t.d1,AV.i t.d2,AV.i t.d3,AV.i t.d4,AV.i t.d5,AV.i t.d6,AV.i t.d7,AV.i t.side,AV.sl 1 (List.map
  Jh (tkL ws b ws.length)),AV.own 3 (List.map Ji t.st).length],ABlk.box [AV.sl 1 (List.map Jx (rs1 ws b).fst),AV.bool (rs1 ws b).snd],ABlk.buf 182 2 (List.map Ji t.st)]:=by
   delta Z54a Joq
   simp only[WT]
   exact⟨w228 ws b hw hl,trivial,rfl⟩
 exact JoT Tryz.f230 ({ mkB Jgh 230 [] QJ with hs:=hsT }) key (by kernel_rfl)
def rdNx:List AV->Option AV
 | [.int _ 0,_]=>some (.i 1)
 | [.int _ 1,_]=>some (.i 2)
 | [.int _ 2,_]=>some (.i 3)
 | [.int _ 3,_]=>some (.i 4)
 | [.int _ 4,_]=>some (.i 5)
 | [.int _ 5,_]=>some (.i 6)
 | [.int _ 6,_]=>some (.i 7)
 | _=>some (.i 8)
abbrev Jok(ws:List (List UInt8)):=dS (List.map Jx ws)
abbrev JsJ(ws:List (List UInt8)):=List.map Jx (wdR (Jok ws))
abbrev Jom(ws:List (List UInt8)):=List.map Jx (wdR (dS (JsJ ws)))
abbrev Jop(ws:List (List UInt8)):=dS (List.map Jx (wdR (dS (Jom ws))))
abbrev Jt6(ws:List (List UInt8))(b:Bool):=nbW (dS (JsJ ws)) (nbW (Jok ws) b)
abbrev Jmd(ws:List (List UInt8))(b:Bool):=nbW (dS (Jom ws)) (Jt6 ws b)
abbrev Jol(ws:List (List UInt8)):=List.map Jx (wdR (Jop ws))
abbrev Joo(ws:List (List UInt8)):=dS (List.map Jx (wdR (dS (Jol ws))))
abbrev Jon(ws:List (List UInt8))(b:Bool):=nbW (dS (Jol ws)) (nbW (Jop ws) (Jmd ws b))
abbrev Z55f(ws:List (List UInt8)):=dS (List.map Jx (wdR (Joo ws)))
abbrev Z55g(ws:List (List UInt8))(b:Bool):=nbW (wdR (wdR (wdR (wdR ws)))) (nbW (wdR (wdR (wdR ws))) (nbW (wdR (wdR ws)) (nbW (wdR ws) (nbW ws b))))
abbrev JlO(ws:List (List UInt8)):=wdR (wdR (wdR (wdR (wdR ws))))
abbrev JsI(ws:List (List UInt8)):=List.map Jx (wdR (Z55f ws))
abbrev Jt5(ws:List (List UInt8))(b:Bool):=nbW (Z55f ws) (nbW (Joo ws) (Jon ws b))
abbrev Z55o(ws:List (List UInt8))(b:Bool):=[ABlk.box [AV.sl 1 (List.map Jx (wdR (Joo ws))),AV.bool (nbW (Joo ws) (Jon ws b))]]
abbrev Z55p(ws:List (List UInt8))(b:Bool):=[AV.sl 1 (List.map Jx (wdR (dS (JsI ws)))),AV.bool (nbW (dS (JsI ws)) (Jt5 ws b))]
theorem w229(t:Ty)(ws:List (List UInt8))(b:Bool)(ht:t.st.length<=1000000)(hw:ws.length<=1000000)(hl:∀ x,x ∈ ws->x.length<=1000000):WCall Tryz.prog G0 229 [.ptr 1 0,.ptr 2 0] [ABlk.box [.str t.name,.sl 1 (t.sh.map Jh),.i t.d0,.i t.d1,.i t.d2,.i t.d3,.i t.d4,.i t.d5,.i t.d6,.i t.d7,.i t.side,.sl 1 (t.sq.map Jh),.own 3 (t.st.map Ji).length],ABlk.box [.sl 1 (ws.map Jx),.bool b],ABlk.buf 182 2 (t.st.map Ji)] (.tup []) [ABlk.box [.str t.name,.sl 1 (t.sh.map Jh),.i (nvW (tkW ws b 0).1 (tkW ws b 0).2),.i (nvW (tkW ws b 1).1 (tkW ws b 1).2),.i (nvW (tkW ws b 2).1 (tkW ws b 2).2),.i (nvW (tkW ws b 3).1 (tkW ws b 3).2),.i (nvW (tkW ws b 4).1 (tkW ws b 4).2),.i (nvW (tkW ws b 5).1 (tkW ws b 5).2),.i (nvW (tkW ws b 6).1 (tkW ws b 6).2),.i (nvW (tkW ws b 7).1 (tkW ws b 7).2),.i t.side,.sl 1 (t.sq.map Jh),.own 3 (t.st.map Ji).length],ABlk.box [.sl 1 ((tkW ws b 8).1.map Jx),.bool (tkW ws b 8).2],ABlk.buf 182 2 (t.st.map Ji)]:=by
 have key :
  (0:Int)<=0/\(0:Int) < (8:Int)/\WCall Tryz.prog G0 223 [AV.ptr 1 0] [ABlk.box [AV.sl 1 (List.map Jx ws),AV.bool b]] (AV.i (nvW (Jok ws) b)) [ABlk.box [AV.sl 1 (JsJ ws),AV.bool (nbW (Jok ws) b)]]/\Jg ((0:Int) +
  1)/\AV.i ((0:Int)+1)=AV.i 1/\(0:Int)<=1/\(1:Int) < (8:Int)/\WCall Tryz.prog G0 223 [AV.ptr 1 0] [ABlk.box [AV.sl 1 (JsJ ws),AV.bool (nbW (Jok ws) b)]] (AV.i (nvW (dS (JsJ ws)) (nbW (Jok ws) b))) [ABlk.box
  [AV.sl 1 (Jom ws),AV.bool (Jt6 ws b)]]/\Jg ((1:Int)+1)/\AV.i ((1:Int)+1)=AV.i 2/\(0:Int)<=2/\(2:Int) < (8:Int)/\WCall Tryz.prog G0 223 [AV.ptr 1 0] [ABlk.box [AV.sl 1 (Jom ws),AV.bool (Jt6 ws b)]]
  (AV.i (nvW (dS (Jom ws)) (Jt6 ws b))) [ABlk.box [AV.sl 1 (List.map Jx (wdR (dS (Jom ws)))),AV.bool (Jmd ws b)]]/\Jg ((2:Int)+1)/\AV.i ((2:Int)+1)=AV.i 3/\(0:Int)<=3/\(3:Int) < (8:Int)/\WCall
  Tryz.prog G0 223 [AV.ptr 1 0] [ABlk.box [AV.sl 1 (List.map Jx (wdR (dS (Jom ws)))),AV.bool (Jmd ws b)]] (AV.i (nvW (Jop ws) (Jmd ws b))) [ABlk.box [AV.sl 1 (Jol ws),AV.bool (nbW (Jop ws) (Jmd ws b))]]/\Jg ((3:Int) +
  1)/\AV.i ((3:Int)+1)=AV.i 4/\(0:Int)<=4/\(4:Int) < (8:Int)/\WCall Tryz.prog G0 223 [AV.ptr 1 0] [ABlk.box [AV.sl 1 (Jol ws),AV.bool (nbW (Jop ws) (Jmd ws b))]] (AV.i (nvW (dS (Jol ws)) (nbW (Jop ws) (Jmd ws
  b)))) [ABlk.box [AV.sl 1 (List.map Jx (wdR (dS (Jol ws)))),AV.bool (Jon ws b)]]/\Jg ((4:Int)+1)/\AV.i ((4:Int)+1)=AV.i 5/\(0:Int)<=5/\(5:Int) < (8:Int)/\WCall Tryz.prog G0 223 [AV.ptr 1 0] [ABlk.box
  [AV.sl 1 (List.map Jx (wdR (dS (Jol ws)))),AV.bool (Jon ws b)]] (AV.i (nvW (Joo ws) (Jon ws b))) (Z55o ws b)/\Jg ((5:Int)+1)/\AV.i ((5:Int)+1)=AV.i 6/\(0:Int)<=6/\(6:Int) < (8:Int)/\WCall Tryz.prog
  G0 223 [AV.ptr 1 0] (Z55o ws b) (AV.i (nvW (Z55f ws) (nbW (Joo ws) (Jon ws b)))) [ABlk.box [AV.sl 1 (JsI ws),AV.bool (Jt5 ws b)]]/\Jg ((6:Int)+1)/\AV.i ((6:Int)+1)=AV.i 7/\(0:Int)<=7/\(7:Int) < (8:Int)
  /\ WCall Tryz.prog G0 223 [AV.ptr 1 0] [ABlk.box [AV.sl 1 (JsI ws),AV.bool (Jt5 ws b)]] (AV.i (nvW (dS (JsI ws)) (Jt5 ws b))) [ABlk.box (Z55p ws b)]/\Jg ((7:Int)+1)/\AV.i ((7:Int)+1)=AV.i 8/\AV.tup []=AV.tup []
  /\ [ABlk.box [AV.str t.name,AV.sl 1 (List.map Jh t.sh),AV.i (nvW (Jok ws) b),AV.i (nvW (dS (JsJ ws)) (nbW (Jok ws) b)),AV.i (nvW (dS (Jom ws)) (Jt6 ws b)),AV.i (nvW (Jop ws) (Jmd ws b)),AV.i (nvW (dS (Jol ws)) (nbW
  (Jop ws) (Jmd ws b))),AV.i (nvW (Joo ws) (Jon ws b)),AV.i (nvW (Z55f ws) (nbW (Joo ws) (Jon ws b))),AV.i (nvW (dS (JsI ws)) (Jt5 ws b)),AV.i t.side,AV.sl 1 (List.map Jh t.sq),AV.own 3 (List.map Ji t.st).length],
  ABlk.box (Z55p ws b),ABlk.buf 182 2 (List.map Ji t.st)]=[ABlk.box [AV.str t.name,AV.sl 1 (List.map Jh t.sh),AV.i (nvW ws b),AV.i (nvW (wdR ws) (nbW ws b)),AV.i (nvW (wdR (wdR ws)) (nbW (wdR ws) (nbW ws b))),AV.i (nvW
  (wdR (wdR (wdR ws))) (nbW (wdR (wdR ws)) (nbW (wdR ws) (nbW ws b)))),AV.i (nvW (wdR (wdR (wdR (wdR ws)))) (nbW (wdR (wdR (wdR ws))) (nbW (wdR (wdR ws)) (nbW (wdR ws) (nbW ws b))))),AV.i (nvW (JlO ws) (Z55g ws b)),AV.i (nvW (wdR
  (JlO ws)) (nbW (JlO ws) (Z55g ws b))),AV.i (nvW (wdR (wdR (JlO ws))) (nbW (wdR (JlO ws)) (nbW (JlO ws) (Z55g ws b)))),AV.i t.side,AV.sl 1 (List.map Jh t.sq),AV.own 3 (List.map Ji t.st).length],ABlk.box [AV.sl 1
  (List.map Jx (wdR (wdR (wdR (JlO ws))))),AV.bool (nbW (wdR (wdR (JlO ws))) (nbW (wdR (JlO ws)) (nbW (JlO ws) (Z55g ws b))))],ABlk.buf 182 2 (List.map Ji t.st)]:=by
   delta Jop Jmd Joo Jon JsJ Z55f Z55g JlO Jom Jt6 Jol JsI Jt5 Jok Z55o Z55p
   simp only[WT]
   have hq:∀ k,(tkW ws b k).1.length<=1000000:=fun k=>Nat.le_trans (Jf9 ws b k).length_le hw
   have hr:∀ k x,x ∈ (tkW ws b k).1->x.length<=1000000:=fun k x hx=>hl x ((Jf9 ws b k).subset hx)
   refine⟨by decide,by decide,Ji0 _ _ (hq 0) (hr 0),by decide,rfl,by decide,by decide,Ji0 _ _ (hq 1) (hr 1),by decide,rfl,by decide,by decide,Ji0 _ _ (hq 2) (hr 2),by decide,rfl,by decide,by decide,Ji0 _ _ (hq 3) (hr 3),by decide,rfl,by decide,by decide,Ji0 _ _ (hq 4) (hr 4),by decide,rfl,by decide,by decide,Ji0 _ _ (hq 5) (hr 5),by decide,rfl,by decide,by decide,Ji0 _ _ (hq 6) (hr 6),by decide,rfl,by decide,by decide,Ji0 _ _ (hq 7) (hr 7),by decide,rfl,trivial,by first | trivial | rfl⟩
 exact JoT Tryz.f229 ({ mkB Jgh 229 [(4,0,rdNx)] QJ with hs:=hsT,cl:=clL [6] }) key (by kernel_rfl)
abbrev Joi(ws:List (List UInt8)):=dS (List.map Jx ws)
abbrev Joj(ws:List (List UInt8)):=List.map Jx (wdR (Joi ws))
abbrev Z56b(ws:List (List UInt8))(b:Bool):=tkW (dS (Joj ws)) (nbW (Joi ws) b) (dS (Joj ws)).length
theorem w231(t:Ty)(ws:List (List UInt8))(b:Bool)(ht:t.st.length<=1000000)(hw:ws.length<=1000000)(hl:∀ x,x ∈ ws->x.length<=1000000):WCall Tryz.prog G0 231 [.ptr 1 0,.ptr 2 0] [ABlk.box [.str t.name,.sl 1 (t.sh.map Jh),.i t.d0,.i t.d1,.i t.d2,.i t.d3,.i t.d4,.i t.d5,.i t.d6,.i t.d7,.i t.side,.sl 1 (t.sq.map Jh),.own 3 (t.st.map Ji).length],ABlk.box [.sl 1 (ws.map Jx),.bool b],ABlk.buf 182 2 (t.st.map Ji)] (.tup []) [ABlk.box [.str t.name,.sl 1 (t.sh.map Jh),.i t.d0,.i t.d1,.i t.d2,.i t.d3,.i t.d4,.i t.d5,.i t.d6,.i t.d7,.i t.side,.sl 1 (t.sq.map Jh),.own 4 ((t.st++[Sg.mk (nvW ws b) (tkL (wdR ws) (nbW ws b) (wdR ws).length)]).map Ji).length],ABlk.box [.sl 1 ((rs1 (wdR ws) (nbW ws b)).1.map Jx),.bool (rs1 (wdR ws) (nbW ws b)).2],ABlk.dead,ABlk.buf 182 2 ((t.st++[Sg.mk (nvW ws b) (tkL (wdR ws) (nbW ws b) (wdR ws).length)]).map Ji)]:=by
 have key :
  WCall Tryz.prog G0 223 [AV.ptr 1 0] [ABlk.box [AV.sl 1 (List.map Jx ws),AV.bool b]] (AV.i (nvW (Joi ws) b)) [ABlk.box [AV.sl 1 (Joj ws),AV.bool (nbW (Joi ws) b)]]/\WCall Tryz.prog G0 228 [AV.ptr 1 0] [ABlk.box [AV.sl 1
  (Joj ws),AV.bool (nbW (Joi ws) b)]] (AV.sl 1 (List.map Jh (tkL (dS (Joj ws)) (nbW (Joi ws) b) (dS (Joj ws)).length))) [ABlk.box [AV.sl 1 (List.map Jx (Z56b ws b).fst),AV.bool (Z56b ws b).snd]]/\(List.map Ji
  t.st).length+1<=9223372036854775807/\((List.map Ji t.st).length+1) * 32<=140737488355328/\AV.tup []=AV.tup []/\[ABlk.box [AV.str t.name,AV.sl 1 (List.map Jh t.sh),AV.i t.d0,AV.i t.d1,AV.i t.d2,AV.i t.d3,AV.i
  t.d4,AV.i t.d5,AV.i t.d6,AV.i t.d7,AV.i t.side,AV.sl 1 (List.map Jh t.sq),AV.own 4 ((List.map Ji t.st).length+1)],ABlk.box [AV.sl 1 (List.map Jx (Z56b ws b).fst),AV.bool (Z56b ws b).snd],ABlk.dead,ABlk.buf 182 2
  (List.map Ji t.st++[[AV.i (nvW (Joi ws) b),AV.sl 1 (List.map Jh (tkL (dS (Joj ws)) (nbW (Joi ws) b) (dS (Joj ws)).length))]])]=[ABlk.box [AV.str t.name,AV.sl 1 (List.map Jh t.sh),AV.i t.d0,AV.i t.d1,AV.i t.d2,
  AV.i t.d3,AV.i t.d4,AV.i t.d5,AV.i t.d6,AV.i t.d7,AV.i t.side,AV.sl 1 (List.map Jh t.sq),AV.own 4 (List.map Ji (t.st++[Sg.mk (nvW ws b) (tkL (wdR ws) (nbW ws b) (wdR ws).length)])).length],ABlk.box [AV.sl 1 (List.map
  Jx (rs1 (wdR ws) (nbW ws b)).fst),AV.bool (rs1 (wdR ws) (nbW ws b)).snd],ABlk.dead,ABlk.buf 182 2 (List.map Ji (t.st++[Sg.mk (nvW ws b) (tkL (wdR ws) (nbW ws b) (wdR ws).length)]))]:=by
   delta Joj Z56b Joi
   have hst:(List.map Ji t.st).length=t.st.length:=Kb _
   simp only[WT]
   refine⟨Ji0 ws b hw hl,w228 _ _ (Nat.le_trans (Jb4 ws) hw) (JeA hl),by omega,by omega,trivial,?_⟩
   rw[Db,Kf]
   rfl
 exact JoT Tryz.f231 (Jkc 2 7 (fun a=>{ a with fz:=false }) { mkB Jgh 231 [] QJ with hs:=hsT }) key (by kernel_rfl)
def UT(x:List UInt8):List UInt8:=if Ul x [10]then x.take (x.length-[(10:UInt8)].length)else x
def Qc(x:List UInt8):List (List UInt8):=spl 32 (UT x)
def JA:Nat->List UInt8
 | 0=>[116,121,112,101]
 | 1=>[115,104,97,114,101,115]
 | 2=>[100,105,114,101,99,116]
 | 3=>[115,113,117,97,114,101,115]
 | _=>[112,111,119,101,114]
def zT:Ty:=⟨[],[],0,0,0,0,0,0,0,0,0,[],[]⟩
def w0L(x:List UInt8):List (List UInt8):=wdR (Qc x)
def b0L(x:List UInt8):Bool:=wdB (Qc x) false
def lfK:Nat->List (List UInt8)->Bool->List (List UInt8) × Bool
 | 0,ws,b=>nm1 (wdR ws) (wdB ws b)
 | 1,ws,b=>rs1 ws b
 | 2,ws,b=>tkW ws b 8
 | 3,ws,b=>rs1 ws b
 | _,ws,b=>rs1 (wdR ws) (nbW ws b)
def upK:Nat->List (List UInt8)->Bool->Ty->Ty
 | 0,ws,b,t=>⟨ws.headD [],t.sh,t.d0,t.d1,t.d2,t.d3,t.d4,t.d5,t.d6,t.d7,nvW (wdR ws) (wdB ws b),t.sq,t.st⟩
 | 1,ws,b,t=>⟨t.name,tkL ws b ws.length,t.d0,t.d1,t.d2,t.d3,t.d4,t.d5,t.d6,t.d7,t.side,t.sq,t.st⟩
 | 2,ws,b,t=>⟨t.name,t.sh,nvW (tkW ws b 0).1 (tkW ws b 0).2,nvW (tkW ws b 1).1 (tkW ws b 1).2,nvW (tkW ws b 2).1 (tkW ws b 2).2,nvW (tkW ws b 3).1 (tkW ws b 3).2,nvW (tkW ws b 4).1 (tkW ws b 4).2,nvW (tkW ws b 5).1 (tkW ws b 5).2,nvW (tkW ws b 6).1 (tkW ws b 6).2,nvW (tkW ws b 7).1 (tkW ws b 7).2,t.side,t.sq,t.st⟩
 | 3,ws,b,t=>⟨t.name,t.sh,t.d0,t.d1,t.d2,t.d3,t.d4,t.d5,t.d6,t.d7,t.side,tkL ws b ws.length,t.st⟩
 | _,ws,b,t=>⟨t.name,t.sh,t.d0,t.d1,t.d2,t.d3,t.d4,t.d5,t.d6,t.d7,t.side,t.sq,t.st++[Sg.mk (nvW ws b) (tkL (wdR ws) (nbW ws b) (wdR ws).length)]⟩
def bdK(k:Nat)(x:List UInt8):Bool:=if(if(if(!Ul x [10])=true then true else !((Qc x).headD [] == JA k))=true then true else(lfK k (w0L x) (b0L x)).2)=true then true else decide (((lfK k (w0L x) (b0L x)).1.length:Int) > 0)
def knd(i:Nat):Nat:=if i < 4 then i else 4
def bdJ(i:Nat)(x:List UInt8):Bool:=bdK (knd i) x
def tyN(L:List (List UInt8)):Nat->Ty
 | 0=>zT
 | n+1=>upK (knd n) (w0L (L.getD n [])) (b0L (L.getD n [])) (tyN L n)
def kS(s:List UInt8):Nat:=fiN (fun i=>bdJ i ((lns s).getD i [])) (lns s).length
def eT(n:Nat)(t:Ty):Int:=Jb [Jk (decide ((n:Int) < 4)) 25,Qs t]
def psT(l:Int)(k n:Nat)(t:Ty):AV:=if decide (l > 4096)=true then .tup [.agg (Jf zT),.i 0,.i 26]else if k < n then .tup [.agg (Jf zT),.i k,.i 25]else if eT n t != 0 then .tup [.agg (Jf zT),.i n,.i (eT n t)]else .tup [.agg (Jf t),.i 0,.i 0]
structure TyB(m:Nat)(t:Ty):Prop where
 nm:t.name.length<=m
 sh:t.sh.length<=m
 sq:t.sq.length<=m
 e:∀ x,x ∈ t.st->x.e.length<=m
theorem Jpg:∀ {L:List (List UInt8)} {s:List UInt8},JkF L s->L.length<=s.length/\∀ x,x ∈ L->x.length<=s.length
 | [],s,_=>⟨Nat.zero_le _,fun x hx=>by simp at hx⟩
 | x::L,s,⟨h1,h2,h3⟩=>by
  obtain⟨i1,i2⟩:=Jpg h3
  have h4:=Jjb h1
  have h5:=congrArg List.length (Jnh s)
  rw[Kf]at h5
  refine⟨by rw[List.length_cons];omega,fun y hy=>?_⟩
  rcases List.mem_cons.1 hy with rfl | hy
  . rw[h2];omega
  have:=i2 y hy;omega
theorem Jjl(c:UInt8):∀ s:List UInt8,(spl c s).length<=s.length+1/\∀ x,x ∈ spl c s->x.length<=s.length
 | []=>by simp[spl]
 | a::t=>by
  obtain⟨h1,h2⟩:=Jjl c t
  have h3:=Jgg c t
  rw[spl]
  split
  . refine⟨by simp only[List.length_cons];omega,fun x hx=>?_⟩
    rcases List.mem_cons.1 hx with rfl | hx
    . exact Nat.zero_le _
    have:=h2 x hx;simp only[List.length_cons];omega
  have h4:=congrArg List.length h3
  rw[List.length_cons]at h4
  refine⟨by simp only[List.length_cons];omega,fun x hx=>?_⟩
  rcases List.mem_cons.1 hx with rfl | hx
  . have:=h2 ((spl c t).headD []) (by rw[<- h3];exact List.mem_cons_self ..)
    simp only[List.length_cons];omega
  have:=h2 x (by rw[<- h3];exact List.mem_cons_of_mem _ hx)
  simp only[List.length_cons];omega
theorem Jg6(x:List UInt8):(UT x).length<=x.length:=by
 unfold UT
 split
 . rw[Kg];omega
 exact Kr _
theorem JiZ(x:List UInt8):(Qc x).length<=x.length+1/\∀ y,y ∈ Qc x->y.length<=x.length:=by
 have h1:=Jjl 32 (UT x)
 have h2:=Jg6 x
 exact⟨by unfold Qc;omega,fun y hy=>by have:=h1.2 y hy;omega⟩
theorem Ji1(x:List UInt8):(w0L x).length<=x.length+1/\∀ y,y ∈ w0L x->y.length<=x.length:=by
 have h:=JiZ x
 exact⟨Nat.le_trans (Jb4 _) h.1,JeA h.2⟩
theorem up_st(k:Nat)(ws:List (List UInt8))(b:Bool)(t:Ty):(upK k ws b t).st.length<=t.st.length+1:=by
 match k with
 | 0=>exact Nat.le_succ _
 | 1=>exact Nat.le_succ _
 | 2=>exact Nat.le_succ _
 | 3=>exact Nat.le_succ _
 | _+4=>show(t.st++[_]).length<=_;rw[Kf];exact Kr _
theorem ty_st(L:List (List UInt8)):∀ n,(tyN L n).st.length<=n
 | 0=>Kr _
 | n+1=>Nat.le_trans (up_st _ _ _ _) (Nat.succ_le_succ (ty_st L n))
theorem up_b{m k:Nat}{ws:List (List UInt8)}{b:Bool}{t:Ty}(h:TyB m t)(hw:ws.length<=m)(hl:∀ x,x ∈ ws->x.length<=m):TyB m (upK k ws b t):=by
 match k with
 | 0=>exact⟨h_len hl,h.sh,h.sq,h.e⟩
 | 1=>exact⟨h.nm,by show(tkL _ _ _).length<=m;rw[Jaa];exact hw,h.sq,h.e⟩
 | 2=>exact⟨h.nm,h.sh,h.sq,h.e⟩
 | 3=>exact⟨h.nm,h.sh,by show(tkL _ _ _).length<=m;rw[Jaa];exact hw,h.e⟩
 | _+4 =>
  refine⟨h.nm,h.sh,h.sq,fun x hx=>?_⟩
  rcases List.mem_append.1 hx with hx | hx
  . exact h.e x hx
  rw[List.mem_singleton.1 hx]
  show(tkL _ _ _).length<=m
  rw[Jaa]
  exact Nat.le_trans (Jb4 ws) hw
theorem ty_b{L:List (List UInt8)}{m:Nat}(h:∀ x,x ∈ L->x.length+1<=m):∀ n,TyB m (tyN L n)
 | 0=>⟨Nat.zero_le _,Nat.zero_le _,Nat.zero_le _,fun x hx=>by cases hx⟩
 | n+1=>by
  have h1:(L.getD n []).length<=m/\(L.getD n [] ∈ L ∨ L.getD n []=[]):=by
   by_cases q:n < L.length
   . have:=h _ (JG (i:=n) q)
     exact⟨Nat.le_trans (Nat.le_succ _) this,.inl (JG q)⟩
   rw[Ka,K8 (by omega)]
   exact⟨Nat.zero_le _,.inr rfl⟩
  have h2:=Ji1 (L.getD n [])
  refine up_b (ty_b h n) ?_ fun x hx=>by have:=h2.2 x hx;omega
  rcases h1.2 with q | q
  . have:=h _ q
    omega
  rw[q]
  show(wdR (spl 32 (UT []))).length<=m
  have:(wdR (spl 32 (UT []))).length=0:=by decide
  omega
theorem ks_e{s x:List UInt8}{pre post:List (List UInt8)}(hL:lns s=pre++x::post)(hb:∀ j,j < pre.length->bdJ j ((lns s).getD j [])=false)(hx:bdJ pre.length x=true):kS s=pre.length/\pre.length < (lns s).length:=by
 have hgn:pre.length < (lns s).length:=by rw[hL];simp
 refine⟨VF (fun j hj=>hb j hj) ?_ hgn,hgn⟩
 show bdJ pre.length ((lns s).getD pre.length [])=true
 rw[hL,Ka,K7 (Kr _),Nat.sub_self]
 exact hx
theorem Jp5{s x:List UInt8}{pre post:List (List UInt8)}(hL:lns s=pre++x::post):(lns s).getD pre.length []=x:=by
 rw[hL,Ka,K7 (Kr _),Nat.sub_self]
 rfl
theorem ks_n{s:List UInt8}(hb:∀ j,j < (lns s).length->bdJ j ((lns s).getD j [])=false):kS s=(lns s).length:=VG hb
def oB(t:Ty)(id:Nat):ABlk:=.box [.str t.name,.sl 1 (t.sh.map Jh),.i t.d0,.i t.d1,.i t.d2,.i t.d3,.i t.d4,.i t.d5,.i t.d6,.i t.d7,.i t.side,.sl 1 (t.sq.map Jh),.own id (t.st.map Ji).length]
def hdS(rows:List (List AV)):List UInt8:=(dS rows).headD []
def tlS(rows:List (List AV)):List (List AV):=(wdR (dS rows)).map Jx
def tbS(rows:List (List AV))(b:Bool):Bool:=wdB (dS rows) b
def lrS(k:Nat)(rows:List (List AV))(b:Bool):List (List AV):=(lfK k (dS rows) b).1.map Jx
def lbS(k:Nat)(rows:List (List AV))(b:Bool):Bool:=(lfK k (dS rows) b).2
def sdS(rows:List (List AV))(b:Bool):Int:=nvW (wdR (dS rows)) (wdB (dS rows) b)
def tiS(rows:List (List AV))(b:Bool):List (List AV):=(tkL (dS rows) b (dS rows).length).map Jh
def dkS(i:Nat)(rows:List (List AV))(b:Bool):Int:=nvW (tkW (dS rows) b i).1 (tkW (dS rows) b i).2
def stS(rows:List (List AV))(b:Bool):List AV:=Ji (Sg.mk (nvW (dS rows) b) (tkL (wdR (dS rows)) (nbW (dS rows) b) (wdR (dS rows)).length))
def roB(x:List UInt8):List (List AV):=(spl 32 x).map Jx
def hs78:Nat->List AV->List ABlk->Option AV
 | 139,_,[.box [.sl _ rows,.bool b]]=>some (.gv true (.tup [.str (hdS rows),.agg [.sl 1 (tlS rows),.bool (tbS rows b)]]))
 | 226,_,[.box [_,sh,d0,d1,d2,d3,d4,d5,d6,d7,_,sq,st],.box [.sl _ rows,.bool b],.buf e k R]=>some (.gv true (.tup [.tup [],.agg [.str (hdS rows),sh,d0,d1,d2,d3,d4,d5,d6,d7,.i (sdS rows b),sq,st],.agg [.sl 1 (lrS 0 rows b),.bool (lbS 0 rows b)],.fresh e k R]))
 | 227,_,[.box [nm,_,d0,d1,d2,d3,d4,d5,d6,d7,sd,sq,st],.box [.sl _ rows,.bool b],.buf e k R]=>some (.gv true (.tup [.tup [],.agg [nm,.sl 1 (tiS rows b),d0,d1,d2,d3,d4,d5,d6,d7,sd,sq,st],.agg [.sl 1 (lrS 1 rows b),.bool (lbS 1 rows b)],.fresh e k R]))
 | 229,_,[.box [nm,sh,_,_,_,_,_,_,_,_,sd,sq,st],.box [.sl _ rows,.bool b],.buf e k R]=>some (.gv true (.tup [.tup [],.agg [nm,sh,.i (dkS 0 rows b),.i (dkS 1 rows b),.i (dkS 2 rows b),.i (dkS 3 rows b),.i (dkS 4 rows b),.i (dkS 5 rows b),.i (dkS 6 rows b),.i (dkS 7 rows b),sd,sq,st],.agg [.sl 1 (lrS 2 rows b),.bool (lbS 2 rows b)],.fresh e k R]))
 | 230,_,[.box [nm,sh,d0,d1,d2,d3,d4,d5,d6,d7,sd,_,st],.box [.sl _ rows,.bool b],.buf e k R]=>some (.gv true (.tup [.tup [],.agg [nm,sh,d0,d1,d2,d3,d4,d5,d6,d7,sd,.sl 1 (tiS rows b),st],.agg [.sl 1 (lrS 3 rows b),.bool (lbS 3 rows b)],.fresh e k R]))
 | 231,_,[.box [nm,sh,d0,d1,d2,d3,d4,d5,d6,d7,sd,sq,_],.box [.sl _ rows,.bool b],.buf e k R]=>some (.gv true (.tup [.tup [],.agg [nm,sh,d0,d1,d2,d3,d4,d5,d6,d7,sd,sq,.own 4 (R++[stS rows b]).length],.agg [.sl 1 (lrS 4 rows b),.bool (lbS 4 rows b)],.any,.fresh e k (R++[stS rows b])]))
 | _,_,_=>none
def sp78(s:List UInt8):Nat->List AV->Option AV
 | 136,[.str s]=>some (.fbox 164 [.str s])
 | 137,[.str s,_]=>some (.tup [.str (UT s),.bool (Ul s [10])])
 | 138,[.str s,_]=>some (.sl 1 (roB s))
 | 53,_=>some (.i (Qs (tyN (lns s) (lns s).length)))
 | n,x=>spR n x
def zB:ABlk:=.box [.str [],.ex (.slice none 0 0),.i 0,.i 0,.i 0,.i 0,.i 0,.i 0,.i 0,.i 0,.i 0,.ex (.slice none 0 0),.ex (.slice none 0 0)]
def fa78(s:List UInt8):FA:={
 X:=List UInt8,xs:=lns s,enc:=Jx
 post:=[.renc 4 12 6,.keep [] [1,2,3,4,5,6],.bound 9]
 Gh:=Nat
 st:=fun g=>⟨[(2,.ptr 1 0),(3,.ptr 2 0),(4,.ptr 3 0),(5,.ptr 4 0),(6,.ptr 5 0)],[(1,zB),(2,.box [.i 0]),(3,.box [.i 0]),(4,oB (tyN (lns s) g) 6),(5,.box [.i g]),(6,.buf 182 2 ((tyN (lns s) g).st.map Ji))],9⟩
 ok:=fun pre g=>g=pre.length/\∀ j,j < pre.length->bdJ j ((lns s).getD j [])=false }
def kz:List GS:=[.nilb 1 1 1,.nilb 1 11 1,.nilb 1 12 2]
def g78:Nat->List GS:=fun i=>(lk i [(2,kz),(4,[.reno 2 1,.reno 3 2,.reno 4 3,.reno 5 4,.reno 6 5,.nilb 4 1 1,.nilb 4 11 1,.ownb 4 12 182 2,.renc 4 12 6,.keep [0,2,3,4,5,6] [1,2,3,4,5,6],.bound 7]),
 (5,[.keep [2,3,4,5,6,19] [1,2,3,4,5,6,8],.bound 9]),
 (7,[.keep [2,3,4,5,6,8,9] [1,2,3,4,5,6],.bound 7]),(8,[.reno 10 7,.keep [2,3,4,5,6,9,10] [1,2,3,4,5,6,7],.bound 8]),(9,[.keep [2,3,4,5,6,9,10,11] [1,2,3,4,5,6,7],.bound 8]),
 (10,[.keep [2,3,4,5,6,9,10,11,12] [1,2,3,4,5,6,7],.bound 8]),(11,[.renc 4 12 6,.keep [2,3,4,5,6,9,10,11,12] [1,2,3,4,5,6,7],.bound 8]),(12,[.keep [2,3,4,5,6,62] [1,2,3,4,5,6],.bound 8]),(13,kz),(17,kz)]).getD []
def cN(k:Int)(S:AS):Prop:=match lk 5 S.b with
 | some (.box [.int _ n])=>n=k
 | _=>False
def cG(k:Int)(S:AS):Prop:=match lk 5 S.b with
 | some (.box [.int _ n])=>n>=k
 | _=>False
def fK(k:Int):AS->AS:=Jnw [2,3,4,5,6,9,10,11] [1,2,3,4,5,6,7] 8 11 fun _=>.i k
def cs78(i:Nat):Option (List ((AS->Prop) × (AS->AS))):=if i.beq 9 then some [(cN 0,fK 0),(cN 1,fK 1),(cN 2,fK 2),(cN 3,fK 3),(cG 4,fK 4)]else none
theorem hdS_e(ws:List (List UInt8)):hdS (ws.map Jx)=ws.headD []:=by rw[hdS,WT]
theorem tlS_e(ws:List (List UInt8)):tlS (ws.map Jx)=(wdR ws).map Jx:=by rw[tlS,WT]
theorem tbS_e(ws:List (List UInt8))(b:Bool):tbS (ws.map Jx) b=wdB ws b:=by rw[tbS,WT]
theorem Jkj(k:Nat)(ws:List (List UInt8))(b:Bool):lrS k (ws.map Jx) b=(lfK k ws b).1.map Jx:=by rw[lrS,WT]
theorem Jkx(k:Nat)(ws:List (List UInt8))(b:Bool):lbS k (ws.map Jx) b=(lfK k ws b).2:=by rw[lbS,WT]
theorem sdS_e(ws:List (List UInt8))(b:Bool):sdS (ws.map Jx) b=nvW (wdR ws) (wdB ws b):=by rw[sdS,WT]
theorem tiS_e(ws:List (List UInt8))(b:Bool):tiS (ws.map Jx) b=(tkL ws b ws.length).map Jh:=by rw[tiS,WT]
theorem JdW(i:Nat)(ws:List (List UInt8))(b:Bool):dkS i (ws.map Jx) b=nvW (tkW ws b i).1 (tkW ws b i).2:=by rw[dkS,WT]
theorem JgK{i k:Nat}(h:(i:Int)=(k:Int))(hk:k < 4):knd i=k:=by
 have:i=k:=by omega
 rw[this,knd,if_pos hk]
theorem knd_ge{i:Nat}(h:(i:Int)>=4):knd i=4:=by rw[knd,if_neg (by omega)]
theorem Jax{s x:List UInt8}{pre post:List (List UInt8)}(hL:lns s=pre++x::post)(hb:∀ j,j < pre.length->bdJ j ((lns s).getD j [])=false)(hx:bdJ pre.length x=false):∀ j,j < (pre++[x]).length->bdJ j ((lns s).getD j [])=false:=fun j hj=>by
 by_cases e:j < pre.length
 . exact hb j e
 rw[Kf,Kx]at hj
 have e2:j=pre.length:=by omega
 rw[e2,Jp5 hL]
 exact hx
theorem JqK{s x:List UInt8}{pre post:List (List UInt8)}(hL:lns s=pre++x::post):tyN (lns s) (pre++[x]).length=upK (knd pre.length) (w0L x) (b0L x) (tyN (lns s) pre.length):=by
 rw[Kf,Kx]
 show upK (knd pre.length) (w0L ((lns s).getD pre.length [])) (b0L ((lns s).getD pre.length [])) _=_
 rw[Jp5 hL]
abbrev JiP(x:List UInt8):=!Ul x [(10:UInt8)]
abbrev Jem(x:List UInt8):=roB (UT x)
abbrev Z57i:=[(115:UInt8),(113:UInt8),(117:UInt8),(97:UInt8),(114:UInt8),(101:UInt8),(115:UInt8)]
abbrev Z57Z(x:List UInt8):=if(JiP x)=true then true else !hdS (Jem x) == Z57i
abbrev QL(x:List UInt8):=tlS (Jem x)
abbrev QZ(x:List UInt8):=tbS (Jem x) false
abbrev Z57a(x:List UInt8):=!if(Z57Z x)=true then true else lbS 3 (QL x) (QZ x)
abbrev Z57k:=[(115:UInt8),(104:UInt8),(97:UInt8),(114:UInt8),(101:UInt8),(115:UInt8)]
abbrev Z57X(x:List UInt8):=if(JiP x)=true then true else !hdS (Jem x) == Z57k
abbrev Z57b(x:List UInt8):=!if(Z57X x)=true then true else lbS 1 (QL x) (QZ x)
abbrev Z57l:=[(100:UInt8),(105:UInt8),(114:UInt8),(101:UInt8),(99:UInt8),(116:UInt8)]
abbrev Z57Y(x:List UInt8):=if(JiP x)=true then true else !hdS (Jem x) == Z57l
abbrev Z57c(x:List UInt8):=!if(Z57Y x)=true then true else lbS 2 (QL x) (QZ x)
abbrev Z57o:=[(112:UInt8),(111:UInt8),(119:UInt8),(101:UInt8),(114:UInt8)]
abbrev Jof(x:List UInt8):=if(JiP x)=true then true else !hdS (Jem x) == Z57o
abbrev Z57d(x:List UInt8):=!if(Jof x)=true then true else lbS 4 (QL x) (QZ x)
abbrev JsD:=[(116:UInt8),(121:UInt8),(112:UInt8),(101:UInt8)]
abbrev Z57v(x:List UInt8):=if(JiP x)=true then true else !hdS (Jem x) == JsD
abbrev Z57e(x:List UInt8):=!if(Z57v x)=true then true else lbS 0 (QL x) (QZ x)
abbrev JW(s:List UInt8)(g:Nat):=tyN (lns s) g
abbrev UZ(s:List UInt8)(g:Nat):=List.map Ji (JW s g).st
abbrev JlN(s:List UInt8)(g:Nat)(x:List UInt8):=[(1,zB),(2,ABlk.box [AV.i 0]),(3,ABlk.box [AV.i 0]),(4,oB (JW s g) 6),(5,ABlk.box [AV.i (g:Int)]),(6,ABlk.buf 182 2 (UZ s g)),(7,ABlk.box [AV.sl 1 (Jem x),AV.bool false])]
abbrev Jhl(x:List UInt8):=!!Ul x [(10:UInt8)]
abbrev Jbu(x:List UInt8):=(Jhl x)=true->(Jhl x)=true
abbrev Jit:=[(2,AV.ptr 1 0),(3,AV.ptr 2 0),(4,AV.ptr 3 0),(5,AV.ptr 4 0),(6,AV.ptr 5 0)]
abbrev Z57q:=[AV.str [],AV.sl 1 [],AV.i 0,AV.i 0,AV.i 0,AV.i 0,AV.i 0,AV.i 0,AV.i 0,AV.i 0,AV.i 0,AV.sl 1 [],AV.sl 2 []]
abbrev Jen(x:List UInt8):=Ul x [(10:UInt8)]
abbrev JtU(x:List UInt8)(g:Nat):=[(2,AV.ptr 1 0),(3,AV.ptr 2 0),(4,AV.ptr 3 0),(5,AV.ptr 4 0),(6,AV.ptr 5 0),(9,AV.bool (Jen x)),(10,AV.ptr 7 0),(11,AV.i (Jct (g:Int) (4:Int)))]
abbrev JtT(s:List UInt8)(g':Nat):=[(1,zB),(2,ABlk.box [AV.i 0]),(3,ABlk.box [AV.i 0]),(4,oB (tyN (lns s) g') 6),(5,ABlk.box [AV.i (g':Int)]),(6,ABlk.buf 182 2 (List.map Ji (tyN (lns s) g').st))]
abbrev Z57t(x:List UInt8):=!if(JiP x)=true then true else !hdS (Jem x) == JsD
abbrev Z57u(s:List UInt8)(g:Nat)(x:List UInt8):=List.map Ji (JW s g).st++[[AV.i (nvW (dS (QL x)) (QZ x)),AV.sl 1 (List.map Jh (tkL (wdR (dS (QL x))) (nbW (dS (QL x)) (QZ x)) (wdR (dS (QL x))).length))]]
abbrev JtS(g':Nat)(pre:List (List UInt8))(x:List UInt8)(s:List UInt8):=(g'=(pre++[x]).length/\∀ (j:Nat),j < (pre++[x]).length->bdJ j ((lns s).getD j [])=false)
abbrev Z57z(x:List UInt8):=!if(JiP x)=true then true else !hdS (Jem x) == Z57k
abbrev Z57A(x:List UInt8):=!if(JiP x)=true then true else !hdS (Jem x) == Z57l
abbrev Z57B(x:List UInt8):=!if(JiP x)=true then true else !hdS (Jem x) == Z57i
abbrev Z57C(x:List UInt8):=!if(JiP x)=true then true else !hdS (Jem x) == Z57o
abbrev Jt4(s:List UInt8)(g:Nat)(x:List UInt8):=[oB (JW s g) 3,ABlk.box [AV.sl 1 (QL x),AV.bool (QZ x)],ABlk.buf 182 2 (UZ s g)]
abbrev Joe(g:Nat):=Jk (decide ((g:Int) < 4)) (25:Int)
abbrev JiQ(s:List UInt8):=tyN (lns s) (lns s).length
abbrev Z57E(g:Nat)(s:List UInt8):=[hdI [AV.i (Joe g)],hdI [AV.i (Qs (JiQ s))]]
abbrev Z57G(x:List UInt8):=if(Z57X x)=true then true else lbS 1 (QL x) (QZ x)
abbrev Z57H(x:List UInt8):=if(Z57Y x)=true then true else lbS 2 (QL x) (QZ x)
abbrev Z57I(x:List UInt8):=if(Z57Z x)=true then true else lbS 3 (QL x) (QZ x)
abbrev Z57J(x:List UInt8):=if(Jof x)=true then true else lbS 4 (QL x) (QZ x)
abbrev Jt3(x:List UInt8):=[ABlk.box [AV.sl 1 (QL x),AV.bool (QZ x)]]
abbrev Jt2(x:List UInt8):=[ABlk.box [AV.sl 1 (Jem x),AV.bool false]]
abbrev Jt1(g:Nat):=[AV.agg Z57q,AV.i (g:Int),AV.i 25]
abbrev Z57O(x:List UInt8):=if(if(Z57v x)=true then true else lbS 0 (QL x) (QZ x))=true then true else decide ((↑(lrS 0 (QL x) (QZ x)).length:Int) > 0)
abbrev Jt0(x:List UInt8):=(JiP x)=false->(Jhl x)=true
abbrev Joh(s:List UInt8)(g:Nat):=List.map Jh (JW s g).sh
abbrev Jog(s:List UInt8)(g:Nat):=List.map Jh (JW s g).sq
abbrev JtZ(x:List UInt8):=(Z57e x)=true->(Z57e x)=true
abbrev JtY(x:List UInt8):=(Z57b x)=true->(Z57b x)=true
abbrev JtX(x:List UInt8):=(Z57c x)=true->(Z57c x)=true
abbrev JtW(x:List UInt8):=(Z57a x)=true->(Z57a x)=true
abbrev JtV(x:List UInt8):=(Z57d x)=true->(Z57d x)=true
abbrev Jbd(s:List UInt8):=(s.length:Int)
abbrev Jbc(g:Nat):=(g:Int)+1
abbrev Jiv:=[AV.ptr 1 0,AV.ptr 2 0]
abbrev JsH(x:List UInt8):=if(Z57G x)=true then true else decide ((↑(lrS 1 (QL x) (QZ x)).length:Int) > 0)
abbrev JsG(x:List UInt8):=if(Z57H x)=true then true else decide ((↑(lrS 2 (QL x) (QZ x)).length:Int) > 0)
abbrev JsF(x:List UInt8):=if(Z57I x)=true then true else decide ((↑(lrS 3 (QL x) (QZ x)).length:Int) > 0)
abbrev JsE(x:List UInt8):=if(Z57J x)=true then true else decide ((↑(lrS 4 (QL x) (QZ x)).length:Int) > 0)
abbrev Jiu(x:List UInt8):=AV.str (hdS (Jem x))
abbrev Jod(x:List UInt8):=(Z57t x)=true->(Z57t x)=true
abbrev Joc(x:List UInt8):=(Z57z x)=true->(Z57z x)=true
abbrev Job(x:List UInt8):=(Z57A x)=true->(Z57A x)=true
abbrev Joa(x:List UInt8):=(Z57B x)=true->(Z57B x)=true
abbrev Jn9(x:List UInt8):=(Z57C x)=true->(Z57C x)=true
set_option maxHeartbeats 4000000 in
theorem c78(s:List UInt8)(hl:s.length<=990 ∨ 4096 < s.length)(hs:s.length<=10000):P0 78 [.str s] (psT s.length (kS s) (lns s).length (tyN (lns s) (lns s).length)):=by
 have key :
  (decide ((Jbd s) > 4096)=true->AV.tup [AV.agg Z57q,AV.i 0,AV.i 26]=psT (Jbd s) (kS s) (lns s).length (JiQ s))/\(decide ((Jbd s) > 4096)=false->P0 136 [AV.str s] (AV.fbox 164 [AV.str s])/\PSeqB (Qh Tryz.prog T0
  G0 Tryz.f78.ntmps []).P (Qh Tryz.prog T0 G0 Tryz.f78.ntmps []).G 164 [AV.str s] (List.map (fa78 s).enc (fa78 s).xs)/\(∀ (x:List UInt8),1=1)/\(∃ (g:Nat),(g=0/\∀ (j:Nat),j < 0->bdJ j ((lns s).getD j [])=false) /\
  AS.mk Jit [(1,zB),(2,ABlk.box [AV.i 0]),(3,ABlk.box [AV.i 0]),(4,ABlk.box [AV.str [],AV.sl 1 [],AV.i 0,AV.i 0,AV.i 0,AV.i 0,AV.i 0,AV.i 0,AV.i 0,AV.i 0,AV.i 0,AV.sl 1 [],AV.own 6 0]),(5,ABlk.box [AV.i 0]),(6,
  ABlk.buf 182 2 [])] 9=AS.mk Jit [(1,zB),(2,ABlk.box [AV.i 0]),(3,ABlk.box [AV.i 0]),(4,oB (JW s g) 6),(5,ABlk.box [AV.i (g:Int)]),(6,ABlk.buf 182 2 (UZ s g))] 9)/\(∀ (pre:List (List UInt8)) (x:List UInt8)
  (post:List (List UInt8)) (g:Nat),lns s=pre++x::post->(g=pre.length/\∀ (j:Nat),j < pre.length->bdJ j ((lns s).getD j [])=false)->Exit.normal=Exit.normal/\false=false/\P0 137 [AV.str x,AV.str [(10 :
  UInt8)]] (AV.tup [AV.str (UT x),AV.bool (Jen x)])/\P0 138 [AV.str (UT x),AV.str [(32:UInt8)]] (AV.sl 1 (Jem x))/\((g:Int)=(0:Int)/\AS.mk (JtU x g) (JlN s g x) 8=AS.mk [(2,AV.ptr 1 0),(3,AV.ptr 2 0),
  (4,AV.ptr 3 0),(5,AV.ptr 4 0),(6,AV.ptr 5 0),(9,AV.bool (Jen x)),(10,AV.ptr 7 0),(11,AV.i 0)] (JlN s g x) 8 ∨ (g:Int)=(1:Int)/\AS.mk (JtU x g) (JlN s g x) 8=AS.mk [(2,AV.ptr 1 0),(3,AV.ptr 2 0),(4,
  AV.ptr 3 0),(5,AV.ptr 4 0),(6,AV.ptr 5 0),(9,AV.bool (Jen x)),(10,AV.ptr 7 0),(11,AV.i 1)] (JlN s g x) 8 ∨ (g:Int)=(2:Int)/\AS.mk (JtU x g) (JlN s g x) 8=AS.mk [(2,AV.ptr 1 0),(3,AV.ptr 2 0),(4,AV.ptr
  3 0),(5,AV.ptr 4 0),(6,AV.ptr 5 0),(9,AV.bool (Jen x)),(10,AV.ptr 7 0),(11,AV.i 2)] (JlN s g x) 8 ∨ (g:Int)=(3:Int)/\AS.mk (JtU x g) (JlN s g x) 8=AS.mk [(2,AV.ptr 1 0),(3,AV.ptr 2 0),(4,AV.ptr 3 0),
  (5,AV.ptr 4 0),(6,AV.ptr 5 0),(9,AV.bool (Jen x)),(10,AV.ptr 7 0),(11,AV.i 3)] (JlN s g x) 8 ∨ ((g:Int)-4).NonNeg/\AS.mk (JtU x g) (JlN s g x) 8=AS.mk [(2,AV.ptr 1 0),(3,AV.ptr 2 0),(4,AV.ptr 3 0),(5,
  AV.ptr 4 0),(6,AV.ptr 5 0),(9,AV.bool (Jen x)),(10,AV.ptr 7 0),(11,AV.i 4)] (JlN s g x) 8 ∨ False)/\((g:Int)=(0:Int)->WCall Tryz.prog G0 139 [AV.ptr 1 0] (Jt2 x) (Jiu x) (Jt3 x)/\(0:Int)<=0/\(0:Int) <
  (5:Int)/\(UZ s g).length=(UZ s g).length/\WCall Tryz.prog G0 226 Jiv (Jt4 s g x) (AV.tup []) [ABlk.box [AV.str (hdS (QL x)),AV.sl 1 (Joh s g),AV.i (JW s g).d0,AV.i (JW s g).d1,AV.i (JW s g).d2,AV.i (JW
  s g).d3,AV.i (JW s g).d4,AV.i (JW s g).d5,AV.i (JW s g).d6,AV.i (JW s g).d7,AV.i (sdS (QL x) (QZ x)),AV.sl 1 (Jog s g),AV.own 3 (UZ s g).length],ABlk.box [AV.sl 1 (lrS 0 (QL x) (QZ x)),AV.bool (lbS 0
  (QL x) (QZ x))],ABlk.buf 182 2 (UZ s g)]/\(Jbu x)/\((Jhl x)=true->(0:Int)<=0)/\((Jhl x)=true->(0:Int) < (5:Int))/\(Jbu x)/\(Jbu x)/\(Jbu x)/\(Jt0 x)/\(Jod x)/\(Jod x)/\(Jod x)/\((Z57v x)
  = false->(Z57t x)=true)/\(JtZ x)/\(JtZ x)/\(JtZ x)/\(JtZ x)/\(JtZ x)/\((if(Z57v x)=true then true else lbS 0 (QL x) (QZ x))=false->(Z57e x)=true)/\((Z57O x)=true->false=false/\AV.tup (Jt1 g)=psT
  (Jbd s) (kS s) (lns s).length (JiQ s))/\((Z57O x)=false->Jg (Jbc g)/\false=false/\∃ (g':Nat),(JtS g' pre x s)/\AS.mk Jit [(1,zB),(2,ABlk.box [AV.i 0]),(3,ABlk.box [AV.i 0]),(4,ABlk.box [AV.str (hdS (QL
  x)),AV.sl 1 (Joh s g),AV.i (JW s g).d0,AV.i (JW s g).d1,AV.i (JW s g).d2,AV.i (JW s g).d3,AV.i (JW s g).d4,AV.i (JW s g).d5,AV.i (JW s g).d6,AV.i (JW s g).d7,AV.i (sdS (QL x) (QZ x)),AV.sl 1 (Jog s
  g),AV.own 6 (UZ s g).length]),(5,ABlk.box [AV.i (Jbc g)]),(6,ABlk.buf 182 2 (UZ s g))] 9=AS.mk Jit (JtT s g') 9))/\((g:Int)=(1:Int)->WCall Tryz.prog G0 139 [AV.ptr 1 0] (Jt2 x) (Jiu x) (Jt3 x)/\(0 :
  Int)<=1/\(1:Int) < (5:Int)/\(UZ s g).length=(UZ s g).length/\WCall Tryz.prog G0 227 Jiv (Jt4 s g x) (AV.tup []) [ABlk.box [AV.str (JW s g).name,AV.sl 1 (tiS (QL x) (QZ x)),AV.i (JW s g).d0,AV.i (JW s
  g).d1,AV.i (JW s g).d2,AV.i (JW s g).d3,AV.i (JW s g).d4,AV.i (JW s g).d5,AV.i (JW s g).d6,AV.i (JW s g).d7,AV.i (JW s g).side,AV.sl 1 (Jog s g),AV.own 3 (UZ s g).length],ABlk.box [AV.sl 1 (lrS 1 (QL x)
  (QZ x)),AV.bool (lbS 1 (QL x) (QZ x))],ABlk.buf 182 2 (UZ s g)]/\(Jbu x)/\((Jhl x)=true->(0:Int)<=1)/\((Jhl x)=true->(1:Int) < (5:Int))/\(Jbu x)/\(Jbu x)/\(Jbu x)/\(Jt0 x)/\(Joc x)/\(Joc
  x)/\(Joc x)/\((Z57X x)=false->(Z57z x)=true)/\(JtY x)/\(JtY x)/\(JtY x)/\(JtY x)/\(JtY x)/\((Z57G x)=false->(Z57b x)=true)/\((JsH x)=true->false=false/\AV.tup (Jt1 g)=psT (Jbd s) (kS s) (lns
  s).length (JiQ s))/\((JsH x)=false->Jg (Jbc g)/\false=false/\∃ (g':Nat),(JtS g' pre x s)/\AS.mk Jit [(1,zB),(2,ABlk.box [AV.i 0]),(3,ABlk.box [AV.i 0]),(4,ABlk.box [AV.str (JW s g).name,AV.sl 1 (tiS
  (QL x) (QZ x)),AV.i (JW s g).d0,AV.i (JW s g).d1,AV.i (JW s g).d2,AV.i (JW s g).d3,AV.i (JW s g).d4,AV.i (JW s g).d5,AV.i (JW s g).d6,AV.i (JW s g).d7,AV.i (JW s g).side,AV.sl 1 (Jog s g),AV.own 6
  (UZ s g).length]),(5,ABlk.box [AV.i (Jbc g)]),(6,ABlk.buf 182 2 (UZ s g))] 9=AS.mk Jit (JtT s g') 9))/\((g:Int)=(2:Int)->WCall Tryz.prog G0 139 [AV.ptr 1 0] (Jt2 x) (Jiu x) (Jt3 x)/\(0:Int)<=2/\(2 :
  Int) < (5:Int)/\(UZ s g).length=(UZ s g).length/\WCall Tryz.prog G0 229 Jiv (Jt4 s g x) (AV.tup []) [ABlk.box [AV.str (JW s g).name,AV.sl 1 (Joh s g),AV.i (dkS 0 (QL x) (QZ x)),AV.i (dkS 1 (QL x) (QZ
  x)),AV.i (dkS 2 (QL x) (QZ x)),AV.i (dkS 3 (QL x) (QZ x)),AV.i (dkS 4 (QL x) (QZ x)),AV.i (dkS 5 (QL x) (QZ x)),AV.i (dkS 6 (QL x) (QZ x)),AV.i (dkS 7 (QL x) (QZ x)),AV.i (JW s g).side,AV.sl 1
  (Jog s g),AV.own 3 (UZ s g).length],ABlk.box [AV.sl 1 (lrS 2 (QL x) (QZ x)),AV.bool (lbS 2 (QL x) (QZ x))],ABlk.buf 182 2 (UZ s g)]/\(Jbu x)/\((Jhl x)=true->(0:Int)<=2)/\((Jhl x)=true->(2:Int) <
  (5:Int))/\(Jbu x)/\(Jbu x)/\(Jbu x)/\(Jt0 x)/\(Job x)/\(Job x)/\(Job x)/\((Z57Y x)=false->(Z57A x)=true)/\(JtX x)/\(JtX x)/\(JtX x)/\(JtX x)/\(JtX x)/\((Z57H x)=false->(Z57c x)=true) /\
  ((JsG x)=true->false=false/\AV.tup (Jt1 g)=psT (Jbd s) (kS s) (lns s).length (JiQ s))/\((JsG x)=false->Jg (Jbc g)/\false=false/\∃ (g':Nat),(JtS g' pre x s)/\AS.mk Jit [(1,zB),(2,ABlk.box [AV.i
  0]),(3,ABlk.box [AV.i 0]),(4,ABlk.box [AV.str (JW s g).name,AV.sl 1 (Joh s g),AV.i (dkS 0 (QL x) (QZ x)),AV.i (dkS 1 (QL x) (QZ x)),AV.i (dkS 2 (QL x) (QZ x)),AV.i (dkS 3 (QL x) (QZ x)),AV.i (dkS 4
  (QL x) (QZ x)),AV.i (dkS 5 (QL x) (QZ x)),AV.i (dkS 6 (QL x) (QZ x)),AV.i (dkS 7 (QL x) (QZ x)),AV.i (JW s g).side,AV.sl 1 (Jog s g),AV.own 6 (UZ s g).length]),(5,ABlk.box [AV.i (Jbc g)]),(6,
  ABlk.buf 182 2 (UZ s g))] 9=AS.mk Jit (JtT s g') 9))/\((g:Int)=(3:Int)->WCall Tryz.prog G0 139 [AV.ptr 1 0] (Jt2 x) (Jiu x) (Jt3 x)/\(0:Int)<=3/\(3:Int) < (5:Int)/\(UZ s g).length=(UZ s g).length
  /\ WCall Tryz.prog G0 230 Jiv (Jt4 s g x) (AV.tup []) [ABlk.box [AV.str (JW s g).name,AV.sl 1 (Joh s g),AV.i (JW s g).d0,AV.i (JW s g).d1,AV.i (JW s g).d2,AV.i (JW s g).d3,AV.i (JW s g).d4,AV.i (JW s g).d5,
  AV.i (JW s g).d6,AV.i (JW s g).d7,AV.i (JW s g).side,AV.sl 1 (tiS (QL x) (QZ x)),AV.own 3 (UZ s g).length],ABlk.box [AV.sl 1 (lrS 3 (QL x) (QZ x)),AV.bool (lbS 3 (QL x) (QZ x))],ABlk.buf 182 2 (UZ s g)]
  /\ (Jbu x)/\((Jhl x)=true->(0:Int)<=3)/\((Jhl x)=true->(3:Int) < (5:Int))/\(Jbu x)/\(Jbu x)/\(Jbu x)/\(Jt0 x)/\(Joa x)/\(Joa x)/\(Joa x)/\((Z57Z x)=false->(Z57B x)=true)/\(JtW x)/\(JtW
  x)/\(JtW x)/\(JtW x)/\(JtW x)/\((Z57I x)=false->(Z57a x)=true)/\((JsF x)=true->false=false/\AV.tup (Jt1 g)=psT (Jbd s) (kS s) (lns s).length (JiQ s))/\((JsF x)=false->Jg (Jbc g)/\false=false
  /\ ∃ (g':Nat),(JtS g' pre x s)/\AS.mk Jit [(1,zB),(2,ABlk.box [AV.i 0]),(3,ABlk.box [AV.i 0]),(4,ABlk.box [AV.str (JW s g).name,AV.sl 1 (Joh s g),AV.i (JW s g).d0,AV.i (JW s g).d1,AV.i (JW s g).d2,AV.i
  (JW s g).d3,AV.i (JW s g).d4,AV.i (JW s g).d5,AV.i (JW s g).d6,AV.i (JW s g).d7,AV.i (JW s g).side,AV.sl 1 (tiS (QL x) (QZ x)),AV.own 6 (UZ s g).length]),(5,ABlk.box [AV.i (Jbc g)]),(6,ABlk.buf 182 2
  (UZ s g))] 9=AS.mk Jit (JtT s g') 9))/\(((g:Int)-4).NonNeg->WCall Tryz.prog G0 139 [AV.ptr 1 0] (Jt2 x) (Jiu x) (Jt3 x)/\(0:Int)<=4/\(4:Int) < (5:Int)/\WCall Tryz.prog G0 231 Jiv (Jt4 s g x) (AV.tup
  []) [ABlk.box [AV.str (JW s g).name,AV.sl 1 (Joh s g),AV.i (JW s g).d0,AV.i (JW s g).d1,AV.i (JW s g).d2,AV.i (JW s g).d3,AV.i (JW s g).d4,AV.i (JW s g).d5,AV.i (JW s g).d6,AV.i (JW s g).d7,AV.i (JW s
  g).side,AV.sl 1 (Jog s g),AV.own 4 (Z57u s g x).length],ABlk.box [AV.sl 1 (lrS 4 (QL x) (QZ x)),AV.bool (lbS 4 (QL x) (QZ x))],ABlk.dead,ABlk.buf 182 2 (Z57u s g x)]/\(Jbu x)/\((Jhl x)=true->(0:Int)<=4) /\
  ((Jhl x)=true->(4:Int) < (5:Int))/\(Jbu x)/\(Jbu x)/\(Jbu x)/\(Jt0 x)/\(Jn9 x)/\(Jn9 x)/\(Jn9 x)/\((Jof x)=false->(Z57C x)=true)/\(JtV x)/\(JtV x)/\(JtV x)/\(JtV x)/\(JtV x)/\((Z57J x) =
  false->(Z57d x)=true)/\((JsE x)=true->false=false/\AV.tup (Jt1 g)=psT (Jbd s) (kS s) (lns s).length (JiQ s))/\((JsE x)=false->Jg (Jbc g)/\false=false/\∃ (g':Nat),(JtS g' pre x s)/\AS.mk Jit
  [(1,zB),(2,ABlk.box [AV.i 0]),(3,ABlk.box [AV.i 0]),(4,ABlk.box [AV.str (JW s g).name,AV.sl 1 (Joh s g),AV.i (JW s g).d0,AV.i (JW s g).d1,AV.i (JW s g).d2,AV.i (JW s g).d3,AV.i (JW s g).d4,AV.i (JW s
  g).d5,AV.i (JW s g).d6,AV.i (JW s g).d7,AV.i (JW s g).side,AV.sl 1 (Jog s g),AV.own 6 (Z57u s g x).length]),(5,ABlk.box [AV.i (Jbc g)]),(6,ABlk.buf 182 2 (Z57u s g x))] 9=AS.mk Jit (JtT s g') 9))/\True)/\∀
  (g:Nat),(g=(lns s).length/\∀ (j:Nat),j < (lns s).length->bdJ j ((lns s).getD j [])=false)->P0 92 [AV.bool (decide ((g:Int) < 4)),AV.i 25] (AV.i (Joe g))/\P0 53 [AV.agg (Jf (JW s g))] (AV.i (Qs (JiQ s)))
  /\ P0 87 [AV.sl 1 [[AV.i (Joe g)],[AV.i (Qs (JiQ s))]]] (AV.i (Jb (Z57E g s)))/\((Jb (Z57E g s) != 0)=true->AV.tup [AV.agg Z57q,AV.i (g:Int),AV.i (Jb (Z57E g s))]=psT (Jbd s) (kS s) (lns s).length
  (JiQ s))/\((Jb (Z57E g s) != 0)=false->AV.tup [AV.agg (Jf (JW s g)),AV.i 0,AV.i 0]=psT (Jbd s) (kS s) (lns s).length (JiQ s))):=by
   delta Z57a Z57b Z57c Z57d Z57e JlN Jem Jbu Z57i JiP Z57k Z57l Jit QZ Z57o UZ Z57q JtU JtT Z57t Z57u Z57v JW QL JtS Z57z Z57A Z57B Z57C Jt4 Z57E Jhl Z57G Z57H Z57I Z57J JiQ Jt3 Jt2 Jt1 Z57O Jt0 Joh Jog JtZ JtY JtX JtW JtV Z57X Z57Y Z57Z Jof Jbd Jbc Jiv Jen JsH JsG JsF JsE Joe JsD Jiu Jod Joc Job Joa Jn9
   have hz:decide ((s.length:Int) > 4096)=false->s.length<=990:=fun h=>by
    have:=K1 h
    omega
   refine⟨fun h=>by rw[psT,if_pos h];rfl,fun h=>?_⟩
   have hs9:=hz h
   obtain⟨l1,l2⟩:=Jpg (JdJ s)
   have hps:∀ (k n:Nat) (t:Ty),psT s.length k n t=if k < n then .tup [.agg (Jf zT),.i k,.i 25]else if eT n t != 0 then .tup [.agg (Jf zT),.i n,.i (eT n t)]else .tup [.agg (Jf t),.i 0,.i 0]:=fun k n t=>by
    rw[psT,if_neg (by rw[h];decide)]
   have htb:∀ n,TyB 1000 (tyN (lns s) n):=ty_b fun x hx=>by have:=l2 x hx;omega
   have hts:=ty_st (lns s)
   refine⟨c136 s,s164 s (by omega),fun _=>rfl,⟨0,⟨rfl,fun j hj=>absurd hj (K9 _)⟩,rfl⟩,fun pre x post g hL hgb=>?_,fun g hgb=>?_⟩
   . obtain⟨rfl,hb⟩:=hgb
     have hxl:=l2 x (by rw[hL];simp)
     have hbl:=Jg6 x
     obtain⟨w1,w2⟩:=JiZ x
     have hw0:(w0L x).length<=1000000:=by have:=(Ji1 x).1;omega
     have hwl:∀ y,y ∈ w0L x->y.length<=1000000:=fun y hy=>by have:=(Ji1 x).2 y hy;omega
     have hgn:pre.length < (lns s).length:=by rw[hL];simp
     have hst:=hts pre.length
     have hstm:(List.map Ji (tyN (lns s) pre.length).st).length=(tyN (lns s) pre.length).st.length:=Kb _
     have hty:=JqK hL
     have hlen:(((pre++[x]).length:Nat):Int)=(pre.length:Int)+1:=by rw[Kf,Kx];rfl
     have h139:=w139 (Qc x) false (by omega)
     rw[show roB (UT x)=(Qc x).map Jx from rfl,hdS_e (Qc x),tlS_e (Qc x),tbS_e (Qc x) false,hdS_e (wdR (Qc x)),sdS_e (wdR (Qc x)) (wdB (Qc x) false),tiS_e (wdR (Qc x)) (wdB (Qc x) false),WT (wdR (Qc x)),Jkj 0 (wdR (Qc x)) (wdB (Qc x) false),Jkj 1 (wdR (Qc x)) (wdB (Qc x) false),Jkj 2 (wdR (Qc x)) (wdB (Qc x) false),Jkj 3 (wdR (Qc x)) (wdB (Qc x) false),Jkj 4 (wdR (Qc x)) (wdB (Qc x) false),Jkx 0 (wdR (Qc x)) (wdB (Qc x) false),Jkx 1 (wdR (Qc x)) (wdB (Qc x) false),Jkx 2 (wdR (Qc x)) (wdB (Qc x) false),Jkx 3 (wdR (Qc x)) (wdB (Qc x) false),Jkx 4 (wdR (Qc x)) (wdB (Qc x) false),JdW 0 (wdR (Qc x)) (wdB (Qc x) false),JdW 1 (wdR (Qc x)) (wdB (Qc x) false),JdW 2 (wdR (Qc x)) (wdB (Qc x) false),JdW 3 (wdR (Qc x)) (wdB (Qc x) false),JdW 4 (wdR (Qc x)) (wdB (Qc x) false),JdW 5 (wdR (Qc x)) (wdB (Qc x) false),JdW 6 (wdR (Qc x)) (wdB (Qc x) false),JdW 7 (wdR (Qc x)) (wdB (Qc x) false),show(List.map Jx (lfK 0 (wdR (Qc x)) (wdB (Qc x) false)).1).length=(lfK 0 (wdR (Qc x)) (wdB (Qc x) false)).1.length from Kb _,show(List.map Jx (lfK 1 (wdR (Qc x)) (wdB (Qc x) false)).1).length=(lfK 1 (wdR (Qc x)) (wdB (Qc x) false)).1.length from Kb _,show(List.map Jx (lfK 2 (wdR (Qc x)) (wdB (Qc x) false)).1).length=(lfK 2 (wdR (Qc x)) (wdB (Qc x) false)).1.length from Kb _,show(List.map Jx (lfK 3 (wdR (Qc x)) (wdB (Qc x) false)).1).length=(lfK 3 (wdR (Qc x)) (wdB (Qc x) false)).1.length from Kb _,show(List.map Jx (lfK 4 (wdR (Qc x)) (wdB (Qc x) false)).1).length=(lfK 4 (wdR (Qc x)) (wdB (Qc x) false)).1.length from Kb _]
     refine⟨rfl,rfl,c137 x [10] (by omega) (by decide),c138 (UT x) 32 (by omega),?_,?_,?_,?_,?_,?_,trivial⟩
     . have q:pre.length=0 ∨ pre.length=1 ∨ pre.length=2 ∨ pre.length=3 ∨ 4<=pre.length:=by omega
       have m:Jct (pre.length:Int) 4=if pre.length < 4 then(pre.length:Int)else 4:=by
        unfold Jct
        split <;> split <;> omega
       rw[m]
       rcases q with q | q | q | q | q
       . rw[if_pos (by omega),q]
         exact .inl ⟨rfl,rfl⟩
       . rw[if_pos (by omega),q]
         exact .inr (.inl ⟨rfl,rfl⟩)
       . rw[if_pos (by omega),q]
         exact .inr (.inr (.inl ⟨rfl,rfl⟩))
       . rw[if_pos (by omega),q]
         exact .inr (.inr (.inr (.inl ⟨rfl,rfl⟩)))
       rw[if_neg (by omega)]
       exact .inr (.inr (.inr (.inr (.inl ⟨(show(pre.length:Int)>=4 by omega),rfl⟩))))
     . intro hk
       have hkn:=JgK (k:=0) hk (by decide)
       have hbj:bdJ pre.length x=bdK 0 x:=by rw[bdJ,hkn]
       rw[hkn]at hty
       have hw:=w226 (tyN (lns s) pre.length) (w0L x) (b0L x) (by omega) hw0 hwl
       refine⟨h139,by decide,by decide,rfl,hw,?_⟩
       repeat (first
        | refine⟨fun h=>h,?_⟩
        | refine⟨fun _=>(by decide),?_⟩
        | refine⟨fun h=>(by rw[h];rfl),?_⟩)
       refine⟨fun hbad=>⟨rfl,?_⟩,fun hgood=>⟨by unfold Jg;omega,rfl,(pre++[x]).length,⟨rfl,Jax hL hb (hbj.trans hgood)⟩,?_⟩⟩
       . obtain⟨hk1,hlt⟩:=ks_e hL hb (hbj.trans hbad)
         rw[hps,hk1,if_pos hlt]
         rfl
       rw[hlen,hty]
       rfl
     . intro hk
       have hkn:=JgK (k:=1) hk (by decide)
       have hbj:bdJ pre.length x=bdK 1 x:=by rw[bdJ,hkn]
       rw[hkn]at hty
       have hw:=w227 (tyN (lns s) pre.length) (w0L x) (b0L x) (by omega) hw0 hwl
       refine⟨h139,by decide,by decide,rfl,hw,?_⟩
       repeat (first
        | refine⟨fun h=>h,?_⟩
        | refine⟨fun _=>(by decide),?_⟩
        | refine⟨fun h=>(by rw[h];rfl),?_⟩)
       refine⟨fun hbad=>⟨rfl,?_⟩,fun hgood=>⟨by unfold Jg;omega,rfl,(pre++[x]).length,⟨rfl,Jax hL hb (hbj.trans hgood)⟩,?_⟩⟩
       . obtain⟨hk1,hlt⟩:=ks_e hL hb (hbj.trans hbad)
         rw[hps,hk1,if_pos hlt]
         rfl
       rw[hlen,hty]
       rfl
     . intro hk
       have hkn:=JgK (k:=2) hk (by decide)
       have hbj:bdJ pre.length x=bdK 2 x:=by rw[bdJ,hkn]
       rw[hkn]at hty
       have hw:=w229 (tyN (lns s) pre.length) (w0L x) (b0L x) (by omega) hw0 hwl
       refine⟨h139,by decide,by decide,rfl,hw,?_⟩
       repeat (first
        | refine⟨fun h=>h,?_⟩
        | refine⟨fun _=>(by decide),?_⟩
        | refine⟨fun h=>(by rw[h];rfl),?_⟩)
       refine⟨fun hbad=>⟨rfl,?_⟩,fun hgood=>⟨by unfold Jg;omega,rfl,(pre++[x]).length,⟨rfl,Jax hL hb (hbj.trans hgood)⟩,?_⟩⟩
       . obtain⟨hk1,hlt⟩:=ks_e hL hb (hbj.trans hbad)
         rw[hps,hk1,if_pos hlt]
         rfl
       rw[hlen,hty]
       rfl
     . intro hk
       have hkn:=JgK (k:=3) hk (by decide)
       have hbj:bdJ pre.length x=bdK 3 x:=by rw[bdJ,hkn]
       rw[hkn]at hty
       have hw:=w230 (tyN (lns s) pre.length) (w0L x) (b0L x) (by omega) hw0 hwl
       refine⟨h139,by decide,by decide,rfl,hw,?_⟩
       repeat (first
        | refine⟨fun h=>h,?_⟩
        | refine⟨fun _=>(by decide),?_⟩
        | refine⟨fun h=>(by rw[h];rfl),?_⟩)
       refine⟨fun hbad=>⟨rfl,?_⟩,fun hgood=>⟨by unfold Jg;omega,rfl,(pre++[x]).length,⟨rfl,Jax hL hb (hbj.trans hgood)⟩,?_⟩⟩
       . obtain⟨hk1,hlt⟩:=ks_e hL hb (hbj.trans hbad)
         rw[hps,hk1,if_pos hlt]
         rfl
       rw[hlen,hty]
       rfl
     intro hk
     have hkn:=knd_ge hk
     have hbj:bdJ pre.length x=bdK 4 x:=by rw[bdJ,hkn]
     rw[hkn]at hty
     have hw:=w231 (tyN (lns s) pre.length) (w0L x) (b0L x) (by omega) hw0 hwl
     rw[Db]at hw
     refine⟨h139,by decide,by decide,hw,?_⟩
     repeat (first
      | refine⟨fun h=>h,?_⟩
      | refine⟨fun _=>(by decide),?_⟩
      | refine⟨fun h=>(by rw[h];rfl),?_⟩)
     refine⟨fun hbad=>⟨rfl,?_⟩,fun hgood=>⟨by unfold Jg;omega,rfl,(pre++[x]).length,⟨rfl,Jax hL hb (hbj.trans hgood)⟩,?_⟩⟩
     . obtain⟨hk1,hlt⟩:=ks_e hL hb (hbj.trans hbad)
       rw[hps,hk1,if_pos hlt]
       rfl
     rw[hlen,hty]
     have e4:List.map Ji (upK 4 (w0L x) (b0L x) (tyN (lns s) pre.length)).st=List.map Ji (tyN (lns s) pre.length).st++[Ji (Sg.mk (nvW (w0L x) (b0L x)) (tkL (wdR (w0L x)) (nbW (w0L x) (b0L x)) (wdR (w0L x)).length))]:=Db ..
     unfold oB
     rw[e4]
     rfl
   obtain⟨rfl,hb⟩:=hgb
   have hB:=htb (lns s).length
   have hks:=ks_n hb
   refine⟨c92 _ _,c53 _ (Nat.le_trans (hts _) (by omega)) hB.sh hB.sq hB.e (Nat.le_trans hB.nm (by decide)),c87 [_,_] (by simp),fun h2=>?_,fun h2=>?_⟩
   . rw[hps,hks,if_neg (Nat.lt_irrefl _)]
     have h3:(eT (lns s).length (tyN (lns s) (lns s).length) != 0)=true:=h2
     rw[if_pos h3]
     rfl
   rw[hps,hks,if_neg (Nat.lt_irrefl _)]
   have h3:(eT (lns s).length (tyN (lns s) (lns s).length) != 0)=false:=h2
   rw[if_neg (by rw[h3];decide)]
 exact JU Tryz.f78 (gsB g78 { mkB (sp78 s) 78 [] QJ with hs:=hs78,fa:=some (fa78 s),cs:=cs78,bx:=fun i=>if i.beq 0 then[.frzc 4 12]else[] }) key (by kernel_rfl)
def pcR(s:List UInt8)(i:Nat):List UInt8:=(spl 10 s).getD i []
def rtQ(b:Bool)(rows:List (List AV))(fr:Nat):Nat->Bool
 | 0=>b
 | n+1=>if rtQ b rows fr n=true then inB ((dS rows).getD (fr+n) [])else false
def lsQ(rows:List (List AV))(fr:Nat):Nat->List Int
 | 0=>[]
 | n+1=>lsQ rows fr n++[dgV ((dS rows).getD (fr+n) [])]
def frK(k:Nat):Nat:=if k=0 then 2 else 1
def b0K(k:Nat)(rows:List (List AV)):Bool :=
 if k=0 then(if(if((dS rows).getD 0 [] == JA 0)=true then((rows.length:Int) == 3)else false)=true then !((dS rows).getD 1 [] == [])else false)
 else if k=2 then(if((dS rows).getD 0 [] == JA 2)=true then((rows.length:Int) == 9)else false)
 else if k=4 then(if((dS rows).getD 0 [] == JA 4)=true then decide ((rows.length:Int) > 1)else false)
 else((dS rows).getD 0 [] == JA k)
def okQ(k:Nat)(rows:List (List AV)):Bool:=rtQ (b0K k rows) rows (frK k) (rows.length-frK k)
def lQ(k:Nat)(rows:List (List AV)):List Int:=lsQ rows (frK k) (rows.length-frK k)
def upR(k:Nat)(rows:List (List AV))(t:Ty):Ty :=
 match k with
 | 0=>⟨(dS rows).getD 1 [],t.sh,t.d0,t.d1,t.d2,t.d3,t.d4,t.d5,t.d6,t.d7,(lQ 0 rows).getD 0 default,t.sq,t.st⟩
 | 1=>⟨t.name,lQ 1 rows,t.d0,t.d1,t.d2,t.d3,t.d4,t.d5,t.d6,t.d7,t.side,t.sq,t.st⟩
 | 2=>⟨t.name,t.sh,(lQ 2 rows).getD 0 default,(lQ 2 rows).getD 1 default,(lQ 2 rows).getD 2 default,(lQ 2 rows).getD 3 default,(lQ 2 rows).getD 4 default,(lQ 2 rows).getD 5 default,(lQ 2 rows).getD 6 default,(lQ 2 rows).getD 7 default,t.side,t.sq,t.st⟩
 | 3=>⟨t.name,t.sh,t.d0,t.d1,t.d2,t.d3,t.d4,t.d5,t.d6,t.d7,t.side,lQ 3 rows,t.st⟩
 | _=>⟨t.name,t.sh,t.d0,t.d1,t.d2,t.d3,t.d4,t.d5,t.d6,t.d7,t.side,t.sq,t.st++[Sg.mk ((lQ 4 rows).getD 0 default) ((lQ 4 rows).drop 1)]⟩
def rT(s:List UInt8):Nat->Ty
 | 0=>zT
 | i+1=>if i+1=(spl 10 s).length then rT s i else upR (knd i) (roB (pcR s i)) (rT s i)
def gdR(s:List UInt8)(j:Nat):Bool:=if j+1=(spl 10 s).length then pcR s j == []else okQ (knd j) (roB (pcR s j))
def kR(s:List UInt8):Nat:=fiN (fun j=>!gdR s j) (spl 10 s).length
def psR(l:Int)(k n:Nat)(t:Ty):AV:=if decide (l > 4096)=true then .tup [.agg (Jf zT),.i 0,.i 26]else if k < n then .tup [.agg (Jf zT),.i k,.i 25]else if decide ((n:Int)-1 < 4)=true then .tup [.agg (Jf zT),.i ((n:Int)-1),.i 25]else if JbG t != 0 then .tup [.agg (Jf zT),.i ((n:Int)-1),.i (JbG t)]else .tup [.agg (Jf t),.i 0,.i 0]
theorem JhV{p b:Bool}(h:(if p=true then b else false)=true):p=true:=by
 revert h
 cases p <;> cases b <;> decide
theorem JkE{p b:Bool}(h:(if p=true then b else false)=true):b=true:=by
 revert h
 cases p <;> cases b <;> decide
theorem kR_e{s:List UInt8}{g:Nat}(hg:g < (spl 10 s).length)(ha:∀ j,j < g->gdR s j=true)(hb:gdR s g=false):kR s=g :=
 VF (fun j hj=>by rw[ha j hj];rfl) (by rw[hb];rfl) hg
theorem kR_n{s:List UInt8}(ha:∀ j,j < (spl 10 s).length->gdR s j=true):kR s=(spl 10 s).length :=
 VG fun j hj=>by rw[ha j hj];rfl
end Go.Proofs.YtjhjmncjidbieaaGreatDoor
