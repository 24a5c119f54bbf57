/-
  The arguments of TopEaveSpent, and its laid variable. TopEaveSpent where its input is small. Plain laws of TopEaveSpent: its rules and its movements are right. Plain laws of TopEaveSpent: movements, counts, cases. No condition but the theorems' own.
-/
import Derived.Test.YthkngjifljcocaaGreatDoorPE
import Derived.Test.YthkngjifljcocaaGreatDoorAvD
import Derived.Test.YthkngjifljcocaaGreatDoorCards
import Derived.Test.YthkngjifljcocaaGreatDoorTie
import Derived.LaidMore
import Derived.LaidOnce
import Derived.Lay
import Derived.Stop.Joined
import Derived.SevenTiedAt
namespace Go.Proofs.YthkngjifljcocaaGreatDoor
open Go Go.Av Go.RowKit Go.ChangeShapes Go.WideShapes
theorem JnO:laidOutB Tryz.prog=true:=by kernel_rfl
theorem own:ownKnob Tryz.prog.godebug=none:=by kernel_rfl
def JbI:List (String × DataW Unit):=Rows.topEaveSpentRow.laid
theorem JkU(os:Os)(args:Array Value):laidMetH Tryz.prog JbI ((World.laidAll Tryz.prog os JbI).forCall (fun _ _=>0) ⟨#[],args,[]⟩).memory:=by
 rw[MakeChecks.laidMetH_plain _ _ _ (by kernel_rfl)]
 exact laidMet_laidAll _ (by kernel_rfl) (by kernel_rfl)
theorem globs{W:World}(h:laidMetH Tryz.prog JbI W):∀ g cells,lk g G0=some cells->GlobOK NoX W g cells:=by
 rw[MakeChecks.laidMetH_plain _ _ _ (by kernel_rfl)]at h
 obtain⟨ps,hl,_⟩:=h
 have m0 := JcL (T := T0) tok (n := 8) (name := "flyover/night.wrongs") (d := Rows.laid_flyover_night_wrongs) (g := 0) (t := 196) (cells := Ji (G0.map (·.2)) 0) (by kernel_rfl) (by kernel_rfl) (by kernel_rfl) (by kernel_rfl) (by kernel_rfl) (by simp [Ji, G0]) (laid := JbI) (ps := ps) (by simp [JbI, Rows.topEaveSpentRow]) hl
 intro g cells hg
 obtain⟨u,hu,e1⟩:=Ja0 hg
 subst e1
 simp only[G0,Kq,List.not_mem_nil,or_false,Prod.mk.injEq]at hu
 obtain⟨rfl,rfl⟩:=hu
 exact m0
theorem wf64{x:Int}(h:(Lit.int .i64 x).wf=true):Jc x:=by
 simp only[Lit.wf,Kd,Ko]at h
 exact h
theorem JjG{x:Int}(h:(Lit.int .u16 x).wf=true):0<=x/\x<=65535:=by
 simp only[Lit.wf,Kd]at h
 exact⟨Ky h.1,Ky h.2⟩
theorem Jib{n:Nat}{r:List AV}(hn:QH T0 n 3=[.int .i64])(hp:JU T0 n 3=true)(h:ASh T0 n 3 r):∃ x:Int,r=Jh x/\Jc x:=by
 have:=QL n 3 r hp h
 rw[hn]at this
 obtain⟨_,_,rfl,⟨x,rfl,hx⟩,rfl⟩:=this
 exact⟨x,rfl,wf64 hx⟩
theorem sg_of{n m:Nat}{r:List AV}(hn:QH T0 n 110=[.int .i64,.sl m 3 1])(hp:JU T0 n 110=true)(hm:QH T0 m 3=[.int .i64])(hq:JU T0 m 3=true)(h:ASh T0 n 110 r):∃ s:Sg,r=Jv s/\True:=by
 have:=QL n 110 r hp h
 rw[hn]at this
 obtain⟨_,_,rfl,⟨x,rfl,_⟩,_,_,rfl,⟨rows,rfl,_,hr⟩,rfl⟩:=this
 obtain⟨e,rfl,_⟩:=Xh (enc:=Jh) (Q:=Jc) (fun r hm'=>Jib hm hq (hr r hm'))
 exact⟨⟨x,e⟩,rfl,trivial⟩
theorem ty_of{n m:Nat}{r:List AV}(hn:QH T0 n 92=[.str,.sl m 3 1,.int .i64,.int .i64,.int .i64,.int .i64,.int .i64,.int .i64,.int .i64,.int .i64,.int .i64,.sl m 3 1,.sl m 110 2])(hp:JU T0 n 92=true){k:Nat}(h1:QH T0 m 3=[.int .i64])(h2:JU T0 m 3=true)(h3:QH T0 m 110=[.int .i64,.sl k 3 1])(h4:JU T0 m 110=true)(h5:QH T0 k 3=[.int .i64])(h6:JU T0 k 3=true)(h:ASh T0 n 92 r):∃ t:Ty,r=Jd t/\t.st.length<=maxLen:=by
 have h2':=QL n 92 r hp h
 rw[hn]at h2'
 obtain⟨_,_,rfl,⟨nm,rfl,_⟩,_,_,rfl,⟨rs,rfl,_,hrs⟩,_,_,rfl,⟨d0,rfl,_⟩,_,_,rfl,⟨d1,rfl,_⟩,_,_,rfl,⟨d2,rfl,_⟩,_,_,rfl,⟨d3,rfl,_⟩,_,_,rfl,⟨d4,rfl,_⟩,_,_,rfl,⟨d5,rfl,_⟩,_,_,rfl,⟨d6,rfl,_⟩,_,_,rfl,⟨d7,rfl,_⟩,_,_,rfl,⟨sd,rfl,_⟩,_,_,rfl,⟨rq,rfl,_,hrq⟩,_,_,rfl,⟨rt,rfl,hlt,hrt⟩,rfl⟩:=h2'
 obtain⟨sh,rfl,_⟩:=Xh (enc:=Jh) (Q:=Jc) (fun r hm=>Jib h1 h2 (hrs r hm))
 obtain⟨sq,rfl,_⟩:=Xh (enc:=Jh) (Q:=Jc) (fun r hm=>Jib h1 h2 (hrq r hm))
 obtain⟨st,rfl,_⟩:=Xh (enc:=Jv) (Q:=fun _=>True) (fun r hm=>sg_of (m:=k) h3 h4 h5 h6 (hrt r hm))
 exact⟨⟨nm,sh,d0,d1,d2,d3,d4,d5,d6,d7,sd,sq,st⟩,rfl,by simpa using hlt⟩
theorem fx_of{n:Nat}{r:List AV}(hn:QH T0 n 67=[.int .i64,.int .i64,.int .i64,.int .i64,.int .i64])(hp:JU T0 n 67=true)(h:ASh T0 n 67 r):∃ x:Fx,r=Jg x/\True:=by
 have:=QL n 67 r hp h
 rw[hn]at this
 obtain⟨_,_,rfl,⟨a,rfl,_⟩,_,_,rfl,⟨b,rfl,_⟩,_,_,rfl,⟨c,rfl,_⟩,_,_,rfl,⟨d,rfl,_⟩,_,_,rfl,⟨e,rfl,_⟩,rfl⟩:=this
 exact⟨⟨a,b,c,d,e⟩,rfl,trivial⟩
theorem fl_of{n m:Nat}{r:List AV}(hn:QH T0 n 63=[.str,.str,.sl m 67 5])(hp:JU T0 n 63=true)(h1:QH T0 m 67=[.int .i64,.int .i64,.int .i64,.int .i64,.int .i64])(h2:JU T0 m 67=true)(h:ASh T0 n 63 r):∃ f:Fl,r=Je f/\True:=by
 have h2':=QL n 63 r hp h
 rw[hn]at h2'
 obtain⟨_,_,rfl,⟨nm,rfl,_⟩,_,_,rfl,⟨ty,rfl,_⟩,_,_,rfl,⟨rt,rfl,_,hrt⟩,rfl⟩:=h2'
 obtain⟨tr,rfl,_⟩:=Xh (enc:=Jg) (Q:=fun _=>True) (fun r hm=>fx_of h1 h2 (hrt r hm))
 exact⟨⟨nm,ty,tr⟩,rfl,trivial⟩
theorem JkQ{a:AV}(h:JlE T0 8 27 a):∃ (ts:List Ty) (fs:List Fl) (x y z:Int),a=.agg (xL ts fs x y z)/\ts.length<=maxLen/\fs.length<=maxLen/\∀ t,t ∈ ts->t.st.length<=maxLen:=by
 obtain⟨l,rfl,h2⟩:=Jfq (cs:=[.sl 6 92 13,.sl 6 63 3,.int .i64,.int .i64,.int .i64]) (ti:=⟨(.struct [(0,22,1),(1,23,1),(2,25,3)]),5,72,true,[.ex (.slice none 0 0),.ex (.slice none 0 0),.int .i64 0,.int .i64 0,.int .i64 0],true⟩) (by kernel_rfl) rfl (by kernel_rfl) (by kernel_rfl) h
 obtain⟨_,_,rfl,⟨rt,rfl,hl,hrt⟩,_,_,rfl,⟨rf,rfl,hm,hrf⟩,_,_,rfl,⟨x,rfl,_⟩,_,_,rfl,⟨y,rfl,_⟩,_,_,rfl,⟨z,rfl,_⟩,rfl⟩:=h2
 obtain⟨ts,rfl,h4⟩:=Xh (enc:=Jd) (Q:=fun t=>t.st.length<=maxLen) (fun r hm=>ty_of (m:=4) (k:=2) (by kernel_rfl) (by kernel_rfl) (by kernel_rfl) (by kernel_rfl) (by kernel_rfl) (by kernel_rfl) (by kernel_rfl) (by kernel_rfl) (hrt r hm))
 obtain⟨fs,rfl,_⟩:=Xh (enc:=Je) (Q:=fun _=>True) (fun r hm=>fl_of (m:=4) (by kernel_rfl) (by kernel_rfl) (by kernel_rfl) (by kernel_rfl) (hrf r hm))
 exact⟨ts,fs,x,y,z,rfl,by simpa using hl,by simpa using hm,h4⟩
theorem JkI{a:AV}(h:JlE T0 8 29 a):∃ n0 n1 n2 n3:Int,a=.agg (nL n0 n1 n2 n3)/\(0<=n0/\n0<=65535)/\(0<=n1/\n1<=65535)/\(0<=n2/\n2<=65535)/\(0<=n3/\n3<=65535):=by
 obtain⟨l,rfl,h2⟩:=Jfq (cs:=[.int .u16,.int .u16,.int .u16,.int .u16]) (ti:=⟨(.arr 4 28 1),4,8,true,[.int .u16 0,.int .u16 0,.int .u16 0,.int .u16 0],true⟩) (by kernel_rfl) rfl (by kernel_rfl) (by kernel_rfl) h
 obtain⟨_,_,rfl,⟨a,rfl,ha⟩,_,_,rfl,⟨b,rfl,hb⟩,_,_,rfl,⟨c,rfl,hc⟩,_,_,rfl,⟨d,rfl,hd⟩,rfl⟩:=h2
 exact⟨a,b,c,d,rfl,JjG ha,JjG hb,JjG hc,JjG hd⟩
end Go.Proofs.YthkngjifljcocaaGreatDoor
namespace Go.Proofs.YthkngjifljcocaaGreatDoor
open Go Go.Av Go.RowKit
theorem c_ofH {f : Nat} {args : List AV} {r : AV} (fn : Func) (B : BA) (ms : List (Option (List GS × AS × Prop))) {q : Prop} (hq : q) (h : JaW (QD Tryz.prog T0 G0 fn.ntmps []) B (JlN T0 fn fun v => v = r) (Vg (VO fn)) ms (JaP args) = q) (hf : Tryz.prog.funcs[f]? = some fn := by kernel_rfl) (hb : fn.body = some (VO fn) := by kernel_rfl) (hn : (fn.name == "runtime.NumGoroutine") = false := by kernel_rfl) (hlen : Nat.ble args.length fn.ntmps = true := by kernel_rfl) : P0 f args r :=
 JaH tok mix hf hb hn (Kl hlen) B ms (Jg3 hq h)
def mdK(g:List GS)(p:Prop)(l:List (Nat × AV))(b:BL)(n:Nat):Option (List GS × AS × Prop):=some (g++[.keep (l.map (·.1)) (b.map (·.1)),.bound n],⟨l,b,n⟩,p)
def sJ(rows:List (List AV))(i j:Nat):List UInt8:=match nth (Ji rows i) j with
 | .str s=>s
 | _=>[]
def rdCs:List AV->Option AV
 | [.elt _ rows i _]=>some (.agg [.str (sJ rows i 0),.str (sJ rows i 1),.i (cJ rows i 2)])
 | _=>none
def sp3(W:WE)(ts:List Ty)(fs:List Fl)(x y z:Int):Nat->List AV->Option AV
 | 4,_=>some (.bool true)
 | 5,_=>some (.bool (smE ts fs x y z))
 | 6,_=>some (.agg W.ru)
 | 10,[.sl _ rows]=>some (.sl 5 (W.mv rows))
 | 9,_=>some (.tup [.sl 1 (W.cs.map Jh),.i 0])
 | 11,[_,.sl _ rows]=>some (.tup [.i (W.lf rows),.i 0])
 | 12,_=>some (.tup [.i W.sp,.i 0])
 | 13,[_,.sl _ m,.sl _ e]=>some (.tup [.sl 3 (W.ca m e),.i 0])
 | 13,[_,.sl _ m,_]=>some (.tup [.sl 3 (W.ca m []),.i 0])
 | 14,_=>some (.tup [.sl 1 (W.pa.map Jh),.i 0])
 | 15,[.sl _ rows]=>some (.sl 13 rows)
 | 16,[.sl _ rows]=>some (.sl 3 rows)
 | 17,[_,.sl _ rows,_]=>some (.tup [.i (W.tt rows),.i 0])
 | 18,[.agg [.int _ a,.int _ b],.int _ m]=>some (.tup [.bool (W.wi a b m),.i 0])
 | 19,[_,.str s,_]=>some (.tup [.agg (k8 W s),.i 0])
 | n,w=>spR n w
def A2(W:WE):List (Nat × AV):=[(2,.elt 5 W.xr 0 0),(3,.elt 4 W.nr 0 0)]
def A5(W:WE):List (Nat × AV):=A2 W++[(5,.fn (.func 6) [] [.elt 5 W.xr 0 0,.elt 4 W.nr 0 0])]
def lfE(W:WE)(fs:List Fl):AV:=.i (W.lf (W.mv (fs.map Je)))
def ttE(W:WE)(fs:List Fl):AV:=.i (W.tt (fs.map Je))
def caE(W:WE)(fs:List Fl):AV:=.sl 3 (W.ca (W.mv (fs.map Je)) [])
def A10(W:WE)(fs:List Fl):List (Nat × AV):=A5 W++[(6,.sl 1 (W.cs.map Jh)),(8,lfE W fs),(10,.i W.sp),(12,caE W fs),(14,.sl 1 (W.pa.map Jh)),(16,ttE W fs)]
def KS:List Nat:=[2,3,5,6,8,10,12,14,16,18,19,20,21,22,23,166,167,168]
def kg(l:List Nat):List GS:=[.keep l [],.bound 1]
def kb(l:List Nat):List GS:=[.reno 20 1,.keep (KS++l) [1],.bound 2]
def laE3(W:WE)(fs:List Fl):LA:={
 pre:=[.own 20 63 3,.reno 20 1,.keep KS [1],.bound 2],post:=[.reno 20 1,.keep KS [1],.bound 2]
 Gh:=Nat
 st:=fun i=>⟨A10 W fs++[(18,.i (W.sm i)),(19,.i (W.en i)),(20,.own 1 ((W.qu i).map Je).length),(21,.i (W.go i)),(22,.i (W.si i)),(23,.i (W.kk i)),(166,.sl 3 (fs.map Je)),(167,.i (fs.map Je).length),(168,.i i)],[(1,.buf 63 3 ((W.qu i).map Je))],2⟩
 ok:=fun i=>i<=(fs.map Je).length
 ms:=fun i=>(fs.map Je).length-i }
def tk3(i:Nat):Nat:=(lk i [(1,49),(10,164),(23,241),(26,256),(30,276),(36,333),(39,348)]).getD 0
def ks3(i:Nat):List Nat:=(lk i [(1,[2,3,49]),(10,[2,3,5,6,8,10,12,14,16,164]),(23,KS++[24,25,241]),(26,KS++[24,25,31,256]),(30,KS++[24,25,276]),(36,KS++[333]),(39,[2,3,5,8,16,20,21,22,348])]).getD []
def bl3(i:Nat):List Nat:=if i.beq 23 || i.beq 26 || i.beq 30 || i.beq 36 then[1]else[]
def nb3(i:Nat):Nat:=if i.beq 23 || i.beq 26 || i.beq 30 || i.beq 36 then 2 else 1
def cut3(i:Nat):Option (AS->AS):=if(tk3 i).beq 0 then none else some (JgD (ks3 i) (bl3 i) (nb3 i) (tk3 i) fun _=>.bool false)
def gs3(i:Nat):List GS:=if(tk3 i).beq 0 then(lk i [(20,kb [24,25,26]),(21,kb [24,25,26,27,28]),(22,kb [24,25,27,28,29,30]),(25,kb [24,25,31,32]),(32,kb [24,25]),(33,kb [24,25]),(34,kb [24,25,33,34]),(35,kb [34,35,36])]).getD []else if(nb3 i).beq 2 then[.reno 20 1,.keep (ks3 i) [1],.bound 2]else kg (ks3 i)
def rdXE(ts:List Ty)(fs:List Fl)(x y z:Int):List AV->Option AV
 | [.elt _ _ _ 0]=>some (.sl 13 (ts.map Jd))
 | [.elt _ _ _ 1]=>some (.sl 3 (fs.map Je))
 | [.elt _ _ _ 2]=>some (.agg [.i x,.i y,.i z])
 | _=>none
def rdTk(W:WE):List AV->Option AV
 | [_,.int _ n]=>some (.sl 3 (W.tk n))
 | _=>none
def rdDp(W:WE):List AV->Option AV
 | [_,.int _ n]=>some (.sl 3 (W.dp n))
 | _=>none
def rds3(W:WE)(ts:List Ty)(fs:List Fl)(x y z:Int):List (Nat × Nat × (List AV->Option AV)):=[(18,2,rdL 3 Je fs 3 true),(19,4,rdL 1 Jh W.cs 1 false),(19,10,rdL 1 Jh W.pa 1 false),(23,13,rdL 1 Jh W.cs 1 false),(23,23,rdL 1 Jh W.pa 1 false),(33,4,rdL 1 Jh W.cs 1 false),(33,10,rdL 1 Jh W.pa 1 false),(25,7,rdC),(35,11,rdC),(30,8,rdCs),(20,4,rdTk W),(20,10,rdDp W),(1,3,fun _=>some (.agg (xL ts fs x y z))),(25,1,fun _=>some (.agg (ruL W)))]++[(4,3),(5,3),(6,3),(7,3),(8,1),(8,4),(8,7),(9,1),(9,4),(9,7),(10,26),(10,34),(10,48),(16,1),(20,2),(20,7),(22,1),(22,6),(35,3),(43,1),(43,6)].map fun q=>(q.1,q.2,rdXE ts fs x y z)
def B3(W:WE)(ts:List Ty)(fs:List Fl)(x y z:Int):BA:={ gsB gs3 (fzB (mkB (sp3 W ts fs x y z) 3 (rds3 W ts fs x y z) (JnP (laE3 W fs))))with cl:=N7.clL [49,164,241,256,276,333,348],cut:=cut3 }
def m3(W:WE)(fs:List Fl):List (Option (List GS × AS × Prop)) :=
 let A:=A5 W
 let n:=fs.length
 let C:Nat × AV:=(6,.sl 1 (W.cs.map Jh))
 let P:Nat × AV:=(14,.sl 1 (W.pa.map Jh))
 let Q:List (Nat × AV):=A++[(8,lfE W fs),(16,ttE W fs),(20,.sl 3 ((W.qu n).map Je)),(21,.i (W.go n)),(22,.i (W.si n))]
 [none,none,mdK [] True (A2 W) [] 1,mdK [] True A [] 1,
  mdK [] True (A++[C,(7,.i 0)]) [] 1,
  mdK [] True (A++[C,(7,.i 0),(8,lfE W fs),(9,.i 0)]) [] 1,
  mdK [] True (A++[C,(7,.i 0),(8,lfE W fs),(9,.i 0),(10,.i W.sp),(11,.i 0)]) [] 1,
  mdK [] True (A++[C,(7,.i 0),(8,lfE W fs),(9,.i 0),(10,.i W.sp),(11,.i 0),(12,caE W fs),(13,.i 0)]) [] 1,
  mdK [] True (A++[C,(7,.i 0),(8,lfE W fs),(9,.i 0),(10,.i W.sp),(11,.i 0),(12,caE W fs),(13,.i 0),P,(15,.i 0)]) [] 1,
  mdK [] True (A++[C,(7,.i 0),(8,lfE W fs),(9,.i 0),(10,.i W.sp),(11,.i 0),(12,caE W fs),(13,.i 0),P,(15,.i 0),(16,ttE W fs),(17,.i 0)]) [] 1,
  none,mdK [] True (A10 W fs) [] 1,none,none,none,none,none,
  mdK [.frzo 20] True (A10 W fs++[(18,.i (W.sm n)),(19,.i (W.en n)),(20,.sl 3 ((W.qu n).map Je)),(21,.i (W.go n)),(22,.i (W.si n)),(23,.i (W.kk n))]) [] 1,
  none,mdK [] True Q [] 1,
  mdK [] True (Q++[(37,caE W (W.qu n)),(38,.i 0)]) [] 1,
  mdK [] True (Q++[(37,caE W (W.qu n)),(38,.i 0),(39,lfE W (W.qu n)),(40,.i 0)]) [] 1,
  mdK [] True (Q++[(37,caE W (W.qu n)),(38,.i 0),(39,lfE W (W.qu n)),(40,.i 0),(41,ttE W (W.qu n)),(42,.i 0)]) [] 1,none,none]
abbrev QV(fs:List Fl):=List.map Je fs
abbrev Uz(W:WE):=List.map Jh W.cs
abbrev Ji1(W:WE):=((Uz W).length:Int)
abbrev V3(fs:List Fl):=((QV fs).length:Int)
abbrev Wl(W:WE):=List.map Jh W.pa
abbrev Jgm(W:WE):=((Wl W).length:Int)
abbrev Z79D(W:WE)(fs:List Fl):=if((Ji1 W) != (V3 fs))=true then true else(Jgm W) != (V3 fs)
abbrev QS(W:WE)(fs:List Fl):=W.mv (QV fs)
abbrev Z79b(W:WE)(fs:List Fl):=!if(Z79D W fs)=true then true else W.sp != 100-W.lf (QS W fs)
abbrev Jcd(g:Nat):=(g:Int)+1
abbrev Jmc(W:WE)(g:Nat):=W.mv ([]++W.tk (g:Int)++W.dp (Jcd g))
abbrev Jma(W:WE)(g:Nat)(fs:List Fl):=!W.lf (Jmc W g)-W.lf (QS W fs) != W.cs.getD (g:Int).toNat default
abbrev Jdb(W:WE)(fs:List Fl):=List.map Je (W.qu fs.length)
abbrev UA(W:WE)(fs:List Fl):=W.mv (Jdb W fs)
abbrev Z79X(W:WE)(fs:List Fl):=(↑(W.ca (UA W fs) []).length:Int) == 0
abbrev Z79d(W:WE)(fs:List Fl):=if(Z79X W fs)=true then W.lf (UA W fs) == W.lf (QS W fs)+W.go fs.length else false
abbrev XI(W:WE):=[AV.elt 5 W.xr 0 0,AV.elt 4 W.nr 0 0]
abbrev UB(fs:List Fl)(g:Nat):=fs.getD (g:Int).toNat default
abbrev JoE:=[(115:UInt8),(116:UInt8),(111:UInt8),(114:UInt8),(109:UInt8)]
abbrev Jgl(fs:List Fl)(g:Nat):=List.map Jg (UB fs g).tr
abbrev JoF(fs:List Fl)(g:Nat):=cJ (Jgl fs g) 0 0
abbrev Z79f(fs:List Fl)(g:Nat)(W:WE):=[[AV.str (UB fs g).n,AV.str JoE,AV.i ((1:Int)+(JoF fs g).tdiv 1440),AV.int IntKind.u8 (W.ky (UB fs g).n 0),AV.int IntKind.u8 (W.ky (UB fs g).n 1),AV.int IntKind.u8 (W.ky (UB fs g).n 2),AV.int IntKind.u8 (W.ky (UB fs g).n 3),AV.int IntKind.u8 (W.ky (UB fs g).n 4),AV.int IntKind.u8 (W.ky (UB fs g).n 5),AV.int IntKind.u8 (W.ky (UB fs g).n 6),AV.int IntKind.u8 (W.ky (UB fs g).n 7)]]
abbrev V7(W:WE)(fs:List Fl):=W.ca (QS W fs) []
abbrev JgF(W:WE)(fs:List Fl):=((V7 W fs).length:Int)
abbrev Z79h(W:WE)(fs:List Fl):=!if((Ji1 W) != (V3 fs))=true then true else(Jgm W) != (V3 fs)
abbrev V6(W:WE)(fs:List Fl):=W.lf (QS W fs)
abbrev QM(W:WE)(fs:List Fl):=W.tt (QV fs)
abbrev JiZ(W:WE)(g:Nat):=W.sm g+W.cs.getD (g:Int).toNat default
abbrev JiY(W:WE)(g:Nat):=W.en g+W.pa.getD (g:Int).toNat default
abbrev Jex(W:WE)(g:Nat):=List.map Je (W.qu g)
abbrev Wm(W:WE)(g:Nat):=(↑(W.kk g):Int)
abbrev Jgk(fs:List Fl)(g:Nat):=(JoF fs g).tmod (1440:Int)
abbrev Z79l(W:WE)(fs:List Fl)(g:Nat):=[(2,AV.elt 5 W.xr 0 0),(3,AV.elt 4 W.nr 0 0),(5,AV.fn (Fn.func 6) [] (XI W)),(6,AV.sl 1 (Uz W)),(8,AV.i (V6 W fs)),(10,AV.i W.sp),(12,AV.sl 3 (V7 W fs)),(14,AV.sl 1 (Wl W)),(16,AV.i (QM W fs)),(18,AV.i (JiZ W g)),(19,AV.i (JiY W g)),(20,AV.own 1 (Jex W g).length),(21,AV.i (W.go g)),(22,AV.i (W.si g)),(23,AV.i (Wm W g)),(166,AV.sl 3 (QV fs)),(167,AV.i (V3 fs)),(168,AV.i (g:Int)),(24,AV.i (g:Int)),(25,AV.elt 3 [(Je (UB fs g))] 0 0),(31,AV.bool (W.wi W.rc W.rd (Jgk fs g))),(256,AV.bool false)]
abbrev Vy:=true=true->true=true
abbrev Jew(W:WE)(g:Nat)(fs:List Fl):=!decide ((Wm W g)>=(JgF W fs))
abbrev Jl9(W:WE)(g:Nat)(fs:List Fl):=(Jew W g fs)=true->(Jew W g fs)=true
abbrev Z79p(W:WE)(fs:List Fl)(g':Nat):=[(2,AV.elt 5 W.xr 0 0),(3,AV.elt 4 W.nr 0 0),(5,AV.fn (Fn.func 6) [] (XI W)),(6,AV.sl 1 (Uz W)),(8,AV.i (V6 W fs)),(10,AV.i W.sp),(12,AV.sl 3 (V7 W fs)),(14,AV.sl 1 (Wl W)),(16,AV.i (QM W fs)),(18,AV.i (W.sm g')),(19,AV.i (W.en g')),(20,AV.own 1 (List.map Je (W.qu g')).length),(21,AV.i (W.go g')),(22,AV.i (W.si g')),(23,AV.i (↑(W.kk g'):Int)),(166,AV.sl 3 (QV fs)),(167,AV.i (V3 fs)),(168,AV.i (g':Int))]
abbrev JpE(W:WE)(fs:List Fl):=(Z79X W fs)=true->(Z79X W fs)=true
abbrev JpD(W:WE)(fs:List Fl):=(!(Ji1 W) != (V3 fs))=true->(!(Ji1 W) != (V3 fs))=true
abbrev Z79v(W:WE)(fs:List Fl):=[(2,AV.elt 5 W.xr 0 0),(3,AV.elt 4 W.nr 0 0),(5,AV.fn (Fn.func 6) [] (XI W)),(8,AV.i (V6 W fs)),(16,AV.i (QM W fs)),(20,AV.sl 3 (Jdb W fs)),(21,AV.i (W.go fs.length)),(22,AV.i (W.si fs.length)),(37,AV.sl 3 (W.ca (UA W fs) [])),(38,AV.i 0),(39,AV.i (W.lf (UA W fs))),(40,AV.i 0),(41,AV.i (W.tt (Jdb W fs))),(42,AV.i 0)]
abbrev JpH(W:WE)(fs:List Fl):=(↑(W.kk fs.length):Int)
abbrev JpC(W:WE)(fs:List Fl):=!if((JpH W fs) != (JgF W fs))=true then true else W.sm fs.length != W.sp
abbrev JiX(W:WE)(g:Nat):=[(1,ABlk.buf 63 3 (Jex W g))]
abbrev Z79A(W:WE)(fs:List Fl):=[(2,AV.elt 5 W.xr 0 0),(3,AV.elt 4 W.nr 0 0),(5,AV.fn (Fn.func 6) [] (XI W)),(8,AV.i (V6 W fs)),(16,AV.i (QM W fs)),(20,AV.sl 3 (Jdb W fs)),(21,AV.i (W.go fs.length)),(22,AV.i (W.si fs.length)),(37,AV.sl 3 (W.ca (UA W fs) [])),(38,AV.i 0),(39,AV.i (W.lf (UA W fs))),(40,AV.i 0)]
abbrev Z79B(W:WE)(fs:List Fl):=[(2,AV.elt 5 W.xr 0 0),(3,AV.elt 4 W.nr 0 0),(5,AV.fn (Fn.func 6) [] (XI W)),(6,AV.sl 1 (Uz W)),(7,AV.i 0),(8,AV.i (V6 W fs)),(9,AV.i 0),(10,AV.i W.sp),(11,AV.i 0),(12,AV.sl 3 (V7 W fs)),(13,AV.i 0),(14,AV.sl 1 (Wl W)),(15,AV.i 0),(16,AV.i (QM W fs)),(17,AV.i 0)]
abbrev JgG:=false=false->true=true
abbrev Z79F(W:WE)(fs:List Fl):=[(2,AV.elt 5 W.xr 0 0),(3,AV.elt 4 W.nr 0 0),(5,AV.fn (Fn.func 6) [] (XI W)),(8,AV.i (V6 W fs)),(16,AV.i (QM W fs)),(20,AV.sl 3 (Jdb W fs)),(21,AV.i (W.go fs.length)),(22,AV.i (W.si fs.length)),(37,AV.sl 3 (W.ca (UA W fs) [])),(38,AV.i 0)]
abbrev Z79G(W:WE)(fs:List Fl):=[(2,AV.elt 5 W.xr 0 0),(3,AV.elt 4 W.nr 0 0),(5,AV.fn (Fn.func 6) [] (XI W)),(6,AV.sl 1 (Uz W)),(7,AV.i 0),(8,AV.i (V6 W fs)),(9,AV.i 0),(10,AV.i W.sp),(11,AV.i 0),(12,AV.sl 3 (V7 W fs)),(13,AV.i 0),(14,AV.sl 1 (Wl W)),(15,AV.i 0)]
abbrev Z79J(W:WE)(fs:List Fl):=[(2,AV.elt 5 W.xr 0 0),(3,AV.elt 4 W.nr 0 0),(5,AV.fn (Fn.func 6) [] (XI W)),(6,AV.sl 1 (Uz W)),(7,AV.i 0),(8,AV.i (V6 W fs)),(9,AV.i 0),(10,AV.i W.sp),(11,AV.i 0),(12,AV.sl 3 (V7 W fs)),(13,AV.i 0)]
abbrev Z79K(W:WE)(fs:List Fl):=[(2,AV.elt 5 W.xr 0 0),(3,AV.elt 4 W.nr 0 0),(5,AV.fn (Fn.func 6) [] (XI W)),(6,AV.sl 1 (Uz W)),(8,AV.i (V6 W fs)),(10,AV.i W.sp),(12,AV.sl 3 (V7 W fs)),(14,AV.sl 1 (Wl W)),(16,AV.i (QM W fs))]
abbrev Z79L(W:WE)(fs:List Fl):=[(2,AV.elt 5 W.xr 0 0),(3,AV.elt 4 W.nr 0 0),(5,AV.fn (Fn.func 6) [] (XI W)),(8,AV.i (V6 W fs)),(16,AV.i (QM W fs)),(20,AV.sl 3 (Jdb W fs)),(21,AV.i (W.go fs.length)),(22,AV.i (W.si fs.length))]
abbrev Jmb(W:WE)(g:Nat)(fs:List Fl):=(Jma W g fs)=true->(Jma W g fs)=true
abbrev Z79O(W:WE)(fs:List Fl):=[(2,AV.elt 5 W.xr 0 0),(3,AV.elt 4 W.nr 0 0),(5,AV.fn (Fn.func 6) [] (XI W)),(6,AV.sl 1 (Uz W)),(7,AV.i 0),(8,AV.i (V6 W fs)),(9,AV.i 0),(10,AV.i W.sp),(11,AV.i 0)]
abbrev Jdd(ts:List Ty):=List.map Jd ts
abbrev Z79S(W:WE)(fs:List Fl):=[(2,AV.elt 5 W.xr 0 0),(3,AV.elt 4 W.nr 0 0),(5,AV.fn (Fn.func 6) [] (XI W)),(6,AV.sl 1 (Uz W)),(7,AV.i 0),(8,AV.i (V6 W fs)),(9,AV.i 0)]
abbrev Z79U(W:WE):=[(2,AV.elt 5 W.xr 0 0),(3,AV.elt 4 W.nr 0 0),(5,AV.fn (Fn.func 6) [] (XI W)),(6,AV.sl 1 (Uz W)),(7,AV.i 0)]
abbrev JpG(W:WE)(fs:List Fl):=(Z79b W fs)=true->(Z79b W fs)=true
abbrev JpF(W:WE)(fs:List Fl):=(Z79d W fs)=true->(Z79d W fs)=true
abbrev Z79Y(W:WE)(g:Nat):=W.go g+W.cs.getD (g:Int).toNat default
abbrev Z79Z(W:WE)(g:Nat):=W.si g+W.pa.getD (g:Int).toNat default
abbrev Ji0(W:WE):=List.take 3 (List.drop 2 (Ji W.xr 0))
abbrev JoD(W:WE):=[(2,AV.elt 5 W.xr 0 0),(3,AV.elt 4 W.nr 0 0),(5,AV.fn (Fn.func 6) [] (XI W))]
abbrev Jcc(x:Int)(y:Int)(z:Int):=[AV.i x,AV.i y,AV.i z]
abbrev Jgj(W:WE)(fs:List Fl):=!(JpH W fs) != (JgF W fs)
abbrev JoC(W:WE)(fs:List Fl):=if((JpH W fs) != (JgF W fs))=true then true else W.sm fs.length != W.sp
abbrev Jdc(fs:List Fl):=[AV.sl 3 (QV fs)]
abbrev Jk6(W:WE)(fs:List Fl):=(Z79h W fs)=true->(Z79h W fs)=true
set_option maxHeartbeats 4000000 in
theorem c3_ok(W:WE)(ts:List Ty)(fs:List Fl)(x y z n0 n1 n2 n3:Int)(hl:ts.length<=maxLen)(hm:fs.length<=maxLen)(hst:∀ t,t ∈ ts->t.st.length<=maxLen)(hs:smE ts fs x y z=true)(hL:LawE W ts fs x y z n0 n1 n2 n3):P0 3 [.agg (xL ts fs x y z),.agg (nL n0 n1 n2 n3)] (.bool true):=by
 have key :
  (Vy/\Vy/\JgG/\P0 4 [] (AV.bool true)/\AV.agg (xL ts fs x y z)=AV.agg (xL ts fs x y z)/\P0 5 [AV.agg (xL ts fs x y z)] (AV.bool (smE ts fs x y z))/\AS.mk [(2,AV.elt 5 [(xL ts fs x y z)] 0 0),(3,AV.elt 4 [(nL n0 n1 n2
  n3)] 0 0),(49,AV.bool !smE ts fs x y z)] [] 1=AS.mk [(2,AV.elt 5 [(xL ts fs x y z)] 0 0),(3,AV.elt 4 [(nL n0 n1 n2 n3)] 0 0),(49,AV.bool false)] [] 1)/\(AS.mk [(2,AV.elt 5 [(xL ts fs x y z)] 0 0),(3,AV.elt 4 [(nL n0 n1
  n2 n3)] 0 0)] [] 1=AS.mk [(2,AV.elt 5 W.xr 0 0),(3,AV.elt 4 W.nr 0 0)] [] 1/\True)/\(True->(AS.mk (JoD W) [] 1=AS.mk (JoD W) [] 1/\True)/\(True->(P0 6 (XI W) (AV.agg W.ru)/\nth (Ji W.xr 0) 1=AV.sl 3 (QV
  fs)/\P0 10 (Jdc fs) (AV.sl 5 (QS W fs))/\P0 9 [AV.agg W.ru,AV.sl 5 (QS W fs)] (AV.tup [AV.sl 1 (Uz W),AV.i 0])/\AS.mk (Z79U W) [] 1=AS.mk (Z79U W) [] 1/\True)/\(True->(P0 6 (XI W) (AV.agg W.ru)/\nth (Ji
  W.xr 0) 1=AV.sl 3 (QV fs)/\P0 10 (Jdc fs) (AV.sl 5 (QS W fs))/\P0 11 [AV.agg W.ru,AV.sl 5 (QS W fs)] (AV.tup [AV.i (V6 W fs),AV.i 0])/\AS.mk (Z79S W fs) [] 1=AS.mk (Z79S W fs) [] 1/\True)/\(True->(P0 6 (XI
  W) (AV.agg W.ru)/\nth (Ji W.xr 0) 1=AV.sl 3 (QV fs)/\P0 10 (Jdc fs) (AV.sl 5 (QS W fs))/\P0 12 [AV.agg W.ru,AV.sl 5 (QS W fs),AV.agg [AV.i 0,AV.i 100001]] (AV.tup [AV.i W.sp,AV.i 0])/\AS.mk (Z79O W fs) [] 1 =
  AS.mk (Z79O W fs) [] 1/\True)/\(True->(P0 6 (XI W) (AV.agg W.ru)/\nth (Ji W.xr 0) 1=AV.sl 3 (QV fs)/\P0 10 (Jdc fs) (AV.sl 5 (QS W fs))/\P0 13 [AV.agg W.ru,AV.sl 5 (QS W fs),AV.ex (Value.slice none 0 0)]
  (AV.tup [AV.sl 3 (V7 W fs),AV.i 0])/\AS.mk (Z79J W fs) [] 1=AS.mk (Z79J W fs) [] 1/\True)/\(True->(nth (Ji W.xr 0) 0=AV.sl 13 (Jdd ts)/\P0 15 [AV.sl 13 (Jdd ts)] (AV.sl 13 (Jdd ts))/\nth (Ji W.xr 0) 1=AV.sl 3
  (QV fs)/\P0 16 (Jdc fs) (AV.sl 3 (QV fs))/\AV.agg (Ji0 W)=AV.agg (Jcc x y z)/\P0 14 [AV.sl 13 (Jdd ts),AV.sl 3 (QV fs),AV.agg (Jcc x y z)] (AV.tup [AV.sl 1 (Wl W),AV.i 0])/\AS.mk (Z79G W fs) [] 1=AS.mk
  (Z79G W fs) [] 1/\True)/\(True->(nth (Ji W.xr 0) 0=AV.sl 13 (Jdd ts)/\P0 15 [AV.sl 13 (Jdd ts)] (AV.sl 13 (Jdd ts))/\nth (Ji W.xr 0) 1=AV.sl 3 (QV fs)/\P0 16 (Jdc fs) (AV.sl 3 (QV fs))/\AV.agg (Ji0 W) =
  AV.agg (Jcc x y z)/\P0 17 [AV.sl 13 (Jdd ts),AV.sl 3 (QV fs),AV.agg (Jcc x y z)] (AV.tup [AV.i (QM W fs),AV.i 0])/\AS.mk (Z79B W fs) [] 1=AS.mk (Z79B W fs) [] 1/\True)/\(True->(Vy/\JgG/\Vy/\JgG/\Vy /\
  JgG/\Vy/\JgG/\Vy/\JgG/\Vy/\Vy/\Vy/\Vy/\Vy/\JgG/\(JpD W fs)/\(JpD W fs)/\(JpD W fs)/\(JpD W fs)/\(JpD W fs)/\(((Ji1 W) != (V3 fs))=false->(!(Ji1 W) != (V3 fs))=true)/\(Jk6 W fs) /\
  ((Z79h W fs)=true->Jc ((100:Int)-W.lf (QS W fs)))/\(Jk6 W fs)/\(Jk6 W fs)/\((Z79D W fs)=false->(Z79h W fs)=true)/\(JpG W fs)/\(JpG W fs)/\(JpG W fs)/\(JpG W fs)/\(JpG W fs)/\((if(Z79D W fs) =
  true then true else W.sp != 100-W.lf (QS W fs))=false->(Z79b W fs)=true)/\nth (Ji W.xr 0) 1=AV.sl 3 (QV fs)/\Jd6 (!(Ji1 W) != (V3 fs)) (nth (Ji W.xr 0) 1=AV.sl 3 (QV fs))/\Jd6 (Z79b W fs) (nth (Ji
  W.xr 0) 1=AV.sl 3 (QV fs))/\AS.mk [(2,AV.elt 5 W.xr 0 0),(3,AV.elt 4 W.nr 0 0),(5,AV.fn (Fn.func 6) [] (XI W)),(6,AV.sl 1 (Uz W)),(8,AV.i (V6 W fs)),(10,AV.i W.sp),(12,AV.sl 3 (V7 W fs)),(14,AV.sl 1
  (Wl W)),(16,AV.i (QM W fs)),(164,AV.bool (if(if(Z79D W fs)=true then true else W.sp != 100-W.lf (QS W fs))=true then true else decide ((JgF W fs) > (V3 fs))))] [] 1=AS.mk [(2,AV.elt 5 W.xr 0 0),(3,AV.elt
  4 W.nr 0 0),(5,AV.fn (Fn.func 6) [] (XI W)),(6,AV.sl 1 (Uz W)),(8,AV.i (V6 W fs)),(10,AV.i W.sp),(12,AV.sl 3 (V7 W fs)),(14,AV.sl 1 (Wl W)),(16,AV.i (QM W fs)),(164,AV.bool false)] [] 1)/\(AS.mk (Z79K
  W fs) [] 1=AS.mk (Z79K W fs) [] 1/\True)/\(True->nth (Ji W.xr 0) 1=AV.sl 3 (QV fs)/\((∃ (g:Nat),g<=(QV fs).length/\AS.mk [(2,AV.elt 5 W.xr 0 0),(3,AV.elt 4 W.nr 0 0),(5,AV.fn (Fn.func 6) [] (XI W)),(6,
  AV.sl 1 (Uz W)),(8,AV.i (V6 W fs)),(10,AV.i W.sp),(12,AV.sl 3 (V7 W fs)),(14,AV.sl 1 (Wl W)),(16,AV.i (QM W fs)),(18,AV.i 0),(19,AV.i 0),(20,AV.own 1 0),(21,AV.i 0),(22,AV.i 0),(23,AV.i 0),(166,
  AV.sl 3 (QV fs)),(167,AV.i (V3 fs)),(168,AV.i 0)] [(1,ABlk.buf 63 3 [])] 2=AS.mk [(2,AV.elt 5 W.xr 0 0),(3,AV.elt 4 W.nr 0 0),(5,AV.fn (Fn.func 6) [] (XI W)),(6,AV.sl 1 (Uz W)),(8,AV.i (V6 W fs)),(10,
  AV.i W.sp),(12,AV.sl 3 (V7 W fs)),(14,AV.sl 1 (Wl W)),(16,AV.i (QM W fs)),(18,AV.i (W.sm g)),(19,AV.i (W.en g)),(20,AV.own 1 (Jex W g).length),(21,AV.i (W.go g)),(22,AV.i (W.si g)),(23,AV.i (Wm W g)),
  (166,AV.sl 3 (QV fs)),(167,AV.i (V3 fs)),(168,AV.i (g:Int))] (JiX W g) 2)/\∀ (g:Nat),g<=(QV fs).length->(decide ((g:Int) < (V3 fs))=true->(0:Int)<=(g:Int)/\(g:Int) < (V3 fs)/\AV.agg (Ji
  (QV fs) (g:Int).toNat)=AV.agg (Je (UB fs g))/\(0:Int)<=(g:Int)/\(g:Int) < (Ji1 W)/\Jc (JiZ W g)/\(0:Int)<=(g:Int)/\(g:Int) < (Jgm W)/\Jc (JiY W g)/\nth (Ji (Uz W) (g:Int).toNat)
  0=AV.i (W.cs.getD (g:Int).toNat default)/\nth (Ji (Wl W) (g:Int).toNat) 0=AV.i (W.pa.getD (g:Int).toNat default)/\(0:Int)<=0/\(0:Int)<=(g:Int)/\(g:Int)<=(V3 fs)/\0+(W.tk (g:Int)).length ≤
  9223372036854775807/\(0+(W.tk (g:Int)).length) * 56<=140737488355328/\Jc (Jcd g)/\(0:Int)<=(g:Int)+1/\(g:Int)+1<=(V3 fs)/\(V3 fs)<=(V3 fs)/\0+(W.tk (g:Int)).length+(W.dp (Jcd g)).length ≤
  9223372036854775807/\(0+(W.tk (g:Int)).length+(W.dp (Jcd g)).length) * 56<=140737488355328/\nth (Ji W.xr 0) 1=AV.sl 3 (QV fs)/\AV.sl 3 (List.take ((g:Int)-0).toNat (List.drop 0 (QV fs)))=AV.sl 3 (W.tk (↑g
  : Int))/\nth (Ji W.xr 0) 1=AV.sl 3 (QV fs)/\AV.sl 3 (List.take ((V3 fs)-(Jcd g)).toNat (List.drop (Jcd g).toNat (QV fs)))=AV.sl 3 (W.dp (Jcd g))/\P0 6 (XI W) (AV.agg W.ru)/\P0 10 [AV.sl 3 ([]++W.tk (↑g :
  Int)++W.dp (Jcd g))] (AV.sl 5 (Jmc W g))/\P0 11 [AV.agg W.ru,AV.sl 5 (Jmc W g)] (AV.tup [AV.i (W.lf (Jmc W g)),AV.i 0])/\nth (Ji W.xr 0) 0=AV.sl 13 (Jdd ts)/\P0 15 [AV.sl 13 (Jdd ts)] (AV.sl 13 (Jdd ts))/\P0 16
  [AV.sl 3 ([]++W.tk (g:Int)++W.dp (Jcd g))] (AV.sl 3 ([]++W.tk (g:Int)++W.dp (Jcd g)))/\AV.agg (Ji0 W)=AV.agg (Jcc x y z)/\P0 17 [AV.sl 13 (Jdd ts),AV.sl 3 ([]++W.tk (g:Int)++W.dp (Jcd g)),AV.agg
  (Jcc x y z)] (AV.tup [AV.i (W.tt ([]++W.tk (g:Int)++W.dp (Jcd g))),AV.i 0])/\(Vy/\JgG/\Vy/\Vy/\(true=true->Jc (W.lf (Jmc W g)-W.lf (QS W fs)))/\Vy/\Vy/\(true=true->(0:Int)<=(g:Int))
  /\ (true=true->(g:Int) < (Ji1 W))/\Vy/\Vy/\Vy/\JgG/\(Jmb W g fs)/\(Jmb W g fs)/\((Jma W g fs)=true->Jc (W.tt (QV fs)-W.tt ([]++W.tk (g:Int)++W.dp (Jcd g))))/\(Jmb W g fs)/\(Jmb W g fs) /\
  ((Jma W g fs)=true->(0:Int)<=(g:Int))/\((Jma W g fs)=true->(g:Int) < (Jgm W))/\(Jmb W g fs)/\(Jmb W g fs)/\(Jmb W g fs)/\((W.lf (Jmc W g)-W.lf (QS W fs) != W.cs.getD (g:Int).toNat default) =
  false->(Jma W g fs)=true)/\nth (Ji (Uz W) (g:Int).toNat) 0=AV.i (W.cs.getD (g:Int).toNat default)/\Jd6 (Jma W g fs) (nth (Ji (Wl W) (g:Int).toNat) 0=AV.i (W.pa.getD (g:Int).toNat default))/\AS.mk
  [(2,AV.elt 5 W.xr 0 0),(3,AV.elt 4 W.nr 0 0),(5,AV.fn (Fn.func 6) [] (XI W)),(6,AV.sl 1 (Uz W)),(8,AV.i (V6 W fs)),(10,AV.i W.sp),(12,AV.sl 3 (V7 W fs)),(14,AV.sl 1 (Wl W)),(16,AV.i (QM W fs)),(18,
  AV.i (JiZ W g)),(19,AV.i (JiY W g)),(20,AV.own 1 (Jex W g).length),(21,AV.i (W.go g)),(22,AV.i (W.si g)),(23,AV.i (Wm W g)),(166,AV.sl 3 (QV fs)),(167,AV.i (V3 fs)),(168,AV.i (g:Int)),(24,AV.i (↑g :
  Int)),(25,AV.elt 3 [(Je (UB fs g))] 0 0),(241,AV.bool (if(W.lf (Jmc W g)-W.lf (QS W fs) != W.cs.getD (g:Int).toNat default)=true then true else W.tt (QV fs)-W.tt ([]++W.tk (g:Int)++W.dp (Jcd g)) !=
  W.pa.getD (g:Int).toNat default))] (JiX W g) 2=AS.mk [(2,AV.elt 5 W.xr 0 0),(3,AV.elt 4 W.nr 0 0),(5,AV.fn (Fn.func 6) [] (XI W)),(6,AV.sl 1 (Uz W)),(8,AV.i (V6 W fs)),(10,AV.i W.sp),(12,AV.sl 3 (V7 W
  fs)),(14,AV.sl 1 (Wl W)),(16,AV.i (QM W fs)),(18,AV.i (JiZ W g)),(19,AV.i (JiY W g)),(20,AV.own 1 (Jex W g).length),(21,AV.i (W.go g)),(22,AV.i (W.si g)),(23,AV.i (Wm W g)),(166,AV.sl 3 (QV fs)),(167,
  AV.i (V3 fs)),(168,AV.i (g:Int)),(24,AV.i (g:Int)),(25,AV.elt 3 [(Je (UB fs g))] 0 0),(241,AV.bool false)] (JiX W g) 2)/\(0:Int)<=0/\(0:Int) < ((Jgl fs g).length:Int)/\¬(1440:Int)=(0:Int) /\
  AV.agg W.ru=AV.agg (ruL W)/\P0 6 (XI W) (AV.agg W.ru)/\nth (Ji (Jgl fs g) 0) 0=AV.i (JoF fs g)/\P0 18 [AV.agg [AV.i W.rc,AV.i W.rd],AV.i (Jgk fs g)] (AV.tup [AV.bool (W.wi W.rc W.rd (Jgk fs g)),AV.i 0])/\AS.mk
  (Z79l W fs g) (JiX W g) 2=AS.mk (Z79l W fs g) (JiX W g) 2/\((!W.wi W.rc W.rd (Jgk fs g))=true->(Jex W g).length+1<=9223372036854775807/\((Jex W g).length+1) * 56<=140737488355328/\Jc (Jcd g)/\∃ (g':Nat),
  g'<=(QV fs).length/\(QV fs).length-g' < (QV fs).length-g/\AS.mk [(2,AV.elt 5 W.xr 0 0),(3,AV.elt 4 W.nr 0 0),(5,AV.fn (Fn.func 6) [] (XI W)),(6,AV.sl 1 (Uz W)),(8,AV.i (V6 W fs)),(10,AV.i W.sp),(12,
  AV.sl 3 (V7 W fs)),(14,AV.sl 1 (Wl W)),(16,AV.i (QM W fs)),(18,AV.i (JiZ W g)),(19,AV.i (JiY W g)),(20,AV.own 1 ((Jex W g).length+1)),(21,AV.i (W.go g)),(22,AV.i (W.si g)),(23,AV.i (Wm W g)),(166,
  AV.sl 3 (QV fs)),(167,AV.i (V3 fs)),(168,AV.i (Jcd g))] [(1,ABlk.buf 63 3 (List.map Je (W.qu g)++[(Je (UB fs g))]))] 2=AS.mk (Z79p W fs g') [(1,ABlk.buf 63 3 (List.map Je (W.qu g')))] 2)/\((!W.wi W.rc
  W.rd (Jgk fs g))=false->((Jl9 W g fs)/\(Jl9 W g fs)/\((Jew W g fs)=true->(0:Int)<=(Wm W g))/\((Jew W g fs)=true->(Wm W g) < (JgF W fs))/\(Jl9 W g fs)/\(Jl9 W g fs)/\(Jl9 W g fs)/\(Jl9 W g fs) /\
  (Jl9 W g fs)/\(decide ((Wm W g)>=(JgF W fs))=false->(Jew W g fs)=true)/\Jd6 (Jew W g fs) (AV.agg (Ji (V7 W fs) (Wm W g).toNat)=AV.agg [AV.str (sJ (V7 W fs) (Wm W g).toNat 0),AV.str (sJ (V7 W fs)
  (Wm W g).toNat 1),AV.i (cJ (V7 W fs) (Wm W g).toNat 2)])/\AS.mk [(2,AV.elt 5 W.xr 0 0),(3,AV.elt 4 W.nr 0 0),(5,AV.fn (Fn.func 6) [] (XI W)),(6,AV.sl 1 (Uz W)),(8,AV.i (V6 W fs)),(10,AV.i W.sp),(12,AV.sl
  3 (V7 W fs)),(14,AV.sl 1 (Wl W)),(16,AV.i (QM W fs)),(18,AV.i (JiZ W g)),(19,AV.i (JiY W g)),(20,AV.own 1 (Jex W g).length),(21,AV.i (W.go g)),(22,AV.i (W.si g)),(23,AV.i (Wm W g)),(166,AV.sl 3 (QV
  fs)),(167,AV.i (V3 fs)),(168,AV.i (g:Int)),(24,AV.i (g:Int)),(25,AV.elt 3 [(Je (UB fs g))] 0 0),(276,AV.bool (if decide ((Wm W g)>=(JgF W fs))=true then true else !(sJ (V7 W fs) (Wm W g).toNat 0 ==
  (UB fs g).n && true && (sJ (V7 W fs) (Wm W g).toNat 1 == [(110:UInt8),(111:UInt8),(110:UInt8),(101:UInt8)] && true && (cJ (V7 W fs) (Wm W g).toNat 2 == 70 && true && true)))))] (JiX W g) 2=AS.mk [(2,AV.elt
  5 W.xr 0 0),(3,AV.elt 4 W.nr 0 0),(5,AV.fn (Fn.func 6) [] (XI W)),(6,AV.sl 1 (Uz W)),(8,AV.i (V6 W fs)),(10,AV.i W.sp),(12,AV.sl 3 (V7 W fs)),(14,AV.sl 1 (Wl W)),(16,AV.i (QM W fs)),(18,AV.i (JiZ W
  g)),(19,AV.i (JiY W g)),(20,AV.own 1 (Jex W g).length),(21,AV.i (W.go g)),(22,AV.i (W.si g)),(23,AV.i (Wm W g)),(166,AV.sl 3 (QV fs)),(167,AV.i (V3 fs)),(168,AV.i (g:Int)),(24,AV.i (g:Int)),(25,
  AV.elt 3 [(Je (UB fs g))] 0 0),(276,AV.bool false)] (JiX W g) 2)/\Jc ((Wm W g)+1)/\(0:Int)<=(g:Int)/\(g:Int) < (Ji1 W)/\Jc (Z79Y W g)/\(0:Int)<=(g:Int)/\(g:Int) < (Jgm W)/\Jc (Z79Z W g)
  /\ nth (Ji (Uz W) (g:Int).toNat) 0=AV.i (W.cs.getD (g:Int).toNat default)/\nth (Ji (Wl W) (g:Int).toNat) 0=AV.i (W.pa.getD (g:Int).toNat default)/\P0 6 (XI W) (AV.agg W.ru)/\P0 19 [AV.agg W.ru,AV.str
  (UB fs g).n,AV.str JoE] (AV.tup [AV.agg [AV.int IntKind.u8 (W.ky (UB fs g).n 0),AV.int IntKind.u8 (W.ky (UB fs g).n 1),AV.int IntKind.u8 (W.ky (UB fs g).n 2),AV.int IntKind.u8 (W.ky (UB fs g).n 3),AV.int IntKind.u8
  (W.ky (UB fs g).n 4),AV.int IntKind.u8 (W.ky (UB fs g).n 5),AV.int IntKind.u8 (W.ky (UB fs g).n 6),AV.int IntKind.u8 (W.ky (UB fs g).n 7)],AV.i 0])/\(0:Int)<=0/\(0:Int) < ((Jgl fs g).length:Int)/\¬(1440 :
  Int)=(0:Int)/\Jc ((JoF fs g).tdiv 1440)/\Jc ((1:Int)+(JoF fs g).tdiv 1440)/\P0 6 (XI W) (AV.agg W.ru)/\nth (Ji W.xr 0) 1=AV.sl 3 (QV fs)/\P0 10 (Jdc fs) (AV.sl 5 (QS W fs))/\nth (Ji (Jgl fs g)
  0) 0=AV.i (JoF fs g)/\P0 13 [AV.agg W.ru,AV.sl 5 (QS W fs),AV.sl 11 (Z79f fs g W)] (AV.tup [AV.sl 3 (W.ca (QS W fs) (Z79f fs g W)),AV.i 0])/\(Vy/\JgG/\Vy/\Vy/\Vy/\(true=true->Jc ((JgF W fs)-1)) /\
  Vy/\Vy/\JgG/\AS.mk [(2,AV.elt 5 W.xr 0 0),(3,AV.elt 4 W.nr 0 0),(5,AV.fn (Fn.func 6) [] (XI W)),(6,AV.sl 1 (Uz W)),(8,AV.i (V6 W fs)),(10,AV.i W.sp),(12,AV.sl 3 (V7 W fs)),(14,AV.sl 1 (Wl W)),(16,
  AV.i (QM W fs)),(18,AV.i (JiZ W g)),(19,AV.i (JiY W g)),(20,AV.own 1 (Jex W g).length),(21,AV.i (Z79Y W g)),(22,AV.i (Z79Z W g)),(23,AV.i ((Wm W g)+1)),(166,AV.sl 3 (QV fs)),(167,AV.i (V3 fs)),(168,
  AV.i (g:Int)),(333,AV.bool ((↑(W.ca (QS W fs) (Z79f fs g W)).length:Int) != (JgF W fs)-1))] (JiX W g) 2=AS.mk [(2,AV.elt 5 W.xr 0 0),(3,AV.elt 4 W.nr 0 0),(5,AV.fn (Fn.func 6) [] (XI W)),(6,AV.sl 1 (Uz
  W)),(8,AV.i (V6 W fs)),(10,AV.i W.sp),(12,AV.sl 3 (V7 W fs)),(14,AV.sl 1 (Wl W)),(16,AV.i (QM W fs)),(18,AV.i (JiZ W g)),(19,AV.i (JiY W g)),(20,AV.own 1 (Jex W g).length),(21,AV.i (Z79Y W g)),(22,
  AV.i (Z79Z W g)),(23,AV.i ((Wm W g)+1)),(166,AV.sl 3 (QV fs)),(167,AV.i (V3 fs)),(168,AV.i (g:Int)),(333,AV.bool false)] (JiX W g) 2)/\Jc (Jcd g)/\∃ (g':Nat),g'<=(QV fs).length/\(QV fs).length -
  g' < (QV fs).length-g/\AS.mk [(2,AV.elt 5 W.xr 0 0),(3,AV.elt 4 W.nr 0 0),(5,AV.fn (Fn.func 6) [] (XI W)),(6,AV.sl 1 (Uz W)),(8,AV.i (V6 W fs)),(10,AV.i W.sp),(12,AV.sl 3 (V7 W fs)),(14,AV.sl 1 (Wl
  W)),(16,AV.i (QM W fs)),(18,AV.i (JiZ W g)),(19,AV.i (JiY W g)),(20,AV.own 1 (Jex W g).length),(21,AV.i (Z79Y W g)),(22,AV.i (Z79Z W g)),(23,AV.i ((Wm W g)+1)),(166,AV.sl 3 (QV fs)),(167,AV.i (V3
  fs)),(168,AV.i (Jcd g))] (JiX W g) 2=AS.mk (Z79p W fs g') [(1,ABlk.buf 63 3 (List.map Je (W.qu g')))] 2))/\(decide ((g:Int) < (V3 fs))=false->AS.mk [(2,AV.elt 5 W.xr 0 0),(3,AV.elt 4 W.nr 0 0),(5,AV.fn
  (Fn.func 6) [] (XI W)),(6,AV.sl 1 (Uz W)),(8,AV.i (V6 W fs)),(10,AV.i W.sp),(12,AV.sl 3 (V7 W fs)),(14,AV.sl 1 (Wl W)),(16,AV.i (QM W fs)),(18,AV.i (W.sm g)),(19,AV.i (W.en g)),(20,AV.sl 3 (Jex W
  g)),(21,AV.i (W.go g)),(22,AV.i (W.si g)),(23,AV.i (Wm W g))] [] 1=AS.mk [(2,AV.elt 5 W.xr 0 0),(3,AV.elt 4 W.nr 0 0),(5,AV.fn (Fn.func 6) [] (XI W)),(6,AV.sl 1 (Uz W)),(8,AV.i (V6 W fs)),(10,AV.i W.sp),
  (12,AV.sl 3 (V7 W fs)),(14,AV.sl 1 (Wl W)),(16,AV.i (QM W fs)),(18,AV.i (W.sm fs.length)),(19,AV.i (W.en fs.length)),(20,AV.sl 3 (Jdb W fs)),(21,AV.i (W.go fs.length)),(22,AV.i (W.si fs.length)),(23,AV.i
  (JpH W fs))] [] 1/\True))/\(True->(((Jgj W fs)=true->(Jgj W fs)=true)/\((Jgj W fs)=true->(Jgj W fs)=true)/\(((JpH W fs) != (JgF W fs))=false->(Jgj W fs)=true)/\((JpC W fs)=true->(JpC W fs) =
  true)/\((JpC W fs)=true->(JpC W fs)=true)/\((JoC W fs)=false->(JpC W fs)=true)/\AS.mk [(2,AV.elt 5 W.xr 0 0),(3,AV.elt 4 W.nr 0 0),(5,AV.fn (Fn.func 6) [] (XI W)),(8,AV.i (V6 W fs)),(16,AV.i (QM W
  fs)),(20,AV.sl 3 (Jdb W fs)),(21,AV.i (W.go fs.length)),(22,AV.i (W.si fs.length)),(348,AV.bool (if(JoC W fs)=true then true else W.en fs.length != W.tt (QV fs)))] [] 1=AS.mk [(2,AV.elt 5 W.xr 0 0),(3,AV.elt 4
  W.nr 0 0),(5,AV.fn (Fn.func 6) [] (XI W)),(8,AV.i (V6 W fs)),(16,AV.i (QM W fs)),(20,AV.sl 3 (Jdb W fs)),(21,AV.i (W.go fs.length)),(22,AV.i (W.si fs.length)),(348,AV.bool false)] [] 1)/\(AS.mk (Z79L W fs) []
  1=AS.mk (Z79L W fs) [] 1/\True)/\(True->(P0 6 (XI W) (AV.agg W.ru)/\P0 10 [AV.sl 3 (Jdb W fs)] (AV.sl 5 (UA W fs))/\P0 13 [AV.agg W.ru,AV.sl 5 (UA W fs),AV.ex (Value.slice none 0 0)] (AV.tup [AV.sl 3 (W.ca (UA
  W fs) []),AV.i 0])/\AS.mk (Z79F W fs) [] 1=AS.mk (Z79F W fs) [] 1/\True)/\(True->(P0 6 (XI W) (AV.agg W.ru)/\P0 10 [AV.sl 3 (Jdb W fs)] (AV.sl 5 (UA W fs))/\P0 11 [AV.agg W.ru,AV.sl 5 (UA W fs)] (AV.tup [AV.i
  (W.lf (UA W fs)),AV.i 0])/\AS.mk (Z79A W fs) [] 1=AS.mk (Z79A W fs) [] 1/\True)/\(True->(nth (Ji W.xr 0) 0=AV.sl 13 (Jdd ts)/\P0 15 [AV.sl 13 (Jdd ts)] (AV.sl 13 (Jdd ts))/\P0 16 [AV.sl 3 (Jdb W fs)] (AV.sl 3
  (Jdb W fs))/\AV.agg (Ji0 W)=AV.agg (Jcc x y z)/\P0 17 [AV.sl 13 (Jdd ts),AV.sl 3 (Jdb W fs),AV.agg (Jcc x y z)] (AV.tup [AV.i (W.tt (Jdb W fs)),AV.i 0])/\AS.mk (Z79v W fs) [] 1=AS.mk (Z79v W fs) [] 1/\True) /\
  (True->Vy/\Vy/\Vy/\Vy/\Vy/\Vy/\Vy/\(JpE W fs)/\(JpE W fs)/\((Z79X W fs)=true->Jc (W.lf (QS W fs)+W.go fs.length))/\(JpE W fs)/\(JpE W fs)/\(JpE W fs)/\(JpF W fs)/\(JpF W fs)/\((Z79d W
  fs)=true->Jc (W.tt (QV fs)-W.si fs.length))/\(JpF W fs)/\(JpF W fs)/\(JpF W fs)/\AV.bool (if(Z79d W fs)=true then W.tt (Jdb W fs) == W.tt (QV fs)-W.si fs.length else false)=AV.bool true)))))))))))))):=by
   delta QV Z79b Jma Z79d XI Z79f JgF Z79h Jdb UB V3 Z79l Vy Uz Jl9 Z79p JpE V7 V6 Wl JpD Z79v JpC JiZ JiY JiX Z79A Z79B Jmc Z79D JgG Z79F Z79G JoF Wm Z79J Z79K Z79L Jex Jmb Z79O Ji1 Jcd Jdd Z79S JpH Z79U JpG JpF Z79X Z79Y Z79Z Ji0 Jew QM JoE JoD QS Jgm Jgl Jgk UA Jcc Jgj JoC Jdc Jk6
   have lts:(List.map Jd ts).length=ts.length:=Kb _
   have lfs:(List.map Je fs).length=fs.length:=Kb _
   have hk:=hL.k
   have m2:=hk.m2
   have lcs:(List.map Jh W.cs).length=fs.length:=(Kb _).trans hL.hcs
   have lpa:(List.map Jh W.pa).length=fs.length:=(Kb _).trans hL.hpa
   obtain⟨z1,z2,hS,hF⟩:=JjS hk.s
   have hr:=List.Sublist.refl fs
   have bn:=hL.bnd fs.length (Kr _)
   unfold B15 at bn
   have bl:=hL.bl
   have bt:=hL.bt
   unfold B15 at bl bt
   have:(List.map Jh W.cs).length=W.cs.length:=by simp only[Kb]
   have:(List.map Je fs).length=fs.length:=by simp only[Kb]
   have:(List.map Jh W.pa).length=W.pa.length:=by simp only[Kb]
   refine⟨⟨fun h=>h,fun h=>h,fun h=>by first | exact h | (rw[h];rfl) | simp_all,c4,rfl,((c5 ts fs x y z hl hm hst)),(by first | (rw[hL.hxr,hL.hnr]) | (rw[hs];rfl))⟩,⟨(by first | (rw[hL.hxr,hL.hnr]) | (rw[hs];rfl)),trivial⟩,fun h1=>⟨⟨rfl,trivial⟩,fun h2=>⟨⟨hL.c6,(by first | (rw[hL.hxr];rfl) | (rw[hL.hxr];done)),((hL.c10 _ hr)),hL.c9,rfl,trivial⟩,fun h3=>⟨⟨hL.c6,(by first | (rw[hL.hxr];rfl) | (rw[hL.hxr];done)),((hL.c10 _ hr)),((hL.c11 _ hr)),rfl,trivial⟩,fun h4=>⟨⟨hL.c6,(by first | (rw[hL.hxr];rfl) | (rw[hL.hxr];done)),((hL.c10 _ hr)),hL.c12,rfl,trivial⟩,fun h5=>⟨⟨hL.c6,(by first | (rw[hL.hxr];rfl) | (rw[hL.hxr];done)),((hL.c10 _ hr)),((hL.c13 _ hr)),rfl,trivial⟩,fun h6=>⟨⟨(by first | (rw[hL.hxr];rfl) | (rw[hL.hxr];done)),((c15 ts (by omega) hS).un),(by first | (rw[hL.hxr];rfl) | (rw[hL.hxr];done)),((c16 fs (by omega) (fun f hf=>(hF f hf).2.2)).un),(by first | (rw[hL.hxr];rfl) | (rw[hL.hxr];done)),hL.c14,rfl,trivial⟩,fun h7=>⟨⟨(by first | (rw[hL.hxr];rfl) | (rw[hL.hxr];done)),((c15 ts (by omega) hS).un),(by first | (rw[hL.hxr];rfl) | (rw[hL.hxr];done)),((c16 fs (by omega) (fun f hf=>(hF f hf).2.2)).un),(by first | (rw[hL.hxr];rfl) | (rw[hL.hxr];done)),((hL.c17 _ hr)),rfl,trivial⟩,fun h8=>⟨⟨fun h=>h,fun h=>by first | exact h | (rw[h];rfl) | simp_all,fun h=>h,fun h=>by first | exact h | (rw[h];rfl) | simp_all,fun h=>h,fun h=>by first | exact h | (rw[h];rfl) | simp_all,fun h=>h,fun h=>by first | exact h | (rw[h];rfl) | simp_all,fun h=>h,fun h=>by first | exact h | (rw[h];rfl) | simp_all,fun h=>h,fun h=>h,fun h=>h,fun h=>h,fun h=>h,fun h=>by first | exact h | (rw[h];rfl) | simp_all,fun h=>h,fun h=>h,fun h=>h,fun h=>h,fun h=>h,fun h=>by first | exact h | (rw[h];rfl) | simp_all,fun h=>h,fun _=>by unfold Jc;omega,fun h=>h,fun h=>h,fun h=>by first | exact h | (rw[h];rfl) | simp_all,fun h=>h,fun h=>h,fun h=>h,fun h=>h,fun h=>h,fun h=>by first | exact h | (rw[h];rfl) | simp_all,(by first | (rw[hL.hxr];rfl) | (rw[hL.hxr];done)),impB_iff.2 fun hb=>(by first | (rw[hL.hxr];rfl) | (rw[hL.hxr];done)),impB_iff.2 fun hb=>(by first | (rw[hL.hxr];rfl) | (rw[hL.hxr];done)),?_⟩,⟨rfl,trivial⟩,fun h9=>⟨(by first | (rw[hL.hxr];rfl) | (rw[hL.hxr];done)),⟨⟨0,by omega,by rw[hL.sm0,hL.en0,hL.go0,hL.si0,hL.kk0,hL.qu0];rfl⟩,fun g hg=>⟨fun hd=>?_,fun hd=>?_⟩⟩,fun h10=>⟨⟨fun h=>h,fun h=>h,fun h=>by first | exact h | (rw[h];rfl) | simp_all,fun h=>h,fun h=>h,fun h=>by first | exact h | (rw[h];rfl) | simp_all,?_⟩,⟨rfl,trivial⟩,fun h11=>⟨⟨hL.c6,((hL.c10 _ bn.2.2.2.2.2.2)),((hL.c13 _ bn.2.2.2.2.2.2)),rfl,trivial⟩,fun h12=>⟨⟨hL.c6,((hL.c10 _ bn.2.2.2.2.2.2)),((hL.c11 _ bn.2.2.2.2.2.2)),rfl,trivial⟩,fun h13=>⟨⟨(by first | (rw[hL.hxr];rfl) | (rw[hL.hxr];done)),((c15 ts (by omega) hS).un),((c16 _ (by omega) (fun f hf=>(hF f (bn.2.2.2.2.2.2.subset hf)).2.2)).un),(by first | (rw[hL.hxr];rfl) | (rw[hL.hxr];done)),((hL.c17 _ bn.2.2.2.2.2.2)),rfl,trivial⟩,fun h14=>⟨fun h=>h,fun h=>h,fun h=>h,fun h=>h,fun h=>h,fun h=>h,fun h=>h,fun h=>h,fun h=>h,fun _=>by unfold Jc;omega,fun h=>h,fun h=>h,fun h=>h,fun h=>h,fun h=>h,fun _=>by unfold Jc;omega,fun h=>h,fun h=>h,fun h=>h,?_⟩⟩⟩⟩⟩⟩⟩⟩⟩⟩⟩⟩⟩⟩⟩
   . rw[lcs,lpa,lfs,hL.hsp,hL.lca,bne_self_eq_false,bne_self_eq_false,decide_eq_false (show ¬ ((W.kk fs.length:Nat):Int) > (fs.length:Int) by omega)]
     rfl
   . have hlt:g < fs.length:=by have h9:=Ky hd;have h8:=hg;(try simp only[Kb]at h8);(try simp only[Kb]at h9);omega
     have hmem:=Js hlt
     have hlsub:(Jd1 fs g).Sublist fs:=by
      unfold Jd1
      have h9:(fs.take g++fs.drop (g+1)).Sublist (fs.take g++fs.drop g):=(List.Sublist.refl _).append (List.drop_sublist_drop_left fs (Nat.le_succ g))
      rwa [List.take_append_drop]at h9
     have hless:[]++W.tk (g:Int)++W.dp ((g:Int)+(1:Int))=(Jd1 fs g).map Je:=by
      rw[hL.htk g (by omega),show((g:Int)+(1:Int))=((g+1:Nat):Int) by omega,hL.hdp (g+1) (by omega),List.nil_append,<- K8]
      rfl
     have bg:=hL.bnd g (by omega)
     have bc:=hL.cb g hlt
     unfold B15 at bg bc
     have hT:=(hk.tr hmem).1
     have n1:=hT.n1
     have hlm:(List.map Jg (fs.getD g default).tr).length=(fs.getD g default).tr.length:=Kb _
     have hc0:cJ (List.map Jg (fs.getD g default).tr) 0 0=Jp (fs.getD g default).tr:=Wy _
     have lqu:(List.map Je (W.qu g)).length=(W.qu g).length:=Kb _
     have lca:=hL.lca
     have bT:=(hk.tr hmem).2
     unfold TrB at bT
     have htd:0<=(Jp (fs.getD g default).tr).tdiv 1440/\(Jp (fs.getD g default).tr).tdiv 1440<=100000000:=by
      rw[Int.tdiv_eq_ediv_of_nonneg bT.1]
      omega
     have q1:W.lf (W.mv ([]++W.tk (g:Int)++W.dp ((g:Int)+(1:Int))))-W.lf (W.mv (fs.map Je))=W.cs.getD g default:=by
      rw[hless]
      exact hL.le1 g hlt
     have q2:W.tt (fs.map Je)-W.tt ([]++W.tk (g:Int)++W.dp ((g:Int)+(1:Int)))=W.pa.getD g default:=by
      rw[hless]
      exact hL.le2 g hlt
     have ltk:(W.tk (g:Int)).length<=fs.length:=by
      rw[hL.htk g (by omega),Kb,Kg]
      omega
     have ldp:(W.dp ((g:Int)+(1:Int))).length<=fs.length:=by
      rw[show((g:Int)+(1:Int))=((g+1:Nat):Int) by omega,hL.hdp (g+1) (by omega),Kb,Kh]
      omega
     rw[show(g:Int).toNat=g from Km g,hc0]
     try rw[show(g:Int).toNat=g from Km g]
     refine⟨by omega,by omega,congrArg AV.agg (Jl Je hlt),by omega,by omega,by unfold Jc;omega,by omega,by omega,by unfold Jc;omega,(congrArg (fun r=>nth r 0) (Jl Jh (show g < W.cs.length by rw[hL.hcs];exact hlt))),(congrArg (fun r=>nth r 0) (Jl Jh (show g < W.pa.length by rw[hL.hpa];exact hlt))),by omega,by omega,by omega,by omega,by omega,by unfold Jc;omega,by omega,by omega,by omega,by omega,by omega,(by first | (rw[hL.hxr];rfl) | (rw[hL.hxr];done)),?_,(by first | (rw[hL.hxr];rfl) | (rw[hL.hxr];done)),?_,hL.c6,((by rw[hless];exact hL.c10 _ hlsub)),((by rw[hless];exact hL.c11 _ hlsub)),(by first | (rw[hL.hxr];rfl) | (rw[hL.hxr];done)),((c15 ts (by omega) hS).un),((by rw[hless];exact(c16 _ (by have:=hlsub.length_le;omega) (fun f hf=>(hF f (hlsub.subset hf)).2.2)).un)),(by first | (rw[hL.hxr];rfl) | (rw[hL.hxr];done)),((by rw[hless];exact hL.c17 _ hlsub)),⟨fun h=>h,fun h=>by first | exact h | (rw[h];rfl) | simp_all,fun h=>h,fun h=>h,fun _=>by unfold Jc;omega,fun h=>h,fun h=>h,fun _=>by omega,fun _=>by omega,fun h=>h,fun h=>h,fun h=>h,fun h=>by first | exact h | (rw[h];rfl) | simp_all,fun h=>h,fun h=>h,fun _=>by unfold Jc;omega,fun h=>h,fun h=>h,fun _=>by omega,fun _=>by omega,fun h=>h,fun h=>h,fun h=>h,fun h=>by first | exact h | (rw[h];rfl) | simp_all,(congrArg (fun r=>nth r 0) (Jl Jh (show g < W.cs.length by rw[hL.hcs];exact hlt))),impB_iff.2 fun hb=>(congrArg (fun r=>nth r 0) (Jl Jh (show g < W.pa.length by rw[hL.hpa];exact hlt))),?_⟩,by omega,by omega,by decide,(congrArg AV.agg hL.hru),hL.c6,(Uf (by omega)),((hL.c18 _ hmem)),rfl,fun h10=>?_,fun h10=>?_⟩
     . rw[hL.htk g (by omega),List.drop_zero,show((g:Int)-0).toNat=g by omega,List.map_take]
     . rw[show((g:Int)+1)=((g+1:Nat):Int) by omega,hL.hdp (g+1) (by omega),Km,List.map_drop,Ku (by rw[Kh,lfs];omega)]
     . rw[hless,hL.le1 g hlt,hL.le2 g hlt,bne_self_eq_false,bne_self_eq_false]
       rfl
     . have hcur:JiE W (fs.getD g default)=false:=by
        have h9:=h10
        unfold JiE
        revert h9
        cases W.wi W.rc W.rd ((Jp (fs.getD g default).tr).tmod 1440) <;> intro h9 <;> first | rfl | cases h9
       refine⟨by omega,by omega,by unfold Jc;omega,⟨g+1,by omega,by omega,?_⟩⟩
       obtain⟨e1,e2,e3,e4⟩:=hL.go2 g hlt hcur
       rw[hL.sm1 g hlt,hL.en1 g hlt,e1,e2,e3,e4,K8,Kf]
       rfl
     have hcur:JiE W (fs.getD g default)=true:=by
      have h9:=h10
      unfold JiE
      revert h9
      cases W.wi W.rc W.rd ((Jp (fs.getD g default).tr).tmod 1440) <;> intro h9 <;> first | rfl | cases h9
     have hrow:=hL.row g hlt hcur
     have hr1:=hrow.1
     have hs0:sJ (W.ca (W.mv (List.map Je fs)) []) (W.kk g) 0=(fs.getD g default).n:=by
      unfold sJ
      rw[hrow.2]
      rfl
     have hs1:sJ (W.ca (W.mv (List.map Je fs)) []) (W.kk g) 1=JnG:=by
      unfold sJ
      rw[hrow.2]
      rfl
     have hs2:cJ (W.ca (W.mv (List.map Je fs)) []) (W.kk g) 2=70:=by
      unfold cJ
      rw[hrow.2]
      rfl
     rw[show(↑(W.kk g):Int).toNat=W.kk g from Km _,hs0,hs1,hs2]
     refine⟨⟨fun h=>h,fun h=>h,fun _=>by omega,fun _=>by omega,fun h=>h,fun h=>h,fun h=>h,fun h=>h,fun h=>h,fun h=>by first | exact h | (rw[h];rfl) | simp_all,impB_iff.2 fun hb=>(congrArg AV.agg hrow.2),?_⟩,by unfold Jc;omega,by omega,by omega,by unfold Jc;omega,by omega,by omega,by unfold Jc;omega,(congrArg (fun r=>nth r 0) (Jl Jh (show g < W.cs.length by rw[hL.hcs];exact hlt))),(congrArg (fun r=>nth r 0) (Jl Jh (show g < W.pa.length by rw[hL.hpa];exact hlt))),hL.c6,((hL.c19 _ hmem)),by omega,by omega,by decide,by unfold Jc;omega,by unfold Jc;omega,hL.c6,(by first | (rw[hL.hxr];rfl) | (rw[hL.hxr];done)),((hL.c10 _ hr)),(Uf (by omega)),((hL.c13x _ hmem hcur)),⟨fun h=>h,fun h=>by first | exact h | (rw[h];rfl) | simp_all,fun h=>h,fun h=>h,fun h=>h,fun _=>by unfold Jc;omega,fun h=>h,fun h=>h,fun h=>by first | exact h | (rw[h];rfl) | simp_all,?_⟩,by unfold Jc;omega,⟨g+1,by omega,by omega,?_⟩⟩
     . rw[decide_eq_false (show ¬ ((W.kk g:Nat):Int)>=((W.ca (W.mv (List.map Je fs)) []).length:Int) by omega),Kx]
       rfl
     . rw[show((W.ca (W.mv (List.map Je fs)) [[AV.str (fs.getD g default).n,AV.str [(115:UInt8),(116:UInt8),(111:UInt8),(114:UInt8),(109:UInt8)],AV.i ((1:Int)+(Jp (fs.getD g default).tr).tdiv (1440:Int)),AV.int IntKind.u8 (W.ky (fs.getD g default).n 0),AV.int IntKind.u8 (W.ky (fs.getD g default).n 1),AV.int IntKind.u8 (W.ky (fs.getD g default).n 2),AV.int IntKind.u8 (W.ky (fs.getD g default).n 3),AV.int IntKind.u8 (W.ky (fs.getD g default).n 4),AV.int IntKind.u8 (W.ky (fs.getD g default).n 5),AV.int IntKind.u8 (W.ky (fs.getD g default).n 6),AV.int IntKind.u8 (W.ky (fs.getD g default).n 7)]]).length:Int)=((W.ca (W.mv (List.map Je fs)) []).length:Int)-1 from hL.exc g hlt hcur,bne_self_eq_false]
     obtain⟨e1,e2,e3,e4⟩:=hL.go1 g hlt hcur
     rw[hL.sm1 g hlt,hL.en1 g hlt,e1,e2,e3,e4]
     rfl
   . have hge:g=fs.length:=by have h9:=Kz hd;have h8:=hg;(try simp only[Kb]at h8);(try simp only[Kb]at h9);omega
     subst hge
     exact⟨rfl,trivial⟩
   . rw[hL.lca,hL.fs1,hL.fs2,bne_self_eq_false,bne_self_eq_false,bne_self_eq_false]
     rfl
   rw[hL.fq1,hL.fq2,hL.fq3,Kx,Kx]
   rfl
 exact c_ofH Tryz.f3 (B3 W ts fs x y z) (m3 W fs) key (by kernel_rfl)
theorem JdW(s:List UInt8):N7.sName s=sName s:=by kernel_rfl
theorem tym{m n:Int}(hn:0<=n):n.tmod m=n % m:=Int.tmod_eq_emod_of_nonneg hn
structure HrE(r:N7.Ru):Prop where
 a:0<=r.a/\r.a < 1440
 b:0<=r.b/\r.b < 1440
 c:0<=r.c/\r.c < 1440
 d:0<=r.d/\r.d < 1440
 n:r.a ≠ r.b
 m:r.c ≠ r.d
 i:∀ m:Int,0<=m->m < 1440->N7.wiR r.c r.d m=true->N7.wiR r.a r.b m=true
theorem JmQ{a b m:Int}:N7.wiR a b m=true ↔ (a < b/\a<=m/\m < b) ∨ (¬ a < b/\(a<=m ∨ m < b)):=by
 unfold N7.wiR
 by_cases h:a < b <;> by_cases h2:m>=a <;> by_cases h3:m < b <;> simp[h,h2,h3] <;> omega
theorem hrE{ns:List (List UInt8)}{n0 n1 n2 n3 q:Int}(h:EB n0 n1 n2 n3):HrE (eR ns n0 n1 n2 n3 q):=by
 obtain⟨⟨f1,f2⟩,⟨l1,l2⟩,⟨a1,a2⟩,⟨k1,k2⟩⟩:=h
 have e1:(eF n0+eL n1).tmod 1440=(eF n0+eL n1) % 1440:=tym (by omega)
 have e2:(eF n0+eA n1 n2).tmod 1440=(eF n0+eA n1 n2) % 1440:=tym (by omega)
 have e3:(eF n0+eA n1 n2+eC n1 n2 n3).tmod 1440=(eF n0+eA n1 n2+eC n1 n2 n3) % 1440:=tym (by omega)
 refine⟨⟨f1,f2⟩,?_,?_,?_,?_,?_,fun m m1 m2 hw=>?_⟩
 . show 0<=(eF n0+eL n1).tmod 1440/\(eF n0+eL n1).tmod 1440 < 1440
   omega
 . show 0<=(eF n0+eA n1 n2).tmod 1440/\(eF n0+eA n1 n2).tmod 1440 < 1440
   omega
 . show 0<=(eF n0+eA n1 n2+eC n1 n2 n3).tmod 1440/\(eF n0+eA n1 n2+eC n1 n2 n3).tmod 1440 < 1440
   omega
 . show eF n0 ≠ (eF n0+eL n1).tmod 1440
   omega
 . show(eF n0+eA n1 n2).tmod 1440 ≠ (eF n0+eA n1 n2+eC n1 n2 n3).tmod 1440
   omega
 have hw:N7.wiR ((eF n0+eA n1 n2).tmod 1440) ((eF n0+eA n1 n2+eC n1 n2 n3).tmod 1440) m=true:=hw
 show N7.wiR (eF n0) ((eF n0+eL n1).tmod 1440) m=true
 rw[e2,e3]at hw
 rw[e1]
 rw[JmQ]at hw ⊢
 omega
theorem ty_nm{t:Ty}(h:Xr t=0):sName t.name=true:=by
 have h1:UU t=0:=by
  unfold Xr at h
  split at h
  . rename_i h1
    rw[h]at h1
    exact absurd h1 (by decide)
  rename_i h1
  simpa using h1
 unfold UU at h1
 rw[first_zero,when_zero (by decide)]at h1
 simpa using h1.1
theorem JeF{ts:List Ty}{fs:List Fl}(h:VH ts fs=0):(∀ i,i < ts.length->sName (ts.getD i default).name=true)/\∀ i,i < ts.length->∀ j,j < i->(ts.getD j default).name ≠ (ts.getD i default).name:=by
 unfold VH at h
 split at h
 . cases h
 obtain⟨h2,_⟩:=JL h
 have k:∀ i,i < ts.length->Xr (ts.getD i default)=0/\VN (knT (ts.take i)) (.str (ts.getD i default).name)=false:=fun i hi=>by
  have:=h2 i hi
  unfold fTy at this
  rw[first_zero,first_zero,when_zero (by decide)]at this
  exact⟨this.1,this.2.1⟩
 refine⟨fun i hi=>ty_nm (k i hi).1,fun i hi j hj e=>?_⟩
 have h3:=(k i hi).2
 have h4:VN (knT (ts.take i)) (.str (ts.getD i default).name)=(ts.take i).any fun a=>a.name == (ts.getD i default).name:=QQ Ty.name _ _
 rw[h4]at h3
 have h5:(ts.take i).any (fun a=>a.name == (ts.getD i default).name)=true:=by
  refine List.any_eq_true.2 ⟨ts.getD j default,?_,by rw[e];exact Kx _⟩
  rw[Ka,Kj (by omega)]
  show ts[j] ∈ ts.take i
  have:(ts.take i)[j]'(by rw[Kg];omega)=ts[j]:=List.getElem_take
  rw[<- this]
  exact List.getElem_mem _
 rw[h5]at h3
 cases h3
theorem Jhb{ns:List (List UInt8)}{i:Nat}(h:i < ns.length):((tpE 0 ns).getD i default).n=ns.getD i default:=by
 rw[JeH ns 0 i h]
theorem Jj1{ts:List Ty}{fs:List Fl}{n0 n1 n2 n3:Int}(h:VH ts fs=0)(hn:ts.length<=3)(hB:EB n0 n1 n2 n3)(q:Int)(hq:0<=q/\q<=100):N7.chkR (eR (ts.map Ty.name) n0 n1 n2 n3 q)=0:=by
 have H:=hrE (ns:=ts.map Ty.name) (q:=q) hB
 obtain⟨nm,nd⟩:=JeF h
 have hl:(ts.map Ty.name).length=ts.length:=Kb _
 have hl2:(eR (ts.map Ty.name) n0 n1 n2 n3 q).ts.length=ts.length:=by
  show(tpE 0 (ts.map Ty.name)).length=ts.length
  rw[UF,hl]
 have hg:∀ i,i < ts.length->(ts.map Ty.name).getD i default=(ts.getD i default).name:=fun i hi=>by
  rw[Ka,Kk,Ka,Kj hi]
  rfl
 have hn2:∀ i,i < ts.length->((eR (ts.map Ty.name) n0 n1 n2 n3 q).ts.getD i default).n=(ts.getD i default).name:=fun i hi=>by
  rw[show(eR (ts.map Ty.name) n0 n1 n2 n3 q).ts=tpE 0 (ts.map Ty.name)from rfl,Jhb (by omega),hg i hi]
 have e1:N7.e1 (eR (ts.map Ty.name) n0 n1 n2 n3 q)=0:=by
  have sp:∀ {a b:Int},0<=a->a < 1440->0<=b->b < 1440->a ≠ b->N7.sSp a b=0:=fun h1 h2 h3 h4 h5=>by
   unfold N7.sSp
   rw[decide_eq_false (by omega),decide_eq_false (by omega),decide_eq_false (by omega),decide_eq_false (by omega),beq_eq_false_iff_ne.2 h5]
   rfl
  unfold N7.e1
  rw[N7.first_zero,N7.first_zero]
  exact⟨sp H.a.1 H.a.2 H.b.1 H.b.2 H.n,sp H.c.1 H.c.2 H.d.1 H.d.2 H.m,rfl⟩
 unfold N7.chkR
 rw[e1,if_neg (by decide),N7.scan_end]
 . rw[hl2,if_neg (by rw[Ko];omega),N7.scan_end]
   . have e4:N7.e4 (eR (ts.map Ty.name) n0 n1 n2 n3 q)=0:=by
      unfold N7.e4
      rw[N7.first_zero,N7.first_zero,N7.within_zero]
      exact⟨⟨hq.1,by show q<=100000;omega⟩,rfl,rfl⟩
     rw[e4,if_neg (by decide),N7.scan_end]
     . rfl
     intro k hk
     have hk:k < 1:=hk
     obtain rfl:k=0:=by omega
     show N7.sFirst [N7.sWhen (!N7.sName (([stormS]:List (List UInt8)).getD 0 default)) 8,N7.sWhen (decide (N7.fiN (N7.pS [stormS] (([stormS]:List (List UInt8)).getD 0 default)) 0 < 0)) 9]=0
     decide +kernel
   intro i hi
   unfold N7.fT
   rw[N7.first_zero,N7.first_zero,N7.first_zero,N7.first_zero,N7.when_zero (by decide),N7.when_zero (by decide),N7.within_zero,N7.within_zero,hn2 i hi,JdW,nm i hi]
   have ht:(eR (ts.map Ty.name) n0 n1 n2 n3 q).ts.getD i default=⟨(ts.map Ty.name).getD i default,1+3 * ((0+i:Nat):Int),10⟩:=JeH _ 0 i (by omega)
   rw[ht]
   refine⟨rfl,?_,by show 0<=1+3 * ((0+i:Nat):Int)/\1+3 * ((0+i:Nat):Int)<=64;omega,by show(0:Int)<=10/\(10:Int)<=100000;decide,rfl⟩
   rw[N7.fiI_dec,N7.fi_none]
   . exact decide_eq_false (Nat.lt_irrefl _)
   intro j hj
   unfold N7.pN
   rw[hn2 j (by omega)]
   exact beq_eq_false_iff_ne.2 (nd i hi j hj)
 intro m hm
 unfold N7.fM
 cases hw:N7.wiR (eR (ts.map Ty.name) n0 n1 n2 n3 q).c (eR (ts.map Ty.name) n0 n1 n2 n3 q).d m with
 | false=>rfl
 | true =>
  rw[H.i m (by omega) (by omega) hw]
  rfl
theorem FsW.sub{ts:List Ty}{fs gs:List Fl}(h:FsW ts fs)(hs:gs.Sublist fs):FsW ts gs :=
 ⟨by have:=hs.length_le;have:=h.n;omega,fun f hf=>h.f f (hs.subset hf),List.Pairwise.sublist (hs.map Fl.n) h.u⟩
structure RE(ts:List Ty)(fs:List Fl)(r:N7.Ru):Prop where
 w:FsW ts fs
 c:N7.chkR r=0
 h:HrE r
 l:r.ts.length=ts.length
 n:∀ i,i < ts.length->(r.ts.getD i default).n=(ts.getD i default).name
 s:∀ i,i < ts.length->sName (ts.getD i default).name=true
 q:r.q=100
 rs:r.rs=[stormS]
 dl:r.dl=3
 fi:r.fi=70
 k:∀ i,N7.kyR r i=0
 t3:ts.length<=3
 tr:∀ f,f ∈ fs->0<=Jp f.tr/\Jp f.tr<=100000000
theorem Ws{s:List UInt8}(h:sName s=true):s.length<=24:=by
 unfold sName at h
 simp only[Kd,Ko]at h
 exact h.2.2
theorem Xl{α β:Type}[Inhabited α][Inhabited β]{f:α->β}{l:List α}{i:Nat}(h:i < l.length):(l.map f).getD i default=f (l.getD i default):=by
 rw[Ka,Kk,Ka,Kj h]
 rfl
theorem JfP{ts:List Ty}{fs gs:List Fl}{r:N7.Ru}(h:RE ts fs r)(hs:gs.Sublist fs):N7.Sh r (gs.map mvE):=by
 have hg:=h.w.sub hs
 have hn:=hg.n
 refine⟨by rw[h.l];have:=h.t3;omega,by rw[h.rs];decide,fun t ht=>?_,fun s hs=>?_,by rw[Kb];omega,fun m hm=>?_⟩
 . obtain⟨i,hi,rfl⟩:=N7.mem_get ht
   rw[h.n i (by rw[<- h.l];exact hi)]
   have:=Ws (h.s i (by rw[<- h.l];exact hi))
   omega
 . rw[h.rs]at hs
   simp only[List.mem_singleton]at hs
   subst hs
   decide
 obtain⟨f,hf,rfl⟩:=List.mem_map.1 hm
 have:=Ws (hg.f f hf).nm
 exact⟨by show f.n.length<=1000;omega,by show airS.length<=1000;decide⟩
theorem known{ts:List Ty}{f:Fl}(h:FlW ts f):∃ j,j < ts.length/\(ts.getD j default).name=f.y:=by
 have h2:VN (knT ts) (.str f.y)=ts.any fun a=>a.name == f.y:=QQ Ty.name f.y ts
 rw[h.kn]at h2
 obtain⟨t,ht,e⟩:=List.any_eq_true.1 h2.symm
 obtain⟨i,hi,rfl⟩:=N7.mem_get ht
 exact⟨i,hi,eq_of_beq e⟩
theorem Vt{ts:List Ty}{fs gs:List Fl}{r:N7.Ru}(h:RE ts fs r)(hs:gs.Sublist fs):N7.chkMR r (gs.map mvE)=0:=by
 have hg:=h.w.sub hs
 have hn:=hg.n
 have hlm:(gs.map mvE).length=gs.length:=Kb _
 unfold N7.chkMR
 rw[h.c,show N7.sFirst [0,N7.sWhen (decide (((gs.map mvE).length:Int) > 256)) 5]=0 by
  rw[hlm,decide_eq_false (by omega)]
  rfl,if_neg (by decide)]
 refine N7.scan_end fun i hi=>?_
 rw[hlm]at hi
 have hm:(gs.map mvE).getD i default=mvE (gs.getD i default):=Xl hi
 have hf:=hg.f _ (Js hi)
 have ht:=h.tr _ (hs.subset (Js hi))
 obtain⟨j,hj,hy⟩:=known hf
 have e1:(Jp (gs.getD i default).tr).tdiv 1440=Jp (gs.getD i default).tr / 1440:=Int.tdiv_eq_ediv_of_nonneg ht.1
 have e2:(Jp (gs.getD i default).tr).tmod 1440=Jp (gs.getD i default).tr % 1440:=tym ht.1
 unfold N7.fMv
 rw[hm,N7.first_zero,N7.first_zero,N7.first_zero,N7.first_zero,N7.first_zero,N7.first_zero,N7.when_zero (by decide),N7.when_zero (by decide),N7.when_zero (by decide),N7.when_zero (by decide),N7.within_zero,N7.within_zero]
 refine⟨?_,?_,by show(!N7.sName airS)=false;decide +kernel,?_,?_,?_,rfl⟩
 . show(!N7.sName (gs.getD i default).n)=false
   rw[JdW,hf.nm]
   rfl
 . rw[N7.fiI_dec,N7.fi_none]
   . exact decide_eq_false (Nat.lt_irrefl _)
   intro k hk
   unfold N7.pM
   rw[Xl (show k < gs.length by omega)]
   have h9:=(Xy gs).2 hg.u i hi
   refine beq_eq_false_iff_ne.2 fun e=>?_
   have h5:((gs.take i).any fun f=>f.n == (gs.getD i default).n)=true:=by
    refine List.any_eq_true.2 ⟨gs.getD k default,?_,by rw[show(gs.getD k default).n=(gs.getD i default).n from e];exact Kx _⟩
    rw[Ka,Kj (by omega)]
    show gs[k] ∈ gs.take i
    have:(gs.take i)[k]'(by rw[Kg];omega)=gs[k]:=List.getElem_take
    rw[<- this]
    exact List.getElem_mem _
   rw[h5]at h9
   cases h9
 . have hx:N7.fiN (N7.pN r.ts (gs.getD i default).y) r.ts.length < r.ts.length:=N7.fi_ex (j:=j) (by rw[h.l];exact hj) (by
    unfold N7.pN
    rw[h.n j hj,hy]
    exact Kx _)
   refine decide_eq_false ?_
   show ¬ N7.fiI (N7.pN r.ts (gs.getD i default).y) r.ts.length < 0
   unfold N7.fiI
   rw[if_neg (by omega)]
   omega
 . show 1<=1+(Jp (gs.getD i default).tr).tdiv 1440/\1+(Jp (gs.getD i default).tr).tdiv 1440<=100000
   omega
 show 0<=(Jp (gs.getD i default).tr).tmod 1440/\(Jp (gs.getD i default).tr).tmod 1440<=1439
 omega
def coE(r:N7.Ru)(f:Fl):Int:=N7.rCo r (mvE f)
theorem Jok{ts:List Ty}{fs gs:List Fl}{r:N7.Ru}(h:RE ts fs r)(hs:gs.Sublist fs){f:Fl}(hf:f ∈ gs):0<=coE r f/\coE r f<=64:=by
 have k:=N7.mv_ok (Vt h hs)
 exact N7.co_bd k.2.1.1 (k.2.1.2 _ (List.mem_map_of_mem hf))
theorem JmY:N7.sumW=sumW:=by kernel_rfl
theorem JdJ(r:N7.Ru)(gs:List Fl):(gs.map mvE).map (N7.rCo r)=gs.map (coE r):=by
 rw[K9]
 rfl
theorem Jhe{ts:List Ty}{fs gs:List Fl}{r:N7.Ru}(h:RE ts fs r)(hs:gs.Sublist fs):∀ i,i<=gs.length->N7.sumW ((gs.map mvE).map (N7.rCo r)) i=((gs.map (coE r)).take i).sum:=fun i hi=>by
 have hn:=(h.w.sub hs).n
 rw[JmY,JdJ]
 refine Jbq (fun x hx=>?_) (by rw[Kb];omega) i (by rw[Kb];exact hi)
 obtain⟨f,hf,rfl⟩:=List.mem_map.1 hx
 have:=Jok h hs hf
 omega
theorem JnN{ts:List Ty}{fs gs:List Fl}{r:N7.Ru}(h:RE ts fs r)(hs:gs.Sublist fs):P0 11 [.agg (N7.encRu r),.sl 5 ((gs.map mvE).map N7.encMv)] (.tup [.i (100-(gs.map (coE r)).sum),.i 0]):=by
 have k:=N7.c11v (JfP h hs) (Vt h hs)
 rw[h.q,Kb,Jhe h hs _ (Kr _),Ku (by rw[Kb];exact Kr _)]at k
 exact k
theorem JiF{ts:List Ty}{fs gs:List Fl}{r:N7.Ru}(h:RE ts fs r)(hs:gs.Sublist fs):P0 9 [.agg (N7.encRu r),.sl 5 ((gs.map mvE).map N7.encMv)] (.tup [.sl 1 ((gs.map (coE r)).map Jh),.i 0]):=by
 have k:=N7.c9v (JfP h hs) (Vt h hs)
 rw[JdJ]at k
 exact k
theorem Jhm{ts:List Ty}{fs gs:List Fl}{r:N7.Ru}(h:RE ts fs r)(hs:gs.Sublist fs):∀ i,i<=gs.length->N7.spW r 0 100001 (gs.map mvE) i=N7.sumW ((gs.map mvE).map (N7.rCo r)) i
 | 0,_=>rfl
 | i+1,hi=>by
  have ih:=Jhm h hs i (by omega)
  have hm:(gs.map mvE).getD i default=mvE (gs.getD i default):=Xl (by omega)
  have ht:=h.tr _ (hs.subset (Js (show i < gs.length by omega)))
  have e1:(Jp (gs.getD i default).tr).tdiv 1440=Jp (gs.getD i default).tr / 1440:=Int.tdiv_eq_ediv_of_nonneg ht.1
  have hr:((gs.map mvE).map (N7.rCo r)).getD i default=N7.rCo r (mvE (gs.getD i default)):=by
   rw[Xl (by rw[Kb];omega),hm]
  show(if N7.inR r 0 100001 ((gs.map mvE).getD i default)=true then IntKind.i64.wrap (N7.spW r 0 100001 (gs.map mvE) i+N7.rCo r ((gs.map mvE).getD i default))else N7.spW r 0 100001 (gs.map mvE) i)=IntKind.i64.wrap (N7.sumW ((gs.map mvE).map (N7.rCo r)) i+((gs.map mvE).map (N7.rCo r)).getD i default)
  rw[ih,hm,hr]
  cases hw:N7.wiR r.a r.b (mvE (gs.getD i default)).mi with
  | true =>
   have hx:N7.inR r 0 100001 (mvE (gs.getD i default))=true:=by
    have hd:(mvE (gs.getD i default)).day=1+Jp (gs.getD i default).tr / 1440:=by rw[<- e1];rfl
    have hni:N7.niI r.a r.b (mvE (gs.getD i default)).day (mvE (gs.getD i default)).mi=(mvE (gs.getD i default)).day-1 ∨ N7.niI r.a r.b (mvE (gs.getD i default)).day (mvE (gs.getD i default)).mi=(mvE (gs.getD i default)).day:=by
     unfold N7.niI
     by_cases k:(if decide (r.a > r.b)=true then decide ((mvE (gs.getD i default)).mi < r.b)else false)=true
     . exact .inl (if_pos k)
     exact .inr (if_neg k)
    unfold N7.inR
    rw[hw,if_pos rfl,decide_eq_true (show N7.niI r.a r.b (mvE (gs.getD i default)).day (mvE (gs.getD i default)).mi>=0 by omega),if_pos rfl]
    exact decide_eq_true (by omega)
   rw[if_pos hx]
  | false =>
   have hx:N7.inR r 0 100001 (mvE (gs.getD i default))=false:=by
    unfold N7.inR
    rw[hw]
    rfl
   have h0:N7.rCo r (mvE (gs.getD i default))=0:=by
    unfold N7.rCo
    rw[hw]
    rfl
   have hn:=(h.w.sub hs).n
   have hb:=Jhe h hs i (by omega)
   have hb2:=JmX (l:=gs.map (coE r)) (fun x hx=>by
    obtain⟨f,hf,rfl⟩:=List.mem_map.1 hx
    have:=Jok h hs hf
    omega) i (by rw[Kb];omega)
   rw[if_neg (by rw[hx];decide),h0,Int.add_zero,hb]
   exact(Qs (by unfold Jc;omega)).symm
theorem JjP{ts:List Ty}{fs:List Fl}{r:N7.Ru}(h:RE ts fs r):P0 12 [.agg (N7.encRu r),.sl 5 ((fs.map mvE).map N7.encMv),.agg [.i 0,.i 100001]] (.tup [.i (fs.map (coE r)).sum,.i 0]):=by
 have hs:fs.Sublist fs:=List.Sublist.refl _
 have k:=N7.c12v (JfP h hs) (Vt h hs) (x:=0) (y:=100001) (by decide) (by decide)
 rw[Kb,Jhm h hs _ (Kr _),Jhe h hs _ (Kr _),Ku (by rw[Kb];exact Kr _)]at k
 exact k
def cuF(r:N7.Ru)(f:Fl):Bool:=N7.wiR r.c r.d ((Jp f.tr).tmod 1440)
def csE(f:Fl):N7.Cs:=⟨f.n,N7.WN,70⟩
theorem Jb2{r:N7.Ru}(h:r.fi=70):∀ gs:List Fl,N7.caL r (gs.map mvE) []=(gs.filter (cuF r)).map csE
 | []=>rfl
 | f::gs=>by
  have ih:=Jb2 h gs
  unfold N7.caL at ih ⊢
  rw[List.map_cons,List.flatMap_cons,ih]
  have hw:N7.wordC r [] (mvE f)=N7.WN:=N7.wordC_f (K6 _)
  unfold N7.oneC
  rw[hw,if_pos (show(N7.WN != [])=true by decide),h]
  cases hc:cuF r f with
  | true =>
   rw[if_pos (show N7.wiR r.c r.d (mvE f).mi=true from hc),List.filter_cons_of_pos hc]
   rfl
  | false =>
   rw[if_neg (show ¬ N7.wiR r.c r.d (mvE f).mi=true by rw[show N7.wiR r.c r.d (mvE f).mi=false from hc];decide),List.filter_cons_of_neg (by rw[hc];decide)]
   rfl
theorem JnT{ts:List Ty}{fs:List Fl}{r:N7.Ru}(h:RE ts fs r):N7.KyOK r:=fun i=>by
 rw[h.k i]
 decide
theorem Jod{ts:List Ty}{fs gs:List Fl}{r:N7.Ru}(h:RE ts fs r)(hs:gs.Sublist fs):N7.exR r (gs.map mvE) []=0:=by
 unfold N7.exR N7.eX
 rw[Vt h hs]
 rfl
theorem Jgh{ts:List Ty}{fs gs:List Fl}{r:N7.Ru}(h:RE ts fs r)(hs:gs.Sublist fs):P0 13 [.agg (N7.encRu r),.sl 5 ((gs.map mvE).map N7.encMv),.ex (.slice none 0 0)] (.tup [.sl 3 (((gs.filter (cuF r)).map csE).map N7.encCs),.i 0]):=by
 have k:=N7.c13 r (gs.map mvE) [] (JfP h hs) (JnT h) (by decide) (fun y hy=>absurd hy (by simp))
 unfold N7.ca6 at k
 rw[Jod h hs,if_pos (by decide),Jb2 h.fi]at k
 refine JfW k fun X w vs hz=>?_
 refine⟨hz.1,fun i v a hv ha=>?_⟩
 match i,hv,ha with
 | 0,hv,ha=>exact hz.2 0 v a hv ha
 | 1,hv,ha=>exact hz.2 1 v a hv ha
 | 2,hv,ha =>
  have h3:=hz.2 2 v _ hv rfl
  cases ha
  cases h3
  exact .slE none 0 11
 | i+3,_,ha=>cases ha
theorem JhQ{gs:List Fl}(h:(gs.map Fl.n).Nodup){f g:Fl}(hf:f ∈ gs)(hg:g ∈ gs)(e:f.n=g.n):f=g:=by
 induction gs with
 | nil=>cases hf
 | cons a l ih =>
  rw[List.map_cons,List.nodup_cons]at h
  rcases List.mem_cons.1 hf with rfl | hf' <;> rcases List.mem_cons.1 hg with rfl | hg'
  . rfl
  . exact absurd (List.mem_map.2 ⟨g,hg',e.symm⟩) h.1
  . exact absurd (List.mem_map.2 ⟨f,hf',e⟩) h.1
  exact ih h.2 hf' hg'
def kyF(r:N7.Ru)(s:List UInt8)(i:Nat):Int:=N7.sea (N7.kyR r) (s++[32]++stormS) i
def yE(r:N7.Ru)(f:Fl):N7.Xc:=⟨f.n,stormS,1+(Jp f.tr).tdiv 1440,kyF r f.n 0,kyF r f.n 1,kyF r f.n 2,kyF r f.n 3,kyF r f.n 4,kyF r f.n 5,kyF r f.n 6,kyF r f.n 7⟩
theorem JjD{r:N7.Ru}{f:Fl}(hr:r.rs=[stormS])(hd:0<=r.dl):N7.wordV r (mvE f) (yE r f)=[]:=by
 have h1:N7.noRe r (yE r f)=false:=by
  unfold N7.noRe
  rw[hr]
  show(!decide (N7.fiN (N7.pS [stormS] stormS) 1 < 1))=false
  decide +kernel
 have h4:N7.evB r (yE r f)=false:=by
  have e:N7.evB r (yE r f)=!((yE r f).e0 == kyF r f.n 0 && true && ((yE r f).e1 == kyF r f.n 1 && true && ((yE r f).e2 == kyF r f.n 2 && true && ((yE r f).e3 == kyF r f.n 3 && true && ((yE r f).e4 == kyF r f.n 4 && true && ((yE r f).e5 == kyF r f.n 5 && true && ((yE r f).e6 == kyF r f.n 6 && true && ((yE r f).e7 == kyF r f.n 7 && true && true)))))))):=by kernel_rfl
  rw[e]
  simp[yE]
 unfold N7.wordV
 rw[h1,if_neg (by decide),decide_eq_false (show ¬ (yE r f).day < (mvE f).day from Int.lt_irrefl _),if_neg (by decide),decide_eq_false (show ¬ (yE r f).day > (mvE f).day+r.dl by show ¬ (mvE f).day > (mvE f).day+r.dl;omega),if_neg (by decide),h4,if_neg (by decide)]
theorem JiG{r:N7.Ru}{f:Fl}(h:r.fi=70)(hr:r.rs=[stormS])(hd:0<=r.dl):∀ gs:List Fl,(∀ g,g ∈ gs->g.n=f.n->g=f)->N7.caL r (gs.map mvE) [yE r f]=((gs.filter (cuF r)).filter fun g=>g.n != f.n).map csE
 | [],_=>rfl
 | g::gs,hu=>by
  have ih:=JiG (f:=f) h hr hd gs fun g hg=>hu g (List.mem_cons_of_mem _ hg)
  unfold N7.caL at ih ⊢
  rw[List.map_cons,List.flatMap_cons,ih]
  unfold N7.oneC
  cases hc:cuF r g with
  | false =>
   rw[if_neg (show ¬ N7.wiR r.c r.d (mvE g).mi=true by rw[show N7.wiR r.c r.d (mvE g).mi=false from hc];decide),List.filter_cons_of_neg (by rw[hc];decide)]
   rfl
  | true =>
   rw[if_pos (show N7.wiR r.c r.d (mvE g).mi=true from hc),List.filter_cons_of_pos hc]
   by_cases e:g.n=f.n
   . have:=hu g (List.mem_cons_self) e
     subst this
     have hw:N7.wordC r [yE r g] (mvE g)=[]:=by
      have hx:N7.ixX [yE r g] (mvE g).fl=0:=by
       unfold N7.ixX
       exact N7.fi_some (i:=0) (fun j hj=>absurd hj (K6 _)) (Kx g.n) (by show 0 < 1;decide)
      rw[N7.wordC_t (by rw[hx];show 0 < 1;decide),hx]
      exact JjD hr hd
     rw[hw,if_neg (by decide),List.filter_cons_of_neg (by simp)]
     rfl
   have hw:N7.wordC r [yE r f] (mvE g)=N7.WN:=by
    refine N7.wordC_f ?_
    have hx:N7.ixX [yE r f] (mvE g).fl=1:=by
     unfold N7.ixX
     refine N7.fi_none (i:=1) fun j hj=>?_
     obtain rfl:j=0:=by omega
     exact beq_eq_false_iff_ne.2 fun e2=>e e2.symm
    rw[hx]
    show ¬ 1 < 1
    decide
   rw[hw,if_pos (show(N7.WN != [])=true by decide),h,List.filter_cons_of_pos (by simpa using e)]
   rfl
theorem JeW{f:Fl}:∀ gs:List Fl,(gs.map Fl.n).Nodup->f ∈ gs->(gs.filter fun g=>g.n != f.n).length+1=gs.length
 | [],_,h=>by cases h
 | a::l,hn,h=>by
  rw[List.map_cons,List.nodup_cons]at hn
  by_cases e:a.n=f.n
  . rw[List.filter_cons_of_neg (by simpa using e),List.filter_eq_self.2,List.length_cons]
    intro g hg
    simp only[bne_iff_ne,ne_eq]
    intro e2
    exact hn.1 (List.mem_map.2 ⟨g,hg,e2.trans e.symm⟩)
  rw[List.filter_cons_of_pos (by simpa using e),List.length_cons,List.length_cons]
  rcases List.mem_cons.1 h with rfl | h2
  . exact absurd rfl e
  have:=JeW l hn.2 h2
  omega
theorem ex_one{ts:List Ty}{fs:List Fl}{r:N7.Ru}(h:RE ts fs r){f:Fl}(hf:f ∈ fs):N7.exR r (fs.map mvE) [yE r f]=0:=by
 have ht:=h.tr f hf
 have e1:(Jp f.tr).tdiv 1440=Jp f.tr / 1440:=Int.tdiv_eq_ediv_of_nonneg ht.1
 unfold N7.exR N7.eX
 rw[Vt h (List.Sublist.refl _),show N7.sFirst [0,N7.sWhen (decide ((([yE r f]:List N7.Xc).length:Int) > 256)) 5]=0 from rfl,if_neg (by decide)]
 refine N7.scan_end fun k hk=>?_
 have hk:k < 1:=hk
 obtain rfl:k=0:=by omega
 unfold N7.fXr
 rw[N7.first_zero,N7.first_zero,N7.first_zero,N7.first_zero,N7.when_zero (by decide),N7.when_zero (by decide),N7.when_zero (by decide),N7.within_zero]
 refine⟨?_,?_,?_,?_,rfl⟩
 . obtain⟨i,hi,rfl⟩:=N7.mem_get hf
   have hx:N7.fiN (N7.pM (fs.map mvE) (fs.getD i default).n) (fs.map mvE).length < (fs.map mvE).length:=N7.fi_ex (j:=i) (by rw[Kb];exact hi) (by
    unfold N7.pM
    rw[Xl hi]
    exact Kx _)
   refine decide_eq_false ?_
   show ¬ N7.fiI (N7.pM (fs.map mvE) (fs.getD i default).n) (fs.map mvE).length < 0
   unfold N7.fiI
   rw[if_neg (by omega)]
   omega
 . rw[N7.fiI_dec]
   exact decide_eq_false (K6 _)
 . show(!N7.sName stormS)=false
   decide +kernel
 show 0<=1+(Jp f.tr).tdiv 1440/\1+(Jp f.tr).tdiv 1440<=100000
 omega
theorem JkW{ts:List Ty}{fs:List Fl}{r:N7.Ru}(h:RE ts fs r){f:Fl}(hf:f ∈ fs):P0 13 [.agg (N7.encRu r),.sl 5 ((fs.map mvE).map N7.encMv),.sl 11 [N7.encXc (yE r f)]] (.tup [.sl 3 ((((fs.filter (cuF r)).filter fun g=>g.n != f.n).map csE).map N7.encCs),.i 0]):=by
 have hn:=Ws (h.w.f f hf).nm
 have k:=N7.c13 r (fs.map mvE) [yE r f] (JfP h (List.Sublist.refl _)) (JnT h) (by show 1<=1000;decide) (fun y hy=>by
  simp only[List.mem_singleton]at hy
  subst hy
  exact⟨by show f.n.length<=400;omega,by show stormS.length<=400;decide⟩)
 unfold N7.ca6 at k
 rw[ex_one h hf,if_pos (by decide),JiG h.fi h.rs (by rw[h.dl];decide) _ fun g hg e=>JhQ h.w.u hg hf e]at k
 exact k
theorem Joe{ts:List Ty}{fs:List Fl}{r:N7.Ru}(h:RE ts fs r){f:Fl}(hf:f ∈ fs):P0 19 [.agg (N7.encRu r),.str f.n,.str stormS] (.tup [.agg [.int .u8 (kyF r f.n 0),.int .u8 (kyF r f.n 1),.int .u8 (kyF r f.n 2),.int .u8 (kyF r f.n 3),.int .u8 (kyF r f.n 4),.int .u8 (kyF r f.n 5),.int .u8 (kyF r f.n 6),.int .u8 (kyF r f.n 7)],.i 0]):=by
 have hS:=JfP h (List.Sublist.refl fs)
 have hn:=(h.w.f f hf).nm
 have hl:=Ws hn
 have k:=N7.c19 r f.n stormS hS.t hS.s hS.n hS.m (JnT h) (by omega) (by decide)
 have e:N7.e57 r f.n stormS=0:=by
  unfold N7.e57
  rw[h.c,JdW,hn]
  decide +kernel
 rw[e]at k
 exact k
theorem JgZ{ts:List Ty}{fs:List Fl}{r:N7.Ru}(h:RE ts fs r){f:Fl}(hf:f ∈ fs):P0 18 [.agg [.i r.c,.i r.d],.i ((Jp f.tr).tmod 1440)] (.tup [.bool (cuF r f),.i 0]):=by
 have ht:=h.tr f hf
 have e:=tym (m:=1440) ht.1
 exact N7.c18v h.h.c h.h.d h.h.m (by omega)
theorem J9{α:Type}[Inhabited α]{l:List α}{i:Nat}(h:i < l.length):l.take (i+1)=l.take i++[l.getD i default]:=by
 rw[List.take_add_one,Kj h,Ka,Kj h]
 rfl
theorem Jbo{α:Type}(p:α->Bool)(h:α->Int):∀ l:List α,(l.map h).sum=((l.filter p).map h).sum+((l.filter fun a=>!p a).map h).sum
 | []=>rfl
 | a::l=>by
  have ih:=Jbo p h l
  cases e:p a with
  | true =>
   rw[List.filter_cons_of_pos e,List.filter_cons_of_neg (by rw[e];decide),List.map_cons,List.map_cons,List.sum_cons,List.sum_cons,ih]
   omega
  | false =>
   rw[List.filter_cons_of_neg (by rw[e];decide),List.filter_cons_of_pos (by rw[e];rfl),List.map_cons,List.map_cons,List.sum_cons,List.sum_cons,ih]
   omega
theorem Jir{α:Type}[Inhabited α](p:α->Bool){l:List α}{i:Nat}(h:i < l.length)(hp:p (l.getD i default)=true):((l.take i).filter p).length < (l.filter p).length/\(l.filter p).getD ((l.take i).filter p).length default=l.getD i default:=by
 have e:l.filter p=(l.take i).filter p++l.getD i default::(l.drop (i+1)).filter p:=by
  conv=>lhs;rw[<- List.take_append_drop i l,List.filter_append]
  rw[List.drop_eq_getElem_cons h]
  have hg:l.getD i default=l[i]:=by
   rw[Ka,Kj h]
   rfl
  rw[hg]at hp ⊢
  rw[List.filter_cons_of_pos hp]
 rw[e]
 refine⟨by rw[Kf,List.length_cons];omega,?_⟩
 rw[Ka,K4 (Kr _),Nat.sub_self]
 rfl
theorem JjO{α:Type}{h:α->Int}{b:Int}(hb:0<=b):∀ {l:List α},(∀ a,a ∈ l->0<=h a/\h a<=b)->0<=(l.map h).sum/\(l.map h).sum<=b * l.length
 | [],_=>by simp
 | a::l,hl=>by
  have ih:=JjO hb fun x hx=>hl x (List.mem_cons_of_mem _ hx)
  have h1:=hl a List.mem_cons_self
  rw[List.map_cons,List.sum_cons,List.length_cons]
  have e:b * ((l.length+1:Nat):Int)=b * l.length+b:=by
   rw[Int.natCast_add,Int.mul_add]
   simp
  rw[e]
  omega
def wE(ts:List Ty)(fs:List Fl)(x y z n0 n1 n2 n3:Int)(r:N7.Ru):WE where
 ru:=N7.encRu r
 xr:=[xL ts fs x y z]
 nr:=[nL n0 n1 n2 n3]
 tk:=fun i=>(fs.take i.toNat).map Je
 dp:=fun i=>(fs.drop i.toNat).map Je
 ra:=r.a
 rb:=r.b
 rc:=r.c
 rd:=r.d
 tp:=r.ts.map N7.encTp
 mv:=fun R=>((R.map Jeg).map mvE).map N7.encMv
 cs:=fs.map (coE r)
 pa:=fs.map (JaB ts x y z)
 lf:=fun R=>100-((R.map N7.decMv).map (N7.rCo r)).sum
 tt:=fun R=>((R.map Jeg).map (JaB ts x y z)).sum
 ca:=fun M E=>(N7.caL r (M.map N7.decMv) (E.map N7.decXc)).map N7.encCs
 sp:=(fs.map (coE r)).sum
 sm:=fun i=>((fs.take i).map (coE r)).sum
 en:=fun i=>((fs.take i).map (JaB ts x y z)).sum
 go:=fun i=>(((fs.take i).filter (cuF r)).map (coE r)).sum
 si:=fun i=>(((fs.take i).filter (cuF r)).map (JaB ts x y z)).sum
 kk:=fun i=>((fs.take i).filter (cuF r)).length
 qu:=fun i=>(fs.take i).filter fun f=>!cuF r f
 wi:=N7.wiR
 ky:=kyF r
theorem re_ok{ts:List Ty}{fs:List Fl}{x y z n0 n1 n2 n3:Int}(k:EK ts fs x y z)(hB:EB n0 n1 n2 n3):RE ts fs (eR (ts.map Ty.name) n0 n1 n2 n3 100):=by
 obtain⟨nm,_⟩:=JeF k.c
 have hl:(ts.map Ty.name).length=ts.length:=Kb _
 refine⟨fs_w k.c,Jj1 k.c k.n2 hB 100 (by decide),hrE hB,?_,fun i hi=>?_,nm,rfl,rfl,rfl,rfl,fun i=>?_,k.n2,fun f hf=>?_⟩
 . show(tpE 0 (ts.map Ty.name)).length=ts.length
   rw[UF,hl]
 . show((tpE 0 (ts.map Ty.name)).getD i default).n=_
   rw[Jhb (by omega),Xl hi]
 . unfold N7.kyR N7.at8
   split <;> rfl
 have h:=(k.tr hf).2
 unfold TrB at h
 omega
section
variable {ts : List Ty} {fs : List Fl} {x y z n0 n1 n2 n3 : Int} {r : N7.Ru}
theorem JjH(gs:List Fl):(wE ts fs x y z n0 n1 n2 n3 r).mv (gs.map Je)=(gs.map mvE).map N7.encMv:=by
 show(((gs.map Je).map Jeg).map mvE).map N7.encMv=_
 rw[Qr Jah]
theorem JmS(gs:List Fl):(wE ts fs x y z n0 n1 n2 n3 r).lf ((wE ts fs x y z n0 n1 n2 n3 r).mv (gs.map Je))=100-(gs.map (coE r)).sum:=by
 rw[JjH]
 show 100-((((gs.map mvE).map N7.encMv).map N7.decMv).map (N7.rCo r)).sum=_
 rw[Qr N7.decMv_enc,JdJ]
theorem JmR(gs:List Fl):(wE ts fs x y z n0 n1 n2 n3 r).tt (gs.map Je)=(gs.map (JaB ts x y z)).sum:=by
 show(((gs.map Je).map Jeg).map (JaB ts x y z)).sum=_
 rw[Qr Jah]
theorem w_ca(h:r.fi=70)(gs:List Fl):(wE ts fs x y z n0 n1 n2 n3 r).ca ((wE ts fs x y z n0 n1 n2 n3 r).mv (gs.map Je)) []=((gs.filter (cuF r)).map csE).map N7.encCs:=by
 rw[JjH]
 show(N7.caL r (((gs.map mvE).map N7.encMv).map N7.decMv) []).map N7.encCs=_
 rw[Qr N7.decMv_enc,Jb2 h]
theorem w_cx(h:RE ts fs r){f:Fl}(hf:f ∈ fs):(wE ts fs x y z n0 n1 n2 n3 r).ca ((wE ts fs x y z n0 n1 n2 n3 r).mv (fs.map Je)) [exL (wE ts fs x y z n0 n1 n2 n3 r) f]=(((fs.filter (cuF r)).filter fun g=>g.n != f.n).map csE).map N7.encCs:=by
 rw[JjH]
 show(N7.caL r (((fs.map mvE).map N7.encMv).map N7.decMv) [yE r f]).map N7.encCs=_
 rw[Qr N7.decMv_enc,JiG h.fi h.rs (by rw[h.dl];decide) _ fun g hg e=>JhQ h.w.u hg hf e]
end
theorem Jbp(h:Fl->Int)(l:List Fl)(f:Fl):((l++[f]).map h).sum=(l.map h).sum+h f:=by
 rw[K8,List.sum_append]
 show _+(h f+0)=_
 rw[Int.add_zero]
theorem Je7(h:Fl->Int){fs:List Fl}{i:Nat}(hi:i < fs.length):((Jd1 fs i).map h).sum=(fs.map h).sum-h (fs.getD i default):=by
 have e:fs=fs.take i++fs.getD i default::fs.drop (i+1):=by
  conv=>lhs;rw[<- List.take_append_drop i fs]
  rw[List.drop_eq_getElem_cons hi,Ka,Kj hi]
  rfl
 have e2:(fs.map h).sum=((fs.take i).map h).sum+(h (fs.getD i default)+((fs.drop (i+1)).map h).sum):=by
  conv=>lhs;rw[e]
  rw[K8,List.sum_append,List.map_cons,List.sum_cons]
 unfold Jd1
 rw[K8,List.sum_append,e2]
 omega
theorem lawE{ts:List Ty}{fs:List Fl}{x y z n0 n1 n2 n3:Int}(k:EK ts fs x y z)(h0:0<=n0/\n0<=65535)(h1:0<=n1/\n1<=65535)(h2:0<=n2/\n2<=65535)(h3:0<=n3/\n3<=65535) :
 LawE (wE ts fs x y z n0 n1 n2 n3 (eR (ts.map Ty.name) n0 n1 n2 n3 100)) ts fs x y z n0 n1 n2 n3:=by
 have hB:=eb h0.1 h1.1 h2.1 h3.1 (n0:=n0) (n1:=n1) (n2:=n2) (n3:=n3)
 have H:=re_ok k hB
 obtain⟨z1,z2,hS,hF⟩:=JjS k.s
 have hr:=List.Sublist.refl fs
 have hm:=k.m2
 have hn:=k.n2
 have hco:∀ f,f ∈ fs->0<=coE (eR (ts.map Ty.name) n0 n1 n2 n3 100) f/\coE (eR (ts.map Ty.name) n0 n1 n2 n3 100) f<=64:=fun f hf=>Jok H hr hf
 have hex:∀ f,f ∈ fs->0<=JaB ts x y z f/\JaB ts x y z f<=100000000000000:=fun f hf=>Jl2 (Jn8 k.c f hf) x y z
 have bc:∀ gs:List Fl,gs.Sublist fs->B15 (gs.map (coE (eR (ts.map Ty.name) n0 n1 n2 n3 100))).sum:=fun gs hs=>by
  have:=JjO (b:=64) (by decide) (l:=gs) fun f hf=>hco f (hs.subset hf)
  have:=hs.length_le
  unfold B15
  omega
 have be:∀ gs:List Fl,gs.Sublist fs->B15 (gs.map (JaB ts x y z)).sum:=fun gs hs=>by
  have:=JjO (b:=100000000000000) (by decide) (l:=gs) fun f hf=>hex f (hs.subset hf)
  have:=hs.length_le
  unfold B15
  omega
 have htk:∀ i,(fs.take i).Sublist fs:=fun i=>List.take_sublist i fs
 have hfl:∀ (p:Fl->Bool) i,((fs.take i).filter p).Sublist fs:=fun p i=>List.filter_sublist.trans (htk i)
 have hcu:∀ f:Fl,JiE (wE ts fs x y z n0 n1 n2 n3 (eR (ts.map Ty.name) n0 n1 n2 n3 100)) f=cuF (eR (ts.map Ty.name) n0 n1 n2 n3 100) f:=fun _=>rfl
 have hall:fs.take fs.length=fs:=Kw
 have tot:∀ gs:List Fl,gs.Sublist fs->Us ts gs x y z=0/\Jnz ts gs x y z=(gs.map (JaB ts x y z)).sum:=fun gs hs=>by
  have hc:=Joo k.c (H.w.sub hs)
  have hp:Us ts gs x y z=0:=chkP_z.2 ⟨hc,k.p⟩
  refine⟨hp,?_⟩
  unfold Jnz
  rw[hp,if_neg (by decide)]
  exact Jj0 (Jos (Jn8 hc) x y z) (by rw[Kb];have:=hs.length_le;omega)
 refine⟨k,rfl,rfl,rfl,fun i _=>?_,fun i _=>?_,c6 ts fs x y z n0 n1 n2 n3 (by omega) h0 h1 h2 h3,fun gs hs=>?_,?_,fun gs hs=>?_,?_,fun gs hs=>?_,fun f hf _=>?_,?_,fun gs hs=>?_,fun f hf=>JgZ H hf,fun f hf=>Joe H hf,Kb _,Kb _,?_,?_,?_,rfl,rfl,rfl,rfl,rfl,rfl,fun i hi=>?_,fun i hi=>?_,fun i hi hc=>?_,fun i hi hc=>?_,fun i hi=>⟨bc _ (htk i),be _ (htk i),bc _ (hfl _ i),be _ (hfl _ i),?_,?_,hfl _ i⟩,fun i hi=>?_,fun i hi=>?_,fun i hi=>?_,fun i hi hc=>?_,fun i hi hc=>?_,?_,?_,?_,?_,?_,?_⟩
 . show(fs.take (i:Int).toNat).map Je=_
   rw[Km]
 . show(fs.drop (i:Int).toNat).map Je=_
   rw[Km]
 . rw[JjH]
   exact(c10 gs (by have:=hs.length_le;omega) fun f hf=>⟨by have:=(k.tr (hs.subset hf)).1.n1;omega,by have:=H.tr f (hs.subset hf);omega,by have:=H.tr f (hs.subset hf);omega⟩).un
 . rw[JjH]
   exact JiF H hr
 . rw[JmS,JjH]
   exact JnN H hs
 . rw[JjH]
   exact JjP H
 . rw[w_ca H.fi,JjH]
   exact Jgh H hs
 . rw[w_cx H hf,JjH]
   exact JkW H hf
 . have q:=c14 ts fs x y z (by omega) (by omega) hS hF
   rw[(tot fs hr).1]at q
   have e:JnA ts fs x y z=fs.map (JaB ts x y z):=by
    unfold JnA
    rw[(tot fs hr).1,if_neg (by decide)]
   rw[e]at q
   exact q
 . have q:=c17 ts gs x y z (by omega) (by have:=hs.length_le;omega) hS fun f hf=>hF f (hs.subset hf)
   rw[(tot gs hs).1,(tot gs hs).2]at q
   rw[JmR]
   exact q
 . rw[JmS]
   have:=bc fs hr
   unfold B15 at this ⊢
   have h9:=JjO (b:=64) (by decide) (l:=fs) hco
   omega
 . rw[JmR]
   exact be fs hr
 . rw[JmS]
   show(fs.map (coE (eR (ts.map Ty.name) n0 n1 n2 n3 100))).sum=_
   omega
 . show((fs.take (i+1)).map _).sum=((fs.take i).map _).sum+(fs.map _).getD i default
   rw[J9 hi,Jbp,Xl hi]
 . show((fs.take (i+1)).map _).sum=((fs.take i).map _).sum+(fs.map _).getD i default
   rw[J9 hi,Jbp,Xl hi]
 . have hc:cuF (eR (ts.map Ty.name) n0 n1 n2 n3 100) (fs.getD i default)=true:=hc
   have e1:(fs.take (i+1)).filter (cuF (eR (ts.map Ty.name) n0 n1 n2 n3 100))=(fs.take i).filter (cuF (eR (ts.map Ty.name) n0 n1 n2 n3 100))++[fs.getD i default]:=by
    rw[J9 hi,List.filter_append,List.filter_cons_of_pos hc]
    rfl
   refine⟨?_,?_,?_,?_⟩
   . show(((fs.take (i+1)).filter _).map _).sum=(((fs.take i).filter _).map _).sum+(fs.map _).getD i default
     rw[e1,Jbp,Xl hi]
   . show(((fs.take (i+1)).filter _).map _).sum=(((fs.take i).filter _).map _).sum+(fs.map _).getD i default
     rw[e1,Jbp,Xl hi]
   . show((fs.take (i+1)).filter _).length=((fs.take i).filter _).length+1
     rw[e1,Kf]
     rfl
   show(fs.take (i+1)).filter (fun f=>!cuF (eR (ts.map Ty.name) n0 n1 n2 n3 100) f)=(fs.take i).filter fun f=>!cuF (eR (ts.map Ty.name) n0 n1 n2 n3 100) f
   rw[J9 hi,List.filter_append,List.filter_cons_of_neg (by rw[hc];decide)]
   simp
 . have hc:cuF (eR (ts.map Ty.name) n0 n1 n2 n3 100) (fs.getD i default)=false:=hc
   have e1:(fs.take (i+1)).filter (cuF (eR (ts.map Ty.name) n0 n1 n2 n3 100))=(fs.take i).filter (cuF (eR (ts.map Ty.name) n0 n1 n2 n3 100)):=by
    rw[J9 hi,List.filter_append,List.filter_cons_of_neg (by rw[hc];decide)]
    simp
   refine⟨?_,?_,?_,?_⟩
   . show(((fs.take (i+1)).filter _).map _).sum=_
     rw[e1]
     rfl
   . show(((fs.take (i+1)).filter _).map _).sum=_
     rw[e1]
     rfl
   . show((fs.take (i+1)).filter _).length=_
     rw[e1]
     rfl
   show(fs.take (i+1)).filter (fun f=>!cuF (eR (ts.map Ty.name) n0 n1 n2 n3 100) f)=(fs.take i).filter (fun f=>!cuF (eR (ts.map Ty.name) n0 n1 n2 n3 100) f)++_
   rw[J9 hi,List.filter_append,List.filter_cons_of_pos (by rw[hc];rfl)]
   rfl
 . show((fs.take i).filter _).length<=i
   have:=List.length_filter_le (cuF (eR (ts.map Ty.name) n0 n1 n2 n3 100)) (fs.take i)
   rw[Kg]at this
   omega
 . show((fs.take i).filter _).length<=i
   have:=List.length_filter_le (fun f=>!cuF (eR (ts.map Ty.name) n0 n1 n2 n3 100) f) (fs.take i)
   rw[Kg]at this
   omega
 . show B15 ((fs.map _).getD i default)/\B15 ((fs.map _).getD i default)
   rw[Xl hi,Xl hi]
   have k1:=hco _ (Js hi)
   have k2:=hex _ (Js hi)
   unfold B15
   omega
 . rw[JmS,JmS,Je7 _ hi]
   show _=(fs.map _).getD i default
   rw[Xl hi]
   omega
 . rw[JmR,JmR,Je7 _ hi]
   show _=(fs.map _).getD i default
   rw[Xl hi]
   omega
 . have hc:cuF (eR (ts.map Ty.name) n0 n1 n2 n3 100) (fs.getD i default)=true:=hc
   have q:=Jir (cuF (eR (ts.map Ty.name) n0 n1 n2 n3 100)) hi hc
   rw[w_ca H.fi]
   have e:(((fs.filter (cuF (eR (ts.map Ty.name) n0 n1 n2 n3 100))).map csE).map N7.encCs).length=(fs.filter (cuF (eR (ts.map Ty.name) n0 n1 n2 n3 100))).length:=by
    rw[Kb,Kb]
   rw[e]
   refine⟨q.1,?_⟩
   show Ji _ ((fs.take i).filter _).length=_
   unfold Ji
   rw[Ka,Kk,Kk]
   have q2:=q.2
   rw[Ka,Kj q.1]at q2
   rw[Kj q.1]
   exact congrArg (fun f:Fl=>([AV.str f.n,AV.str JnG,AV.i 70]:List AV)) q2
 . have hc:cuF (eR (ts.map Ty.name) n0 n1 n2 n3 100) (fs.getD i default)=true:=hc
   rw[w_cx H (Js hi),w_ca H.fi]
   have hu:((fs.filter (cuF (eR (ts.map Ty.name) n0 n1 n2 n3 100))).map Fl.n).Nodup:=List.Pairwise.sublist (List.filter_sublist.map Fl.n) H.w.u
   have q:=JeW (f:=fs.getD i default) _ hu (List.mem_filter.2 ⟨Js hi,hc⟩)
   rw[Kb,Kb,Kb,Kb]
   omega
 . rw[w_ca H.fi,Kb,Kb]
   show _=((fs.take fs.length).filter _).length
   rw[hall]
 . show((fs.take fs.length).map _).sum=_
   rw[hall]
   rfl
 . rw[JmR]
   show((fs.take fs.length).map _).sum=_
   rw[hall]
 . rw[w_ca H.fi,Kb,Kb]
   show(((fs.take fs.length).filter fun f=>!cuF (eR (ts.map Ty.name) n0 n1 n2 n3 100) f).filter (cuF (eR (ts.map Ty.name) n0 n1 n2 n3 100))).length=0
   rw[List.filter_filter,List.length_eq_zero_iff,List.filter_eq_nil_iff]
   intro f _
   cases cuF (eR (ts.map Ty.name) n0 n1 n2 n3 100) f <;> decide
 . rw[JmS,JmS]
   show 100-(((fs.take fs.length).filter fun f=>!cuF (eR (ts.map Ty.name) n0 n1 n2 n3 100) f).map _).sum=100-(fs.map _).sum+(((fs.take fs.length).filter _).map _).sum
   rw[hall,Jbo (cuF (eR (ts.map Ty.name) n0 n1 n2 n3 100)) (coE (eR (ts.map Ty.name) n0 n1 n2 n3 100)) fs]
   omega
 . rw[JmR,JmR]
   show(((fs.take fs.length).filter fun f=>!cuF (eR (ts.map Ty.name) n0 n1 n2 n3 100) f).map _).sum=(fs.map _).sum-(((fs.take fs.length).filter _).map _).sum
   rw[hall,Jbo (cuF (eR (ts.map Ty.name) n0 n1 n2 n3 100)) (JaB ts x y z) fs]
   omega
def mdK0(p:Prop)(l:List (Nat × AV))(n:Nat):Option (List GS × AS × Prop):=some ([.keep (l.map (·.1)) [],.bound n],⟨l,[],n⟩,p)
def A0(ts:List Ty)(fs:List Fl)(x y z n0 n1 n2 n3:Int):List (Nat × AV):=[(2,.elt 5 [xL ts fs x y z] 0 0),(3,.elt 4 [nL n0 n1 n2 n3] 0 0)]
def m0(ts:List Ty)(fs:List Fl)(x y z n0 n1 n2 n3:Int):List (Option (List GS × AS × Prop)):=[mdK0 True (A0 ts fs x y z n0 n1 n2 n3) 1,mdK0 True (A0 ts fs x y z n0 n1 n2 n3++[(49,.bool true)]) 1]
def sp0(ts:List Ty)(fs:List Fl)(x y z:Int):Nat->List AV->Option AV
 | 4,_=>some (.bool true)
 | 5,_=>some (.bool (smE ts fs x y z))
 | n,w=>spR n w
theorem c3_0(ts:List Ty)(fs:List Fl)(x y z n0 n1 n2 n3:Int)(hl:ts.length<=maxLen)(hm:fs.length<=maxLen)(hst:∀ t,t ∈ ts->t.st.length<=maxLen)(h0:(!smE ts fs x y z)=true):P0 3 [.agg (xL ts fs x y z),.agg (nL n0 n1 n2 n3)] (.bool true):=by
 have key :
  (AS.mk [(2,AV.elt 5 [(xL ts fs x y z)] 0 0),(3,AV.elt 4 [(nL n0 n1 n2 n3)] 0 0)] [] 1=AS.mk [(2,AV.elt 5 [(xL ts fs x y z)] 0 0),(3,AV.elt 4 [(nL n0 n1 n2 n3)] 0 0)] [] 1/\True)/\(True->((true=true->true=true) /\
  (true=true->true=true)/\(false=false->true=true)/\P0 4 [] (AV.bool true)/\AV.agg (xL ts fs x y z)=AV.agg (xL ts fs x y z)/\P0 5 [AV.agg (xL ts fs x y z)] (AV.bool (smE ts fs x y z)) /\
  AS.mk [(2,AV.elt 5 [(xL ts fs x y z)] 0 0),(3,AV.elt 4 [(nL n0 n1 n2 n3)] 0 0),(49,AV.bool !smE ts fs x y z)] [] 1=AS.mk [(2,AV.elt 5 [(xL ts fs x y z)] 0 0),(3,AV.elt 4 [(nL n0 n1 n2 n3)] 0 0),(49,AV.bool true)] [] 1 /\
  True)/\(True->P0 4 [] (AV.bool true)/\AV.bool true=AV.bool true)):=by
   refine⟨⟨rfl,trivial⟩,fun _=>⟨⟨fun h=>h,fun h=>h,fun _=>rfl,c4,rfl,c5 ts fs x y z hl hm hst,by rw[h0],trivial⟩,fun _=>⟨c4,rfl⟩⟩⟩
 exact c_ofH Tryz.f3 ({ fzB (mkB (sp0 ts fs x y z) 3 [(1,3,fun _=>some (.agg (xL ts fs x y z)))] J1)with cl:=N7.clL [49] }) (m0 ts fs x y z n0 n1 n2 n3) key (by kernel_rfl)
theorem smE_k{ts:List Ty}{fs:List Fl}{x y z:Int}(h:smE ts fs x y z=true):kE ts fs x y z=false:=by
 unfold smE at h
 cases hk:kE ts fs x y z with
 | false=>rfl
 | true =>
  rw[hk]at h
  cases h
theorem c3(ts:List Ty)(fs:List Fl)(x y z n0 n1 n2 n3:Int)(hl:ts.length<=maxLen)(hm:fs.length<=maxLen)(hst:∀ t,t ∈ ts->t.st.length<=maxLen)(h0:0<=n0/\n0<=65535)(h1:0<=n1/\n1<=65535)(h2:0<=n2/\n2<=65535)(h3:0<=n3/\n3<=65535):P0 3 [.agg (xL ts fs x y z),.agg (nL n0 n1 n2 n3)] (.bool true):=by
 cases hs:smE ts fs x y z with
 | false=>exact c3_0 ts fs x y z n0 n1 n2 n3 hl hm hst (by rw[hs];rfl)
 | true=>exact c3_ok _ ts fs x y z n0 n1 n2 n3 hl hm hst hs (lawE (kE_f (smE_k hs)) h0 h1 h2 h3)
end Go.Proofs.YthkngjifljcocaaGreatDoor
namespace Go.Proofs.YthkngjifljcocaaGreatDoor
open Go Go.Av Go.RowKit Go.ChangeShapes Go.WideShapes
theorem jp0_3:(Rows.topEaveSpentRow.inPlace == Tryz.prog.inPlace 3)=true:=by kernel_rfl
theorem jp1_3:(Rows.topEaveSpentRow.unfollowed == Tryz.prog.unfollowed 3)=true:=by kernel_rfl
theorem jp2_3:(Rows.topEaveSpentRow.recurses == Tryz.prog.recurses 3)=true:=by kernel_rfl
theorem jp3_3:(Rows.topEaveSpentRow.named == Tryz.prog.varsNamed 3)=true:=by kernel_rfl
theorem Jkt:joinedFacts Tryz.prog 3 Tryz.f3 Rows.topEaveSpentSpec Rows.topEaveSpentRow=true:=by
 unfold joinedFacts
 rw[jp0_3,jp1_3,jp2_3,jp3_3]
 kernel_rfl
end Go.Proofs.YthkngjifljcocaaGreatDoor
