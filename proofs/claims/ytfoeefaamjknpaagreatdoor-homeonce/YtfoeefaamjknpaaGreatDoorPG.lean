/-
  HomeOnce returns true. No condition but the theorems' own. What HomeOnce' row says of the program's text. No condition.
-/
import Derived.Test.YtfoeefaamjknpaaGreatDoorPF
import Derived.Test.YtfoeefaamjknpaaGreatDoorAvD
import Derived.Test.YtfoeefaamjknpaaGreatDoorPE
namespace Go.Proofs.YtfoeefaamjknpaaGreatDoor
open Go Go.Av Go.RowKit
structure K11 (l:List Zn) (hs:List Hm) (ms:List (List Ms)):Prop where
 sz:shZ l=true
 sh:shHs hs ms=true
 n1:1<=hs.length
 n4:hs.length<=4
 ok:ChOK l hs ms
def oM (h:Hm):Int:=outM h.ws h.ws.length
def cS (h:Hm) (m:List Ms) (t:Int):List Int:=(chO h m (bst h m t)).s
def cC (h:Hm) (m:List Ms) (t:Int):Int:=(chO h m (bst h m t)).c
def cE (h:Hm) (m:List Ms) (t:Int):Int:=if (bst h m t).isSome=true then 0 else 18
def rB (hs:List Hm) (n0:Int):Nat:=(n0.tmod (hs.length:Int)).toNat
def rA (l:List Zn) (hs:List Hm) (ms:List (List Ms)) (n1:Int):Nat:=(n1.tmod ((ofR l hs ms).length:Int)).toNat
def wnt (l:List Zn) (hs:List Hm) (ms:List (List Ms)) (n1:Int):Int:=if rA l hs ms n1+1=(ofR l hs ms).length then 32 else 11
def lsR (l:List Zn) (hs:List Hm) (ms:List (List Ms)) (n1:Int):List Of:=(ofR l hs ms).take (rA l hs ms n1)++(ofR l hs ms).drop (rA l hs ms n1+1)
def twR (l:List Zn) (hs:List Hm) (ms:List (List Ms)) (n1:Int):List Of:=ofR l hs ms++[(ofR l hs ms).getD (rA l hs ms n1) default]
def wrR (l:List Zn) (hs:List Hm) (ms:List (List Ms)) (n1:Int):List Of:=(ofR l hs ms).set (rA l hs ms n1) (upO ((ofR l hs ms).getD (rA l hs ms n1) default))
def sp11 (l:List Zn) (hs:List Hm) (ms:List (List Ms)):Nat->List AV->Option AV
 | 16,_=>some (.bool true)
 | 48,_=>some (.bool (shZ l))
 | 52,_=>some (.i (fZs l))
 | 56,_=>some (.bool (shHs hs ms))
 | 63,_=>some (.i (chH hs ms))
 | 50,[.sl k rows]=>some (.sl k rows)
 | 59,[.sl k rows]=>some (.sl k rows)
 | 60,[.sl k rows]=>some (.sl k rows)
 | 62,[.sl k rows]=>some (.sl k rows)
 | 22,[.sl k rows]=>some (.sl k rows)
 | 18,[.agg c]=>some (.agg c)
 | 51,[_,.agg c]=>some (.tup [.bool (elB l (decHm c)),.i 0])
 | 17,[.agg c]=>some (.tup [.i (oM (decHm c)),.i 0])
 | 49,[_,.int _ e]=>some (.tup [.i (zoE l e),.i 0])
 | 42,[.agg c,.sl _ rows,.int _ t]=>some (.tup [.sl 1 ((cS (decHm c) (rows.map decMs) t).map encI),.i (cC (decHm c) (rows.map decMs) t),.i (cE (decHm c) (rows.map decMs) t)])
 | 47,[.sl _ a,.sl _ b]=>some (.bool (a.map hdI == b.map hdI))
 | 89,[.agg a,.agg b]=>some (.bool (sameO (decOf a) (decOf b)))
 | 58,_=>none
 | 61,_=>none
 | 67,_=>none
 | n,y=>spW n y
def eS (hs:List Hm) (ms:List (List Ms)):AV:=.elt 2 [[.sl 3 (hs.map encHm),.sl 1 (ms.map encLs)]] 0 0
def eN (n0 n1:Int):AV:=.elt 2 [[.int .u8 n0,.int .u8 n1]] 0 0
def slR (l:List Zn) (hs:List Hm) (ms:List (List Ms)):AV:=.sl 4 ((ofR l hs ms).map encOf)
def a11 (l:List Zn) (hs:List Hm) (ms:List (List Ms)) (n0 n1:Int):List (Nat × AV):=[(0,.sl 4 (l.map encZn)),(4,eS hs ms),(5,eN n0 n1)]
def b11 (l:List Zn) (hs:List Hm) (ms:List (List Ms)) (n0 n1:Int):List (Nat × AV):=a11 l hs ms n0 n1++[(7,slR l hs ms)]
def la11 (l:List Zn) (hs:List Hm) (ms:List (List Ms)) (n0 n1:Int) (b:Nat):Option LA :=
 if b.beq 0 then some {
  pre:=[.keep [0,4,5,7,9,110,111,112] [],.bound 1],post:=[.keep [0,4,5,7,9,110,111,112] [],.bound 1]
  Gh:=Nat
  st:=fun i=>⟨b11 l hs ms n0 n1++[(9,.i (cnJ l hs ms i)),(110,.sl 3 (hs.map encHm)),(111,.i (hs.map encHm).length),(112,.i i)],[],1⟩
  ok:=fun i=>i<=hs.length
  ms:=fun i=>hs.length-i }
 else if b.beq 2 then some {
  pre:=[.keep [0,4,5,7,316,317,318] [],.bound 1],post:=[.keep [0,4,5,7,316,317,318] [],.bound 1]
  Gh:=Nat
  st:=fun i=>⟨b11 l hs ms n0 n1++[(316,slR l (rotL (rB hs n0) hs) (rotL (rB hs n0) ms)),(317,.i ((ofR l (rotL (rB hs n0) hs) (rotL (rB hs n0) ms)).map encOf).length),(318,.i i)],[],1⟩
  ok:=fun i=>i<=(ofR l (rotL (rB hs n0) hs) (rotL (rB hs n0) ms)).length
  ms:=fun i=>(ofR l (rotL (rB hs n0) hs) (rotL (rB hs n0) ms)).length-i }
 else if b.beq 4 then some {
  pre:=[.keep [0,4,5,7,316,317,318,26,27,322,323,324] [],.bound 1],post:=[.keep [0,4,5,7,316,317,318,26,27,322,323,324] [],.bound 1]
  Gh:=Nat × Nat
  st:=fun q=>⟨b11 l hs ms n0 n1++[(316,slR l (rotL (rB hs n0) hs) (rotL (rB hs n0) ms)),(317,.i ((ofR l (rotL (rB hs n0) hs) (rotL (rB hs n0) ms)).map encOf).length),(318,.i q.1),(26,.elt 4 [encOf ((ofR l (rotL (rB hs n0) hs) (rotL (rB hs n0) ms)).getD q.1 default)] 0 0),(27,.bool (orN (fun i=>sameO ((ofR l (rotL (rB hs n0) hs) (rotL (rB hs n0) ms)).getD q.1 default) ((ofR l hs ms).getD i default)) q.2)),(322,slR l hs ms),(323,.i ((ofR l hs ms).map encOf).length),(324,.i q.2)],[],1⟩
  ok:=fun q=>q.1 < (ofR l (rotL (rB hs n0) hs) (rotL (rB hs n0) ms)).length∧q.2<=(ofR l hs ms).length
  rel:=some fun q0 q=>q.1=q0.1
  ms:=fun q=>(ofR l hs ms).length-q.2 }
 else none
def mdO (p:Prop) (l:List (Nat × AV)):Option (List GS × AS × Prop):=some ([.keep (l.map (·.1)) [],.bound 1],⟨l,[],1⟩,p)
def K11a (l:List Zn) (hs:List Hm) (ms:List (List Ms)):Prop:=K11 l hs ms∧0 < (ofR l hs ms).length
def m11 (l:List Zn) (hs:List Hm) (ms:List (List Ms)) (n0 n1:Int):List (Option (List GS × AS × Prop)) :=
 [none,none,mdO (K11 l hs ms) (a11 l hs ms n0 n1),none,none,mdO (K11 l hs ms) (b11 l hs ms n0 n1),none,none,none,none,mdO (K11 l hs ms) (b11 l hs ms n0 n1),
  mdO (K11 l hs ms) (b11 l hs ms n0 n1++[(21,.i (rB hs n0:Nat))]),mdO (K11 l hs ms) (b11 l hs ms n0 n1++[(22,eS (rotL (rB hs n0) hs) (rotL (rB hs n0) ms))]),none,none,
  mdO (K11 l hs ms) (b11 l hs ms n0 n1++[(23,slR l (rotL (rB hs n0) hs) (rotL (rB hs n0) ms))]),none,mdO (K11 l hs ms) (b11 l hs ms n0 n1),none,mdO (K11a l hs ms) (b11 l hs ms n0 n1),
  mdO (K11a l hs ms) (b11 l hs ms n0 n1++[(30,.i (rA l hs ms n1:Nat))]),none,none,none,
  mdO (K11a l hs ms) (b11 l hs ms n0 n1++[(30,.i (rA l hs ms n1:Nat)),(31,.sl 4 ((lsR l hs ms n1).map encOf)),(32,.sl 4 ((twR l hs ms n1).map encOf)),(33,.sl 4 ((wrR l hs ms n1).map encOf))]),none,none,
  mdO (K11a l hs ms) (b11 l hs ms n0 n1++[(31,.sl 4 ((lsR l hs ms n1).map encOf)),(32,.sl 4 ((twR l hs ms n1).map encOf)),(33,.sl 4 ((wrR l hs ms n1).map encOf)),(34,.i (wnt l hs ms n1))])]
def k11 (i:Nat):List Nat:=if i.beq 4 then [0,4,5,7,108] else if i.beq 12 then [0,4,5,7,9,110,111,112,10,11,12,14,136] else if i.beq 16 then [0,4,5,7,9,110,111,112,10,11,16,186] else if i.beq 19 then [0,4,5,7,9,110,111,112,257] else if i.beq 23 then [0,4,5,7,264] else if i.beq 28 then [0,4,5,7,23,315] else []
def t11 (i:Nat):Nat:=if i.beq 4 then 108 else if i.beq 12 then 136 else if i.beq 16 then 186 else if i.beq 19 then 257 else if i.beq 23 then 264 else if i.beq 28 then 315 else 0
def cut11 (i:Nat):Option (AS->AS):=if (t11 i).beq 0 then none else some (cutA (k11 i) [] 1 (t11 i) fun _=>.bool false)
def gs11 (i:Nat):List GS:=if i.beq 48 then [.frzo 33] else if (t11 i).beq 0 then [] else [.keep (k11 i) [],.bound 1]
def rs (v:AV) (a:An):An:={ a with res:=v }
def rdU (l:List Zn) (hs:List Hm) (ms:List (List Ms)):BL->List AV->Option AV:=fun _ ins=>match ins with
 | [.optr _ i _]=>some (.i ((ofR l hs ms).getD i default).a)
 | _=>none
def ra11 (l:List Zn) (hs:List Hm) (ms:List (List Ms)) (n0 n1:Int) (B:BA):BA :=
 modA 3 8 (rs (.tup [slR l hs ms,.i 0])) (modA 27 8 (rs (.tup [slR l (rotL (rB hs n0) hs) (rotL (rB hs n0) ms),.i 0])) (modA 4 20 (rs (slR l hs ms)) (modA 4 22 (rs (.i 0))
 (modA 45 2 (rs (slR l hs ms)) (modA 45 7 (rs (slR l hs ms)) (modA 46 2 (rs (slR l hs ms)) (modA 47 1 (rs (slR l hs ms)) (modA 47 3 (rs (.fresh 164 4 ((ofR l hs ms).map encOf)))
 (modA 48 4 (fun a=>{ a with rdb:=rdU l hs ms }) (modA 52 10 (rs (.i (wnt l hs ms n1))) (modA 52 24 (rs (.i 9)) (modA 52 38 (rs (.i 19)) B))))))))))))
def wI (n:Int):Int:=IntKind.i64.wrap n
def zA (l:List Zn):AV:=.sl 4 (l.map encZn)
def hD (hs:List Hm) (g:Nat):Hm:=decHm (encHm (hs.getD g default))
def mD (ms:List (List Ms)) (g:Nat):List Ms:=((ms.getD g []).map encMs).map decMs
def zG (l:List Zn) (hs:List Hm) (g:Nat):Int:=zoE l (oM (hD hs g))
def zD (l:List Zn) (hs:List Hm) (g:Nat):Zn:=l.getD (zG l hs g).toNat default
def rD (l:List Zn) (hs:List Hm) (ms:List (List Ms)) (g:Nat):Of:=(ofR l hs ms).getD (cnJ l hs ms g) default
def sG (l:List Zn) (hs:List Hm) (ms:List (List Ms)) (g:Nat):List Int:=cS (hD hs g) (mD ms g) (zD l hs g).tg
def cG (l:List Zn) (hs:List Hm) (ms:List (List Ms)) (g:Nat):Int:=cC (hD hs g) (mD ms g) (zD l hs g).tg
def eG (l:List Zn) (hs:List Hm) (ms:List (List Ms)) (g:Nat):Int:=cE (hD hs g) (mD ms g) (zD l hs g).tg
def hsT (hs:List Hm) (n0:Int):List Hm:=rotL (rB hs n0) hs
def msT (hs:List Hm) (ms:List (List Ms)) (n0:Int):List (List Ms):=rotL (rB hs n0) ms
def ofT (l:List Zn) (hs:List Hm) (ms:List (List Ms)) (n0:Int):List Of:=ofR l (hsT hs n0) (msT hs ms n0)
def tlD (L:List (List AV)) (b:Nat):List (List AV):=List.take ((L.length:Int)-(b:Int)).toNat (List.drop b L)
def hdD (L:List (List AV)) (b:Nat):List (List AV):=List.take ((b:Int)-0).toNat (List.drop 0 L)
def g1 (l:List Zn) (hs:List Hm) (ms:List (List Ms)) (g:Nat):Bool:=decide (zG l hs g < (0:Int))
def g2 (l:List Zn) (hs:List Hm) (ms:List (List Ms)) (g:Nat):Bool:=if g1 l hs ms g=true then true else decide (zG l hs g>=(↑(List.map encZn l).length:Int))
def g3 (l:List Zn) (hs:List Hm) (ms:List (List Ms)) (g:Nat):Bool:=if (g2 l hs ms g)=true then true else decide ((↑(cnJ l hs ms g):Int)>=(↑(List.map encOf (ofR l hs ms)).length:Int))
def g4 (l:List Zn) (hs:List Hm) (ms:List (List Ms)) (g:Nat):Bool:=if (g3 l hs ms g)=true then true else !(rD l hs ms g).hm == (hs.getD g default).nm
def g5 (l:List Zn) (hs:List Hm) (ms:List (List Ms)) (g:Nat):Bool:=if (g4 l hs ms g)=true then true else !(rD l hs ms g).zn == (zD l hs g).nm
def q1 (l:List Zn) (hs:List Hm) (ms:List (List Ms)) (g:Nat):Bool:=List.map hdI (List.map encI (rD l hs ms g).g) == List.map hdI (List.map encI (sG l hs ms g))
def q0 (l:List Zn) (hs:List Hm) (ms:List (List Ms)) (g:Nat):Bool:=eG l hs ms g == (0:Int)
def q2 (l:List Zn) (hs:List Hm) (ms:List (List Ms)) (g:Nat):Bool:=q0 l hs ms g && !!q1 l hs ms g
def q3 (l:List Zn) (hs:List Hm) (ms:List (List Ms)) (g:Nat):Bool:=if (q0 l hs ms g)=true then if (!q1 l hs ms g)=true then true else (rD l hs ms g).a != (cG l hs ms g * (zD l hs g).sh).tdiv (100:Int) else false
def e0 (l:List Zn) (hs:List Hm) (ms:List (List Ms)) (g:Nat):Bool:=eG l hs ms g != (0:Int)
def e8 (l:List Zn) (hs:List Hm) (ms:List (List Ms)) (g:Nat):Bool:=eG l hs ms g != (18:Int)
def q4 (l:List Zn) (hs:List Hm) (ms:List (List Ms)) (g:Nat):Bool:=(!q3 l hs ms g) && e0 l hs ms g
def q5 (l:List Zn) (hs:List Hm) (ms:List (List Ms)) (g:Nat):Bool:=q4 l hs ms g && !e8 l hs ms g
def q6 (l:List Zn) (hs:List Hm) (ms:List (List Ms)) (g:Nat):Bool:=if (e8 l hs ms g)=true then true else decide ((↑(List.map encI (rD l hs ms g).g).length:Int) > (0:Int))
def q7 (l:List Zn) (hs:List Hm) (ms:List (List Ms)) (g:Nat):Bool:=q4 l hs ms g && !q6 l hs ms g
def q9 (l:List Zn) (hs:List Hm) (ms:List (List Ms)) (g:Nat):Bool:=if (q3 l hs ms g)=true then true else if (e0 l hs ms g)=true then if (q6 l hs ms g)=true then true else (rD l hs ms g).a != (0:Int) else false
def hg1 (l:List Zn):Bool:=if (!shZ l)=true then true else fZs l != (0:Int)
def hg2 (l:List Zn) (hs:List Hm) (ms:List (List Ms)):Bool:=if (hg1 l)=true then true else !shHs hs ms
def hg3 (l:List Zn) (hs:List Hm) (ms:List (List Ms)):Bool:=if (hg2 l hs ms)=true then true else decide ((↑(List.map encHm hs).length:Int) < (1:Int))
def hg4 (l:List Zn) (hs:List Hm) (ms:List (List Ms)):Bool:=if (hg3 l hs ms)=true then true else decide ((↑(List.map encHm hs).length:Int) > (4:Int))
def hg5 (l:List Zn) (hs:List Hm) (ms:List (List Ms)):Bool:=if (hg4 l hs ms)=true then true else chH hs ms != (0:Int)
def gL (l:List Zn) (hs:List Hm) (ms:List (List Ms)):Bool:=decide ((↑(List.map encOf (ofR l hs ms)).length:Int) > (↑(List.map encHm hs).length:Int))
def w1 (l:List Zn) (hs:List Hm) (ms:List (List Ms)) (n1:Int):Bool:=wnt l hs ms n1 == wnt l hs ms n1
def w2 (l:List Zn) (hs:List Hm) (ms:List (List Ms)) (n1:Int):Bool:=if (w1 l hs ms n1)=true then true else false
theorem wI_e {n:Int} (h:0<=n∧n<=255):wI n=n:=in64_wrap (by unfold In64;omega)
theorem hD_e (hs:List Hm) (g:Nat):hD hs g=hs.getD g default:=decHm_e _
theorem mD_e (ms:List (List Ms)) (g:Nat):mD ms g=ms.getD g []:=map_dec decMs_e _
theorem tlD_e {L:List (List AV)} {b:Nat} (h:b<=L.length):tlD L b=L.drop b:=by
 unfold tlD
 exact List.take_of_length_le (by rw [List.length_drop];omega)
theorem hdD_e (L:List (List AV)) (b:Nat):hdD L b=L.take b:=by
 unfold hdD
 rw [List.drop_zero,show ((b:Int)-0).toNat=b by omega]
theorem rot_map {α:Type} (enc:α->List AV) {L:List α} {b:Nat} (h:b<=L.length):[]++tlD (L.map enc) b++hdD (L.map enc) b=(rotL b L).map enc:=by
 rw [List.nil_append,tlD_e (by rw [List.length_map];exact h),hdD_e]
 unfold rotL
 rw [List.map_append,List.map_drop,List.map_take]
theorem q2_of {l:List Zn} {hs:List Hm} {ms:List (List Ms)} {g:Nat} (a:q0 l hs ms g=true) (b:(!q1 l hs ms g)=false):q2 l hs ms g=true:=by
 unfold q2
 rw [a,b]
 rfl
theorem q4_of {l:List Zn} {hs:List Hm} {ms:List (List Ms)} {g:Nat} (a:(!q3 l hs ms g)=true) (b:e0 l hs ms g=true):q4 l hs ms g=true:=by
 unfold q4
 rw [a,b]
 rfl
theorem q5_of {l:List Zn} {hs:List Hm} {ms:List (List Ms)} {g:Nat} (a:q4 l hs ms g=true) (b:e8 l hs ms g=false):q5 l hs ms g=true:=by
 unfold q5
 rw [a,b]
 rfl
theorem q7_of {l:List Zn} {hs:List Hm} {ms:List (List Ms)} {g:Nat} (a:q4 l hs ms g=true) (b:q6 l hs ms g=false):q7 l hs ms g=true:=by
 unfold q7
 rw [a,b]
 rfl
theorem g63 {l:List Zn} {hs:List Hm} {ms:List (List Ms)} (h:(!hg4 l hs ms)=true):shHs hs ms=true:=by
 have q3:∀ a b c d:Bool,(!(if (if (if a=true then true else !b)=true then true else c)=true then true else d))=true->b=true:=by decide
 exact q3 (hg1 l) (shHs hs ms) _ _ h
theorem bd11 {hs:List Hm} {ms:List (List Ms)} (h:shHs hs ms=true):hs.length<=17∧ms.length<=5∧(∀ h,h ∈ hs->h.nm.length<=1000000∧h.ws.length<=1000)∧∀ x,x ∈ ms->x.length<=1000∧∀ m,m ∈ x->m.nm.length<=1000:=by
 obtain ⟨b1,b2,b3,b4⟩:=sh_hs h
 exact ⟨b1,b3,fun h hm=>by have:=b2 h hm;omega,fun x hm=>⟨by have:=(b4 x hm).1;omega,(b4 x hm).2⟩⟩
theorem c63q {hs:List Hm} {ms:List (List Ms)} (h:shHs hs ms=true):PCall Tryz.prog G0 63 [.sl 3 (hs.map encHm),.sl 1 (ms.map encLs)] (.i (chH hs ms)):=by
 obtain ⟨b1,b3,b5,b6⟩:=bd11 h
 exact c63 hs ms (by omega) b5 (by omega) b6
theorem guard11 {l:List Zn} {hs:List Hm} {ms:List (List Ms)} (q:hg5 l hs ms=false):K11 l hs ms:=by
 have q3:∀ a b c d e f:Bool,(if (if (if (if (if (!a)=true then true else b)=true then true else !c)=true then true else d)=true then true else e)=true then true else f)=false->a=true∧b=false∧c=true∧d=false∧e=false∧f=false:=by decide
 obtain ⟨a1,a2,a3,a4,a5,a6⟩:=q3 (shZ l) _ (shHs hs ms) _ _ _ q
 have h4:=of_decide_eq_false a4
 have h5:=of_decide_eq_false a5
 rw [List.length_map] at h4 h5
 have hz:=bne_f a2
 have hc:chV l hs ms=0:=by rw [<- ch_e,hz,bne_f a6];rfl
 exact ⟨a1,a3,by omega,by omega,ch_ok hc⟩
section
variable {l : List Zn} {hs : List Hm} {ms : List (List Ms)}
theorem ev_R (hk:ChOK l hs ms):ofV l hs ms=ofR l hs ms:=if_neg (by rw [ch_of hk];decide)
theorem c58q (hk:ChOK l hs ms) (hl:l.length<=1000) (hn:∀ x,x ∈ l->x.nm.length<=1000) (hb:∀ h,h ∈ hs->h.nm.length<=1000000∧h.ws.length<=1000) (hm:∀ x,x ∈ ms->x.length<=1000∧∀ m,m ∈ x->m.nm.length<=1000):PCall Tryz.prog G0 58 [.sl 4 (l.map encZn),.sl 3 (hs.map encHm),.sl 1 (ms.map encLs)] (.tup [.sl 4 ((ofR l hs ms).map encOf),.i 0]):=by
 have h1:=hk.n
 have h2:=hk.e
 have e:=c58 l hs ms hl hn (by omega) hb (by omega) hm
 rw [ev_R hk,ch_of hk] at e
 exact e
theorem c61q (hk:ChOK l hs ms) (hl:l.length<=1000) (hn:∀ x,x ∈ l->x.nm.length<=1000) (hb:∀ h,h ∈ hs->h.nm.length<=1000000∧h.ws.length<=1000) (hm:∀ x,x ∈ ms->x.length<=1000∧∀ m,m ∈ x->m.nm.length<=1000) {o:List Of} {v:Int} (ho:o.length<=1000) (e:coR l hs ms o=v):PCall Tryz.prog G0 61 [.sl 4 (l.map encZn),.sl 3 (hs.map encHm),.sl 1 (ms.map encLs),.sl 4 (o.map encOf)] (.i v):=by
 have h1:=hk.n
 have h2:=hk.e
 rw [<- e,<- co_eq hk (ch_of hk)]
 exact c61 l hs ms o hl hn (by omega) hb (by omega) hm ho
theorem R_g (hk:ChOK l hs ms):∀ x,x ∈ ofR l hs ms->x.g.length<=1000:=of_g hk (Nat.le_refl _)
theorem ls_g (hk:ChOK l hs ms) {n1:Int}:∀ x,x ∈ lsR l hs ms n1->x.g.length<=1000:=fun x hx=>by
 unfold lsR at hx
 rcases List.mem_append.1 hx with h | h
 · exact R_g hk x (List.mem_of_mem_take h)
 · exact R_g hk x (List.mem_of_mem_drop h)
theorem tw_g (hk:ChOK l hs ms) {n1:Int} (ha:rA l hs ms n1 < (ofR l hs ms).length):∀ x,x ∈ twR l hs ms n1->x.g.length<=1000:=fun x hx=>by
 unfold twR at hx
 rcases List.mem_append.1 hx with h | h
 · exact R_g hk x h
 · rw [List.mem_singleton] at h
   rw [h]
   exact R_g hk _ (getD_mem ha)
theorem wr_g (hk:ChOK l hs ms) {n1:Int} (ha:rA l hs ms n1 < (ofR l hs ms).length):∀ x,x ∈ wrR l hs ms n1->x.g.length<=1000:=fun x hx=>by
 unfold wrR at hx
 rcases List.mem_or_eq_of_mem_set hx with h | h
 · exact R_g hk x h
 · rw [h]
   show ((ofR l hs ms).getD (rA l hs ms n1) default).g.length<=1000
   exact R_g hk _ (getD_mem ha)
theorem ls_len (n1:Int):(lsR l hs ms n1).length<=(ofR l hs ms).length+(ofR l hs ms).length:=by
 unfold lsR
 rw [List.length_append,List.length_take,List.length_drop]
 omega
theorem tw_len (n1:Int):(twR l hs ms n1).length=(ofR l hs ms).length+1:=by
 unfold twR
 rw [List.length_append]
 rfl
theorem wr_len (n1:Int):(wrR l hs ms n1).length=(ofR l hs ms).length:=List.length_set
theorem ls_e {n1:Int} (ha:rA l hs ms n1 < (ofR l hs ms).length):[]++hdD ((ofR l hs ms).map encOf) (rA l hs ms n1)++tlD ((ofR l hs ms).map encOf) (rA l hs ms n1+1)=(lsR l hs ms n1).map encOf:=by
 rw [List.nil_append,tlD_e (by rw [List.length_map];omega),hdD_e]
 unfold lsR
 rw [List.map_append,List.map_drop,List.map_take]
theorem tw_e (n1:Int):[]++(ofR l hs ms).map encOf++[encOf ((ofR l hs ms).getD (rA l hs ms n1) default)]=(twR l hs ms n1).map encOf:=by
 unfold twR
 rw [List.nil_append,List.map_append]
 rfl
theorem wr_e {n1:Int} (ha:rA l hs ms n1 < (ofR l hs ms).length):putRow ((ofR l hs ms).map encOf) (rA l hs ms n1) 3 [.i (((ofR l hs ms).getD (rA l hs ms n1) default).a+1)]=(wrR l hs ms n1).map encOf:=by
 unfold wrR
 rw [putRow,row_at encOf ha,List.map_set]
 rfl
theorem rB_e (h:1<=hs.length) {n0:Int} (hn:0<=n0∧n0<=255):(wI n0).tmod ((hs.map encHm).length:Int)=(rB hs n0:Int)∧rB hs n0 < hs.length:=by
 rw [wI_e hn,List.length_map]
 unfold rB
 rw [Int.tmod_eq_emod_of_nonneg hn.1]
 have h2:=Int.emod_nonneg n0 (show (hs.length:Int) ≠ 0 by omega)
 have h3:=Int.emod_lt_of_pos n0 (show 0 < (hs.length:Int) by omega)
 omega
theorem rA_e (h:0 < (ofR l hs ms).length) {n1:Int} (hn:0<=n1∧n1<=255):(wI n1).tmod (((ofR l hs ms).map encOf).length:Int)=(rA l hs ms n1:Int)∧rA l hs ms n1 < (ofR l hs ms).length:=by
 rw [wI_e hn,List.length_map]
 unfold rA
 rw [Int.tmod_eq_emod_of_nonneg hn.1]
 have h2:=Int.emod_nonneg n1 (show ((ofR l hs ms).length:Int) ≠ 0 by omega)
 have h3:=Int.emod_lt_of_pos n1 (show 0 < ((ofR l hs ms).length:Int) by omega)
 omega
theorem R_amt (hk:ChOK l hs ms) {j:Nat} (hj:j < (ofR l hs ms).length):In64 (((ofR l hs ms).getD j default).a+1):=by
 obtain ⟨k,k1,k2,k3,k4⟩:=R_ex hj
 obtain ⟨y1,y2,y3⟩:=zs_z hk.z
 have hge:=el_ge (show elB l (hs.getD k default)=true from k2)
 have hzb:zoE l (outM (hs.getD k default).ws (hs.getD k default).ws.length) < l.length:=(zo_bd l _ l.length).2
 have hsh:=(zn_z (y3 (zoE l (outM (hs.getD k default).ws (hs.getD k default).ws.length)).toNat (by omega))).sh
 have hfm:fMs (hs.getD k default) (ms.getD k [])=0:=hk.m k k1
 have h1:=chO_bd hfm (zH l (hs.getD k default)).tg
 have hsh:0<=(zH l (hs.getD k default)).sh∧(zH l (hs.getD k default)).sh<=100:=hsh
 have h2:=mul_bd h1.1 h1.2 hsh.1 hsh.2
 rw [k4]
 show In64 (((chO (hs.getD k default) (ms.getD k []) (bst (hs.getD k default) (ms.getD k []) (zH l (hs.getD k default)).tg)).c * (zH l (hs.getD k default)).sh).tdiv 100+1)
 rw [Int.tdiv_eq_ediv_of_nonneg h2.1]
 unfold In64
 omega
theorem rot_mem {α:Type} {b:Nat} {L:List α} {x:α} (h:x ∈ rotL b L):x ∈ L:=by
 unfold rotL at h
 rcases List.mem_append.1 h with h | h
 · exact List.mem_of_mem_drop h
 · exact List.mem_of_mem_take h
theorem c51q (hk:ChOK l hs ms) (hl:l.length<=1000) (hn:∀ x,x ∈ l->x.nm.length<=1000) {h:Hm} (hh:fHm h=0) (hm:h.nm.length<=1000000) (hw:h.ws.length<=1000):PCall Tryz.prog G0 51 [.sl 4 (l.map encZn),.agg (encHm h)] (.tup [.bool (elB l h),.i 0]):=by
 have e:=c51 l h hl hn hm hw
 have q:egE l h=0:=by
  unfold egE
  rw [hk.z,hh]
  rfl
 have q2:egV l h=elB l h:=if_neg (by rw [q];decide)
 rw [q,q2] at e
 exact e
theorem c17q {h:Hm} (hh:fHm h=0) (hm:h.nm.length<=1000000) (hw:h.ws.length<=1000):PCall Tryz.prog G0 17 [.agg (encHm h)] (.tup [.i (oM h),.i 0]):=by
 have e:=c17 h hm hw
 have q:ouV h=oM h:=if_neg (by rw [hh];decide)
 rw [q,hh] at e
 exact e
theorem zfp (hk:ChOK l hs ms) {h:Hm} (hh:fHm h=0) (he:elB l h=true):zfV l (oM h)=zoE l (oM h)∧zfE l (oM h)=0:=by
 obtain ⟨z1,z2,z3,z4,z5,z6⟩:=hm_z hh
 have hob:=outM_bd z6 h.ws.length (Nat.le_refl _)
 have hge:0<=zoE l (oM h):=el_ge he
 have q:zsE l (oM h)=0:=by
  unfold zsE
  rw [hk.z,show fEn (oM h)=0 from fEn_z (by unfold oM;omega)]
  rfl
 have q2:¬ decide (zoE l (oM h) < 0)=true:=by
  rw [decide_eq_true_eq]
  omega
 have e1:zrV l (oM h)=zoE l (oM h):=if_neg q2
 have e2:zrE l (oM h)=0:=if_neg q2
 exact ⟨(if_neg (by rw [q];decide)).trans e1,(if_neg (by rw [q];decide)).trans e2⟩
theorem c49q (hk:ChOK l hs ms) (hl:l.length<=1000) (hn:∀ x,x ∈ l->x.nm.length<=1000) {h:Hm} (hh:fHm h=0) (he:elB l h=true):PCall Tryz.prog G0 49 [.sl 4 (l.map encZn),.i (oM h)] (.tup [.i (zoE l (oM h)),.i 0]):=by
 have e:=c49 l (oM h) hl hn
 rw [(zfp hk hh he).1,(zfp hk hh he).2] at e
 exact e
theorem c42q {h:Hm} {m:List Ms} (hm:fMs h m=0) {t:Int} (ht:0<=t∧t<=10000000000000) (hn:h.nm.length<=1000000) (hw:h.ws.length<=1000) (hml:m.length<=1000∧∀ x,x ∈ m->x.nm.length<=1000):PCall Tryz.prog G0 42 [.agg (encHm h),.sl 19 (m.map encMs),.i t] (.tup [.sl 1 ((cS h m t).map encI),.i (cC h m t),.i (cE h m t)]):=by
 have e:=c42 h m t hn hw hml.1 hml.2
 have q:chE h m t=0:=by
  unfold chE
  rw [hm,fEn_z ht]
  rfl
 unfold c42V at e
 rw [q,if_neg (by decide)] at e
 exact e
theorem el_fs (hk:ChOK l hs ms) {g:Nat} (hg:g < hs.length) (he:elB l (hs.getD g default)=true):cnJ l hs ms g < (ofR l hs ms).length∧0<=zG l hs g∧zG l hs g < l.length∧(0<=(zD l hs g).sh∧(zD l hs g).sh<=100)∧(0<=(zD l hs g).tg∧(zD l hs g).tg<=10000000000000)∧rD l hs ms g=offV l (hs.getD g default) (ms.getD g []):=by
 obtain ⟨y1,y2,y3⟩:=zs_z hk.z
 have hge:=el_ge he
 have hzb:zoE l (outM (hs.getD g default).ws (hs.getD g default).ws.length) < l.length:=(zo_bd l _ l.length).2
 have hzg:zG l hs g=zoE l (outM (hs.getD g default).ws (hs.getD g default).ws.length):=by
  unfold zG
  rw [hD_e]
  rfl
 have hz:=zn_z (y3 (zG l hs g).toNat (by rw [hzg];omega))
 exact ⟨cn_lt hg he,by rw [hzg];exact hge,by rw [hzg];exact hzb,hz.sh,hz.tg,of_at he hg⟩
theorem zD_e {g:Nat}:zD l hs g=zH l (hs.getD g default):=by
 unfold zD zG
 rw [hD_e]
 rfl
theorem g5_f (hk:ChOK l hs ms) {g:Nat} (hg:g < hs.length) (he:elB l (hs.getD g default)=true):g5 l hs ms g=false:=by
 obtain ⟨f1,f2,f3,f4,f5,f6⟩:=el_fs hk hg he
 unfold g5 g4 g3 g2 g1
 rw [f6,decide_eq_false (show ¬ zG l hs g < 0 by omega),decide_eq_false (show ¬ zG l hs g>=((l.map encZn).length:Int) by rw [List.length_map];omega),decide_eq_false (show ¬ (cnJ l hs ms g:Int)>=(((ofR l hs ms).map encOf).length:Int) by rw [List.length_map];omega),zD_e]
 show (if (if false=true then true else !((hs.getD g default).nm == (hs.getD g default).nm))=true then true else !((zH l (hs.getD g default)).nm == (zH l (hs.getD g default)).nm))=false
 rw [beq_self_eq_true,beq_self_eq_true]
 rfl
theorem q9_f (hk:ChOK l hs ms) {g:Nat} (hg:g < hs.length) (he:elB l (hs.getD g default)=true):q9 l hs ms g=false:=by
 obtain ⟨f1,f2,f3,f4,f5,f6⟩:=el_fs hk hg he
 have e1:q1 l hs ms g=true:=by
  unfold q1 sG cS
  rw [f6,hD_e,mD_e,zD_e]
  exact beq_self_eq_true _
 have e2:(rD l hs ms g).a=(cG l hs ms g * (zD l hs g).sh).tdiv 100:=by
  unfold cG cC
  rw [f6,hD_e,mD_e,zD_e]
  rfl
 unfold q9 q3 q0 e0 q6 e8
 rw [e1,e2]
 have hx:eG l hs ms g=if (bst (hs.getD g default) (ms.getD g []) (zD l hs g).tg).isSome=true then 0 else 18:=by
  unfold eG cE
  rw [hD_e,mD_e]
 cases hb:bst (hs.getD g default) (ms.getD g []) (zD l hs g).tg with
 | some b =>
  rw [hb] at hx
  have hx:eG l hs ms g=0:=hx
  rw [hx,bne_self_eq_false]
  rfl
 | none =>
  rw [hb] at hx
  have hx:eG l hs ms g=18:=hx
  have e3:cG l hs ms g=0:=by
   unfold cG cC
   rw [hD_e,mD_e,hb]
   rfl
  have e4:(rD l hs ms g).g=[]:=by
   rw [f6]
   show (chO (hs.getD g default) (ms.getD g []) (bst (hs.getD g default) (ms.getD g []) (zH l (hs.getD g default)).tg)).s=[]
   rw [<- zD_e,hb]
   rfl
  rw [hx,e3,e4,Int.zero_mul]
  rfl
theorem in_cG (hk:ChOK l hs ms) {g:Nat} (hg:g < hs.length) (he:elB l (hs.getD g default)=true):In64 (cG l hs ms g * (zD l hs g).sh)∧In64 ((cG l hs ms g * (zD l hs g).sh).tdiv 100):=by
 obtain ⟨f1,f2,f3,f4,f5,f6⟩:=el_fs hk hg he
 have hfm:fMs (hs.getD g default) (ms.getD g [])=0:=hk.m g hg
 have:=of_in hfm (zD l hs g).tg f4
 unfold cG cC
 rw [hD_e,mD_e]
 exact this
theorem T_len (hk:ChOK l hs ms) {n0:Int} (hb:rB hs n0 < hs.length):(ofT l hs ms n0).length=(ofR l hs ms).length:=(rot_R hk (Nat.le_of_lt hb)).1
theorem T_or (hk:ChOK l hs ms) {n0:Int} (hb:rB hs n0 < hs.length) {j:Nat} (hj:j < (ofR l hs ms).length):orN (fun i=>sameO ((ofT l hs ms n0).getD j default) ((ofR l hs ms).getD i default)) (ofR l hs ms).length=true:=by
 obtain ⟨i,i1,i2⟩:=(rot_R hk (Nat.le_of_lt hb)).2 j hj
 exact or_hit (p:=fun i=>sameO ((ofT l hs ms n0).getD j default) ((ofR l hs ms).getD i default)) (i:=i) (by
  show sameO ((ofT l hs ms n0).getD j default) ((ofR l hs ms).getD i default)=true
  rw [i2]
  exact same_o _) i1
end
def T_c11_11 (l:List Zn) (hs:List Hm) (ms:List (List Ms)) (n0 n1:Int):Prop :=
      K11a l hs ms->((w1 l hs ms n1)=true->(w1 l hs ms n1)=true)∧((w1 l hs ms n1)=true->(w1 l hs ms n1)=true)∧((w1 l hs ms n1)=true->(w1 l hs ms n1)=true)∧((w1 l hs ms n1)=true->(w1
      l hs ms n1)=true)∧((w1 l hs ms n1)=true->(w1 l hs ms n1)=true)∧((w1 l hs ms n1)=true->(w1 l hs ms n1)=true)∧((w1 l hs ms n1)=true->(w1 l hs ms n1)=true)∧((w1 l hs ms n1)=true
      → (w1 l hs ms n1)=true)∧((w1 l hs ms n1)=true->(w1 l hs ms n1)=true)∧((w1 l hs ms n1)=true->(w1 l hs ms n1)=true)∧((w1 l hs ms n1)=true->(w1 l hs ms n1)=true)∧((w1 l hs ms n1)
      = true->(w1 l hs ms n1)=true)∧((w2 l hs ms n1)=true->(w2 l hs ms n1)=true)∧((w2 l hs ms n1)=true->(w2 l hs ms n1)=true)∧((w2 l hs ms n1)=true->(w2 l hs ms n1)=true)∧((w2 l hs
      ms n1)=true->(w2 l hs ms n1)=true)∧((w2 l hs ms n1)=true->(w2 l hs ms n1)=true)∧((w2 l hs ms n1)=true->(w2 l hs ms n1)=true)∧((w2 l hs ms n1)=true->(w2 l hs ms n1)=true) ∧
      ((w2 l hs ms n1)=true->(w2 l hs ms n1)=true)∧((w2 l hs ms n1)=true->(w2 l hs ms n1)=true)∧((w2 l hs ms n1)=true->(w2 l hs ms n1)=true)∧((w2 l hs ms n1)=true->(w2 l hs ms n1) =
      true)∧((w2 l hs ms n1)=true->(w2 l hs ms n1)=true)∧((if (w2 l hs ms n1)=true then true else false)=true->(if (w2 l hs ms n1)=true then true else false)=true)∧PCall Tryz.prog G0 50
      [AV.sl 4 (List.map encZn l)] (AV.sl 4 (List.map encZn l))∧PCall Tryz.prog G0 59 [AV.sl 3 (List.map encHm hs)] (AV.sl 3 (List.map encHm hs))∧PCall Tryz.prog G0 60 [AV.sl 1 (List.map encLs ms)]
      (AV.sl 1 (List.map encLs ms))∧PCall Tryz.prog G0 62 [AV.sl 4 (List.map encOf (lsR l hs ms n1))] (AV.sl 4 (List.map encOf (lsR l hs ms n1)))∧PCall Tryz.prog G0 61 [AV.sl 4 (List.map encZn l),AV.sl
      3 (List.map encHm hs),AV.sl 1 (List.map encLs ms),AV.sl 4 (List.map encOf (lsR l hs ms n1))] (AV.i (wnt l hs ms n1))∧impB (w1 l hs ms n1) (PCall Tryz.prog G0 50 [AV.sl 4 (List.map encZn l)] (AV.sl
      4 (List.map encZn l)))∧impB (w1 l hs ms n1) (PCall Tryz.prog G0 59 [AV.sl 3 (List.map encHm hs)] (AV.sl 3 (List.map encHm hs)))∧impB (w1 l hs ms n1) (PCall Tryz.prog G0 60 [AV.sl 1 (List.map encLs
      ms)] (AV.sl 1 (List.map encLs ms)))∧impB (w1 l hs ms n1) (PCall Tryz.prog G0 62 [AV.sl 4 (List.map encOf (twR l hs ms n1))] (AV.sl 4 (List.map encOf (twR l hs ms n1))))∧impB (w1 l hs ms n1) (PCall
      Tryz.prog G0 61 [AV.sl 4 (List.map encZn l),AV.sl 3 (List.map encHm hs),AV.sl 1 (List.map encLs ms),AV.sl 4 (List.map encOf (twR l hs ms n1))] (AV.i 9))∧impB (w2 l hs ms n1) (PCall Tryz.prog G0 50
      [AV.sl 4 (List.map encZn l)] (AV.sl 4 (List.map encZn l)))∧impB (w2 l hs ms n1) (PCall Tryz.prog G0 59 [AV.sl 3 (List.map encHm hs)] (AV.sl 3 (List.map encHm hs)))∧impB (w2 l hs ms n1) (PCall
      Tryz.prog G0 60 [AV.sl 1 (List.map encLs ms)] (AV.sl 1 (List.map encLs ms)))∧impB (w2 l hs ms n1) (PCall Tryz.prog G0 62 [AV.sl 4 (List.map encOf (wrR l hs ms n1))] (AV.sl 4 (List.map encOf (wrR l hs
      ms n1))))∧impB (w2 l hs ms n1) (PCall Tryz.prog G0 61 [AV.sl 4 (List.map encZn l),AV.sl 3 (List.map encHm hs),AV.sl 1 (List.map encLs ms),AV.sl 4 (List.map encOf (wrR l hs ms n1))] (AV.i 19)) ∧
      impB (if (w2 l hs ms n1)=true then true else false) (PCall Tryz.prog G0 16 [] (AV.bool true))∧AV.bool (if (if (w2 l hs ms n1)=true then true else false)=true then true else false)=AV.bool
      true
theorem t_c11_11 (l:List Zn) (hs:List Hm) (ms:List (List Ms)) (n0 n1:Int) (hA:PCall Tryz.prog G0 16 [] (.bool true)) (hl:l.length<=maxLen) (hh:hs.length<=maxLen) (hm0:ms.length<=maxLen) (hml:∀ x,x ∈ ms->x.length<=maxLen) (hn0:0<=n0∧n0<=255) (hn1:0<=n1∧n1<=255):T_c11_11 l hs ms n0 n1:=by
 unfold T_c11_11
 refine fun h1=>?_
 · have KA:=h1
   have K:=KA.1
   have hr:=KA.2
   have k:=K.ok
   obtain ⟨z1,z2⟩:=sh_zn K.sz
   obtain ⟨b1,b3,b5,b6⟩:=bd11 K.sh
   have n1p:=K.n1
   have n4p:=K.n4
   have hRl:=R_len l hs ms
   have hke:=k.e
   obtain ⟨rb1,rb2⟩:=rB_e n1p hn0
   have kT:=rot_ok k (Nat.le_of_lt rb2)
   have hT:=T_len k rb2
   have lT:(hsT hs n0).length=hs.length:=rot_len (Nat.le_of_lt rb2)
   have mT:(msT hs ms n0).length=ms.length:=rot_len (by omega)
   have hlO:(List.map encOf (ofR l hs ms)).length=(ofR l hs ms).length:=List.length_map _
   have hlT:(List.map encOf (ofT l hs ms n0)).length=(ofT l hs ms n0).length:=List.length_map _
   have hlH:(List.map encHm hs).length=hs.length:=List.length_map _
   have hlL:(List.map encLs ms).length=ms.length:=List.length_map _
   have hlZ:(List.map encZn l).length=l.length:=List.length_map _
   have d1:(tlD (List.map encHm hs) (rB hs n0)).length<=hs.length:=by rw [tlD_e (by omega),List.length_drop];omega
   have d2:(hdD (List.map encHm hs) (rB hs n0)).length<=hs.length:=by rw [hdD_e,List.length_take];omega
   have d3:(tlD (List.map encLs ms) (rB hs n0)).length<=hs.length:=by rw [tlD_e (by omega),List.length_drop];omega
   have d4:(hdD (List.map encLs ms) (rB hs n0)).length<=hs.length:=by rw [hdD_e,List.length_take];omega
   obtain ⟨ra1,ra2⟩:=rA_e hr hn1
   have d5:(hdD (List.map encOf (ofR l hs ms)) (rA l hs ms n1)).length<=(ofR l hs ms).length:=by rw [hdD_e,List.length_take];omega
   have d6:(tlD (List.map encOf (ofR l hs ms)) (rA l hs ms n1+1)).length<=(ofR l hs ms).length:=by rw [tlD_e (by omega),List.length_drop];omega
   have u1:=ls_len (l:=l) (hs:=hs) (ms:=ms) n1
   have u2:=tw_len (l:=l) (hs:=hs) (ms:=ms) n1
   have u3:=wr_len (l:=l) (hs:=hs) (ms:=ms) n1
   refine ⟨fun h=>h,fun h=>h,fun h=>h,fun h=>h,fun h=>h,fun h=>h,fun h=>h,fun h=>h,fun h=>h,fun h=>h,fun h=>h,fun h=>h,fun h=>h,fun h=>h,fun h=>h,fun h=>h,fun h=>h,fun h=>h,fun h=>h,fun h=>h,fun h=>h,fun h=>h,fun h=>h,fun h=>h,fun h=>h,((c50 l (by omega)).un),((c59 hs (by omega) (fun h hm=>(b5 h hm).2)).un),((c60 ms (by omega) (fun x hm=>(b6 x hm).1)).un),((c62 _ (by omega) (ls_g k)).un),(c61q k (by omega) z2 b5 b6 (by omega) (R_less k ra2)),impB_iff.2 fun hb=>((c50 l (by omega)).un),impB_iff.2 fun hb=>((c59 hs (by omega) (fun h hm=>(b5 h hm).2)).un),impB_iff.2 fun hb=>((c60 ms (by omega) (fun x hm=>(b6 x hm).1)).un),impB_iff.2 fun hb=>((c62 _ (by omega) (tw_g k ra2)).un),impB_iff.2 fun hb=>(c61q k (by omega) z2 b5 b6 (by omega) (R_twice k (by omega) ra2)),impB_iff.2 fun hb=>((c50 l (by omega)).un),impB_iff.2 fun hb=>((c59 hs (by omega) (fun h hm=>(b5 h hm).2)).un),impB_iff.2 fun hb=>((c60 ms (by omega) (fun x hm=>(b6 x hm).1)).un),impB_iff.2 fun hb=>((c62 _ (by omega) (wr_g k ra2)).un),impB_iff.2 fun hb=>(c61q k (by omega) z2 b5 b6 (by omega) (R_wrong k ra2)),impB_iff.2 fun hb=>hA,?_⟩
   · unfold w2 w1
     rw [beq_self_eq_true]
     rfl
def T_c11_10 (l:List Zn) (hs:List Hm) (ms:List (List Ms)) (n0 n1:Int):Prop :=
      K11a l hs ms->In64 ((↑(List.map encOf (ofR l hs ms)).length:Int)-(1:Int))∧((((↑(rA l hs ms n1):Int) == (↑(List.map encOf (ofR l hs ms)).length:Int)-(1:Int))=true->AS.mk [(0,zA l),
      (4,eS hs ms),(5,eN n0 n1),(7,slR l hs ms),(31,AV.sl 4 (List.map encOf (lsR l hs ms n1))),(32,AV.sl 4 (List.map encOf (twR l hs ms n1))),(33,AV.sl 4 (List.map encOf (wrR l hs ms n1))),(34,
      AV.i 32)] [] 1=AS.mk [(0,zA l),(4,eS hs ms),(5,eN n0 n1),(7,slR l hs ms),(31,AV.sl 4 (List.map encOf (lsR l hs ms n1))),(32,AV.sl 4 (List.map encOf (twR l hs ms n1))),(33,AV.sl 4
      (List.map encOf (wrR l hs ms n1))),(34,AV.i (wnt l hs ms n1))] [] 1∧K11a l hs ms)∧(((↑(rA l hs ms n1):Int) == (↑(List.map encOf (ofR l hs ms)).length:Int)-(1:Int))=false->AS.mk [(0,zA
      l),(4,eS hs ms),(5,eN n0 n1),(7,slR l hs ms),(31,AV.sl 4 (List.map encOf (lsR l hs ms n1))),(32,AV.sl 4 (List.map encOf (twR l hs ms n1))),(33,AV.sl 4 (List.map encOf (wrR l hs ms n1))),
      (34,AV.i 11)] [] 1=AS.mk [(0,zA l),(4,eS hs ms),(5,eN n0 n1),(7,slR l hs ms),(31,AV.sl 4 (List.map encOf (lsR l hs ms n1))),(32,AV.sl 4 (List.map encOf (twR l hs ms n1))),(33,AV.sl 4
      (List.map encOf (wrR l hs ms n1))),(34,AV.i (wnt l hs ms n1))] [] 1∧K11a l hs ms))∧(T_c11_11 l hs ms n0 n1)
theorem t_c11_10 (l:List Zn) (hs:List Hm) (ms:List (List Ms)) (n0 n1:Int) (hA:PCall Tryz.prog G0 16 [] (.bool true)) (hl:l.length<=maxLen) (hh:hs.length<=maxLen) (hm0:ms.length<=maxLen) (hml:∀ x,x ∈ ms->x.length<=maxLen) (hn0:0<=n0∧n0<=255) (hn1:0<=n1∧n1<=255):T_c11_10 l hs ms n0 n1:=by
 unfold T_c11_10
 have:(List.map encOf (ofR l hs ms)).length=(ofR l hs ms).length:=by simp only [List.length_map]
 refine fun h1=>?_
 · have KA:=h1
   have K:=KA.1
   have hr:=KA.2
   have k:=K.ok
   obtain ⟨z1,z2⟩:=sh_zn K.sz
   obtain ⟨b1,b3,b5,b6⟩:=bd11 K.sh
   have n1p:=K.n1
   have n4p:=K.n4
   have hRl:=R_len l hs ms
   have hke:=k.e
   obtain ⟨rb1,rb2⟩:=rB_e n1p hn0
   have kT:=rot_ok k (Nat.le_of_lt rb2)
   have hT:=T_len k rb2
   have lT:(hsT hs n0).length=hs.length:=rot_len (Nat.le_of_lt rb2)
   have mT:(msT hs ms n0).length=ms.length:=rot_len (by omega)
   have hlO:(List.map encOf (ofR l hs ms)).length=(ofR l hs ms).length:=List.length_map _
   have hlT:(List.map encOf (ofT l hs ms n0)).length=(ofT l hs ms n0).length:=List.length_map _
   have hlH:(List.map encHm hs).length=hs.length:=List.length_map _
   have hlL:(List.map encLs ms).length=ms.length:=List.length_map _
   have hlZ:(List.map encZn l).length=l.length:=List.length_map _
   have d1:(tlD (List.map encHm hs) (rB hs n0)).length<=hs.length:=by rw [tlD_e (by omega),List.length_drop];omega
   have d2:(hdD (List.map encHm hs) (rB hs n0)).length<=hs.length:=by rw [hdD_e,List.length_take];omega
   have d3:(tlD (List.map encLs ms) (rB hs n0)).length<=hs.length:=by rw [tlD_e (by omega),List.length_drop];omega
   have d4:(hdD (List.map encLs ms) (rB hs n0)).length<=hs.length:=by rw [hdD_e,List.length_take];omega
   obtain ⟨ra1,ra2⟩:=rA_e hr hn1
   have d5:(hdD (List.map encOf (ofR l hs ms)) (rA l hs ms n1)).length<=(ofR l hs ms).length:=by rw [hdD_e,List.length_take];omega
   have d6:(tlD (List.map encOf (ofR l hs ms)) (rA l hs ms n1+1)).length<=(ofR l hs ms).length:=by rw [tlD_e (by omega),List.length_drop];omega
   have u1:=ls_len (l:=l) (hs:=hs) (ms:=ms) n1
   have u2:=tw_len (l:=l) (hs:=hs) (ms:=ms) n1
   have u3:=wr_len (l:=l) (hs:=hs) (ms:=ms) n1
   refine ⟨(by unfold In64;omega),⟨fun h2=>?_,fun h2=>?_⟩,t_c11_11 l hs ms n0 n1 hA hl hh hm0 hml hn0 hn1⟩
   · have hw:wnt l hs ms n1=32:=if_pos (by have q:=eq_of_beq h2;omega)
     refine ⟨?_,KA⟩
     · rw [hw]
   · have hw:wnt l hs ms n1=11:=if_neg (by have q:=ne_of_beq_false h2;omega)
     refine ⟨?_,KA⟩
     · rw [hw]
def T_c11_9 (l:List Zn) (hs:List Hm) (ms:List (List Ms)) (n0 n1:Int):Prop :=
      K11a l hs ms->(0:Int)<=(0:Int)∧(0:Int)<=(↑(rA l hs ms n1):Int)∧(↑(rA l hs ms n1):Int)<=(↑(List.map encOf (ofR l hs ms)).length:Int)∧0+(hdD (List.map encOf (ofR l hs ms)) (rA l
      hs ms n1)).length<=9223372036854775807∧(0+(hdD (List.map encOf (ofR l hs ms)) (rA l hs ms n1)).length) * 64<=140737488355328∧In64 ((↑(rA l hs ms n1):Int)+(1:Int))∧(0:Int)<=(↑(rA l hs
      ms n1):Int)+(1:Int)∧(↑(rA l hs ms n1):Int)+(1:Int)<=(↑(List.map encOf (ofR l hs ms)).length:Int)∧(↑(List.map encOf (ofR l hs ms)).length:Int)<=(↑(List.map encOf (ofR l hs
      ms)).length:Int)∧0+(hdD (List.map encOf (ofR l hs ms)) (rA l hs ms n1)).length+(tlD (List.map encOf (ofR l hs ms)) (rA l hs ms n1+1)).length<=9223372036854775807∧(0+(hdD (List.map encOf
      (ofR l hs ms)) (rA l hs ms n1)).length+(tlD (List.map encOf (ofR l hs ms)) (rA l hs ms n1+1)).length) * 64<=140737488355328∧PCall Tryz.prog G0 67 [AV.sl 4 (List.map encOf (ofR l hs ms))] (AV.sl
      4 (List.map encOf (ofR l hs ms)))∧PCall Tryz.prog G0 67 [AV.sl 4 (List.map encOf (ofR l hs ms))] (AV.sl 4 (List.map encOf (ofR l hs ms)))∧0+(List.map encOf (ofR l hs ms)).length ≤
      9223372036854775807∧(0+(List.map encOf (ofR l hs ms)).length) * 64<=140737488355328∧(0:Int)<=(↑(rA l hs ms n1):Int)∧(↑(rA l hs ms n1):Int) < (↑(List.map encOf (ofR l hs ms)).length :
      Int)∧0+(List.map encOf (ofR l hs ms)).length+1<=9223372036854775807∧(0+(List.map encOf (ofR l hs ms)).length+1) * 64<=140737488355328∧PCall Tryz.prog G0 67 [AV.sl 4 (List.map encOf (ofR
      l hs ms))] (AV.sl 4 (List.map encOf (ofR l hs ms)))∧AV.agg (nthR (List.map encOf (ofR l hs ms)) (rA l hs ms n1))=AV.agg (encOf ((ofR l hs ms).getD (rA l hs ms n1) default))∧PCall Tryz.prog G0 67
      [AV.sl 4 (List.map encOf (ofR l hs ms))] (AV.sl 4 (List.map encOf (ofR l hs ms)))∧PCall Tryz.prog G0 62 [AV.sl 4 (List.map encOf (ofR l hs ms))] (AV.sl 4 (List.map encOf (ofR l hs ms)))∧PCall
      Tryz.prog G0 67 [AV.sl 4 (List.map encOf (ofR l hs ms))] (AV.fresh 164 4 (List.map encOf (ofR l hs ms)))∧((0:Int)<=(↑(rA l hs ms n1):Int)∧(↑(rA l hs ms n1):Int) < (↑(List.map encOf (ofR l hs
      ms)).length:Int)∧(rA l hs ms n1) < (List.map encOf (ofR l hs ms)).length∧In64 (((ofR l hs ms).getD (rA l hs ms n1) default).a+(1:Int))∧(0:Int)<=(↑(rA l hs ms n1):Int)∧(↑(rA l hs ms
      n1):Int) < (↑(List.map encOf (ofR l hs ms)).length:Int)∧(rA l hs ms n1) < (List.map encOf (ofR l hs ms)).length∧nth (nthR (List.map encOf (ofR l hs ms)) (rA l hs ms n1)) 3=AV.i ((ofR l hs
      ms).getD (rA l hs ms n1) default).a∧AS.mk [(0,zA l),(4,eS hs ms),(5,eN n0 n1),(7,slR l hs ms),(30,AV.i (↑(rA l hs ms n1):Int)),(31,AV.sl 4 ([]++hdD (List.map encOf (ofR l hs ms)) (rA l
      hs ms n1)++tlD (List.map encOf (ofR l hs ms)) (rA l hs ms n1+1))),(32,AV.sl 4 ([]++List.map encOf (ofR l hs ms)++[(encOf ((ofR l hs ms).getD (rA l hs ms n1) default))])),(33,AV.sl 4 (putRow
      (List.map encOf (ofR l hs ms)) (rA l hs ms n1) 3 [AV.i (((ofR l hs ms).getD (rA l hs ms n1) default).a+(1:Int))]))] [] 1=AS.mk [(0,zA l),(4,eS hs ms),(5,eN n0 n1),(7,slR l hs ms),(30,
      AV.i (↑(rA l hs ms n1):Int)),(31,AV.sl 4 (List.map encOf (lsR l hs ms n1))),(32,AV.sl 4 (List.map encOf (twR l hs ms n1))),(33,AV.sl 4 (List.map encOf (wrR l hs ms n1)))] [] 1∧K11a l hs ms) ∧
      (T_c11_10 l hs ms n0 n1)
theorem t_c11_9 (l:List Zn) (hs:List Hm) (ms:List (List Ms)) (n0 n1:Int) (hA:PCall Tryz.prog G0 16 [] (.bool true)) (hl:l.length<=maxLen) (hh:hs.length<=maxLen) (hm0:ms.length<=maxLen) (hml:∀ x,x ∈ ms->x.length<=maxLen) (hn0:0<=n0∧n0<=255) (hn1:0<=n1∧n1<=255):T_c11_9 l hs ms n0 n1:=by
 unfold T_c11_9
 have:(List.map encOf (ofR l hs ms)).length=(ofR l hs ms).length:=by simp only [List.length_map]
 refine fun h1=>?_
 · have KA:=h1
   have K:=KA.1
   have hr:=KA.2
   have k:=K.ok
   obtain ⟨z1,z2⟩:=sh_zn K.sz
   obtain ⟨b1,b3,b5,b6⟩:=bd11 K.sh
   have n1p:=K.n1
   have n4p:=K.n4
   have hRl:=R_len l hs ms
   have hke:=k.e
   obtain ⟨rb1,rb2⟩:=rB_e n1p hn0
   have kT:=rot_ok k (Nat.le_of_lt rb2)
   have hT:=T_len k rb2
   have lT:(hsT hs n0).length=hs.length:=rot_len (Nat.le_of_lt rb2)
   have mT:(msT hs ms n0).length=ms.length:=rot_len (by omega)
   have hlO:(List.map encOf (ofR l hs ms)).length=(ofR l hs ms).length:=List.length_map _
   have hlT:(List.map encOf (ofT l hs ms n0)).length=(ofT l hs ms n0).length:=List.length_map _
   have hlH:(List.map encHm hs).length=hs.length:=List.length_map _
   have hlL:(List.map encLs ms).length=ms.length:=List.length_map _
   have hlZ:(List.map encZn l).length=l.length:=List.length_map _
   have d1:(tlD (List.map encHm hs) (rB hs n0)).length<=hs.length:=by rw [tlD_e (by omega),List.length_drop];omega
   have d2:(hdD (List.map encHm hs) (rB hs n0)).length<=hs.length:=by rw [hdD_e,List.length_take];omega
   have d3:(tlD (List.map encLs ms) (rB hs n0)).length<=hs.length:=by rw [tlD_e (by omega),List.length_drop];omega
   have d4:(hdD (List.map encLs ms) (rB hs n0)).length<=hs.length:=by rw [hdD_e,List.length_take];omega
   obtain ⟨ra1,ra2⟩:=rA_e hr hn1
   have d5:(hdD (List.map encOf (ofR l hs ms)) (rA l hs ms n1)).length<=(ofR l hs ms).length:=by rw [hdD_e,List.length_take];omega
   have d6:(tlD (List.map encOf (ofR l hs ms)) (rA l hs ms n1+1)).length<=(ofR l hs ms).length:=by rw [tlD_e (by omega),List.length_drop];omega
   have u1:=ls_len (l:=l) (hs:=hs) (ms:=ms) n1
   have u2:=tw_len (l:=l) (hs:=hs) (ms:=ms) n1
   have u3:=wr_len (l:=l) (hs:=hs) (ms:=ms) n1
   refine ⟨(by omega),(by omega),(by omega),(by omega),(by omega),(by unfold In64;omega),(by omega),(by omega),(by omega),(by omega),(by omega),((c67 _ (by omega)).un),((c67 _ (by omega)).un),(by omega),(by omega),(by omega),(by omega),(by omega),(by omega),((c67 _ (by omega)).un),(congrArg AV.agg (row_at encOf ra2)),((c67 _ (by omega)).un),((c62 _ (by omega) (R_g k)).un),(c67 _ (by omega)),⟨(by omega),(by omega),(by omega),(R_amt k ra2),(by omega),(by omega),(by omega),(congrArg (fun r=>nth r 3) (row_at encOf ra2)),?_,KA⟩,t_c11_10 l hs ms n0 n1 hA hl hh hm0 hml hn0 hn1⟩
   · rw [ls_e ra2,tw_e,wr_e ra2]
def T_c11_8 (l:List Zn) (hs:List Hm) (ms:List (List Ms)) (n0 n1:Int):Prop :=
      K11a l hs ms->((0:Int)<=(1:Int)∧(1:Int) < (2:Int)∧¬(↑(List.map encOf (ofR l hs ms)).length:Int)=(0:Int)∧AS.mk [(0,zA l),(4,eS hs ms),(5,eN n0 n1),(7,slR l hs ms),(30,
      AV.i ((wI n1).tmod (↑(List.map encOf (ofR l hs ms)).length:Int)))] [] 1=AS.mk [(0,zA l),(4,eS hs ms),(5,eN n0 n1),(7,slR l hs ms),(30,AV.i (↑(rA l hs ms n1):Int))] [] 1∧K11a l hs ms) ∧
      (T_c11_9 l hs ms n0 n1)
theorem t_c11_8 (l:List Zn) (hs:List Hm) (ms:List (List Ms)) (n0 n1:Int) (hA:PCall Tryz.prog G0 16 [] (.bool true)) (hl:l.length<=maxLen) (hh:hs.length<=maxLen) (hm0:ms.length<=maxLen) (hml:∀ x,x ∈ ms->x.length<=maxLen) (hn0:0<=n0∧n0<=255) (hn1:0<=n1∧n1<=255):T_c11_8 l hs ms n0 n1:=by
 unfold T_c11_8
 have:(List.map encOf (ofR l hs ms)).length=(ofR l hs ms).length:=by simp only [List.length_map]
 refine fun h1=>?_
 · have KA:=h1
   have K:=KA.1
   have hr:=KA.2
   have k:=K.ok
   obtain ⟨z1,z2⟩:=sh_zn K.sz
   obtain ⟨b1,b3,b5,b6⟩:=bd11 K.sh
   have n1p:=K.n1
   have n4p:=K.n4
   have hRl:=R_len l hs ms
   have hke:=k.e
   obtain ⟨rb1,rb2⟩:=rB_e n1p hn0
   have kT:=rot_ok k (Nat.le_of_lt rb2)
   have hT:=T_len k rb2
   have lT:(hsT hs n0).length=hs.length:=rot_len (Nat.le_of_lt rb2)
   have mT:(msT hs ms n0).length=ms.length:=rot_len (by omega)
   have hlO:(List.map encOf (ofR l hs ms)).length=(ofR l hs ms).length:=List.length_map _
   have hlT:(List.map encOf (ofT l hs ms n0)).length=(ofT l hs ms n0).length:=List.length_map _
   have hlH:(List.map encHm hs).length=hs.length:=List.length_map _
   have hlL:(List.map encLs ms).length=ms.length:=List.length_map _
   have hlZ:(List.map encZn l).length=l.length:=List.length_map _
   have d1:(tlD (List.map encHm hs) (rB hs n0)).length<=hs.length:=by rw [tlD_e (by omega),List.length_drop];omega
   have d2:(hdD (List.map encHm hs) (rB hs n0)).length<=hs.length:=by rw [hdD_e,List.length_take];omega
   have d3:(tlD (List.map encLs ms) (rB hs n0)).length<=hs.length:=by rw [tlD_e (by omega),List.length_drop];omega
   have d4:(hdD (List.map encLs ms) (rB hs n0)).length<=hs.length:=by rw [hdD_e,List.length_take];omega
   obtain ⟨ra1,ra2⟩:=rA_e hr hn1
   have d5:(hdD (List.map encOf (ofR l hs ms)) (rA l hs ms n1)).length<=(ofR l hs ms).length:=by rw [hdD_e,List.length_take];omega
   have d6:(tlD (List.map encOf (ofR l hs ms)) (rA l hs ms n1+1)).length<=(ofR l hs ms).length:=by rw [tlD_e (by omega),List.length_drop];omega
   have u1:=ls_len (l:=l) (hs:=hs) (ms:=ms) n1
   have u2:=tw_len (l:=l) (hs:=hs) (ms:=ms) n1
   have u3:=wr_len (l:=l) (hs:=hs) (ms:=ms) n1
   exact ⟨⟨(by omega),(by omega),(by omega),(congrArg (fun b=>AS.mk [_,_,_,_,(30,AV.i b)] [] 1) ra1),KA⟩,t_c11_9 l hs ms n0 n1 hA hl hh hm0 hml hn0 hn1⟩
def T_c11_7 (l:List Zn) (hs:List Hm) (ms:List (List Ms)) (n0 n1:Int):Prop :=
      K11 l hs ms->((((↑(List.map encOf (ofR l hs ms)).length:Int) == (0:Int))=true->PCall Tryz.prog G0 16 [] (AV.bool true)∧AV.bool true=AV.bool true)∧(((↑(List.map encOf (ofR l hs ms)).length
      : Int) == (0:Int))=false->AS.mk [(0,zA l),(4,eS hs ms),(5,eN n0 n1),(7,slR l hs ms)] [] 1=AS.mk [(0,zA l),(4,eS hs ms),(5,eN n0 n1),(7,slR l hs ms)] [] 1∧K11a l hs ms)) ∧
      (T_c11_8 l hs ms n0 n1)
theorem t_c11_7 (l:List Zn) (hs:List Hm) (ms:List (List Ms)) (n0 n1:Int) (hA:PCall Tryz.prog G0 16 [] (.bool true)) (hl:l.length<=maxLen) (hh:hs.length<=maxLen) (hm0:ms.length<=maxLen) (hml:∀ x,x ∈ ms->x.length<=maxLen) (hn0:0<=n0∧n0<=255) (hn1:0<=n1∧n1<=255):T_c11_7 l hs ms n0 n1:=by
 unfold T_c11_7
 have:(List.map encOf (ofR l hs ms)).length=(ofR l hs ms).length:=by simp only [List.length_map]
 refine fun h1=>?_
 · have K:=h1
   have k:=K.ok
   obtain ⟨z1,z2⟩:=sh_zn K.sz
   obtain ⟨b1,b3,b5,b6⟩:=bd11 K.sh
   have n1p:=K.n1
   have n4p:=K.n4
   have hRl:=R_len l hs ms
   have hke:=k.e
   obtain ⟨rb1,rb2⟩:=rB_e n1p hn0
   have kT:=rot_ok k (Nat.le_of_lt rb2)
   have hT:=T_len k rb2
   have lT:(hsT hs n0).length=hs.length:=rot_len (Nat.le_of_lt rb2)
   have mT:(msT hs ms n0).length=ms.length:=rot_len (by omega)
   have hlO:(List.map encOf (ofR l hs ms)).length=(ofR l hs ms).length:=List.length_map _
   have hlT:(List.map encOf (ofT l hs ms n0)).length=(ofT l hs ms n0).length:=List.length_map _
   have hlH:(List.map encHm hs).length=hs.length:=List.length_map _
   have hlL:(List.map encLs ms).length=ms.length:=List.length_map _
   have hlZ:(List.map encZn l).length=l.length:=List.length_map _
   have d1:(tlD (List.map encHm hs) (rB hs n0)).length<=hs.length:=by rw [tlD_e (by omega),List.length_drop];omega
   have d2:(hdD (List.map encHm hs) (rB hs n0)).length<=hs.length:=by rw [hdD_e,List.length_take];omega
   have d3:(tlD (List.map encLs ms) (rB hs n0)).length<=hs.length:=by rw [tlD_e (by omega),List.length_drop];omega
   have d4:(hdD (List.map encLs ms) (rB hs n0)).length<=hs.length:=by rw [hdD_e,List.length_take];omega
   refine ⟨⟨fun h2=>⟨hA,rfl⟩,fun h2=>?_⟩,t_c11_8 l hs ms n0 n1 hA hl hh hm0 hml hn0 hn1⟩
   · have KA:K11a l hs ms:=⟨K,by have q:=ne_of_beq_false h2;omega⟩
     exact ⟨rfl,KA⟩
def T_c11_6 (l:List Zn) (hs:List Hm) (ms:List (List Ms)) (n0 n1:Int):Prop :=
      K11 l hs ms->((∃ (g:Nat),g<=(ofT l hs ms n0).length∧AS.mk [(0,zA l),(4,eS hs ms),(5,eN n0 n1),(7,slR l hs ms),(316,AV.sl 4 (List.map encOf (ofT l hs ms n0))),(317,AV.i (↑(List.map
      encOf (ofT l hs ms n0)).length:Int)),(318,AV.i 0)] [] 1=AS.mk [(0,zA l),(4,eS hs ms),(5,eN n0 n1),(7,slR l hs ms),(316,AV.sl 4 (List.map encOf (ofT l hs ms n0))),(317,AV.i (↑(List.map
      encOf (ofT l hs ms n0)).length:Int)),(318,AV.i (g:Int))] [] 1)∧∀ (g:Nat),g<=(ofT l hs ms n0).length->(decide ((g:Int) < (↑(List.map encOf (ofT l hs ms n0)).length:Int))=true->(0 :
      Int)<=(g:Int)∧(g:Int) < (↑(List.map encOf (ofT l hs ms n0)).length:Int)∧AV.agg (nthR (List.map encOf (ofT l hs ms n0)) g)=AV.agg (encOf ((ofT l hs ms n0).getD g default))∧∃ (g0:Nat ×
      Nat),(g0.fst < (ofT l hs ms n0).length∧g0.snd<=(ofR l hs ms).length)∧g0.fst=g0.fst∧AS.mk [(0,zA l),(4,eS hs ms),(5,eN n0 n1),(7,slR l hs ms),(316,AV.sl 4 (List.map encOf (ofT l hs ms
      n0))),(317,AV.i (↑(List.map encOf (ofT l hs ms n0)).length:Int)),(318,AV.i (g:Int)),(26,AV.elt 4 [(encOf ((ofT l hs ms n0).getD g default))] 0 0),(27,AV.bool false),(322,AV.sl 4
      (List.map encOf (ofR l hs ms))),(323,AV.i (↑(List.map encOf (ofR l hs ms)).length:Int)),(324,AV.i 0)] [] 1=AS.mk [(0,zA l),(4,eS hs ms),(5,eN n0 n1),(7,slR l hs ms),(316,AV.sl 4
      (List.map encOf (ofT l hs ms n0))),(317,AV.i (↑(List.map encOf (ofT l hs ms n0)).length:Int)),(318,AV.i (↑g0.fst:Int)),(26,AV.elt 4 [(encOf ((ofT l hs ms n0).getD g0.fst default))] 0 0),(27,
      AV.bool (orN (fun (i:Nat)=>sameO ((ofT l hs ms n0).getD g0.fst default) ((ofR l hs ms).getD i default)) g0.snd)),(322,AV.sl 4 (List.map encOf (ofR l hs ms))),(323,AV.i (↑(List.map encOf (ofR l
      hs ms)).length:Int)),(324,AV.i (↑g0.snd:Int))] [] 1∧∀ (g_1:Nat × Nat),g_1.fst < (ofT l hs ms n0).length∧g_1.snd<=(ofR l hs ms).length->g_1.fst=g0.fst->(decide ((↑g_1.snd:Int) <
      (↑(List.map encOf (ofR l hs ms)).length:Int))=true->(0:Int)<=(↑g_1.snd:Int)∧(↑g_1.snd:Int) < (↑(List.map encOf (ofR l hs ms)).length:Int)∧AV.agg (nthR (List.map encOf (ofR l hs ms))
      g_1.snd)=AV.agg (encOf ((ofR l hs ms).getD g_1.snd default))∧((!orN (fun (i:Nat)=>sameO ((ofT l hs ms n0).getD g_1.fst default) ((ofR l hs ms).getD i default)) g_1.snd)=true->(!orN (fun (i :
      Nat)=>sameO ((ofT l hs ms n0).getD g_1.fst default) ((ofR l hs ms).getD i default)) g_1.snd)=true)∧((!orN (fun (i:Nat)=>sameO ((ofT l hs ms n0).getD g_1.fst default) ((ofR l hs ms).getD i
      default)) g_1.snd)=true->(!orN (fun (i:Nat)=>sameO ((ofT l hs ms n0).getD g_1.fst default) ((ofR l hs ms).getD i default)) g_1.snd)=true)∧(orN (fun (i:Nat)=>sameO ((ofT l hs ms n0).getD
      g_1.fst default) ((ofR l hs ms).getD i default)) g_1.snd=false->(!orN (fun (i:Nat)=>sameO ((ofT l hs ms n0).getD g_1.fst default) ((ofR l hs ms).getD i default)) g_1.snd)=true)∧impB (!orN
      (fun (i:Nat)=>sameO ((ofT l hs ms n0).getD g_1.fst default) ((ofR l hs ms).getD i default)) g_1.snd) (PCall Tryz.prog G0 89 [AV.agg (encOf ((ofT l hs ms n0).getD g_1.fst default)),AV.agg (encOf
      ((ofR l hs ms).getD g_1.snd default))] (AV.bool (sameO (decOf (nthR [encOf ((ofT l hs ms n0).getD g_1.fst default)] 0)) (decOf (encOf ((ofR l hs ms).getD g_1.snd default))))))∧In64 ((↑g_1.snd:Int)
      + (1:Int))∧∃ (g':Nat × Nat),(g'.fst < (ofT l hs ms n0).length∧g'.snd<=(ofR l hs ms).length)∧g'.fst=g0.fst∧(ofR l hs ms).length-g'.snd < (ofR l hs ms).length-g_1.snd∧AS.mk [(0,zA
      l),(4,eS hs ms),(5,eN n0 n1),(7,slR l hs ms),(316,AV.sl 4 (List.map encOf (ofT l hs ms n0))),(317,AV.i (↑(List.map encOf (ofT l hs ms n0)).length:Int)),(318,AV.i (↑g_1.fst:Int)),(26,
      AV.elt 4 [(encOf ((ofT l hs ms n0).getD g_1.fst default))] 0 0),(27,AV.bool (if orN (fun (i:Nat)=>sameO ((ofT l hs ms n0).getD g_1.fst default) ((ofR l hs ms).getD i default)) g_1.snd=true then
      true else sameO (decOf (nthR [encOf ((ofT l hs ms n0).getD g_1.fst default)] 0)) (decOf (encOf ((ofR l hs ms).getD g_1.snd default))))),(322,AV.sl 4 (List.map encOf (ofR l hs ms))),(323,AV.i
      (↑(List.map encOf (ofR l hs ms)).length:Int)),(324,AV.i ((↑g_1.snd:Int)+(1:Int)))] [] 1=AS.mk [(0,zA l),(4,eS hs ms),(5,eN n0 n1),(7,slR l hs ms),(316,AV.sl 4 (List.map encOf (ofT
      l hs ms n0))),(317,AV.i (↑(List.map encOf (ofT l hs ms n0)).length:Int)),(318,AV.i (↑g'.fst:Int)),(26,AV.elt 4 [(encOf ((ofT l hs ms n0).getD g'.fst default))] 0 0),(27,AV.bool (orN (fun (i
      : Nat)=>sameO ((ofT l hs ms n0).getD g'.fst default) ((ofR l hs ms).getD i default)) g'.snd)),(322,AV.sl 4 (List.map encOf (ofR l hs ms))),(323,AV.i (↑(List.map encOf (ofR l hs ms)).length :
      Int)),(324,AV.i (↑g'.snd:Int))] [] 1)∧(decide ((↑g_1.snd:Int) < (↑(List.map encOf (ofR l hs ms)).length:Int))=false->((!orN (fun (i:Nat)=>sameO ((ofT l hs ms n0).getD g_1.fst default)
      ((ofR l hs ms).getD i default)) g_1.snd)=true->AV.bool false=AV.bool true)∧((!orN (fun (i:Nat)=>sameO ((ofT l hs ms n0).getD g_1.fst default) ((ofR l hs ms).getD i default)) g_1.snd)=false
      → In64 ((↑g_1.fst:Int)+(1:Int))∧∃ (g':Nat),g'<=(ofT l hs ms n0).length∧(ofT l hs ms n0).length-g' < (ofT l hs ms n0).length-g∧AS.mk [(0,zA l),(4,eS hs ms),(5,eN n0 n1),(7,slR
      l hs ms),(316,AV.sl 4 (List.map encOf (ofT l hs ms n0))),(317,AV.i (↑(List.map encOf (ofT l hs ms n0)).length:Int)),(318,AV.i ((↑g_1.fst:Int)+(1:Int)))] [] 1=AS.mk [(0,zA l),(4,eS hs
      ms),(5,eN n0 n1),(7,slR l hs ms),(316,AV.sl 4 (List.map encOf (ofT l hs ms n0))),(317,AV.i (↑(List.map encOf (ofT l hs ms n0)).length:Int)),(318,AV.i (↑g':Int))] [] 1)))∧(decide ((↑g :
      Int) < (↑(List.map encOf (ofT l hs ms n0)).length:Int))=false->AS.mk [(0,zA l),(4,eS hs ms),(5,eN n0 n1),(7,slR l hs ms)] [] 1=AS.mk [(0,zA l),(4,eS hs ms),(5,eN n0 n1),(7,slR l hs
      ms)] [] 1∧K11 l hs ms))∧(T_c11_7 l hs ms n0 n1)
theorem t_c11_6 (l:List Zn) (hs:List Hm) (ms:List (List Ms)) (n0 n1:Int) (hA:PCall Tryz.prog G0 16 [] (.bool true)) (hl:l.length<=maxLen) (hh:hs.length<=maxLen) (hm0:ms.length<=maxLen) (hml:∀ x,x ∈ ms->x.length<=maxLen) (hn0:0<=n0∧n0<=255) (hn1:0<=n1∧n1<=255):T_c11_6 l hs ms n0 n1:=by
 unfold T_c11_6
 have:(List.map encOf (ofT l hs ms n0)).length=(ofT l hs ms n0).length:=by simp only [List.length_map]
 have:(List.map encOf (ofR l hs ms)).length=(ofR l hs ms).length:=by simp only [List.length_map]
 refine fun h1=>?_
 · have K:=h1
   have k:=K.ok
   obtain ⟨z1,z2⟩:=sh_zn K.sz
   obtain ⟨b1,b3,b5,b6⟩:=bd11 K.sh
   have n1p:=K.n1
   have n4p:=K.n4
   have hRl:=R_len l hs ms
   have hke:=k.e
   obtain ⟨rb1,rb2⟩:=rB_e n1p hn0
   have kT:=rot_ok k (Nat.le_of_lt rb2)
   have hT:=T_len k rb2
   have lT:(hsT hs n0).length=hs.length:=rot_len (Nat.le_of_lt rb2)
   have mT:(msT hs ms n0).length=ms.length:=rot_len (by omega)
   have hlO:(List.map encOf (ofR l hs ms)).length=(ofR l hs ms).length:=List.length_map _
   have hlT:(List.map encOf (ofT l hs ms n0)).length=(ofT l hs ms n0).length:=List.length_map _
   have hlH:(List.map encHm hs).length=hs.length:=List.length_map _
   have hlL:(List.map encLs ms).length=ms.length:=List.length_map _
   have hlZ:(List.map encZn l).length=l.length:=List.length_map _
   have d1:(tlD (List.map encHm hs) (rB hs n0)).length<=hs.length:=by rw [tlD_e (by omega),List.length_drop];omega
   have d2:(hdD (List.map encHm hs) (rB hs n0)).length<=hs.length:=by rw [hdD_e,List.length_take];omega
   have d3:(tlD (List.map encLs ms) (rB hs n0)).length<=hs.length:=by rw [tlD_e (by omega),List.length_drop];omega
   have d4:(hdD (List.map encLs ms) (rB hs n0)).length<=hs.length:=by rw [hdD_e,List.length_take];omega
   refine ⟨⟨⟨0,by omega,rfl⟩,fun g hg=>⟨fun hd=>?_,fun hd=>?_⟩⟩,t_c11_7 l hs ms n0 n1 hA hl hh hm0 hml hn0 hn1⟩
   · have hlt:g < (ofT l hs ms n0).length:=by have h9:=of_decide_eq_true hd;have h8:=hg;(try simp only [List.length_map] at h8);(try simp only [List.length_map] at h9);omega
     try have hfz:=fH1_z (k.h g hlt)
     try have hbg:=b5 _ (getD_mem hlt)
     refine ⟨(by omega),(by omega),congrArg AV.agg (row_at encOf hlt),⟨(g,0),⟨by (try dsimp only);omega,by (try dsimp only);omega⟩,rfl,rfl,fun g_1 hok2 hr2=>?_⟩⟩
     · obtain ⟨i2,j2⟩:=g_1
       dsimp only at hok2 hr2 ⊢
       obtain ⟨hi2,hg2⟩:=hok2
       have hr4:g=i2:=hr2.symm
       subst hr4
       refine ⟨fun hd2=>?_,fun hd2=>?_⟩
       · have hlt2:j2 < (ofR l hs ms).length:=by have h9:=of_decide_eq_true hd2;have h8:=hg2;(try simp only [List.length_map] at h8);(try simp only [List.length_map] at h9);omega
         refine ⟨(by omega),(by omega),congrArg AV.agg (row_at encOf hlt2),fun h=>h,fun h=>h,fun h=>by first | exact h | (rw [h];rfl) | simp_all,impB_iff.2 fun hb=>((by rw [show ∀ x,nthR [encOf x] 0=encOf x from fun _=>rfl,decOf_e,decOf_e];exact c89 _ _ (R_g kT _ (getD_mem (by show _ < (ofT l hs ms n0).length;omega))))),(by unfold In64;omega),⟨(g,j2+1),⟨by (try dsimp only);omega,by (try dsimp only);omega⟩,rfl,(by (try dsimp only);omega),?_⟩⟩
         · rw [show ∀ x,nthR [encOf x] 0=encOf x from fun _=>rfl,decOf_e,decOf_e]
           rfl
       · have hge2:j2=(ofR l hs ms).length:=by have h9:=of_decide_eq_false hd2;have h8:=hg2;(try simp only [List.length_map] at h8);(try simp only [List.length_map] at h9);omega
         subst hge2
         refine ⟨fun h2=>?_,fun h2=>⟨(by unfold In64;omega),⟨g+1,by omega,by omega,rfl⟩⟩⟩
         · have hfl:False:=by have hx:=h2;rw [T_or k rb2 (by omega)] at hx;cases hx
           exact hfl.elim
   · have hge:g=(ofT l hs ms n0).length:=by have h9:=of_decide_eq_false hd;have h8:=hg;(try simp only [List.length_map] at h8);(try simp only [List.length_map] at h9);omega
     subst hge
     exact ⟨rfl,K⟩
def T_c11_5 (l:List Zn) (hs:List Hm) (ms:List (List Ms)) (n0 n1:Int):Prop :=
      K11 l hs ms->PCall Tryz.prog G0 50 [AV.sl 4 (List.map encZn l)] (AV.sl 4 (List.map encZn l))∧PCall Tryz.prog G0 59 [AV.sl 3 (List.map encHm (hsT hs n0))] (AV.sl 3 (List.map encHm (hsT hs n0))) ∧
      PCall Tryz.prog G0 60 [AV.sl 1 (List.map encLs (msT hs ms n0))] (AV.sl 1 (List.map encLs (msT hs ms n0)))∧PCall Tryz.prog G0 58 [AV.sl 4 (List.map encZn l),AV.sl 3 (List.map encHm (hsT hs n0)),
      AV.sl 1 (List.map encLs (msT hs ms n0))] (AV.tup [AV.sl 4 (List.map encOf (ofT l hs ms n0)),AV.i 0])∧((true=true->true=true)∧(true=true->true=true)∧(true=true->true=true)∧(true
      = true->true=true)∧(false=false->true=true)∧AS.mk [(0,zA l),(4,eS hs ms),(5,eN n0 n1),(7,slR l hs ms),(23,AV.sl 4 (List.map encOf (ofT l hs ms n0))),(315,AV.bool ((↑(List.map
      encOf (ofT l hs ms n0)).length:Int) != (↑(List.map encOf (ofR l hs ms)).length:Int)))] [] 1=AS.mk [(0,zA l),(4,eS hs ms),(5,eN n0 n1),(7,slR l hs ms),(23,AV.sl 4 (List.map encOf (ofT l
      hs ms n0))),(315,AV.bool false)] [] 1)∧(AS.mk [(0,zA l),(4,eS hs ms),(5,eN n0 n1),(7,slR l hs ms),(23,AV.sl 4 (List.map encOf (ofT l hs ms n0)))] [] 1=AS.mk [(0,zA l),(4,eS hs ms),
      (5,eN n0 n1),(7,slR l hs ms),(23,AV.sl 4 (List.map encOf (ofT l hs ms n0)))] [] 1∧K11 l hs ms)∧(T_c11_6 l hs ms n0 n1)
theorem t_c11_5 (l:List Zn) (hs:List Hm) (ms:List (List Ms)) (n0 n1:Int) (hA:PCall Tryz.prog G0 16 [] (.bool true)) (hl:l.length<=maxLen) (hh:hs.length<=maxLen) (hm0:ms.length<=maxLen) (hml:∀ x,x ∈ ms->x.length<=maxLen) (hn0:0<=n0∧n0<=255) (hn1:0<=n1∧n1<=255):T_c11_5 l hs ms n0 n1:=by
 unfold T_c11_5
 have:(List.map encOf (ofT l hs ms n0)).length=(ofT l hs ms n0).length:=by simp only [List.length_map]
 have:(List.map encOf (ofR l hs ms)).length=(ofR l hs ms).length:=by simp only [List.length_map]
 refine fun h1=>?_
 · have K:=h1
   have k:=K.ok
   obtain ⟨z1,z2⟩:=sh_zn K.sz
   obtain ⟨b1,b3,b5,b6⟩:=bd11 K.sh
   have n1p:=K.n1
   have n4p:=K.n4
   have hRl:=R_len l hs ms
   have hke:=k.e
   obtain ⟨rb1,rb2⟩:=rB_e n1p hn0
   have kT:=rot_ok k (Nat.le_of_lt rb2)
   have hT:=T_len k rb2
   have lT:(hsT hs n0).length=hs.length:=rot_len (Nat.le_of_lt rb2)
   have mT:(msT hs ms n0).length=ms.length:=rot_len (by omega)
   have hlO:(List.map encOf (ofR l hs ms)).length=(ofR l hs ms).length:=List.length_map _
   have hlT:(List.map encOf (ofT l hs ms n0)).length=(ofT l hs ms n0).length:=List.length_map _
   have hlH:(List.map encHm hs).length=hs.length:=List.length_map _
   have hlL:(List.map encLs ms).length=ms.length:=List.length_map _
   have hlZ:(List.map encZn l).length=l.length:=List.length_map _
   have d1:(tlD (List.map encHm hs) (rB hs n0)).length<=hs.length:=by rw [tlD_e (by omega),List.length_drop];omega
   have d2:(hdD (List.map encHm hs) (rB hs n0)).length<=hs.length:=by rw [hdD_e,List.length_take];omega
   have d3:(tlD (List.map encLs ms) (rB hs n0)).length<=hs.length:=by rw [tlD_e (by omega),List.length_drop];omega
   have d4:(hdD (List.map encLs ms) (rB hs n0)).length<=hs.length:=by rw [hdD_e,List.length_take];omega
   exact ⟨((c50 l (by omega)).un),((c59 (hsT hs n0) (by omega) (fun h hm=>(b5 h (rot_mem hm)).2)).un),((c60 (msT hs ms n0) (by omega) (fun x hm=>(b6 x (rot_mem hm)).1)).un),(c58q kT (by omega) z2 (fun h hm=>b5 h (rot_mem hm)) (fun x hm=>b6 x (rot_mem hm))),⟨fun h=>h,fun h=>h,fun h=>h,fun h=>h,fun h=>by first | exact h | (rw [h];rfl) | simp_all,(congrArg (fun b=>AS.mk [_,_,_,_,_,(315,AV.bool b)] [] 1) (by rw [hlO,hlT,hT];exact bne_self_eq_false _))⟩,⟨rfl,K⟩,t_c11_6 l hs ms n0 n1 hA hl hh hm0 hml hn0 hn1⟩
def T_c11_4 (l:List Zn) (hs:List Hm) (ms:List (List Ms)) (n0 n1:Int):Prop :=
      K11 l hs ms->((0:Int)<=(↑(rB hs n0):Int)∧(↑(rB hs n0):Int)<=(↑(List.map encHm hs).length:Int)∧(↑(List.map encHm hs).length:Int)<=(↑(List.map encHm hs).length:Int)∧0+(tlD
      (List.map encHm hs) (rB hs n0)).length<=9223372036854775807∧(0+(tlD (List.map encHm hs) (rB hs n0)).length) * 48<=140737488355328∧(0:Int)<=(0:Int)∧(0:Int)<=(↑(rB hs n0):Int)∧(↑(rB
      hs n0):Int)<=(↑(List.map encHm hs).length:Int)∧0+(tlD (List.map encHm hs) (rB hs n0)).length+(hdD (List.map encHm hs) (rB hs n0)).length<=9223372036854775807∧(0+(tlD (List.map encHm hs)
      (rB hs n0)).length+(hdD (List.map encHm hs) (rB hs n0)).length) * 48<=140737488355328∧(0:Int)<=(↑(rB hs n0):Int)∧(↑(rB hs n0):Int)<=(↑(List.map encLs ms).length:Int)∧(↑(List.map
      encLs ms).length:Int)<=(↑(List.map encLs ms).length:Int)∧0+(tlD (List.map encLs ms) (rB hs n0)).length<=9223372036854775807∧(0+(tlD (List.map encLs ms) (rB hs n0)).length) * 24 ≤
      140737488355328∧(0:Int)<=(0:Int)∧(0:Int)<=(↑(rB hs n0):Int)∧(↑(rB hs n0):Int)<=(↑(List.map encLs ms).length:Int)∧0+(tlD (List.map encLs ms) (rB hs n0)).length+(hdD (List.map
      encLs ms) (rB hs n0)).length<=9223372036854775807∧(0+(tlD (List.map encLs ms) (rB hs n0)).length+(hdD (List.map encLs ms) (rB hs n0)).length) * 24<=140737488355328∧AS.mk [(0,zA l),(4,eS hs
      ms),(5,eN n0 n1),(7,slR l hs ms),(22,AV.elt 2 [[AV.sl 3 ([]++tlD (List.map encHm hs) (rB hs n0)++hdD (List.map encHm hs) (rB hs n0)),AV.sl 1 ([]++tlD (List.map encLs ms) (rB hs n0)++hdD
      (List.map encLs ms) (rB hs n0))]] 0 0)] [] 1=AS.mk [(0,zA l),(4,eS hs ms),(5,eN n0 n1),(7,slR l hs ms),(22,AV.elt 2 [[AV.sl 3 (List.map encHm (hsT hs n0)),AV.sl 1 (List.map encLs (msT hs ms
      n0))]] 0 0)] [] 1∧K11 l hs ms)∧(T_c11_5 l hs ms n0 n1)
theorem t_c11_4 (l:List Zn) (hs:List Hm) (ms:List (List Ms)) (n0 n1:Int) (hA:PCall Tryz.prog G0 16 [] (.bool true)) (hl:l.length<=maxLen) (hh:hs.length<=maxLen) (hm0:ms.length<=maxLen) (hml:∀ x,x ∈ ms->x.length<=maxLen) (hn0:0<=n0∧n0<=255) (hn1:0<=n1∧n1<=255):T_c11_4 l hs ms n0 n1:=by
 unfold T_c11_4
 have:(List.map encHm hs).length=hs.length:=by simp only [List.length_map]
 have:(List.map encLs ms).length=ms.length:=by simp only [List.length_map]
 refine fun h1=>?_
 · have K:=h1
   have k:=K.ok
   obtain ⟨z1,z2⟩:=sh_zn K.sz
   obtain ⟨b1,b3,b5,b6⟩:=bd11 K.sh
   have n1p:=K.n1
   have n4p:=K.n4
   have hRl:=R_len l hs ms
   have hke:=k.e
   obtain ⟨rb1,rb2⟩:=rB_e n1p hn0
   have kT:=rot_ok k (Nat.le_of_lt rb2)
   have hT:=T_len k rb2
   have lT:(hsT hs n0).length=hs.length:=rot_len (Nat.le_of_lt rb2)
   have mT:(msT hs ms n0).length=ms.length:=rot_len (by omega)
   have hlO:(List.map encOf (ofR l hs ms)).length=(ofR l hs ms).length:=List.length_map _
   have hlT:(List.map encOf (ofT l hs ms n0)).length=(ofT l hs ms n0).length:=List.length_map _
   have hlH:(List.map encHm hs).length=hs.length:=List.length_map _
   have hlL:(List.map encLs ms).length=ms.length:=List.length_map _
   have hlZ:(List.map encZn l).length=l.length:=List.length_map _
   have d1:(tlD (List.map encHm hs) (rB hs n0)).length<=hs.length:=by rw [tlD_e (by omega),List.length_drop];omega
   have d2:(hdD (List.map encHm hs) (rB hs n0)).length<=hs.length:=by rw [hdD_e,List.length_take];omega
   have d3:(tlD (List.map encLs ms) (rB hs n0)).length<=hs.length:=by rw [tlD_e (by omega),List.length_drop];omega
   have d4:(hdD (List.map encLs ms) (rB hs n0)).length<=hs.length:=by rw [hdD_e,List.length_take];omega
   refine ⟨⟨(by omega),(by omega),(by omega),(by omega),(by omega),(by omega),(by omega),(by omega),(by omega),(by omega),(by omega),(by omega),(by omega),(by omega),(by omega),(by omega),(by omega),(by omega),(by omega),(by omega),?_,K⟩,t_c11_5 l hs ms n0 n1 hA hl hh hm0 hml hn0 hn1⟩
   · rw [rot_map encHm (Nat.le_of_lt rb2),rot_map encLs (by omega)]
     rfl
def T_c11_3 (l:List Zn) (hs:List Hm) (ms:List (List Ms)) (n0 n1:Int):Prop :=
      K11 l hs ms->((0:Int)<=(0:Int)∧(0:Int) < (2:Int)∧¬(↑(List.map encHm hs).length:Int)=(0:Int)∧AS.mk [(0,zA l),(4,eS hs ms),(5,eN n0 n1),(7,slR l hs ms),(21,AV.i ((wI
      n0).tmod (↑(List.map encHm hs).length:Int)))] [] 1=AS.mk [(0,zA l),(4,eS hs ms),(5,eN n0 n1),(7,slR l hs ms),(21,AV.i (↑(rB hs n0):Int))] [] 1∧K11 l hs ms)∧(T_c11_4 l hs ms n0 n1)
theorem t_c11_3 (l:List Zn) (hs:List Hm) (ms:List (List Ms)) (n0 n1:Int) (hA:PCall Tryz.prog G0 16 [] (.bool true)) (hl:l.length<=maxLen) (hh:hs.length<=maxLen) (hm0:ms.length<=maxLen) (hml:∀ x,x ∈ ms->x.length<=maxLen) (hn0:0<=n0∧n0<=255) (hn1:0<=n1∧n1<=255):T_c11_3 l hs ms n0 n1:=by
 unfold T_c11_3
 have:(List.map encHm hs).length=hs.length:=by simp only [List.length_map]
 refine fun h1=>?_
 · have K:=h1
   have k:=K.ok
   obtain ⟨z1,z2⟩:=sh_zn K.sz
   obtain ⟨b1,b3,b5,b6⟩:=bd11 K.sh
   have n1p:=K.n1
   have n4p:=K.n4
   have hRl:=R_len l hs ms
   have hke:=k.e
   obtain ⟨rb1,rb2⟩:=rB_e n1p hn0
   have kT:=rot_ok k (Nat.le_of_lt rb2)
   have hT:=T_len k rb2
   have lT:(hsT hs n0).length=hs.length:=rot_len (Nat.le_of_lt rb2)
   have mT:(msT hs ms n0).length=ms.length:=rot_len (by omega)
   have hlO:(List.map encOf (ofR l hs ms)).length=(ofR l hs ms).length:=List.length_map _
   have hlT:(List.map encOf (ofT l hs ms n0)).length=(ofT l hs ms n0).length:=List.length_map _
   have hlH:(List.map encHm hs).length=hs.length:=List.length_map _
   have hlL:(List.map encLs ms).length=ms.length:=List.length_map _
   have hlZ:(List.map encZn l).length=l.length:=List.length_map _
   have d1:(tlD (List.map encHm hs) (rB hs n0)).length<=hs.length:=by rw [tlD_e (by omega),List.length_drop];omega
   have d2:(hdD (List.map encHm hs) (rB hs n0)).length<=hs.length:=by rw [hdD_e,List.length_take];omega
   have d3:(tlD (List.map encLs ms) (rB hs n0)).length<=hs.length:=by rw [tlD_e (by omega),List.length_drop];omega
   have d4:(hdD (List.map encLs ms) (rB hs n0)).length<=hs.length:=by rw [hdD_e,List.length_take];omega
   exact ⟨⟨(by omega),(by omega),(by omega),(congrArg (fun b=>AS.mk [_,_,_,_,(21,AV.i b)] [] 1) rb1),K⟩,t_c11_4 l hs ms n0 n1 hA hl hh hm0 hml hn0 hn1⟩
def T_c11_2 (l:List Zn) (hs:List Hm) (ms:List (List Ms)) (n0 n1:Int):Prop :=
      K11 l hs ms->(∃ (g:Nat),g<=hs.length∧AS.mk [(0,zA l),(4,eS hs ms),(5,eN n0 n1),(7,slR l hs ms),(9,AV.i 0),(110,AV.sl 3 (List.map encHm hs)),(111,AV.i (↑(List.map encHm hs).length :
      Int)),(112,AV.i 0)] [] 1=AS.mk [(0,zA l),(4,eS hs ms),(5,eN n0 n1),(7,slR l hs ms),(9,AV.i (↑(cnJ l hs ms g):Int)),(110,AV.sl 3 (List.map encHm hs)),(111,AV.i (↑(List.map encHm
      hs).length:Int)),(112,AV.i (g:Int))] [] 1)∧∀ (g:Nat),g<=hs.length->(decide ((g:Int) < (↑(List.map encHm hs).length:Int))=true->(0:Int)<=(g:Int)∧(g:Int) < (↑(List.map
      encHm hs).length:Int)∧AV.agg (nthR (List.map encHm hs) g)=AV.agg (encHm (hs.getD g default))∧PCall Tryz.prog G0 50 [AV.sl 4 (List.map encZn l)] (AV.sl 4 (List.map encZn l))∧PCall Tryz.prog G0
      18 [AV.agg (encHm (hs.getD g default))] (AV.agg (encHm (hs.getD g default)))∧PCall Tryz.prog G0 51 [AV.sl 4 (List.map encZn l),AV.agg (encHm (hs.getD g default))] (AV.tup [AV.bool (elB l (hD hs g)),
      AV.i 0])∧PCall Tryz.prog G0 18 [AV.agg (encHm (hs.getD g default))] (AV.agg (encHm (hs.getD g default)))∧PCall Tryz.prog G0 17 [AV.agg (encHm (hs.getD g default))] (AV.tup [AV.i (oM (hD hs g)),
      AV.i 0])∧((true=true->true=true)∧(false=false->true=true)∧AS.mk [(0,zA l),(4,eS hs ms),(5,eN n0 n1),(7,slR l hs ms),(9,AV.i (↑(cnJ l hs ms g):Int)),(110,AV.sl 3 (List.map
      encHm hs)),(111,AV.i (↑(List.map encHm hs).length:Int)),(112,AV.i (g:Int)),(10,AV.i (g:Int)),(11,AV.elt 3 [(encHm (hs.getD g default))] 0 0),(12,AV.bool (elB l (hD hs g))),(14,AV.i
      (oM (hD hs g))),(136,AV.bool false)] [] 1=AS.mk [(0,zA l),(4,eS hs ms),(5,eN n0 n1),(7,slR l hs ms),(9,AV.i (↑(cnJ l hs ms g):Int)),(110,AV.sl 3 (List.map encHm hs)),(111,AV.i
      (↑(List.map encHm hs).length:Int)),(112,AV.i (g:Int)),(10,AV.i (g:Int)),(11,AV.elt 3 [(encHm (hs.getD g default))] 0 0),(12,AV.bool (elB l (hD hs g))),(14,AV.i (oM (hD hs g))),(136,
      AV.bool false)] [] 1)∧((!elB l (hD hs g))=true->In64 ((g:Int)+(1:Int))∧∃ (g':Nat),g'<=hs.length∧hs.length-g' < hs.length-g∧AS.mk [(0,zA l),(4,eS hs ms),(5,eN n0 n1),(7,
      slR l hs ms),(9,AV.i (↑(cnJ l hs ms g):Int)),(110,AV.sl 3 (List.map encHm hs)),(111,AV.i (↑(List.map encHm hs).length:Int)),(112,AV.i ((g:Int)+(1:Int)))] [] 1=AS.mk [(0,zA l),(4,
      eS hs ms),(5,eN n0 n1),(7,slR l hs ms),(9,AV.i (↑(cnJ l hs ms g'):Int)),(110,AV.sl 3 (List.map encHm hs)),(111,AV.i (↑(List.map encHm hs).length:Int)),(112,AV.i (↑g':Int))] [] 1) ∧
      ((!elB l (hD hs g))=false->PCall Tryz.prog G0 50 [AV.sl 4 (List.map encZn l)] (AV.sl 4 (List.map encZn l))∧PCall Tryz.prog G0 49 [AV.sl 4 (List.map encZn l),AV.i (oM (hD hs g))] (AV.tup [AV.i (zG
      l hs g),AV.i 0])∧((true=true->true=true)∧(false=false->true=true)∧((!g1 l hs ms g)=true->(!g1 l hs ms g)=true)∧((!g1 l hs ms g)=true->(!g1 l hs ms g)=true)∧((!g1 l hs ms
      g)=true->(!g1 l hs ms g)=true)∧(g1 l hs ms g=false->(!g1 l hs ms g)=true)∧((!g2 l hs ms g)=true->(!g2 l hs ms g)=true)∧((!g2 l hs ms g)=true->(!g2 l hs ms g)=true)∧((!g2 l
      hs ms g)=true->(!g2 l hs ms g)=true)∧((g2 l hs ms g)=false->(!g2 l hs ms g)=true)∧((!g3 l hs ms g)=true->(!g3 l hs ms g)=true)∧((!g3 l hs ms g)=true->(!g3 l hs ms g)=true) ∧
      ((!g3 l hs ms g)=true->(0:Int)<=(↑(cnJ l hs ms g):Int))∧((!g3 l hs ms g)=true->(↑(cnJ l hs ms g):Int) < (↑(List.map encOf (ofR l hs ms)).length:Int))∧((!g3 l hs ms g)=true->(!g3 l
      hs ms g)=true)∧((!g3 l hs ms g)=true->(!g3 l hs ms g)=true)∧((!g3 l hs ms g)=true->(!g3 l hs ms g)=true)∧((!g3 l hs ms g)=true->(!g3 l hs ms g)=true)∧((!g3 l hs ms g)=true →
      (!g3 l hs ms g)=true)∧((g3 l hs ms g)=false->(!g3 l hs ms g)=true)∧((!g4 l hs ms g)=true->(!g4 l hs ms g)=true)∧((!g4 l hs ms g)=true->(!g4 l hs ms g)=true)∧((!g4 l hs ms g) =
      true->(0:Int)<=(↑(cnJ l hs ms g):Int))∧((!g4 l hs ms g)=true->(↑(cnJ l hs ms g):Int) < (↑(List.map encOf (ofR l hs ms)).length:Int))∧((!g4 l hs ms g)=true->(!g4 l hs ms g)=true) ∧
      ((!g4 l hs ms g)=true->(!g4 l hs ms g)=true)∧((!g4 l hs ms g)=true->(!g4 l hs ms g)=true)∧((!g4 l hs ms g)=true->(!g4 l hs ms g)=true)∧((!g4 l hs ms g)=true->(0:Int)<=zG l hs
      g)∧((!g4 l hs ms g)=true->zG l hs g < (↑(List.map encZn l).length:Int))∧((!g4 l hs ms g)=true->(!g4 l hs ms g)=true)∧((!g4 l hs ms g)=true->(!g4 l hs ms g)=true)∧((!g4 l hs ms g)
      = true->(!g4 l hs ms g)=true)∧((!g4 l hs ms g)=true->(!g4 l hs ms g)=true)∧((g4 l hs ms g)=false->(!g4 l hs ms g)=true)∧impB (!g3 l hs ms g) (nth (nthR (List.map encOf (ofR l hs ms))
      (cnJ l hs ms g)) 0=AV.str (rD l hs ms g).hm)∧impB (!g4 l hs ms g) (nth (nthR (List.map encOf (ofR l hs ms)) (cnJ l hs ms g)) 1=AV.str (rD l hs ms g).zn)∧impB (!g4 l hs ms g) (nth (nthR
      (List.map encZn l) (zG l hs g).toNat) 0=AV.str (zD l hs g).nm)∧AS.mk [(0,zA l),(4,eS hs ms),(5,eN n0 n1),(7,slR l hs ms),(9,AV.i (↑(cnJ l hs ms g):Int)),(110,AV.sl 3 (List.map encHm
      hs)),(111,AV.i (↑(List.map encHm hs).length:Int)),(112,AV.i (g:Int)),(10,AV.i (g:Int)),(11,AV.elt 3 [(encHm (hs.getD g default))] 0 0),(16,AV.i (zG l hs g)),(186,AV.bool (g5 l hs ms
      g))] [] 1=AS.mk [(0,zA l),(4,eS hs ms),(5,eN n0 n1),(7,slR l hs ms),(9,AV.i (↑(cnJ l hs ms g):Int)),(110,AV.sl 3 (List.map encHm hs)),(111,AV.i (↑(List.map encHm hs).length:Int)),
      (112,AV.i (g:Int)),(10,AV.i (g:Int)),(11,AV.elt 3 [(encHm (hs.getD g default))] 0 0),(16,AV.i (zG l hs g)),(186,AV.bool false)] [] 1)∧(0:Int)<=(g:Int)∧(g:Int) < (↑(List.map
      encLs ms).length:Int)∧(0:Int)<=zG l hs g∧zG l hs g < (↑(List.map encZn l).length:Int)∧PCall Tryz.prog G0 18 [AV.agg (encHm (hs.getD g default))] (AV.agg (encHm (hs.getD g default)))∧nth
      (nthR (List.map encLs ms) g) 0=AV.sl 19 (List.map encMs (ms.getD g []))∧PCall Tryz.prog G0 22 [AV.sl 19 (List.map encMs (ms.getD g []))] (AV.sl 19 (List.map encMs (ms.getD g [])))∧nth (nthR
      (List.map encZn l) (zG l hs g).toNat) 3=AV.i (zD l hs g).tg∧PCall Tryz.prog G0 42 [AV.agg (encHm (hs.getD g default)),AV.sl 19 (List.map encMs (ms.getD g [])),AV.i (zD l hs g).tg] (AV.tup [AV.sl
      1 (List.map encI (sG l hs ms g)),AV.i (cG l hs ms g),AV.i (eG l hs ms g)])∧(((q0 l hs ms g)=true->(q0 l hs ms g)=true)∧((q0 l hs ms g)=true->(q0 l hs ms g)=true)∧((q0 l hs ms g) =
      true->(0:Int)<=(↑(cnJ l hs ms g):Int))∧((q0 l hs ms g)=true->(↑(cnJ l hs ms g):Int) < (↑(List.map encOf (ofR l hs ms)).length:Int))∧((q0 l hs ms g)=true->(q0 l hs ms g)=true) ∧
      ((q0 l hs ms g)=true->(q0 l hs ms g)=true)∧((q0 l hs ms g)=true->(q0 l hs ms g)=true)∧((q0 l hs ms g)=true->(q0 l hs ms g)=true)∧((q0 l hs ms g)=true->(q0 l hs ms g)=true) ∧
      ((q0 l hs ms g)=true->(q0 l hs ms g)=true)∧((q2 l hs ms g)=true->(q2 l hs ms g)=true)∧((q2 l hs ms g)=true->(q2 l hs ms g)=true)∧((q2 l hs ms g)=true->(0:Int)<=(↑(cnJ l hs ms
      g):Int))∧((q2 l hs ms g)=true->(↑(cnJ l hs ms g):Int) < (↑(List.map encOf (ofR l hs ms)).length:Int))∧((q2 l hs ms g)=true->(q2 l hs ms g)=true)∧((q2 l hs ms g)=true->(q2 l hs ms
      g)=true)∧((q2 l hs ms g)=true->(q2 l hs ms g)=true)∧((q2 l hs ms g)=true->(q2 l hs ms g)=true)∧((q2 l hs ms g)=true->(0:Int)<=zG l hs g)∧((q2 l hs ms g)=true->zG l hs g <
      (↑(List.map encZn l).length:Int))∧((q2 l hs ms g)=true->(q2 l hs ms g)=true)∧((q2 l hs ms g)=true->(q2 l hs ms g)=true)∧((q2 l hs ms g)=true->(q2 l hs ms g)=true)∧((q2 l hs ms
      g)=true->(q2 l hs ms g)=true)∧((q2 l hs ms g)=true->In64 (cG l hs ms g * (zD l hs g).sh))∧((q2 l hs ms g)=true->(q2 l hs ms g)=true)∧((q2 l hs ms g)=true->¬(100:Int)=(0 :
      Int))∧((q2 l hs ms g)=true->In64 ((cG l hs ms g * (zD l hs g).sh).tdiv (100:Int)))∧((q2 l hs ms g)=true->(q2 l hs ms g)=true)∧((q2 l hs ms g)=true->(q2 l hs ms g)=true)∧((q0 l hs
      ms g)=true->(q0 l hs ms g)=true)∧((q0 l hs ms g)=true->(!q1 l hs ms g)=false->(q2 l hs ms g)=true)∧((q0 l hs ms g)=true->(q0 l hs ms g)=true)∧((!q3 l hs ms g)=true->(!q3 l hs
      ms g)=true)∧((!q3 l hs ms g)=true->(!q3 l hs ms g)=true)∧((q4 l hs ms g)=true->(q4 l hs ms g)=true)∧((q4 l hs ms g)=true->(q4 l hs ms g)=true)∧((q5 l hs ms g)=true->(q5 l hs
      ms g)=true)∧((q5 l hs ms g)=true->(q5 l hs ms g)=true)∧((q5 l hs ms g)=true->(0:Int)<=(↑(cnJ l hs ms g):Int))∧((q5 l hs ms g)=true->(↑(cnJ l hs ms g):Int) < (↑(List.map encOf
      (ofR l hs ms)).length:Int))∧((q5 l hs ms g)=true->(q5 l hs ms g)=true)∧((q5 l hs ms g)=true->(q5 l hs ms g)=true)∧((q5 l hs ms g)=true->(q5 l hs ms g)=true)∧((q5 l hs ms g) =
      true->(q5 l hs ms g)=true)∧((q4 l hs ms g)=true->(q4 l hs ms g)=true)∧((q4 l hs ms g)=true->(e8 l hs ms g)=false->(q5 l hs ms g)=true)∧((q4 l hs ms g)=true->(q4 l hs ms g) =
      true)∧((q7 l hs ms g)=true->(q7 l hs ms g)=true)∧((q7 l hs ms g)=true->(q7 l hs ms g)=true)∧((q7 l hs ms g)=true->(0:Int)<=(↑(cnJ l hs ms g):Int))∧((q7 l hs ms g)=true →
      (↑(cnJ l hs ms g):Int) < (↑(List.map encOf (ofR l hs ms)).length:Int))∧((q7 l hs ms g)=true->(q7 l hs ms g)=true)∧((q7 l hs ms g)=true->(q7 l hs ms g)=true)∧((q7 l hs ms g)=true →
      (q7 l hs ms g)=true)∧((q4 l hs ms g)=true->(q4 l hs ms g)=true)∧((q4 l hs ms g)=true->(q6 l hs ms g)=false->(q7 l hs ms g)=true)∧((!q3 l hs ms g)=true->(!q3 l hs ms g)=true) ∧
      ((!q3 l hs ms g)=true->(e0 l hs ms g)=true->(q4 l hs ms g)=true)∧((q3 l hs ms g)=false->(!q3 l hs ms g)=true)∧impB (q0 l hs ms g) (nth (nthR (List.map encOf (ofR l hs ms)) (cnJ l hs ms
      g)) 2=AV.sl 1 (List.map encI (rD l hs ms g).g))∧impB (q0 l hs ms g) (PCall Tryz.prog G0 47 [AV.sl 1 (List.map encI (rD l hs ms g).g),AV.sl 1 (List.map encI (sG l hs ms g))] (AV.bool (q1 l hs ms
      g)))∧impB (q2 l hs ms g) (nth (nthR (List.map encOf (ofR l hs ms)) (cnJ l hs ms g)) 3=AV.i (rD l hs ms g).a)∧impB (q2 l hs ms g) (nth (nthR (List.map encZn l) (zG l hs g).toNat) 2=AV.i (zD l hs
      g).sh)∧impB (q5 l hs ms g) (nth (nthR (List.map encOf (ofR l hs ms)) (cnJ l hs ms g)) 2=AV.sl 1 (List.map encI (rD l hs ms g).g))∧impB (q7 l hs ms g) (nth (nthR (List.map encOf (ofR l hs ms))
      (cnJ l hs ms g)) 3=AV.i (rD l hs ms g).a)∧AS.mk [(0,zA l),(4,eS hs ms),(5,eN n0 n1),(7,slR l hs ms),(9,AV.i (↑(cnJ l hs ms g):Int)),(110,AV.sl 3 (List.map encHm hs)),(111,AV.i
      (↑(List.map encHm hs).length:Int)),(112,AV.i (g:Int)),(257,AV.bool (q9 l hs ms g))] [] 1=AS.mk [(0,zA l),(4,eS hs ms),(5,eN n0 n1),(7,slR l hs ms),(9,AV.i (↑(cnJ l hs ms g):Int)),
      (110,AV.sl 3 (List.map encHm hs)),(111,AV.i (↑(List.map encHm hs).length:Int)),(112,AV.i (g:Int)),(257,AV.bool false)] [] 1)∧In64 ((↑(cnJ l hs ms g):Int)+(1:Int))∧In64 ((g:Int)
      + (1:Int))∧∃ (g':Nat),g'<=hs.length∧hs.length-g' < hs.length-g∧AS.mk [(0,zA l),(4,eS hs ms),(5,eN n0 n1),(7,slR l hs ms),(9,AV.i ((↑(cnJ l hs ms g):Int)+(1:Int))),(110,
      AV.sl 3 (List.map encHm hs)),(111,AV.i (↑(List.map encHm hs).length:Int)),(112,AV.i ((g:Int)+(1:Int)))] [] 1=AS.mk [(0,zA l),(4,eS hs ms),(5,eN n0 n1),(7,slR l hs ms),(9,AV.i
      (↑(cnJ l hs ms g'):Int)),(110,AV.sl 3 (List.map encHm hs)),(111,AV.i (↑(List.map encHm hs).length:Int)),(112,AV.i (↑g':Int))] [] 1))∧(decide ((g:Int) < (↑(List.map encHm hs).length :
      Int))=false->AS.mk [(0,zA l),(4,eS hs ms),(5,eN n0 n1),(7,slR l hs ms),(264,AV.bool ((↑(cnJ l hs ms g):Int) != (↑(List.map encOf (ofR l hs ms)).length:Int)))] [] 1=AS.mk [(0,zA l),
      (4,eS hs ms),(5,eN n0 n1),(7,slR l hs ms),(264,AV.bool false)] [] 1∧(AS.mk [(0,zA l),(4,eS hs ms),(5,eN n0 n1),(7,slR l hs ms)] [] 1=AS.mk [(0,zA l),(4,eS hs ms),(5,eN n0 n1),
      (7,slR l hs ms)] [] 1∧K11 l hs ms)∧(T_c11_3 l hs ms n0 n1))
theorem t_c11_2 (l:List Zn) (hs:List Hm) (ms:List (List Ms)) (n0 n1:Int) (hA:PCall Tryz.prog G0 16 [] (.bool true)) (hl:l.length<=maxLen) (hh:hs.length<=maxLen) (hm0:ms.length<=maxLen) (hml:∀ x,x ∈ ms->x.length<=maxLen) (hn0:0<=n0∧n0<=255) (hn1:0<=n1∧n1<=255):T_c11_2 l hs ms n0 n1:=by
 unfold T_c11_2
 have:(List.map encHm hs).length=hs.length:=by simp only [List.length_map]
 have:(List.map encOf (ofR l hs ms)).length=(ofR l hs ms).length:=by simp only [List.length_map]
 have:(List.map encZn l).length=l.length:=by simp only [List.length_map]
 have:(List.map encLs ms).length=ms.length:=by simp only [List.length_map]
 refine fun h1=>?_
 · have K:=h1
   have k:=K.ok
   obtain ⟨z1,z2⟩:=sh_zn K.sz
   obtain ⟨b1,b3,b5,b6⟩:=bd11 K.sh
   have n1p:=K.n1
   have n4p:=K.n4
   have hRl:=R_len l hs ms
   have hke:=k.e
   obtain ⟨rb1,rb2⟩:=rB_e n1p hn0
   have kT:=rot_ok k (Nat.le_of_lt rb2)
   have hT:=T_len k rb2
   have lT:(hsT hs n0).length=hs.length:=rot_len (Nat.le_of_lt rb2)
   have mT:(msT hs ms n0).length=ms.length:=rot_len (by omega)
   have hlO:(List.map encOf (ofR l hs ms)).length=(ofR l hs ms).length:=List.length_map _
   have hlT:(List.map encOf (ofT l hs ms n0)).length=(ofT l hs ms n0).length:=List.length_map _
   have hlH:(List.map encHm hs).length=hs.length:=List.length_map _
   have hlL:(List.map encLs ms).length=ms.length:=List.length_map _
   have hlZ:(List.map encZn l).length=l.length:=List.length_map _
   have d1:(tlD (List.map encHm hs) (rB hs n0)).length<=hs.length:=by rw [tlD_e (by omega),List.length_drop];omega
   have d2:(hdD (List.map encHm hs) (rB hs n0)).length<=hs.length:=by rw [hdD_e,List.length_take];omega
   have d3:(tlD (List.map encLs ms) (rB hs n0)).length<=hs.length:=by rw [tlD_e (by omega),List.length_drop];omega
   have d4:(hdD (List.map encLs ms) (rB hs n0)).length<=hs.length:=by rw [hdD_e,List.length_take];omega
   refine ⟨⟨0,by omega,rfl⟩,fun g hg=>⟨fun hd=>?_,fun hd=>?_⟩⟩
   · have hlt:g < hs.length:=by have h9:=of_decide_eq_true hd;have h8:=hg;(try simp only [List.length_map] at h8);(try simp only [List.length_map] at h9);omega
     try have hfz:=fH1_z (k.h g hlt)
     try have hbg:=b5 _ (getD_mem hlt)
     refine ⟨(by omega),(by omega),congrArg AV.agg (row_at encHm hlt),((c50 l (by omega)).un),(c18 _ hbg.2),((by rw [hD_e];exact c51q k (by omega) z2 hfz hbg.1 hbg.2)),(c18 _ hbg.2),((by rw [hD_e];exact c17q hfz hbg.1 hbg.2)),⟨fun h=>h,fun h=>by first | exact h | (rw [h];rfl) | simp_all,rfl⟩,fun h2=>?_,fun h2=>?_⟩
     · have hel:elJ l hs g=false:=by have q:=h2;rw [hD_e] at q;unfold elJ;simpa using q
       refine ⟨(by unfold In64;omega),⟨g+1,by omega,by omega,?_⟩⟩
       · rw [cn_f hel]
         rfl
     · have hel:elB l (hs.getD g default)=true:=by have q:=h2;rw [hD_e] at q;simpa using q
       obtain ⟨f1,f2,f3,f4,f5,f6⟩:=el_fs k hlt hel
       have hzl:(zG l hs g).toNat < l.length:=by omega
       have hmg:=b6 (ms.getD g []) (getD_mem (l:=ms) (by omega))
       have hfm:fMs (hs.getD g default) (ms.getD g [])=0:=k.m g hlt
       refine ⟨((c50 l (by omega)).un),((by unfold zG;rw [hD_e];exact c49q k (by omega) z2 hfz hel)),⟨fun h=>h,fun h=>by first | exact h | (rw [h];rfl) | simp_all,fun h=>h,fun h=>h,fun h=>h,fun h=>by first | exact h | (rw [h];rfl) | simp_all,fun h=>h,fun h=>h,fun h=>h,fun h=>by first | exact h | (rw [h];rfl) | simp_all,fun h=>h,fun h=>h,fun _=>by omega,fun _=>by omega,fun h=>h,fun h=>h,fun h=>h,fun h=>h,fun h=>h,fun h=>by first | exact h | (rw [h];rfl) | simp_all,fun h=>h,fun h=>h,fun _=>by omega,fun _=>by omega,fun h=>h,fun h=>h,fun h=>h,fun h=>h,fun _=>by omega,fun _=>by omega,fun h=>h,fun h=>h,fun h=>h,fun h=>h,fun h=>by first | exact h | (rw [h];rfl) | simp_all,impB_iff.2 fun hb=>(congrArg (fun r=>nth r 0) (row_at encOf f1)),impB_iff.2 fun hb=>(congrArg (fun r=>nth r 1) (row_at encOf f1)),impB_iff.2 fun hb=>(congrArg (fun r=>nth r 0) (row_at encZn hzl)),(congrArg (fun b=>AS.mk [_,_,_,_,_,_,_,_,_,_,_,(186,AV.bool b)] [] 1) (g5_f k hlt hel))⟩,(by omega),(by omega),(by omega),(by omega),(c18 _ hbg.2),(congrArg (fun r=>nth r 0) (row_at encLs (by omega))),((c22 _ hmg.1).un),(congrArg (fun r=>nth r 3) (row_at encZn hzl)),((by unfold sG cG eG;rw [hD_e,mD_e];exact c42q hfm f5 hbg.1 hbg.2 hmg)),⟨fun h=>h,fun h=>h,fun _=>by omega,fun _=>by omega,fun h=>h,fun h=>h,fun h=>h,fun h=>h,fun h=>h,fun h=>h,fun h=>h,fun h=>h,fun _=>by omega,fun _=>by omega,fun h=>h,fun h=>h,fun h=>h,fun h=>h,fun _=>by omega,fun _=>by omega,fun h=>h,fun h=>h,fun h=>h,fun h=>h,(fun _=>(in_cG k hlt hel).1),fun h=>h,fun h3=>(by decide),(fun _=>(in_cG k hlt hel).2),fun h=>h,fun h=>h,fun h=>h,(fun a b=>q2_of a b),fun h=>h,fun h=>h,fun h=>h,fun h=>h,fun h=>h,fun h=>h,fun h=>h,fun _=>by omega,fun _=>by omega,fun h=>h,fun h=>h,fun h=>h,fun h=>h,fun h=>h,(fun a b=>q5_of a b),fun h=>h,fun h=>h,fun h=>h,fun _=>by omega,fun _=>by omega,fun h=>h,fun h=>h,fun h=>h,fun h=>h,(fun a b=>q7_of a b),fun h=>h,(fun a b=>q4_of a b),fun h=>by first | exact h | (rw [h];rfl) | simp_all,impB_iff.2 fun hb=>(congrArg (fun r=>nth r 2) (row_at encOf f1)),impB_iff.2 fun hb=>((by unfold q1;rw [hd_encI,hd_encI];exact c47 _ _ (R_g k _ (getD_mem f1)))),impB_iff.2 fun hb=>(congrArg (fun r=>nth r 3) (row_at encOf f1)),impB_iff.2 fun hb=>(congrArg (fun r=>nth r 2) (row_at encZn hzl)),impB_iff.2 fun hb=>(congrArg (fun r=>nth r 2) (row_at encOf f1)),impB_iff.2 fun hb=>(congrArg (fun r=>nth r 3) (row_at encOf f1)),(congrArg (fun b=>AS.mk [_,_,_,_,_,_,_,_,(257,AV.bool b)] [] 1) (q9_f k hlt hel))⟩,(by unfold In64;omega),(by unfold In64;omega),⟨g+1,by omega,by omega,?_⟩⟩
       · rw [cn_t (show elJ l hs g=true from hel)]
         rfl
   · have hge:g=hs.length:=by have h9:=of_decide_eq_false hd;have h8:=hg;(try simp only [List.length_map] at h8);(try simp only [List.length_map] at h9);omega
     subst hge
     exact ⟨(congrArg (fun b=>AS.mk [_,_,_,_,(264,AV.bool b)] [] 1) (by rw [List.length_map];exact bne_self_eq_false _)),⟨rfl,K⟩,t_c11_3 l hs ms n0 n1 hA hl hh hm0 hml hn0 hn1⟩
def T_c11_1 (l:List Zn) (hs:List Hm) (ms:List (List Ms)) (n0 n1:Int):Prop :=
      K11 l hs ms->PCall Tryz.prog G0 50 [AV.sl 4 (List.map encZn l)] (AV.sl 4 (List.map encZn l))∧PCall Tryz.prog G0 59 [AV.sl 3 (List.map encHm hs)] (AV.sl 3 (List.map encHm hs))∧PCall Tryz.prog G0 60
      [AV.sl 1 (List.map encLs ms)] (AV.sl 1 (List.map encLs ms))∧PCall Tryz.prog G0 58 [AV.sl 4 (List.map encZn l),AV.sl 3 (List.map encHm hs),AV.sl 1 (List.map encLs ms)] (AV.tup [AV.sl 4 (List.map
      encOf (ofR l hs ms)),AV.i 0])∧((true=true->true=true)∧(true=true->true=true)∧(true=true->true=true)∧(true=true->true=true)∧(true=true->true=true)∧(false=false →
      true=true)∧((!gL l hs ms)=true->(!gL l hs ms)=true)∧((!gL l hs ms)=true->(!gL l hs ms)=true)∧((!gL l hs ms)=true->(!gL l hs ms)=true)∧((!gL l hs ms)=true->(!gL l hs ms) =
      true)∧((!gL l hs ms)=true->(!gL l hs ms)=true)∧((!gL l hs ms)=true->(!gL l hs ms)=true)∧((!gL l hs ms)=true->(!gL l hs ms)=true)∧((!gL l hs ms)=true->(!gL l hs ms)=true) ∧
      ((!gL l hs ms)=true->(!gL l hs ms)=true)∧((!gL l hs ms)=true->(!gL l hs ms)=true)∧((!gL l hs ms)=true->(!gL l hs ms)=true)∧((!gL l hs ms)=true->(!gL l hs ms)=true)∧(gL l hs
      ms=false->(!gL l hs ms)=true)∧impB (!gL l hs ms) (PCall Tryz.prog G0 50 [AV.sl 4 (List.map encZn l)] (AV.sl 4 (List.map encZn l)))∧impB (!gL l hs ms) (PCall Tryz.prog G0 59 [AV.sl 3 (List.map
      encHm hs)] (AV.sl 3 (List.map encHm hs)))∧impB (!gL l hs ms) (PCall Tryz.prog G0 60 [AV.sl 1 (List.map encLs ms)] (AV.sl 1 (List.map encLs ms)))∧impB (!gL l hs ms) (PCall Tryz.prog G0 67 [AV.sl 4
      (List.map encOf (ofR l hs ms))] (AV.sl 4 (List.map encOf (ofR l hs ms))))∧impB (!gL l hs ms) (PCall Tryz.prog G0 62 [AV.sl 4 (List.map encOf (ofR l hs ms))] (AV.sl 4 (List.map encOf (ofR l hs ms))))
      ∧ impB (!gL l hs ms) (PCall Tryz.prog G0 61 [AV.sl 4 (List.map encZn l),AV.sl 3 (List.map encHm hs),AV.sl 1 (List.map encLs ms),AV.sl 4 (List.map encOf (ofR l hs ms))] (AV.i 0))∧AS.mk [(0,zA l),
      (4,eS hs ms),(5,eN n0 n1),(7,slR l hs ms),(108,AV.bool (if gL l hs ms=true then true else false))] [] 1=AS.mk [(0,zA l),(4,eS hs ms),(5,eN n0 n1),(7,slR l hs ms),(108,AV.bool
      false)] [] 1)∧(AS.mk [(0,zA l),(4,eS hs ms),(5,eN n0 n1),(7,slR l hs ms)] [] 1=AS.mk [(0,zA l),(4,eS hs ms),(5,eN n0 n1),(7,slR l hs ms)] [] 1∧K11 l hs ms)∧(T_c11_2 l hs ms n0 n1)
theorem t_c11_1 (l:List Zn) (hs:List Hm) (ms:List (List Ms)) (n0 n1:Int) (hA:PCall Tryz.prog G0 16 [] (.bool true)) (hl:l.length<=maxLen) (hh:hs.length<=maxLen) (hm0:ms.length<=maxLen) (hml:∀ x,x ∈ ms->x.length<=maxLen) (hn0:0<=n0∧n0<=255) (hn1:0<=n1∧n1<=255):T_c11_1 l hs ms n0 n1:=by
 unfold T_c11_1
 refine fun h1=>?_
 · have K:=h1
   have k:=K.ok
   obtain ⟨z1,z2⟩:=sh_zn K.sz
   obtain ⟨b1,b3,b5,b6⟩:=bd11 K.sh
   have n1p:=K.n1
   have n4p:=K.n4
   have hRl:=R_len l hs ms
   have hke:=k.e
   obtain ⟨rb1,rb2⟩:=rB_e n1p hn0
   have kT:=rot_ok k (Nat.le_of_lt rb2)
   have hT:=T_len k rb2
   have lT:(hsT hs n0).length=hs.length:=rot_len (Nat.le_of_lt rb2)
   have mT:(msT hs ms n0).length=ms.length:=rot_len (by omega)
   have hlO:(List.map encOf (ofR l hs ms)).length=(ofR l hs ms).length:=List.length_map _
   have hlT:(List.map encOf (ofT l hs ms n0)).length=(ofT l hs ms n0).length:=List.length_map _
   have hlH:(List.map encHm hs).length=hs.length:=List.length_map _
   have hlL:(List.map encLs ms).length=ms.length:=List.length_map _
   have hlZ:(List.map encZn l).length=l.length:=List.length_map _
   have d1:(tlD (List.map encHm hs) (rB hs n0)).length<=hs.length:=by rw [tlD_e (by omega),List.length_drop];omega
   have d2:(hdD (List.map encHm hs) (rB hs n0)).length<=hs.length:=by rw [hdD_e,List.length_take];omega
   have d3:(tlD (List.map encLs ms) (rB hs n0)).length<=hs.length:=by rw [tlD_e (by omega),List.length_drop];omega
   have d4:(hdD (List.map encLs ms) (rB hs n0)).length<=hs.length:=by rw [hdD_e,List.length_take];omega
   exact ⟨((c50 l (by omega)).un),((c59 hs (by omega) (fun h hm=>(b5 h hm).2)).un),((c60 ms (by omega) (fun x hm=>(b6 x hm).1)).un),(c58q k (by omega) z2 b5 b6),⟨fun h=>h,fun h=>h,fun h=>h,fun h=>h,fun h=>h,fun h=>by first | exact h | (rw [h];rfl) | simp_all,fun h=>h,fun h=>h,fun h=>h,fun h=>h,fun h=>h,fun h=>h,fun h=>h,fun h=>h,fun h=>h,fun h=>h,fun h=>h,fun h=>h,fun h=>by first | exact h | (rw [h];rfl) | simp_all,impB_iff.2 fun hb=>((c50 l (by omega)).un),impB_iff.2 fun hb=>((c59 hs (by omega) (fun h hm=>(b5 h hm).2)).un),impB_iff.2 fun hb=>((c60 ms (by omega) (fun x hm=>(b6 x hm).1)).un),impB_iff.2 fun hb=>((c67 _ (by omega)).un),impB_iff.2 fun hb=>((c62 _ (by omega) (R_g k)).un),impB_iff.2 fun hb=>(c61q k (by omega) z2 b5 b6 (by omega) (R_right k)),(congrArg (fun b=>AS.mk [_,_,_,_,(108,AV.bool b)] [] 1) (by unfold gL;rw [decide_eq_false (by omega)];rfl))⟩,⟨rfl,K⟩,t_c11_2 l hs ms n0 n1 hA hl hh hm0 hml hn0 hn1⟩
set_option maxHeartbeats 4000000 in
theorem c11 (l:List Zn) (hs:List Hm) (ms:List (List Ms)) (n0 n1:Int) (hA:PCall Tryz.prog G0 16 [] (.bool true)) (hl:l.length<=maxLen) (hh:hs.length<=maxLen) (hm0:ms.length<=maxLen) (hml:∀ x,x ∈ ms->x.length<=maxLen) (hn0:0<=n0∧n0<=255) (hn1:0<=n1∧n1<=255):PCall Tryz.prog G0 11 [.sl 4 (l.map encZn),.agg [.sl 3 (hs.map encHm),.sl 1 (ms.map encLs)],.agg [.int .u8 n0,.int .u8 n1]] (.bool true):=by
 have key :
  ((!!shZ l)=true->(!!shZ l)=true)∧((!!shZ l)=true->(!!shZ l)=true)∧((!shZ l)=false->(!!shZ l)=true)∧((!hg1 l)=true->(!hg1 l)=true)∧((!hg1 l)=true->(!hg1 l)=true)∧((!hg1 l)=true->(!hg1 l)=true)
  ∧ ((!hg1 l)=true->(!hg1 l)=true)∧((!hg1 l)=true->(!hg1 l)=true)∧((hg1 l)=false->(!hg1 l)=true)∧((!hg2 l hs ms)=true->(!hg2 l hs ms)=true)∧((!hg2 l hs ms)=true->(!hg2 l hs ms)=true)∧((!hg2 l hs ms)
  = true->(!hg2 l hs ms)=true)∧((hg2 l hs ms)=false->(!hg2 l hs ms)=true)∧((!hg3 l hs ms)=true->(!hg3 l hs ms)=true)∧((!hg3 l hs ms)=true->(!hg3 l hs ms)=true)∧((!hg3 l hs ms)=true->(!hg3 l hs ms)=true)
  ∧ ((hg3 l hs ms)=false->(!hg3 l hs ms)=true)∧((!hg4 l hs ms)=true->(!hg4 l hs ms)=true)∧((!hg4 l hs ms)=true->(!hg4 l hs ms)=true)∧((!hg4 l hs ms)=true->(!hg4 l hs ms)=true)∧((!hg4 l hs ms)=true →
  (!hg4 l hs ms)=true)∧((!hg4 l hs ms)=true->(!hg4 l hs ms)=true)∧((hg4 l hs ms)=false->(!hg4 l hs ms)=true)∧PCall Tryz.prog G0 48 [AV.sl 4 (List.map encZn l)] (AV.bool (shZ l))∧impB (!!shZ l) (PCall Tryz.prog G0
  52 [AV.sl 4 (List.map encZn l)] (AV.i (fZs l)))∧impB (!hg1 l) (PCall Tryz.prog G0 56 [AV.sl 3 (List.map encHm hs),AV.sl 1 (List.map encLs ms)] (AV.bool (shHs hs ms)))∧impB (!hg4 l hs ms) (PCall Tryz.prog G0 63 [AV.sl 3
  (List.map encHm hs),AV.sl 1 (List.map encLs ms)] (AV.i (chH hs ms)))∧(((hg5 l hs ms)=true->PCall Tryz.prog G0 16 [] (AV.bool true)∧AV.bool true=AV.bool true)∧((hg5 l hs ms)=false->AS.mk [(0,zA l),(4,eS hs ms),(5,
  eN n0 n1)] [] 1=AS.mk [(0,zA l),(4,eS hs ms),(5,eN n0 n1)] [] 1∧K11 l hs ms))∧(T_c11_1 l hs ms n0 n1):=by
   refine ⟨fun h=>h,fun h=>h,fun h=>by first | exact h | (rw [h];rfl) | simp_all,fun h=>h,fun h=>h,fun h=>h,fun h=>h,fun h=>h,fun h=>by first | exact h | (rw [h];rfl) | simp_all,fun h=>h,fun h=>h,fun h=>h,fun h=>by first | exact h | (rw [h];rfl) | simp_all,fun h=>h,fun h=>h,fun h=>h,fun h=>by first | exact h | (rw [h];rfl) | simp_all,fun h=>h,fun h=>h,fun h=>h,fun h=>h,fun h=>h,fun h=>by first | exact h | (rw [h];rfl) | simp_all,(c48 l hl),impB_iff.2 fun hb=>(c52 l (by have:=(sh_zn (show shZ l=true by simpa using hb)).1;omega) (sh_zn (show shZ l=true by simpa using hb)).2),impB_iff.2 fun hb=>(c56 hs ms hh hm0 hml),impB_iff.2 fun hb=>(c63q (g63 hb)),⟨fun h1=>⟨hA,rfl⟩,fun h1=>?_⟩,t_c11_1 l hs ms n0 n1 hA hl hh hm0 hml hn0 hn1⟩
   · have K:=guard11 h1
     exact ⟨rfl,K⟩
 exact c_ofH Tryz.f11 ({ gsB gs11 (fzB (ra11 l hs ms n0 n1 (mkB (sp11 l hs ms) 11 [(9,2,rdL 3 encHm hs 3 true),(16,23,rdL 4 encOf (ofR l hs ms) 1 false),(16,33,rdL 4 encOf (ofR l hs ms) 1 false),(16,38,rdL 4 encZn l 1 false),(18,6,rdL 1 encLs ms 1 false),(18,12,rdL 4 encZn l 1 false),(19,7,rdL 4 encOf (ofR l hs ms) 1 false),(19,16,rdL 4 encOf (ofR l hs ms) 1 false),(19,22,rdL 4 encZn l 1 false),(19,39,rdL 4 encOf (ofR l hs ms) 1 false),(19,48,rdL 4 encOf (ofR l hs ms) 1 false),(32,1,rdL 4 encOf (ofR l (rotL (rB hs n0) hs) (rotL (rB hs n0) ms)) 4 true),(36,1,rdL 4 encOf (ofR l hs ms) 4 true),(46,7,rdL 4 encOf (ofR l hs ms) 4 true)] (la11 l hs ms n0 n1)))) with cl:=clL [108,136,186,257,264,315],cut:=cut11 }) (m11 l hs ms n0 n1) (by kernel_rfl) (by kernel_rfl) (by kernel_rfl) (by kernel_rfl) key (by kernel_rfl)
end Go.Proofs.YtfoeefaamjknpaaGreatDoor
namespace Go.Proofs.YtfoeefaamjknpaaGreatDoor
open Go Go.Av Go.RowKit Go.ChangeShapes Go.WideShapes
theorem jp0_11:(Rows.homeOnceRow.inPlace == Tryz.prog.inPlace 11)=true:=by kernel_rfl
theorem jp1_11:(Rows.homeOnceRow.unfollowed == Tryz.prog.unfollowed 11)=true:=by kernel_rfl
theorem jp2_11:(Rows.homeOnceRow.recurses == Tryz.prog.recurses 11)=true:=by kernel_rfl
theorem jp3_11:(Rows.homeOnceRow.named == Tryz.prog.varsNamed 11)=true:=by kernel_rfl
theorem jfacts_11:joinedFacts Tryz.prog 11 Tryz.f11 Rows.homeOnceSpec Rows.homeOnceRow=true:=by
 unfold joinedFacts
 rw [jp0_11,jp1_11,jp2_11,jp3_11]
 kernel_rfl
end Go.Proofs.YtfoeefaamjknpaaGreatDoor
