import Derived.Test.YtcffhjfdlflbgaaGreatDoorP34
set_option linter.all false
open Int renaming ofNat->ν
open Nat renaming beq->ξ,le_refl->ο,ble->π
open List renaming getD->ς,cons_append->χ
open HAdd renaming hAdd->σ
open Bool renaming not_false->τ,not_true->υ
set_option linter.all false
set_option maxRecDepth 100000
set_option maxHeartbeats 4000000
namespace Go.Ev
open Go Go.Proofs
variable{S:aQ}{R L W:List Rn}{i n k:Nat}{r:Rn}
def Cp:dP:=λ
 | [.g [.a .i8 a,.a .i64 b,.a .i8 c,.a .i64 d],.g [.a .i8 e,.a .i64 f,.a .i8 g,.a .i64 h]]=>some (.a0 (.g [.a .i8 (fD ⟨a,b,c,d⟩ ⟨e,f,g,h⟩).a,.a .i64 (fD ⟨a,b,c,d⟩ ⟨e,f,g,h⟩).b,.a .i8 (fD ⟨a,b,c,d⟩ ⟨e,f,g,h⟩).c,.a .i64 (fD ⟨a,b,c,d⟩ ⟨e,f,g,h⟩).d]))
 | _=>none
def Cq:dP:=λ
 | [.g [.a .i8 a,.a .i64 b,.a .i8 c,.a .i64 d],.g [.a .i8 e,.a .i64 f,.a .i8 g,.a .i64 h]]=>some (aH [af .i64 d,af .i64 h] (.a0 (abV ⟨a,b,c,d⟩ ⟨e,f,g,h⟩)))
 | _=>none
def Cm:dP:=λ
 | [.g [.a .i8 a,.a .i64 b,.a .i8 c,.a .i64 d],.g [.a .i8 e,.a .i64 f,.a .i8 g,.a .i64 h]]=>some (.a0 (In a b c d e f g h))
 | _=>none
def zt:aQ:=pX gZ 98 FB
def kB:aQ:=d5 (d5 (d5 gZ 99 Cq) 236 Cp) 237 Cm
def fA(R:List Rn)(r:Rn):Nat->Int
 | 0=>-1
 | i+1=>bif abV (R.getD i fo) r then ν i else fA R r i
def aah(r:Rn):cD:=.a [.a .i8 r.a,r.b,.a .i8 r.c,r.d] true none
def pF(R:List Rn):Bool:=R.all λx=>af .i64 x.d
def aey(b:Nat):List Rn->AV
 | []=>.d
 | _::t=>.b b 0 (t.length+1) (.a 0)
def adH(n:Nat)(B:List cD):List Rn->aB
 | []=>⟨n,B,[]⟩
 | r::rs=>⟨n+1,.a (bh (r::rs)) true (some 4)::B,[]⟩
def iB(r:Rn)(L:List Rn):Bool:=L.any (iM r)
def q9(r:Rn)(L:List Rn):List Rn:=bif iB r L then aaQ r L else L
def aaY(r:Rn)(L:List Rn):Nat:=(q9 r L).length
def qA(R:List Rn)(k:Int):List Rn:=R.eraseIdx k.toNat
def oz(R:List Rn)(k:Int):Nat:=(R.eraseIdx k.toNat).length
def EA(R:List Rn):dW:=λvs o=>match vs,o with
 | [.b 14 0 n K,.h 15 0,.a .i64 kt,.a .i64 i],⟨1,[.a [.a .i8 a,.a .i64 b,.a .i8 c,.a .i64 d] true none],[]⟩=>some (aH [ξ R.length n,π n 1000,pF R,af .i64 d,aa kt (-1),aa i 0] (.a0 (.b 2,[.b 14 0 n K,.h 15 0,(fA R ⟨a,b,c,d⟩ n),(ν n)],o)))
 | _,_=>none
def Er(R:List Rn):dW:=λ
 | [.b 14 0 n K,.h 15 0,.a .i64 kt,.d,.a .i64 i],⟨1,[.a [.a .i8 a,.a .i64 b,.a .i8 c,.a .i64 d] true none],[]⟩=>some (aH [ξ R.length n,π n 1000,aa i 0,ab 0 kt] (.d0 (ξ (oz R kt) 0) λz=>bif z then .a0 (.b 4,[.b 14 0 n K,.h 15 0,kt,.d,(ν n)],⟨1,[aah ⟨a,b,c,d⟩],[]⟩)else .a0 (.b 4,[.b 14 0 n K,.h 15 0,kt,.b 16 0 (oz R kt) (.a 0),(ν n)],⟨2,.a (bh (qA R kt)) true (some 4)::[aah ⟨a,b,c,d⟩],[]⟩)))
 | _,_=>none
def Du(R:List Rn):dW:=λ
 | [.b 14 0 n K,.h 15 0,.d,.e dn,.a .i64 i],⟨1,[.a [.a .i8 a,.a .i64 b,.a .i8 c,.a .i64 d] true none],[]⟩=>some (aH [ξ R.length n,π n 1000,bQ dn false,aa i 0,π 1 n] (.a0 (.b 6,[.b 14 0 n K,.h 15 0,.b 16 0 (aaY ⟨a,b,c,d⟩ R) (.a 0),(iB ⟨a,b,c,d⟩ R),(ν n)],⟨2,.a (bh (q9 ⟨a,b,c,d⟩ R)) true (some 4)::[aah ⟨a,b,c,d⟩],[]⟩)))
 | _,_=>none
def EV:dW:=λvs o=>match vs,o with
 | [.b 16 0 n (.a 0),.h 15 0,.a .i64 kt,.a .i64 i],⟨2,[.a v true (some 4),.a [.a .i8 a,.a .i64 b,.a .i8 c,.a .i64 d] true none],[]⟩=>some (aH [eJ v,ξ (g8 v).length n,π n 1000,pF (g8 v),af .i64 d,aa kt (-1),aa i 0] (.a0 (.b 2,[.b 16 0 n (.a 0),.h 15 0,(fA (g8 v) ⟨a,b,c,d⟩ n),(ν n)],o)))
 | _,_=>none
def Ey:dW:=λ
 | [.b 16 0 n (.a 0),.h 15 0,.a .i64 kt,.d,.a .i64 i],⟨2,[.a v true (some 4),.a [.a .i8 a,.a .i64 b,.a .i8 c,.a .i64 d] true none],[]⟩=>some (aH [eJ v,ξ (g8 v).length n,π n 1000,aa i 0,ab 0 kt] (.d0 (ξ (oz (g8 v) kt) 0) λz=>bif z then .a0 (.b 4,[.b 16 0 n (.a 0),.h 15 0,kt,.d,(ν n)],⟨2,[.a (bh (g8 v)) true (some 4),aah ⟨a,b,c,d⟩],[]⟩)else .a0 (.b 4,[.b 16 0 n (.a 0),.h 15 0,kt,.b 17 0 (oz (g8 v) kt) (.a 0),(ν n)],⟨3,.a (bh (qA (g8 v) kt)) true (some 4)::[.a (bh (g8 v)) true (some 4),aah ⟨a,b,c,d⟩],[]⟩)))
 | _,_=>none
def Dv:dW:=λ
 | [.b 16 0 n (.a 0),.h 15 0,.d,.e dn,.a .i64 i],⟨2,[.a v true (some 4),.a [.a .i8 a,.a .i64 b,.a .i8 c,.a .i64 d] true none],[]⟩=>some (aH [eJ v,ξ (g8 v).length n,π n 1000,bQ dn false,aa i 0,π 1 n] (.a0 (.b 6,[.b 16 0 n (.a 0),.h 15 0,.b 17 0 (aaY ⟨a,b,c,d⟩ (g8 v)) (.a 0),(iB ⟨a,b,c,d⟩ (g8 v)),(ν n)],⟨3,.a (bh (q9 ⟨a,b,c,d⟩ (g8 v))) true (some 4)::[.a (bh (g8 v)) true (some 4),aah ⟨a,b,c,d⟩],[]⟩)))
 | _,_=>none
def EW:dW:=λ
 | [.d,.h 15 0,.a .i64 kt,.a .i64 0],⟨1,[.a cs true none],[]⟩=>some (.a0 (.b 2,[.d,.h 15 0,kt,.a .i64 0],⟨1,[.a cs true none],[]⟩))
 | _,_=>none
def DJ:dW:=λ
 | [.d,.h 15 0,.d,.e dn,.a .i64 0],⟨1,[.a cs true none],[]⟩=>some (.a0 (.b 6,[.d,.h 15 0,.d,dn,.a .i64 0],⟨1,[.a cs true none],[]⟩))
 | _,_=>none
theorem Ow(a b c d e f g h:Int){Q:AV->Prop}:gG Q (pT zt jE 236 [.g [.a .i8 a,b,.a .i8 c,d],.g [.a .i8 e,f,.a .i8 g,h]]) (bE 105155451051554000546)=((λ(u0 u1:Bool)=>(u0->(u1->Q (AV.g [AV.a .i8 e,f,AV.a .i8 g,h]))/\(u1=false->Q (AV.g [AV.a .i8 e,f,AV.a .i8 c,d])))/\(u0=false->(u1->Q (AV.g [AV.a .i8 a,b,AV.a .i8 g,h]))/\(u1=false->Q (AV.g [AV.a .i8 a,b,AV.a .i8 c,d])))) (not (ab 0 (gc e f a b))) (not (ab (gc g h c d) 0))):=by rfl
theorem Ot(a b c d e f g h:Int){Q:AV->Prop}:gG Q (pT zt jE 237 [.g [.a .i8 a,b,.a .i8 c,d],.g [.a .i8 e,f,.a .i8 g,h]]) (bE 151545)=((λ(u0:Bool)=>(u0->Q (gc a b e f))/\(u0=false->Q (gc c d g h))) (not (and (aa a e) (and (aa b f) true)))):=by rfl
def zw(x:List AV):Ac->Ac
 | none=>none
 | some (m,cs)=>some (m+1,cs++x)
def re(w:List AV)(j:Nat):List Bool:=[eB .i8 (w.getD j bt),eB .i64 (w.getD (j+1) bt),eB .i8 (w.getD (j+1+1) bt),eB .i64 (w.getD (j+1+1+1) bt)]
def nU(w:List AV)(j:Nat):Rn:=⟨dx (w.getD j bt),dx (w.getD (j+1) bt),dx (w.getD (j+1+1) bt),dx (w.getD (j+1+1+1) bt)⟩
def pA(s:Bool)(n:Nat)(K:fg):AV:=bif s then .b 14 0 n K else .b 16 0 n K
def pB(s:Bool)(v:List AV)(r:Rn):List cD:=bif s then[aah r]else[.a v true (some 4),aah r]
def pN(s:Bool):Nat:=bif s then 1 else 2
section
variable(v W cs:List AV)(n i m:Nat)(K:fg)(r:Rn)(k:Int)(J:Nat->Value){Q:VQ->Prop}
theorem rS(s:Bool):gG Q (rT kB jE [.a (bif s then v else W) false none] 162 1 85 [0,3,5,6] [pA s n K,.h 15 0,k,iV i] J ⟨pN s,pB s v r,[]⟩) (bE 11111111212444054444204)=ba n i (aS i n/\fu (re v (0+i*4)) (fu [af .i64 (nU v (0+i*4)).d,af .i64 r.d] (fk (abV (nU v (0+i*4)) r) (nR i (Q (.a,[pA s n K,.h 15 0,iV i,iX i],⟨pN s,pB s v r,[]⟩))) (nR i (Q (.a,[pA s n K,.h 15 0,k,iX i],⟨pN s,pB s v r,[]⟩)))))) (Q (.b 2,[pA s n K,.h 15 0,k,iV i],⟨pN s,pB s v r,[]⟩)):=by
 cases s<;>kernel_rfl
def tR(s:Bool)(st:AV×aB)(c:Prop->Prop)(Q:VQ->Prop):Prop:=ba n i (fk (not (aa (ν i) k)) (aS i n/\fu (re v (0+i*4)) (c (nR i (Q (.a,[pA s n K,.h 15 0,k,(ij 4 (rC (nU v (0+i*4))) [] st).1,iX i],(ij 4 (rC (nU v (0+i*4))) [] st).2))))) (nR i (Q (.a,[pA s n K,.h 15 0,k,st.1,iX i],st.2)))) (Q (.b 4,[pA s n K,.h 15 0,k,st.1,iV i],st.2))
theorem rR:∀(s:Bool) (ac:Ac),∃D,gG Q (rT kB jE [.a (bif s then v else W) false none] 162 2 85 [0,3,5,7,8] [pA s n K,.h 15 0,k,(w6 4 (pN s) (pB s v r) ac).1,iV i] J (w6 4 (pN s) (pB s v r) ac).2) D=tR v n i K k s (w6 4 (pN s) (pB s v r) ac) (nk 4 ac) Q
 | true,none=>⟨bE 1121111120544442044,by kernel_rfl⟩
 | false,none=>⟨bE 1121111120544442044,by kernel_rfl⟩
 | true,some (m,cs)=>⟨bE 112111112252044442044,by kernel_rfl⟩
 | false,some (m,cs)=>⟨bE 112111112252044442044,by kernel_rfl⟩
def tI(s:Bool)(st:AV×aB)(ac:Ac)(Q:VQ->Prop):Bool->Prop
 | true=>ba n i (aS i n/\fu (re v (0+i*4)) (nk 4 ac (nR i (Q (.a,[pA s n K,.h 15 0,(ij 4 (rC (nU v (0+i*4))) [] st).1,true,iX i],(ij 4 (rC (nU v (0+i*4))) [] st).2))))) (Q (.b 6,[pA s n K,.h 15 0,st.1,true,iV i],st.2))
 | false=>ba n i (aS i n/\fu (re v (0+i*4)) (fk (iM r (nU v (0+i*4))) (nk 4 ac (aS i n/\nE (re v (0+i*4)) (nk 4 (zw (rC r) ac) (nR i (Q (.a,[pA s n K,.h 15 0,(ij 4 (rC (nU v (0+i*4))) [] (ij 4 (rC r) [] st)).1,true,iX i],(ij 4 (rC (nU v (0+i*4))) [] (ij 4 (rC r) [] st)).2)))))) (aS i n/\nE (re v (0+i*4)) (nk 4 ac (nR i (Q (.a,[pA s n K,.h 15 0,(ij 4 (rC (nU v (0+i*4))) [] st).1,false,iX i],(ij 4 (rC (nU v (0+i*4))) [] st).2))))))) (Q (.b 6,[pA s n K,.h 15 0,st.1,false,iV i],st.2))
theorem rI:∀(d s:Bool) (ac:Ac),∃D,gG Q (rT kB jE [.a (bif s then v else W) false none] 162 3 85 [0,3,9,10,11] [pA s n K,.h 15 0,(w6 4 (pN s) (pB s v r) ac).1,d,iV i] J (w6 4 (pN s) (pB s v r) ac).2) D=tI v n i K r s (w6 4 (pN s) (pB s v r) ac) ac Q d
 | true,true,none=>⟨bE 11111120544442064,by kernel_rfl⟩
 | true,false,none=>⟨bE 11111120544442064,by kernel_rfl⟩
 | true,true,some (m,cs)=>⟨bE 1111112252044442064,by kernel_rfl⟩
 | true,false,some (m,cs)=>⟨bE 1111112252044442064,by kernel_rfl⟩
 | false,true,none=>⟨bE 1111112052270120005227064544440264,by kernel_rfl⟩
 | false,false,none=>⟨bE 1111112052270120005227064544440264,by kernel_rfl⟩
 | false,true,some (m,cs)=>⟨bE 1111112252022701225202270252054544440264,by kernel_rfl⟩
 | false,false,some (m,cs)=>⟨bE 1111112252022701225202270252054544440264,by kernel_rfl⟩
end
theorem SO(w cs:List AV)(kt:Int)(J:Nat->Value){Q:VQ->Prop}:gG Q (rT kB jE [.a w false none] 162 1 85 [0,3,5,6] [.d,.h 15 0,kt,.a .i64 0] J ⟨1,[.a cs true none],[]⟩) (.e .z)=(Q (AX.b 2,([AV.d,AV.h 15 0,kt,AV.a .i64 0],{ n:=1,os:=[cD.a cs true Option.none],le:=[] }))):=by rfl
theorem Sr(w cs:List AV)(dn:Bool)(J:Nat->Value){Q:VQ->Prop}:gG Q (rT kB jE [.a w false none] 162 3 85 [0,3,9,10,11] [.d,.h 15 0,.d,dn,.a .i64 0] J ⟨1,[.a cs true none],[]⟩) (.e .z)=(Q (AX.b 6,([AV.d,AV.h 15 0,AV.d,dn,AV.a .i64 0],{ n:=1,os:=[cD.a cs true Option.none],le:=[] }))):=by rfl
theorem alf:ec eS 236=some (dH 236,aL 236):=by rfl
theorem alg:ec eS 237=some (dH 237,aL 237):=by rfl
theorem ag1:ak Tryz.prog cfg zt:=eG aW Oz
theorem al5(hS:ak Tryz.prog cfg S):ak Tryz.prog cfg (d5 S 236 Cp):=by
 refine au hS λargs t v he hv=>?_;unfold Cp at he;split at he
 . rename_i a b c d e f g h;cases he;cases hv;refine kA ag1 (L:=jE) alf (by simp) ai (eD λQ' hQ=>cg ((Ow a b c d e f g h).mpr ?_)) (by rfl);grind [fD]
 grind
theorem anO(hS:ak Tryz.prog cfg S):ak Tryz.prog cfg (d5 S 237 Cm):=by
 refine au hS λargs t v he hv=>?_;unfold Cm at he;split at he
 . rename_i a b c d e f g h;cases he;cases hv;refine kA ag1 (L:=jE) alg (by simp) ai (eD λQ' hQ=>cg ((Ot a b c d e f g h).mpr ?_)) (by rfl);grind [gc,iI,In,ao]
 grind
theorem amP(hS:ak Tryz.prog cfg S):ak Tryz.prog cfg (d5 S 99 Cq):=by
 refine au hS λargs t v he hv=>?_;unfold Cq at he;split at he
 . rename_i a b c d e f g h;cases he;replace hv:=aF hv;obtain⟨⟨h1,h2,-⟩,hv⟩:=hv;cases hv;intro D m w hi hok;have hs:aiv [.g [.a .i8 a,.a .i64 b,.a .i8 c,.a .i64 d],.g [.a .i8 e,.a .i64 f,.a .i8 g,.a .i64 h]]=some (lu (af .i64 d) (lu (af .i64 h) (.a0 (.e (ada a b c d e f g h))))):=rfl;have hr:(lu (af .i64 d) (lu (af .i64 h) (Tr.a0 (AV.e (ada a b c d e f g h))))).b0=some (.e (abV ⟨a,b,c,d⟩ ⟨e,f,g,h⟩)):=by rw[h1,h2];rfl
   exact(af3 _ _ _ hs hr (Cw cfg []) D m ⟨0,[],[]⟩ w hi hok).a0 λV w' ⟨q1,q2,q3,_⟩=>⟨D,m,q1,q2,q3⟩
 grind
theorem aag:ak Tryz.prog cfg kB:=anO (al5 (amP aW))
theorem acG(h:i<R.length):(bh R).getD (0+i*4) (.c [])=.a .i8 (R.getD i fo).a/\(bh R).getD (0+i*4+1) (.c [])=.a .i64 (R.getD i fo).b/\(bh R).getD (0+i*4+1+1) (.c [])=.a .i8 (R.getD i fo).c/\(bh R).getD (0+i*4+1+1+1) (.c [])=.a .i64 (R.getD i fo).d:=by
 have:=afL (A:=bh (R.take i)) (B:=bh (R.drop (i+1))) (r:=R.getD i fo) (n:=i) (by grind [kC]);grind [abI]
theorem aka(h:pF R)(hi:i<R.length):af .i64 (R.getD i fo).d=true:=by
 grind [pF]
theorem ait{B:List cD}:n<=(adH n B L).n:=by
 cases L
 . exact ο _
 . exact Nat.le_succ _
theorem aer:cR k (aah r):=⟨rfl,λi hi=>by grind [aah,HL,bw,aC]⟩
theorem ajv:∀z∈[aah r],cR k z:=λz hz=>by grind [aer]
theorem am7:∀z∈[cD.a (bh R) true (some 4),aah r],cR k z:=λz hz=>by
 grind [hH,aer]
theorem A1(h:i<R.length):R.take (i+1)=R.take i++[R.getD i fo]:=by
 simp_all
theorem aiA{e:Nat}(h:i<R.length):(R.take (i+1)).eraseIdx e=bif ξ i e then(R.take i).eraseIdx e else(R.take i).eraseIdx e++[R.getD i fo]:=by
 have hl:(R.take i).length=i:=by grind
 rw[A1 h];by_cases h1:i=e
 . subst h1;rw[aJ.mpr rfl,cond_true,List.eraseIdx_append_of_length_le (by omega),hl,Nat.sub_self,List.eraseIdx_of_length_le (l:=R.take i) (by omega)];simp
 . rw[b9.mpr h1,cond_false];grind [List.eraseIdx_of_length_le]
theorem adU{r x:Rn}:∀{L:List Rn},iB r L->aaQ r (L++[x])=aaQ r L++[x]
 | [],h=>by cases h
 | y::L,h=>by
   unfold iB at h;rw[List.any_cons,Bool.or_eq_true]at h;show(bif iM r y then r::y::(L++[x])else y::aaQ r (L++[x]))=(bif iM r y then r::y::L else y::aaQ r L)++[x];cases hy:iM r y with
   | true=>rfl
   | false=>
     rw[hy]at h;rcases h with h|h
     . grind
     . rw[cond_false,cond_false,adU (L:=L) h];rfl
theorem ads{r:Rn}:∀{L M:List Rn},iB r L=false->aaQ r (L++M)=L++aaQ r M
 | [],M,_=>rfl
 | y::L,M,h=>by
   unfold iB at h;rw[List.any_cons,Bool.or_eq_false_iff]at h;show(bif iM r y then _ else y::aaQ r (L++M))=_;rw[h.1,cond_false,ads (L:=L) h.2];rfl
theorem afY{x:Rn}:iB r (L++[x])=(iB r L || iM r x):=by
 grind [iB]
theorem aew(h:i<R.length):q9 r (R.take (i+1))=(bif iB r (R.take i)then q9 r (R.take i)++[R.getD i fo]else bif iM r (R.getD i fo)then q9 r (R.take i)++[r,R.getD i fo]else q9 r (R.take i)++[R.getD i fo])/\iB r (R.take (i+1))=(iB r (R.take i) || iM r (R.getD i fo)):=by
 rw[A1 h,afY];refine⟨?_,rfl⟩;unfold q9;rw[afY];cases hd:iB r (R.take i)with
 | true=>grind [adU]
 | false=>
   rw[Bool.false_or,cond_false,cond_false];cases hx:iM r (R.getD i fo)with
   | true=>
     rw[cond_true,cond_true,ads hd];show _++(bif iM r (R.getD i fo)then[r,R.getD i fo]else _)=_;grind
   | false=>rfl
theorem ab5{r:Rn}:∀{L:List Rn},(aaQ r L).length=L.length+1
 | []=>rfl
 | y::L=>by
   show(bif iM r y then r::y::L else y::aaQ r L).length=_;cases iM r y
   . rw[cond_false,zAd,ab5];rfl
   . rfl
theorem afP:(q9 r L).length<=L.length+1:=by
 grind [q9,ab5]
theorem aic{r:Rn}{L:List Rn}:L.length<=(q9 r L).length:=by
 grind [q9,ab5]
theorem ad0(h:i<R.length):Tk (re (bh R) (0+i*4))/\nU (bh R) (0+i*4)=R.getD i fo:=by
 obtain⟨f1,f2,f3,f4⟩:=acG h;unfold re nU bt;rw[f1,f2,f3,f4];exact⟨⟨rfl,rfl,rfl,rfl,trivial⟩,rfl⟩
theorem ajl{X:Prop}(h:L.length<=2000)(hX:X):nk 4 (zw (rC r) (fF L)) X:=by
 cases L with
 | nil=>exact hX
 | cons y L=>
   have:=@abE (y::L++[r]) X (by simp at *;omega) hX;simp only[fF,χ,nk,zAe,zAd,List.length_nil]at this;simp only[fF,zw,nk,<-χ]
   rwa [<-χ,ym]at this
section
variable{R W:List Rn}{K:fg}{r:Rn}{s:Bool}{J:Nat->Value}{Q:VQ->Prop}
theorem JB:∀x∈[cD.a (bif s then bh R else bh W) false none],cR 14 x:=by
 cases s<;>exact jz
theorem ah3:∀b∈pB s (bh R) r,cR k b:=by
 cases s
 . exact am7
 . exact ajv
theorem ahx:(pB s (bh R) r).length=pN s:=by cases s<;>rfl
theorem Rv{e:Int}(ρ:List (Nat×Nat)):yw (kG (15+pN s) ρ 20) [pA s n K,.h 15 0,e]=some [pA s n K,.h 15 0,e]:=by cases s<;>rfl
theorem kS(h2:R.length<=1000)(h3:pF R)(h4:af .i64 r.d)(hq:Q (.b 2,[pA s R.length K,.h 15 0,.a .i64 (fA R r R.length),iV R.length],⟨pN s,pB s (bh R) r,[]⟩)):bN Tryz.prog (cH cfg kB) (Cw cfg [.a (bif s then bh R else bh W) false none]) (.loop (lb 162 1)) (tr 85 [0,3,5,6] [pA s R.length K,.h 15 0,.a .i64 (-1),.a .i64 0] J ⟨pN s,pB s (bh R) r,[]⟩) λr=>∃ax vs' o' J',Q (ax,vs',o')/\r=(ax,tr 85 [0,3,5,6] vs' J' o'):=by
 refine ia aag rfl rfl ai (ι:={i:Nat // i<=R.length}) (λx=>[pA s R.length K,.h 15 0,.a .i64 (fA R r x.1),iV x.1]) (λ_=>⟨pN s,pB s (bh R) r,[]⟩) (λx=>R.length-x.1) (pN s) (λ_=>ο _) (λx J=>?_) (ο _) (λJ=>Wk.a0 ⟨⟨0,Nat.zero_le _⟩,J,rfl⟩) J;obtain⟨i,hi⟩:=x;refine eD λQ' hQ=>cg ((rS _ _ _ i K r _ J s).mpr (abi hi (λhl=>?_) λh=>?_))
 . obtain⟨k1,k2⟩:=ad0 hl;rw[k2];refine⟨aU.2 hl,j6 (j6 ?_ (bs:=[_,_]) ⟨aka h3 hl,h4,trivial⟩) k1⟩;constructor<;>intro hb<;>refine aaH hl h2 (hQ _ ⟨⟨i+1,hl⟩,by dsimp only;omega,VW.b0 ?_ rfl⟩)<;>simp only[fA,hb,zAj]<;>rfl
 . subst h;exact hQ _ ⟨_,_,VW.a0,hq⟩
theorem kR{e:Nat}(h2:R.length<=1000)(hq:Q (.b 4,[pA s R.length K,.h 15 0,iV e,(w6 4 (pN s) (pB s (bh R) r) (fF (R.eraseIdx e))).1,iV R.length],(w6 4 (pN s) (pB s (bh R) r) (fF (R.eraseIdx e))).2)):bN Tryz.prog (cH cfg kB) (Cw cfg [.a (bif s then bh R else bh W) false none]) (.loop (lb 162 2)) (tr 85 [0,3,5,7,8] [pA s R.length K,.h 15 0,iV e,.d,.a .i64 0] J ⟨pN s,pB s (bh R) r,[]⟩) λr=>∃ax vs' o' J',Q (ax,vs',o')/\r=(ax,tr 85 [0,3,5,7,8] vs' J' o'):=by
 refine ia aag rfl rfl ai (ι:={i:Nat // i<=R.length}) (λx=>[pA s R.length K,.h 15 0,iV e,(w6 4 (pN s) (pB s (bh R) r) (fF ((R.take x.1).eraseIdx e))).1,iV x.1]) (λx=>(w6 4 (pN s) (pB s (bh R) r) (fF ((R.take x.1).eraseIdx e))).2) (λx=>R.length-x.1) (pN s) (λx=>afz) (λx J=>?_) (ο _) (λJ=>Wk.a0 ⟨⟨0,Nat.zero_le _⟩,J,rfl⟩) J;obtain⟨i,hi⟩:=x;refine eD λQ' hQ=>?_;obtain⟨D,hD⟩:=@rR (bh R) (bh W) R.length i K r (ν e) J Q' s (fF ((R.take i).eraseIdx e));refine cg (hD.mpr (abi hi (λhl=>?_) λh=>?_))
 . obtain⟨k1,k2⟩:=ad0 hl;rw[k2];have nx:=aiA (e:=e) hl;constructor<;>intro hb
   . refine⟨aU.2 hl,j6 (abE (Nat.le_trans (List.length_eraseIdx_le _ _) (by simp;omega)) (aaH hl h2 (hQ _ ?_))) k1⟩;refine⟨⟨i+1,hl⟩,by dsimp only;omega,?_⟩;rw[show ξ i e=false from Bool.not_eq_true' _▸hb]at nx;dsimp only;rw[nx];exact aeW (P:=[_,_,_]) (T:=[_]) aeH JB ahx ah3 Rv λ_=>rfl
   . refine aaH hl h2 (hQ _ ⟨⟨i+1,hl⟩,by dsimp only;omega,VW.b0 ?_ ?_⟩)<;>dsimp only<;>rw[nx,show ξ i e=true from Bool.not_eq_false' _▸hb]<;>rfl
 . subst h;rw[List.take_length];exact hQ _ ⟨_,_,VW.a0,hq⟩
theorem Rs(ρ:List (Nat×Nat)):yw (kG (15+pN s) ρ 20) [pA s n K,.h 15 0]=some [pA s n K,.h 15 0]:=by cases s<;>rfl
theorem kI(h2:R.length<=1000)(hq:Q (.b 6,[pA s R.length K,.h 15 0,(w6 4 (pN s) (pB s (bh R) r) (fF (q9 r R))).1,(iB r R),iV R.length],(w6 4 (pN s) (pB s (bh R) r) (fF (q9 r R))).2)):bN Tryz.prog (cH cfg kB) (Cw cfg [.a (bif s then bh R else bh W) false none]) (.loop (lb 162 3)) (tr 85 [0,3,9,10,11] [pA s R.length K,.h 15 0,.d,false,.a .i64 0] J ⟨pN s,pB s (bh R) r,[]⟩) λr=>∃ax vs' o' J',Q (ax,vs',o')/\r=(ax,tr 85 [0,3,9,10,11] vs' J' o'):=by
 refine ia aag rfl rfl ai (ι:={i:Nat // i<=R.length}) (λx=>[pA s R.length K,.h 15 0,(w6 4 (pN s) (pB s (bh R) r) (fF (q9 r (R.take x.1)))).1,(iB r (R.take x.1)),iV x.1]) (λx=>(w6 4 (pN s) (pB s (bh R) r) (fF (q9 r (R.take x.1)))).2) (λx=>R.length-x.1) (pN s) (λx=>afz) (λx J=>?_) (ο _) (λJ=>Wk.a0 ⟨⟨0,Nat.zero_le _⟩,J,rfl⟩) J;obtain⟨i,hi⟩:=x;refine eD λQ' hQ=>?_;obtain⟨D,hD⟩:=@rI (bh R) (bh W) R.length i K r J Q' (iB r (R.take i)) s (fF (q9 r (R.take i)));have hE:i=R.length->Q' (.b 6,[pA s R.length K,.h 15 0,(w6 4 (pN s) (pB s (bh R) r) (fF (q9 r (R.take i)))).1,(iB r (R.take i)),iV i],(w6 4 (pN s) (pB s (bh R) r) (fF (q9 r (R.take i)))).2):=λh=>by
  subst h;rw[List.take_length];exact hQ _ ⟨_,_,VW.a0,hq⟩
 have hX:∀{M d st},i<R.length->vI (pN s) (pB s (bh R) r) M st->q9 r (R.take (i+1))=M->iB r (R.take (i+1))=d->nR i (Q' (.a,[pA s R.length K,.h 15 0,st.1,d,iX i],st.2)):=λhl ha e1 e2=>aaH hl h2 (hQ _ (by
  refine⟨⟨i+1,hl⟩,by dsimp only;omega,?_⟩;dsimp only;rw[e1,e2];exact aeW (P:=[_,_]) (T:=[_,_]) ha JB ahx ah3 Rs λ_=>rfl))
 have ll:i<=R.length->(q9 r (R.take i)).length<=1001:=λh=>Nat.le_trans afP (by simp;omega);refine cg (hD.mpr ?_);cases hd:iB r (R.take i)<;>rw[hd]at hE
 . refine abi hi (λhl=>?_) hE;obtain⟨k1,k2⟩:=ad0 hl;obtain⟨n1,n2⟩:=aew (r:=r) hl;rw[hd]at n1 n2;rw[k2];refine⟨aU.2 hl,j6 ⟨λhb=>?_,λhb=>?_⟩ k1⟩<;>rw[hb]at n1 n2
   . refine abE (by have:=ll hi;omega) ⟨aU.2 hl,mz (ajl (by have:=ll hi;omega) (hX hl (aj4 aeH) (n1.trans ?_) n2)) k1⟩;simp
   . exact⟨aU.2 hl,mz (abE (by have:=ll hi;omega) (hX hl aeH n1 n2)) k1⟩
 . refine abi hi (λhl=>?_) hE;obtain⟨k1,k2⟩:=ad0 hl;obtain⟨n1,n2⟩:=aew (r:=r) hl;rw[hd]at n1 n2;rw[k2];exact⟨aU.2 hl,j6 (abE (by have:=ll hi;omega) (hX hl aeH n1 n2)) k1⟩
end
theorem ap0:cu Tryz.prog (cH cfg kB) (Cw cfg [.a (bh R) false none]) (lb 162 1) 85 [0,3,5,6] (EA R):=by
 intro vs o t Q hv hq J;unfold EA at hv;split at hv
 . rename_i n K kt i a b c d;cases hv;replace hq:=cO hq;obtain⟨⟨h1,h2,h3,h4,h5,h6,-⟩,hq⟩:=hq;rw[aJ]at h1;rw[al]at h2;rw[ao]at h5 h6;subst h1 h5 h6;exact kS (s:=true) (W:=[]) (r:=⟨a,b,c,d⟩) h2 h3 h4 hq
 . cases hv
theorem ao8:cu Tryz.prog (cH cfg kB) (Cw cfg [.a (bh W) false none]) (lb 162 1) 85 [0,3,5,6] (EV):=by
 intro vs o t Q hv hq J;unfold EV at hv;split at hv
 . rename_i n kt i v a b c d;cases hv;replace hq:=cO hq;obtain⟨⟨hr,h1,h2,h3,h4,h5,h6,-⟩,hq⟩:=hq;obtain⟨R,rfl⟩:∃R,v=bh R:=⟨g8 v,(hZ hr).symm⟩;rw[mZ]at *;rw[aJ]at h1;rw[al]at h2;rw[ao]at h5 h6;subst h1 h5 h6;exact kS (s:=false) (W:=W) (r:=⟨a,b,c,d⟩) h2 h3 h4 hq
 . cases hv
theorem aqn:cu Tryz.prog (cH cfg kB) (Cw cfg [.a (bh R) false none]) (lb 162 2) 85 [0,3,5,7,8] (Er R):=by
 intro vs o t Q hv hq J;unfold Er at hv;split at hv
 . rename_i n K kt i a b c d;cases hv;replace hq:=cO hq;obtain⟨⟨h1,h2,h3,h4,-⟩,hq⟩:=hq;rw[aJ]at h1;rw[al]at h2;rw[ao]at h3;rw[aq]at h4;obtain⟨e,rfl⟩:∃e:Nat,kt=ν e:=⟨kt.toNat,(Int.toNat_of_nonneg h4).symm⟩;subst h1 h3;refine kR (s:=true) (W:=[]) (r:=⟨a,b,c,d⟩) h2 ?_;rw[show oz R (ν e)=(R.eraseIdx e).length from rfl,show qA R (ν e)=R.eraseIdx e from rfl]at hq;cases h:R.eraseIdx e<;>rw[h]at hq<;>exact hq
 . cases hv
theorem aqb:cu Tryz.prog (cH cfg kB) (Cw cfg [.a (bh W) false none]) (lb 162 2) 85 [0,3,5,7,8] (Ey):=by
 intro vs o t Q hv hq J;unfold Ey at hv;split at hv
 . rename_i n kt i v a b c d;cases hv;replace hq:=cO hq;obtain⟨⟨hr,h1,h2,h3,h4,-⟩,hq⟩:=hq;obtain⟨R,rfl⟩:∃R,v=bh R:=⟨g8 v,(hZ hr).symm⟩;rw[mZ]at *;rw[aJ]at h1;rw[al]at h2;rw[ao]at h3;rw[aq]at h4;obtain⟨e,rfl⟩:∃e:Nat,kt=ν e:=⟨kt.toNat,(Int.toNat_of_nonneg h4).symm⟩;subst h1 h3;refine kR (s:=false) (W:=W) (r:=⟨a,b,c,d⟩) h2 ?_;rw[show oz R (ν e)=(R.eraseIdx e).length from rfl,show qA R (ν e)=R.eraseIdx e from rfl]at hq;cases h:R.eraseIdx e<;>rw[h]at hq<;>exact hq
 . cases hv
theorem aow:cu Tryz.prog (cH cfg kB) (Cw cfg [.a (bh R) false none]) (lb 162 3) 85 [0,3,9,10,11] (Du R):=by
 intro vs o t Q hv hq J;unfold Du at hv;split at hv
 . rename_i n K dn i a b c d;cases hv;replace hq:=cO hq;obtain⟨⟨h1,h2,h3,h4,h5,-⟩,hq⟩:=hq;rw[aJ]at h1;rw[al]at h2;replace h3:=yl h3;rw[ao]at h4;rw[al]at h5;subst h1 h3 h4;refine kI (s:=true) (W:=[]) (r:=⟨a,b,c,d⟩) h2 ?_;have hg:=@aic ⟨a,b,c,d⟩ R;unfold aaY at hq;cases h:q9 ⟨a,b,c,d⟩ R with
   | nil=>rw[h,List.length_nil]at hg;omega
   | cons y L=>rw[h]at hq;exact hq
 . cases hv
theorem aoA:cu Tryz.prog (cH cfg kB) (Cw cfg [.a (bh W) false none]) (lb 162 3) 85 [0,3,9,10,11] (Dv):=by
 intro vs o t Q hv hq J;unfold Dv at hv;split at hv
 . rename_i n dn i v a b c d;cases hv;replace hq:=cO hq;obtain⟨⟨hr,h1,h2,h3,h4,h5,-⟩,hq⟩:=hq;obtain⟨R,rfl⟩:∃R,v=bh R:=⟨g8 v,(hZ hr).symm⟩;rw[mZ]at *;rw[aJ]at h1;rw[al]at h2;replace h3:=yl h3;rw[ao]at h4;rw[al]at h5;subst h1 h3 h4;refine kI (s:=false) (W:=W) (r:=⟨a,b,c,d⟩) h2 ?_;have hg:=@aic ⟨a,b,c,d⟩ R;unfold aaY at hq;cases h:q9 ⟨a,b,c,d⟩ R with
   | nil=>rw[h,List.length_nil]at hg;omega
   | cons y L=>rw[h]at hq;exact hq
 . cases hv
theorem apR:cu Tryz.prog (cH cfg kB) (Cw cfg [.a (bh W) false none]) (lb 162 1) 85 [0,3,5,6] EW:=by
 intro vs o t Q hv hq J;unfold EW at hv;split at hv
 . rename_i kt cs;cases hv;refine ia aag rfl rfl ai (ι:=Unit) (λ_=>[.d,.h 15 0,kt,.a .i64 0]) (λ_=>⟨1,[.a cs true none],[]⟩) (λ_=>0) 1 (λ_=>ο _) (λx J=>?_) (ο _) (λJ=>Wk.a0 ⟨(),J,rfl⟩) J;refine eD λQ' hQ=>cg ((SO (bh W) cs kt J).mpr ?_);exact hQ _ ⟨_,_,VW.a0,hq⟩
 grind
theorem ao6:cu Tryz.prog (cH cfg kB) (Cw cfg [.a (bh W) false none]) (lb 162 3) 85 [0,3,9,10,11] DJ:=by
 intro vs o t Q hv hq J;unfold DJ at hv;split at hv
 . rename_i dn cs;cases hv;refine ia aag rfl rfl ai (ι:=Unit) (λ_=>[.d,.h 15 0,.d,dn,.a .i64 0]) (λ_=>⟨1,[.a cs true none],[]⟩) (λ_=>0) 1 (λ_=>ο _) (λx J=>?_) (ο _) (λJ=>Wk.a0 ⟨(),J,rfl⟩) J;refine eD λQ' hQ=>cg ((Sr (bh W) cs dn J).mpr ?_);exact hQ _ ⟨_,_,VW.a0,hq⟩
 grind
def W1:Nat->List Rn->Rn->List Rn×Rn
 | 0,l,r=>(l,r)
 | k+1,l,r=>bif ab 0 (fA l r l.length)then W1 k (l.eraseIdx (fA l r l.length).toNat) (fD (l.getD (fA l r l.length).toNat fo) r)else(l,r)
def jF(l:List Rn)(r:Rn):List Rn:=(W1 l.length l r).1
def f_(l:List Rn)(r:Rn):Rn:=(W1 l.length l r).2
def oM(l:List Rn)(r:Rn):Nat:=(jF l r).length
def aaJ(l:List Rn)(r:Rn):List Rn:=aaQ (f_ l r) (jF l r)
def El(R:List Rn)(r:Rn):dW:=λ
 | [.b 14 0 n K,.h 15 0],⟨1,[.a [.a .i8 a,.a .i64 b,.a .i8 c,.a .i64 d] true none],[]⟩=>some (aH [ξ R.length n,π n 1000,af .i64 r.d,aa a r.a,aa b r.b,aa c r.c,aa d r.d] (.d0 (ab 0 (fA R r R.length)) λt=>bif t then
    (.d0 (ξ (oM R r) 0) λz=>bif z then .a0 (.b 0,[.d,.h 15 0],⟨1,[aah (f_ R r)],[]⟩)else .a0 (.b 0,[.b 16 0 (oM R r) (.a 0),.h 15 0],⟨2,[.a (bh (jF R r)) true (some 4),aah (f_ R r)],[]⟩))
    else .a0 (.b 0,[.b 14 0 n K,.h 15 0],⟨1,[aah r],[]⟩)))
 | _,_=>none
def sE(v u:dW):dW:=λvs o=>match v vs o with
 | some t=>some t
 | none=>u vs o
def MR(R:List Rn):cx:=iz (iz jE 2 (d9 85 [0,3,5,6] (sE (EA R) (sE EV EW)))) 4 (d9 85 [0,3,5,7,8] (sE (Er R) Ey))
def MV(R:List Rn)(r:Rn):cx:=iz (iz jE 0 (d9 85 [0,3] (El R r))) 6 (d9 85 [0,3,9,10,11] (sE (Du R) (sE Dv DJ)))
theorem acd{R:List Rn}{r:Rn}:∀{n:Nat},ab 0 (fA R r n)->∃i,i<n/\fA R r n=ν i/\abV (R.getD i fo) r=true
 | 0,h=>by cases h
 | n+1,h=>by
   unfold fA at h ⊢;cases ht:abV (R.getD n fo) r with
   | true=>grind
   | false=>
     rw[ht,cond_false]at h;rw[cond_false];obtain⟨i,h1,h2,h3⟩:=acd h;grind
theorem aeL{R:List Rn}{r:Rn}:∀{n:Nat},ab 0 (fA R r n)=false->∀i,i<n->abV (R.getD i fo) r=false
 | 0,_,i,hi=>absurd hi (Nat.not_lt_zero i)
 | n+1,h,i,hi=>by
   unfold fA at h;cases ht:abV (R.getD n fo) r with
   | true=>
     grind [bF]
   | false=>
     rw[ht,cond_false]at h;by_cases e:i=n
     . grind
     . exact aeL h i (by omega)
theorem adJ(h:ab 0 (fA L r L.length)=false):∀n,W1 n L r=(L,r)
 | 0=>rfl
 | n+1=>by grind [W1]
theorem adB(h:ab 0 (fA L r L.length)):∃i,i<L.length/\(fA L r L.length).toNat=i/\abV (L.getD i fo) r/\(L.eraseIdx i).length+1=L.length/\W1 L.length L r=W1 (L.eraseIdx i).length (L.eraseIdx i) (fD (L.getD i fo) r):=by
 grind [acd,W1]
theorem abh:∀{R:List Rn},eJ (bh R)=R.all λx=>af .i64 x.b&&af .i64 x.d
 | []=>rfl
 | r::R=>by
   show(af .i64 r.b&&(af .i64 r.d&&eJ (bh R)))=_;rw[abh,List.all_cons,Bool.and_assoc]
theorem aez(h:eJ (bh R)):pF R=true:=by
 grind [abh,pF]
theorem abF(h:eJ (bh R)):eJ (bh (R.eraseIdx i))=true:=by
 grind [abh,List.eraseIdx_sublist]
theorem wy(h:eJ (bh R))(hi:i<R.length):af .i64 (R.getD i fo).b/\af .i64 (R.getD i fo).d=true:=by
 grind [abh]
theorem ad8{q:Rn}(h1:af .i64 q.b/\af .i64 q.d)(h2:af .i64 r.b/\af .i64 r.d):af .i64 (fD q r).b/\af .i64 (fD q r).d=true:=by
 grind [fD]
theorem adj{P:Program}{cfg':cL}{C:bg}{c:Code}{tn:Nat}{rel:List Nat}{v u:dW}(h1:cu P cfg' C c tn rel v)(h2:cu P cfg' C c tn rel u):cu P cfg' C c tn rel (sE v u):=by
 intro vs o t Q hv hq J;unfold sE at hv;cases h:v vs o with
 | some t'=>rw[h]at hv;cases hv;exact h1 vs o _ Q h hq J
 | none=>rw[h]at hv;exact h2 vs o t Q hv hq J
theorem akK:ec eS 162=some (dH 162,aL 162):=by rfl
theorem aiE:(bz (aL 162)).map (·.1)=[0,2,4,6]:=by rfl
theorem ajk:(bz (lb 162 0)).map (·.1)=[2,4]:=by rfl
theorem aij:((bz (lb 162 0)).getD 0 (0,.skip)).2=lb 162 1:=by rfl
theorem ahg:((bz (lb 162 0)).getD 1 (0,.skip)).2=lb 162 2:=by rfl
theorem amu:qI Tryz.prog (cH cfg kB) (Cw cfg [.a (bh R) false none]) (MR R) (lb 162 0):=by
 refine dv ajk λi hi e he st Q hw=>?_;have hi:i=0\/i=1:=by grind
 rcases hi with rfl|rfl
 . cases he;rw[aij];exact bR (cC.a0 aag) (by decide) rfl (adj ap0 (adj ao8 apR)) hw
 . cases he;rw[ahg];exact bR (cC.a0 aag) (by decide) rfl (adj aqn aqb) hw
theorem aaT{b:Nat}(h:L≠[]){B:List cD}:aey b L=.b b 0 L.length (.a 0)/\adH n B L=⟨n+1,.a (bh L) true (some 4)::B,[]⟩:=by
 cases L with
 | nil=>grind
 | cons q p=>exact⟨rfl,rfl⟩
theorem R_(hR:eJ (bh R))(h1:1<=R.length):∀{r:Rn},af .i64 r.b->cu Tryz.prog (cH cfg kB) (Cw cfg [.a (bh R) false none]) (lb 162 0) 85 [0,3] (El R r):=by
 intro r0 hr0;have hw:=@jz R;intro vs o t Q hv hq J;unfold El at hv;split at hv
 . rename_i n K a b c d;cases hv;replace hq:=cO hq;obtain⟨⟨k1,k2,k3,k4,k5,k6,k7,-⟩,hq⟩:=hq;rw[aJ]at k1;rw[al]at k2;rw[ao]at k4 k5 k6 k7;subst k1 k4 k5 k6 k7;replace hq:=hq;have hB:af .i64 r0.d=true:=k3;refine ia aag rfl rfl amu (ι:=Option {x:List Rn×Rn // eJ (bh x.1)/\(af .i64 x.2.b/\af .i64 x.2.d=true)/\W1 x.1.length x.1 x.2=W1 R.length R r0/\ab 0 (fA R r0 R.length)/\x.1.length<R.length})
    (λx=>match x with|none=>[.b 14 0 R.length K,.h 15 0]|some y=>[aey 16 y.1.1,.h 15 0])
    (λx=>match x with|none=>⟨1,[aah r0],[]⟩|some y=>adH 1 [aah y.1.2] y.1.1) (λx=>match x with|none=>R.length|some y=>y.1.1.length) 1 (λx=>?_) (λx J=>?_) (ο _) (λJ=>Wk.a0 ⟨none,J,rfl⟩) J
   . grind [ait]
   have kk:∀(a:IntKind) (n:Int),eB a (.a a n)=true:=λa n=>by cases a<;>rfl
   have io:∀(a:IntKind) (n:Int),dx (.a a n)=n:=λ_ _=>rfl;have bb:∀n:Nat,ξ n n=true:=λn=>aJ.mpr rfl;cases x with
   | none=>
     dsimp only;refine jJ (bE 11111111114202200544444214004424) (R:=λQ=>(λ(A F:AV)(C E G H N:Bool)(I:Nat)=>(λ(O:Bool)(P:Nat)=>(λ(T:AV)(U:Nat)=>(λ(W:AV)(V:Bool)(Y:Nat)=>(λ(u0 u1:AV)(Z:Bool)=>(λ(u2 u3:Bool)(B:Rn)=>(λ(u4:cD)=>(C->G/\(pF R->(H->(∀J1:Nat->Value,(O->Q (.b 0,[.b 14 0 R.length K,F],⟨1,[.a [.a .i8 (Rn.a r0),.a .i64 (Rn.b r0),.a .i8 (Rn.c r0),.a .i64 (Rn.d r0)] true none],[]⟩))/\(O=false->E/\(aS I R.length->(V->(Z->(u2->(u3->C/\G/\E/\(N->(∀J2:Nat->Value,Q (.a,[.d,F],⟨1,[u4],[]⟩)))/\(N=false->(∀J2:Nat->Value,Q (.a,[.b 16 0 (oz R (fA R r0 R.length)) (fg.a 0),F],⟨2,[.a (bh (qA R (fA R r0 R.length))) true (some 4),u4],[]⟩))))/\(u3=false->False))/\(u2=false->False))/\(Z=false->False))/\(V=false->False))/\(aS I R.length=false->False))))/\(H=false->False))/\(pF R=false->False))/\(C=false->False)) (.a [.a .i8 (Rn.a B),.a .i64 (Rn.b B),.a .i8 (Rn.c B),.a .i64 (Rn.d B)] true none)) (eB .i8 u0) (eB .i64 u1) (fD (Rn.mk (dx T) (dx W) (dx u0) (dx u1)) r0)) (ς (bh R) Y A) (ς (bh R) (σ Y 1) A) (eB .i64 W)) (ς (bh R) U A) (eB .i8 T) (σ U 1)) (ς (bh R) P A) (σ P 1)) (not E) (σ 0 (HMul.hMul I 4))) (.c []) (.h 15 0) (ξ R.length R.length) (ab 0 (fA R r0 R.length)) (π R.length 1000) (af .i64 (Rn.d r0)) (ξ (oz R (fA R r0 R.length)) 0) (Int.toNat (fA R r0 R.length))) (λ_=>by kernel_rfl) λQ' hQ=>?_;try dsimp only
     have hD:=aez hR;have hn:=al.mpr k2;cases ht:ab 0 (fA R r0 R.length)with
     | false=>
       rw[ht]at hq;have fin:=hQ (AX.b 0,([.b 14 0 R.length K,.h 15 0],⟨1,[aah r0],[]⟩)) ⟨_,_,VW.a0,hq⟩;simp only[bb,hn,hD,hB,τ,υ,true_and,and_true,true_imp_iff,reduceCtorEq,false_imp_iff];exact λ_=>fin
     | true=>
       obtain⟨i,i1,i2,i3,i4,i5⟩:=adB ht;obtain⟨f1,f2,f3,f4⟩:=acG i1;have hj:=ad8 (wy hR i1) ⟨hr0,hB⟩;have go:∀vs o,VW cfg (Cw cfg [.a (bh R) false none]) 1 85 [0,3] vs o [aey 16 (R.eraseIdx i),.h 15 0] (adH 1 [aah (fD (R.getD i fo) r0)] (R.eraseIdx i))->Q' (AX.a,(vs,o)):=λvs o h=>hQ _ ⟨some ⟨(R.eraseIdx i,fD (R.getD i fo) r0),abF hR,hj,i5.symm,ht,by grind⟩,by grind,h⟩;unfold oz qA;rw[i2];have hl:aS i R.length=true:=aU.2 i1;simp only[f1,f2,f3,f4,kk,io,bb,hn,hD,hB,hl,τ,υ,true_and,and_true,true_imp_iff,reduceCtorEq,false_imp_iff];intro _;cases hz:R.eraseIdx i with
       | nil=>
         rw[hz]at go;exact⟨λ_ _=>go _ _ VW.a0,λh=>(by cases h)⟩
       | cons q p=>
         rw[hz]at go;exact⟨λh=>(by cases h),λ_ _=>go _ _ VW.a0⟩
   | some y=>
     obtain⟨⟨L,r⟩,hL,hr,hp,hs,hl⟩:=y;dsimp only at hL hr hp hl ⊢;rw[hs]at hq;have ends:ab 0 (fA L r L.length)=false->jF R r0=L/\f_ R r0=r:=λh=>by
      unfold jF f_;rw[<-hp,adJ h];exact⟨rfl,rfl⟩
     by_cases hne:L=[]
     . subst hne;refine jJ (.e .z) (R:=λQ=>∀J1:Nat->Value,Q (.b 0,[.d,.h 15 0],⟨1,[.a [.a .i8 r.1,.a .i64 r.2,.a .i8 r.3,.a .i64 r.4] true none],[]⟩)) (λ_=>by kernel_rfl) λQ' hQ=>?_;try dsimp only
       obtain⟨e1,e2⟩:=ends rfl;intro _;refine hQ (AX.b 0,([.d,.h 15 0],⟨1,[aah r],[]⟩)) ⟨_,_,VW.a0,?_⟩;unfold oM at hq;rw[e1,e2]at hq;exact hq
     . rw[(aaT (b:=16) (n:=1) (B:=[aah r]) hne).1,(aaT (b:=16) (n:=1) (B:=[aah r]) hne).2];have hpos:0<L.length:=List.length_pos_iff.2 hne;refine jJ (bE 111111111114207005444442140044244) (R:=λQ=>(λ(B F:AV)(E I N:Bool)(A:List Rn)=>(λ(T:cD)(G H P:Bool)(O:Nat)=>(λ(U:Bool)(V:Nat)=>(λ(W:AV)(Y:Nat)=>(λ(u0:AV)(Z:Bool)(u1:Nat)=>(λ(u3 u4:AV)(u2:Bool)=>(λ(u5 u6:Bool)(C:Rn)=>(λ(u7:cD)=>(E->(G->I/\(pF A->(N->(∀J1:Nat->Value,(U->Q (.b 0,[.b 16 0 L.length (fg.a 0),F],⟨2,[.a (bh L) true (some 4),.a [.a .i8 (Rn.a r),.a .i64 (Rn.b r),.a .i8 (Rn.c r),.a .i64 (Rn.d r)] true none],[]⟩))/\(U=false->H/\(aS O L.length->(Z->(u2->(u5->(u6->E/\G/\I/\H/\(P->(∀J2:Nat->Value,Q (.a,[.d,F],⟨2,[T,u7],[]⟩)))/\(P=false->(∀J2:Nat->Value,Q (.a,[.b 17 0 (oz A (fA A r L.length)) (fg.a 0),F],⟨3,[.a (bh (qA A (fA A r L.length))) true (some 4),T,u7],[]⟩))))/\(u6=false->False))/\(u5=false->False))/\(u2=false->False))/\(Z=false->False))/\(aS O L.length=false->False))))/\(N=false->False))/\(pF A=false->False))/\(G=false->False))/\(E=false->False)) (.a [.a .i8 (Rn.a C),.a .i64 (Rn.b C),.a .i8 (Rn.c C),.a .i64 (Rn.d C)] true none)) (eB .i8 u3) (eB .i64 u4) (fD (Rn.mk (dx W) (dx u0) (dx u3) (dx u4)) r)) (ς (bh L) u1 B) (ς (bh L) (σ u1 1) B) (eB .i64 u0)) (ς (bh L) Y B) (eB .i8 W) (σ Y 1)) (ς (bh L) V B) (σ V 1)) (not H) (σ 0 (HMul.hMul O 4))) (.a (bh A) true (some 4)) (ξ A.length L.length) (ab 0 (fA A r L.length)) (ξ (oz A (fA A r L.length)) 0) (Int.toNat (fA A r L.length))) (.c []) (.h 15 0) (eJ (bh L)) (π L.length 1000) (af .i64 (Rn.d r)) (g8 (bh L))) (λ_=>by kernel_rfl) λQ' hQ=>?_;try dsimp only
       rw[mZ];have hD:=aez hL;have hn:π L.length 1000=true:=al.mpr (by omega);cases ht:ab 0 (fA L r L.length)with
       | false=>
         obtain⟨e1,e2⟩:=ends ht;have fin:=hQ (AX.b 0,([.b 16 0 L.length (.a 0),.h 15 0],⟨2,[.a (bh L) true (some 4),aah r],[]⟩)) ⟨_,_,VW.a0,by
          unfold oM at hq;rw[e1,e2]at hq;have hz:ξ L.length 0=false:=b9.mpr (by omega);simp only[Tr.wp]at hq;rw[hz]at hq;exact hq⟩
         simp only[bb,hn,hD,hL,hr.2,τ,υ,true_and,and_true,true_imp_iff,reduceCtorEq,false_imp_iff];exact λ_=>fin
       | true=>
         obtain⟨i,i1,i2,i3,i4,i5⟩:=adB ht;obtain⟨f1,f2,f3,f4⟩:=acG i1;have hj:=ad8 (wy hL i1) hr;have go:∀vs o,VW cfg (Cw cfg [.a (bh R) false none]) 1 85 [0,3] vs o [aey 16 (L.eraseIdx i),.h 15 0] (adH 1 [aah (fD (L.getD i fo) r)] (L.eraseIdx i))->Q' (AX.a,(vs,o)):=λvs o h=>hQ _ ⟨some ⟨(L.eraseIdx i,fD (L.getD i fo) r),abF hL,hj,by rw[<-hp];exact i5.symm,hs,by dsimp only;omega⟩,by dsimp only;omega,h⟩;unfold oz qA;rw[i2];have hl2:aS i L.length=true:=aU.2 i1;simp only[f1,f2,f3,f4,kk,io,bb,hn,hD,hL,hr.2,hl2,τ,υ,true_and,and_true,true_imp_iff,reduceCtorEq,false_imp_iff];intro _;have hlow:∀z∈[aah (fD (L.getD i fo) r)],cR (14+1+1) z:=ajv;cases hz:L.eraseIdx i with
         | nil=>
           rw[hz]at go;exact⟨λ_ _=>go _ _ (ad6 (top:=[.a (bh L) true (some 4)]) hw rfl rfl hlow rfl),λh=>(by cases h)⟩
         | cons q p=>
           rw[hz]at go;refine⟨λh=>(by cases h),λ_ _=>go _ _ (af8 (k:=2) (top:=[.a (bh (q::p)) true (some 4),.a (bh L) true (some 4)]) hw rfl rfl (by decide) (by decide) rfl hlow hH rfl)⟩
 . cases hv
end Go.Ev
