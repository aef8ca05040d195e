import Derived.Test.YtcffhjfdlflbgaaGreatDoorP33
set_option linter.all false
open List renaming mem_cons_self->ν,mem_cons_of_mem->ξ,pairwise_singleton->π,getElem_mem->ς,mem_cons->σ
open Nat renaming beq->ο,ble->τ
open HAdd renaming hAdd->υ
set_option linter.all false
set_option maxRecDepth 100000
set_option maxHeartbeats 4000000
namespace Go.Ev
open Go Go.Proofs
variable{n k b i j:Nat}{S:aQ}{x y r:Rn}{a c:Int}{C:fg}{st:St}{ea la:Bool}{L:List It}{E:cD}{top:List cD}
noncomputable def wA(P:List Rn->Prop)(w:List AV)(n:Nat):Bool:=@decide (∃R:List Rn,bh R=w/\R.length=n/\P R) (Classical.propDecidable _)
noncomputable def FO(P:List Rn->Prop)(F:List Rn->List Rn):aav:=λ
 | [.c 14 0 n K],[.a w false none]=>some (aH [wA P w n] (.a0 (.d [.c 15 0 (F (g8 w)).length (.b (F (g8 w)).length),.a .i64 0],[.a (bh (F (g8 w))) true (some 4)])))
 | _,_=>none
noncomputable def TN(P:List Rn->Prop)(F:List Rn->List Rn):aQ:=eQ (eQ (d5 gZ 75 tZ) 25 (fl 14 [21] sI)) 31 (fl 14 [4] (FO P F))
def F6(L:List It)(ea la:Bool):cx:=iz jE 1 (d9 103 [1,2,3,5,6,34,35,36] (Do L ea la))
theorem OB(P:List Rn->Prop)(F:List Rn->List Rn)(w:List AV)(L:List It)(ea la:Bool)(n:Nat)(K:fg){Q:EQ->Prop}:gG Q (bT (TN P F) (F6 L ea la) [.a w false none] 7 [.h (fS 4 (.c 14 0 n K) ea la)]) (bE 106220022000705226666)=((λ(A B C E T:AV)(N:Int)(G:List AV)(I O:Nat)=>(λ(H U:List AV)=>(λ(V:Nat)=>(λ(W:cD)=>and true (and (τ (υ 0 I) w.length) (bc 14 U))/\abk U n 4 ea la/\ο L.length n/\ο n n/\aa N N/\bQ ea ea/\bQ la la/\(∀J1:Nat->Value,and true (and (τ (υ 0 O) G.length) (bc 14 H))/\wA P H n/\Q (.d [.c 19 0 1 (fg.b 1),C],⟨5,[W,W,.a (bh (F (g8 H))) true (some 4),.a G true (some 4),.a [.a .u8 4,E,E,B,C,C,B,B,A,A,A,A,E,E,B,C,C,B,B,A,A,A,A,E,E,B,C,C,B,B,A,A,A,.c 14 0 n K,.b ea,.b la] true none],[]⟩))) (.a [.a .u8 1,.c 17 0 V (fg.b V),E,E,B,C,C,B,B,A,A,A,A,T,C,T,C] true none)) (List.length (F (g8 H)))) (b_ G 0 O) (b_ w 0 I)) (.a .u8 0) (.e []) (.a .i64 0) (.b false) (.a .i8 0) (Int.ofNat n) (bh (km ea la L n)) (HMul.hMul n 21) (HMul.hMul n 4)):=by rfl
theorem afZ{P:List Rn->Prop}{w:List AV}:wA P w n=true↔∃R:List Rn,bh R=w/\R.length=n/\P R:=by
 grind [wA]
theorem mZ:∀{L:List Rn},g8 (bh L)=L
 | []=>rfl
 | r::L=>by simp only[bh,g8,mZ]
def wS(P:List Rn->Prop)(F:List Rn->List Rn):Prop:=∀R K,P R->bu Tryz.prog cfg 31 [.c 14 0 R.length K] [.a (bh R) false none] (.d [.c 15 0 (F R).length (.b (F R).length),.a .i64 0]) [.a (bh (F R)) true (some 4)]
theorem anG{P:List Rn->Prop}{F:List Rn->List Rn}(h:wS P F)(hS:ak Tryz.prog cfg S):ak Tryz.prog cfg (eQ S 31 (fl 14 [4] (FO P F))):=by
 refine bm hS (fW eb.lv Az λargs ws t r he hr=>?_);unfold FO at he;split at he
 . rename_i n K w;cases he;replace hr:=aF hr;obtain⟨⟨h1,-⟩,hr⟩:=hr;obtain⟨R,rfl,rfl,hp⟩:=afZ.1 h1;cases hr;rw[mZ];exact⟨h R K hp,λx hx=>by grind [hH]⟩
 grind
theorem amh{P:List Rn->Prop}{F:List Rn->List Rn}(h:wS P F):ak Tryz.prog cfg (TN P F):=anG h (ajV (afy aW))
theorem dL.fw{ws:List cD}(hw:∀x∈ws,cR 14 x){k:Int}{x:Da}{p b d:Int}{days:List AV}{rw:Bool}{g:Option Nat}{os:List cD}{kd kf l:Nat}(hd:kd<n)(hf:kf<n)(hne:kd≠kf)(h1:os.getD (n-1-kd) .b=.a days rw g)(h2:os.getD (n-1-kf) .b=.a (ft k (.c (14+ws.length+kd) 0 l C) x p a b c d) true none)(hlow:bw days=[]):dL ws (.d [.c (14+ws.length+1) 0 1 (.b 1),.a .i64 0]) [.a (ft k (.c (14+ws.length) 0 l C) x p a b c d) true none,.a days rw g] (.d [.c (14+ws.length+kf) 0 1 (.b 1),.a .i64 0],⟨n,os,[]⟩):=by
 have a1:(⟨n,os,[]⟩:aB).at kd=.a days rw g:=h1;have a2:(⟨n,os,[]⟩:aB).at kf=.a (ft k (.c (14+ws.length+kd) 0 l C) x p a b c d) true none:=h2;have nl:∀j,aS (14+ws.length+j) (14+ws.length)=false:=λj=>by grind [aU]
 have l1:To (14+ws.length) [(14+ws.length+kd,14+ws.length),(14+ws.length+kf,14+ws.length+1)] (14+ws.length+kd)=some (14+ws.length):=by
  grind [To,xx,gm]
 have l2:To (14+ws.length) [(14+ws.length+kd,14+ws.length),(14+ws.length+kf,14+ws.length+1)] (14+ws.length+kf)=some (14+ws.length+1):=by
  grind [To,xx,ic,gm]
 have hv':kG ((Cw cfg ws).lo+0) (eM (Cw cfg ws).lo 0 [kd,kf]) 20 (.d [.c (14+ws.length+kf) 0 1 (.b 1),.a .i64 0])=some (.d [.c (14+ws.length+1) 0 1 (.b 1),.a .i64 0]):=by
  show kG (14+ws.length) [(14+ws.length+kd,14+ws.length),(14+ws.length+kf,14+ws.length+1)] 20 _=_;simp_all [kG,yw,ob]
 refine(oX eb.lv (C:=Cw cfg ws) (st:=⟨.c0 (.d [.c (14+ws.length+kf) 0 1 (.b 1),.a .i64 0]) .b0 .b0,1,⟨n,os,[]⟩,[],none⟩) (kb:=0) (sel:=[kd,kf]) (ts':=.c0 (.d [.c (14+ws.length+1) 0 1 (.b 1),.a .i64 0]) .b0 .b0) (o':=⟨2,[.a (ft k (.c (14+ws.length) 0 l C) x p a b c d) true none,.a days rw g],[]⟩) (B6 hw) (Nat.zero_le _) (λs hs=>?_) (by grind) (λp hp=>by grind) rfl rfl rfl (λi hi=>absurd hi (Nat.not_lt_zero i)) (λt ht=>?_) ?_ (λd hd=>by grind) (λi hi=>by grind)).b0 λs hs=>?_
 . grind
 . have:t=0\/t=1:=by grind
   rcases this with rfl|rfl
   . refine .inl ⟨?_,?_⟩
     . grind [aB.at]
     . show cR (14+ws.length) (aB.at _ kd);rw[a1];exact⟨rfl,λi hi=>by grind [HL]⟩
   . refine .inr ⟨_,_,_,_,a2,?_,rfl⟩;show yw (kG (14+ws.length) [(14+ws.length+kd,14+ws.length),(14+ws.length+kf,14+ws.length+1)] 20) _=_;simp only[ft,yw,kG,l1,ob]
 . simp only[xB,hv',ob]
 . rw[hs];exact⟨rfl,rfl⟩
theorem adh{S':aQ}{C:bg}{c:Code}{Q:AX×St->Prop}(h:bN Tryz.prog (cH cfg S) C c st Q):bN Tryz.prog (cH cfg S') C c st Q:=λD m a w hi ht K hK=>
 h D m a w (dX.to (cfg:=cH cfg S') (cfg':=cH cfg S) rfl rfl hi) ht K λr hr hro D' m' a' w' ht' he=>hK r hr hro D' m' a' w' ht' (dw.to (cfg:=cH cfg S) (cfg':=cH cfg S') rfl rfl he)
theorem ma:∀{R:List Rn},bc 14 (bh R)=true
 | []=>rfl
 | _::R=>ma (R:=R)
theorem Qt{P:List Rn->Prop}{F:List Rn->List Rn}(hR:wS P F){K:fg}(h:nI 4 ea la L)(hP:P (km ea la L L.length)):bu Tryz.prog cfg 7 [.h (fS 4 (.c 14 0 L.length K) ea la)] [.a (dp L) false none] (.d [.c 16 0 1 (.b 1),.a .i64 0]) [.a (ft 1 (.c 15 0 (F (km ea la L L.length)).length (.b (F (km ea la L L.length)).length)) gL 0 0 0 0 0) true none,.a (bh (F (km ea la L L.length))) true (some 4)]:=by
 refine abj (amh hR) (L:=F6 L ea la) abc (by simp) (dv afR λi hi e he st Q hw=>?_) (λ_=>OB P F (dp L) L ea la L.length K) λQ' hQ=>?_
 . have hi:i=0:=by grind
   subst hi;cases he;exact adh (bR (cC.a0 aj6) (by decide) rfl (ao2 h) hw)
 . try dsimp only
   have n1:=h.n1;have n2:=h.n2;have hB:abk (dp L) L.length 4 ea la=true:=rd.2 ⟨L,rfl,rfl,h⟩;have hl:(km ea la L L.length).length=L.length:=N2;have hRB:wA P (bh (km ea la L L.length)) L.length=true:=afZ.2 ⟨_,rfl,hl,hP⟩;have hw4:b_ (bh (km ea la L L.length)) 0 (L.length*4)=bh (km ea la L L.length):=by
    grind [b_,kC]
   have l1:τ (0+L.length*21) (dp L).length=true:=by rw[al,lh];omega
   have l2:τ (0+L.length*4) (bh (km ea la L L.length)).length=true:=by grind [al,kC]
   have l3:ο L.length L.length=true:=aJ.mpr rfl;have l4:∀b:Bool,bQ b b=true:=λb=>by cases b<;>rfl
   rw[qi,lU,hw4,ma,mZ,hB,l1,l2,l3];simp only[l4,hRB,Bool.and_true,true_and,and_true,true_imp_iff,reduceCtorEq,false_imp_iff];refine⟨aa0 _,λ_=>hQ _ ?_⟩;exact dL.fw dT (k:=1) (x:=gL) (p:=0) (a:=0) (b:=0) (c:=0) (d:=0) (kd:=2) (kf:=4) (by decide) (by decide) (by decide) rfl rfl sR
def rF(R:List Rn):List Rn:=aaO (aa8 R)
def rP(R:List Rn):Prop:=1<=R.length/\R.length<=6/\(∀x∈R,bA x.a x.b x.c x.d=0)/\∀x∈R,IJ x.b/\IJ x.d
theorem SP:wS rP rF:=λ_ _ ⟨h1,h2,hc,hi⟩=>fO h1 h2 hc hi
theorem abC{ng lg:Bool}{s:List UInt8}{e g:Int}{mo da:List UInt8}{b:Int}(h:fL ng lg s e g mo da a b c) : -3652425000000000002<=aP ng s e mo da/\aP ng s e mo da<=bq ng s e mo da/\bq ng s e mo da<=3652425000000002000:=by
 obtain⟨h6,_,_,_,_,h0,hx,_⟩:=ye.1 h;exact Gx (aaj h0 hx h6).2.2.2.2.1
theorem ahL{x:It}(h:aap 4 x) : -3652425000000000002<=oB x/\oB x<=mw x/\mw x<=3652425000000002000:=by
 obtain⟨x1,x2⟩:=ajr h;have b1:=abC x1;unfold oB mw;cases hr:x.r with
 | false=>grind
 | true=>
   rw[cond_true];have b2:=abC (x2 hr);grind [aap,mB,mV,aq]
theorem akS{x:It}(h:aap 4 x):bA (kW ea la x).a (kW ea la x).b (kW ea la x).c (kW ea la x).d=0/\IJ (kW ea la x).b/\IJ (kW ea la x).d:=by
 have hb:=ahL h;grind [gA,kW,IJ]
theorem aef(h:nI 4 ea la L)(h5:L.length<=6):rP (km ea la L L.length):=by
 have key:∀x∈km ea la L L.length,bA x.a x.b x.c x.d=0/\IJ x.b/\IJ x.d:=λx hx=>by
  obtain⟨i,hi,rfl⟩:=List.mem_map.1 hx;exact akS (h.it i (List.mem_range.1 hi))
 exact⟨by rw[N2];exact h.n1,by rw[N2];omega,λx hx=>(key x hx).1,λx hx=>(key x hx).2⟩
theorem aqh{ea la:Bool}{L:List It}{K:fg}(h:nI 4 ea la L)(h5:L.length<=6):bu Tryz.prog cfg 7 [.h (fS 4 (.c 14 0 L.length K) ea la)] [.a (dp L) false none] (.d [.c 16 0 1 (.b 1),.a .i64 0]) [.a (ft 1 (.c 15 0 (rF (km ea la L L.length)).length (.b (rF (km ea la L L.length)).length)) gL 0 0 0 0 0) true none,.a (bh (rF (km ea la L L.length))) true (some 4)]:=Qt SP h (aef h h5)
structure tm(x:Rn):Prop where
 c:bA x.a x.b x.c x.d=0
 b1 : -4000000000000000000<=x.b
 b2:x.b<=4000000000000000000
 d1 : -4000000000000000000<=x.d
 d2:x.d<=4000000000000000000
def yy(x:Rn):Int:=if x.a = -1 then -5000000000000000000 else x.b
def fU(x:Rn):Int:=if x.c=1 then 5000000000000000000 else x.d
theorem tm.a0(h:tm x):(x.a=0/\yy x=x.b\/x.a = -1/\x.b=0/\yy x = -5000000000000000000)/\(x.c=0/\fU x=x.d\/x.c=1/\x.d=0/\fU x=5000000000000000000)/\yy x<=fU x:=by
 obtain⟨h0,h1,h2,h3,h4⟩:=h;grind [gA,yy,fU]
theorem adq(hx:tm x)(hy:tm y):iM x y=true↔yy x<yy y\/yy x=yy y/\fU x<fU y:=by
 have k1:=hx.a0;have k2:=hy.a0;obtain⟨-,b1,b2,d1,d2⟩:=hx;obtain⟨-,b3,b4,d3,d4⟩:=hy;have c1:=xF x.a x.b y.a y.b;have c2:=xF x.c x.d y.c y.d;simp[iM,In,bF];omega
theorem afS(hx:tm x)(hy:tm y):acE x y=true↔yy x<=fU y+1/\yy y<=fU x+1:=by
 have k1:=hx.a0;have k2:=hy.a0;obtain⟨q1,b1,b2,d1,d2⟩:=hx;obtain⟨q2,b3,b4,d3,d4⟩:=hy;have c1:=xF y.a y.b x.a x.b;have c2:=xF x.a x.b y.c y.d;have c3:=xF y.a y.b x.c x.d;have e1:=@Hr x.c x.d;have e2:=@Hr y.c y.d;unfold acE vz s6;rw[zAc];simp only[q1,q2,true_and];obtain⟨ka,kb,kc⟩:=k1;obtain⟨la,lb,lc⟩:=k2;rcases ka with⟨ka1,ka2⟩|⟨ka1,ka3,ka2⟩<;>rcases kb with⟨kb1,kb2⟩|⟨kb1,kb3,kb2⟩<;>rcases la with⟨la1,la2⟩|⟨la1,la3,la2⟩<;>rcases lb with⟨lb1,lb2⟩|⟨lb1,lb3,lb2⟩<;>omega
theorem afF(hx:tm x)(hy:tm y):tm (fD x y)/\yy (fD x y)=min (yy x) (yy y)/\fU (fD x y)=max (fU x) (fU y):=by
 have k1:=hx.a0;have k2:=hy.a0;obtain⟨q1,b1,b2,d1,d2⟩:=hx;obtain⟨q2,b3,b4,d3,d4⟩:=hy;have c1:=xF y.a y.b x.a x.b;have c2:=xF y.c y.d x.c x.d;rw[gA]at q1 q2;have hA:(0<=gc y.a y.b x.a x.b/\(fD x y).a=x.a/\(fD x y).b=x.b)\/(¬0<=gc y.a y.b x.a x.b/\(fD x y).a=y.a/\(fD x y).b=y.b):=by
  unfold fD;grind [bF]
 have hB:(gc y.c y.d x.c x.d<=0/\(fD x y).c=x.c/\(fD x y).d=x.d)\/(¬gc y.c y.d x.c x.d<=0/\(fD x y).c=y.c/\(fD x y).d=y.d):=by
  unfold fD;grind [bF]
 generalize fD x y=r at *;have hO:tm r:=⟨by rw[gA];omega,by omega,by omega,by omega,by omega⟩;have k3:=hO.a0;clear q1 q2;exact⟨hO,by omega,by omega⟩
def adA(x:Rn)(n:Int):Prop:=yy x<=n/\n<=fU x
def xb(L:List Rn)(n:Int):Prop:=∃x,x∈L/\adA x n
structure aaw(L:List Rn):Prop where
 o:∀x∈L,tm x
 p:L.Pairwise λx y=>fU x+1<yy y
theorem tm.b0(hx:tm x)(hy:tm y)(h1:yy x=yy y)(h2:fU x=fU y):x=y:=by
 have k1:=hx.a0;have k2:=hy.a0;obtain⟨-,b1,b2,d1,d2⟩:=hx;obtain⟨-,b3,b4,d3,d4⟩:=hy;obtain⟨a,b,c,d⟩:=x;obtain⟨a',b',c',d'⟩:=y;grind
theorem aaw.b0{L:List Rn}(h:aaw (x::L)):aaw L:=⟨λy hy=>h.o y (ξ _ hy),(List.pairwise_cons.1 h.p).2⟩
theorem aaw.a0{L:List Rn}(h:aaw (x::L)):∀y∈L,fU x+1<yy y:=(List.pairwise_cons.1 h.p).1
theorem aaw.lo{L:List Rn}(h:aaw (x::L)){n:Int}(hn:xb (x::L) n):yy x<=n:=by
 obtain⟨y,hy,h1,h2⟩:=hn;rcases List.mem_cons.1 hy with rfl|hy
 . omega
 . have:=h.a0 y hy;have:=(h.o x ν).a0.2.2;omega
theorem ahN:∀{L M:List Rn},aaw L->aaw M->(∀n,xb L n↔xb M n)->L=M
 | [],[],_,_,_=>rfl
 | [],y::M,_,hM,h=>by
   have hy:=(hM.o y ν).a0.2.2;obtain⟨z,hz,_⟩:=(h (yy y)).2 ⟨y,ν,Int.le_refl _,hy⟩;grind
 | x::L,[],hL,_,h=>by
   have hx:=(hL.o x ν).a0.2.2;obtain⟨z,hz,_⟩:=(h (yy x)).1 ⟨x,ν,Int.le_refl _,hx⟩;grind
 | x::L,y::M,hL,hM,h=>by
   have ox:=hL.o x ν;have oy:=hM.o y ν;have hx:=ox.a0.2.2;have hy:=oy.a0.2.2;have l1:=hM.lo ((h (yy x)).1 ⟨x,ν,Int.le_refl _,hx⟩);have l2:=hL.lo ((h (yy y)).2 ⟨y,ν,Int.le_refl _,hy⟩);have e1:yy x=yy y:=by omega
   have e2:fU x=fU y:=by
    rcases Int.lt_trichotomy (fU x) (fU y)with k|k|k
    . obtain⟨z,hz,z1,z2⟩:=(h (fU x+1)).2 ⟨y,ν,by omega,by omega⟩;rcases List.mem_cons.1 hz with rfl|hz
      . omega
      . have:=hL.a0 z hz;omega
    . omega
    . obtain⟨z,hz,z1,z2⟩:=(h (fU y+1)).1 ⟨x,ν,by omega,by omega⟩;rcases List.mem_cons.1 hz with rfl|hz
      . omega
      . have:=hM.a0 z hz;omega
   obtain rfl:=ox.b0 oy e1 e2;rw[ahN hL.b0 hM.b0 λn=>?_];constructor
   . rintro⟨z,hz,z1,z2⟩;have hh:=hL.a0 z hz;obtain⟨u,hu,u1,u2⟩:=(h n).1 ⟨z,ξ _ hz,z1,z2⟩;rcases List.mem_cons.1 hu with rfl|hu
     . omega
     . exact⟨u,hu,u1,u2⟩
   . rintro⟨z,hz,z1,z2⟩;have hh:=hM.a0 z hz;obtain⟨u,hu,u1,u2⟩:=(h n).2 ⟨z,ξ _ hz,z1,z2⟩;rcases List.mem_cons.1 hu with rfl|hu
     . omega
     . exact⟨u,hu,u1,u2⟩
theorem aca{x y:Rn}:∀{L:List Rn},y∈aaI x L↔y=x\/y∈L
 | []=>by simp[aaI]
 | z::zs=>by
   unfold aaI;cases iM x z with
   | true=>rw[cond_true,σ,aca,σ];grind
   | false=>simp
theorem adS{x:Rn}(hx:tm x):∀{L:List Rn},(∀y∈L,tm y)->L.Pairwise (λa b=>yy b<=yy a)->(aaI x L).Pairwise (λa b=>yy b<=yy a)
 | [],_,_=>π _ _
 | z::zs,ho,hp=>by
   obtain⟨h1,h2⟩:=List.pairwise_cons.1 hp;have hz:=ho z ν;unfold aaI;cases hl:iM x z with
   | true=>
     rw[cond_true];have hl:=(adq hx hz).1 hl;refine List.pairwise_cons.2 ⟨λb hb=>?_,adS hx (λy hy=>ho y (ξ _ hy)) h2⟩;grind [aca]
   | false=>
     grind [adq,List.pairwise_cons]
theorem ac5:∀{L acc:List Rn},(∀y∈L,tm y)->(∀y∈acc,tm y)->acc.Pairwise (λa b=>yy b<=yy a)->(L.foldl (λacc x=>aaI x acc) acc).Pairwise (λa b=>yy b<=yy a)/\∀y,y∈L.foldl (λacc x=>aaI x acc) acc↔y∈acc\/y∈L
 | [],acc,_,_,hp=>⟨hp,λy=>by simp⟩
 | x::L,acc,hL,ha,hp=>by
   have hx:=hL x ν;obtain⟨h1,h2⟩:=ac5 (L:=L) (acc:=aaI x acc) (λy hy=>hL y (ξ _ hy)) (λy hy=>by grind [aca]) (adS hx ha hp);grind [aca]
theorem ae8{L:List Rn}(hL:∀y∈L,tm y):(aa8 L).Pairwise (λa b=>yy a<=yy b)/\∀y,y∈aa8 L↔y∈L:=by
 simp_all [ac5,List.pairwise_reverse,aa8,aeI]
structure agu(acc:List Rn):Prop where
 o:∀x∈acc,tm x
 p:acc.Pairwise λy x=>fU x+1<yy y
theorem agu.a0{acc:List Rn}(h:agu acc)(hr:tm r)(hl:∀x∈acc,yy x<=yy r):agu (q8 acc r)/\(∀n,xb (q8 acc r) n↔xb acc n\/adA r n)/\∀s,yy r<=s->∀x∈q8 acc r,yy x<=s:=by
 cases acc with
 | nil=>
   refine⟨⟨λx hx=>by rw[List.mem_singleton.1 hx];omega,π _ _⟩,λn=>?_,λs hs x hx=>by rw[List.mem_singleton.1 hx];omega⟩;unfold xb;constructor
   . rintro⟨x,hx,hd⟩;rw[List.mem_singleton.1 hx]at hd;grind
   . rintro(⟨x,hx,_⟩|hd)
     . grind
     . exact⟨r,List.mem_singleton.2 rfl,hd⟩
 | cons q p=>
   have hq:=h.o q ν;have hp:∀x∈p,tm x:=λx hx=>h.o x (ξ _ hx);obtain⟨p1,p2⟩:=List.pairwise_cons.1 h.p;have lq:=hl q ν;have cq:=hq.a0.2.2;have cr:=hr.a0.2.2;have ht:=afS hq hr;show agu (bif acE q r then fD q r::p else r::q::p)/\(∀n,xb (bif acE q r then fD q r::p else r::q::p) n↔_)/\∀s,yy r<=s->∀x∈(bif acE q r then fD q r::p else r::q::p),yy x<=s;cases hb:acE q r with
   | true=>
     rw[cond_true];have ht:=ht.1 hb;obtain⟨j1,j2,j3⟩:=afF hq hr;have j2:yy (fD q r)=yy q:=by omega
     refine⟨⟨λx hx=>?_,List.pairwise_cons.2 ⟨λx hx=>?_,p2⟩⟩,λn=>?_,λs hs x hx=>?_⟩<;>grind [xb,adA,ν]
   | false=>
     rw[cond_false];have ht:¬(yy q<=fU r+1/\yy r<=fU q+1):=λk=>by grind
     refine⟨⟨λx hx=>?_,List.pairwise_cons.2 ⟨λx hx=>?_,h.p⟩⟩,λn=>?_,λs hs x hx=>?_⟩<;>grind [xb]
theorem ac7:∀{R acc:List Rn},agu acc->(∀x∈R,tm x)->R.Pairwise (λa b=>yy a<=yy b)->(∀r∈R,∀x∈acc,yy x<=yy r)->agu (R.foldl q8 acc)/\∀n,xb (R.foldl q8 acc) n↔xb acc n\/xb R n
 | [],acc,ha,_,_,_=>⟨ha,λn=>by
   refine⟨.inl,?_⟩;rintro(h|⟨x,hx,_⟩)<;>grind⟩
 | r::R,acc,ha,hR,hp,hl=>by
   obtain⟨p1,p2⟩:=List.pairwise_cons.1 hp;obtain⟨s1,s2,s3⟩:=ha.a0 (hR r ν) (hl r ν);obtain⟨t1,t2⟩:=ac7 (R:=R) (acc:=q8 acc r) s1 (λx hx=>hR x (ξ _ hx)) p2 λu hu x hx=>s3 _ (p1 u hu) x hx;grind [xb]
theorem afK{L:List Rn}(hL:∀y∈L,tm y):aaw (aaO (aa8 L))/\∀n,xb (aaO (aa8 L)) n↔xb L n:=by
 obtain⟨h1,h2⟩:=ae8 hL;obtain⟨t1,t2⟩:=ac7 (R:=aa8 L) (acc:=[]) ⟨(λx hx=>(by grind)),List.Pairwise.nil⟩ (λx hx=>hL x ((h2 x).1 hx)) h1 (λr _ x hx=>(by grind));unfold aaO abL;refine⟨⟨λx hx=>t1.o x (List.mem_reverse.1 hx),List.pairwise_reverse.2 t1.p⟩,λn=>?_⟩;simp_all [xb]
def abV(q r:Rn):Bool:=ada q.a q.b q.c q.d r.a r.b r.c r.d
theorem aeM(hx:tm x)(hy:tm y):abV x y=true↔yy x<=fU y+1/\yy y<=fU x+1:=by
 have k1:=hx.a0;have k2:=hy.a0;obtain⟨q1,b1,b2,d1,d2⟩:=hx;obtain⟨q2,b3,b4,d3,d4⟩:=hy;grind [abV,ada,aat,abv,cP]
theorem ahV{l:List Rn}(h:aaw l)(hr:tm r)(hi:i<l.length)(ht:abV (l.getD i ek) r):aaw (l.eraseIdx i)/\tm (fD (l.getD i ek) r)/\∀n,(xb (l.eraseIdx i) n\/adA (fD (l.getD i ek) r) n)↔(xb l n\/adA r n):=by
 have e:l.getD i ek=l[i]:=by grind
 rw[e]at ht ⊢;have hm:l[i]∈l:=ς hi;have ho:=h.o _ hm;have ht:=(aeM ho hr).1 ht;obtain⟨j1,j2,j3⟩:=afF ho hr;have c1:=ho.a0.2.2;have c2:=hr.a0.2.2;have hs:=List.eraseIdx_sublist l i;refine⟨⟨λx hx=>h.o x (hs.subset hx),h.p.sublist hs⟩,j1,λn=>?_⟩;grind [xb,adA,List.getElem_of_mem,List.mem_eraseIdx_iff_getElem]
def aaQ(r:Rn):List Rn->List Rn
 | []=>[r]
 | y::ys=>bif iM r y then r::y::ys else y::aaQ r ys
theorem acb{r x:Rn}:∀{l:List Rn},x∈aaQ r l↔x=r\/x∈l
 | []=>by simp[aaQ]
 | y::ys=>by
   unfold aaQ;cases iM r y with
   | true=>simp
   | false=>rw[cond_false,σ,acb,σ];grind
theorem agf{r:Rn}(hr:tm r):∀{l:List Rn},aaw l->(∀x∈l,abV x r=false)->aaw (aaQ r l)
 | [],_,_=>⟨λx hx=>by rw[List.mem_singleton.1 hx];omega,π _ _⟩
 | y::ys,h,ht=>by
   have hy:=h.o y ν;have c1:=hy.a0.2.2;have c2:=hr.a0.2.2;have ty:¬(yy y<=fU r+1/\yy r<=fU y+1):=λk=>by
    grind [ν,aeM]
   unfold aaQ;cases hl:iM r y with
   | true=>
     rw[cond_true];have hl:=(adq hr hy).1 hl;refine⟨λx hx=>?_,List.pairwise_cons.2 ⟨λx hx=>?_,h.p⟩⟩
     . rcases List.mem_cons.1 hx with rfl|hx
       . omega
       . exact h.o x hx
     . rcases List.mem_cons.1 hx with rfl|hx
       . omega
       . have:=h.a0 x hx;omega
   | false=>
     rw[cond_false];have hl:¬(yy r<yy y\/yy r=yy y/\fU r<fU y):=λk=>by grind [adq]
     have ih:=agf hr h.b0 λx hx=>ht x (ξ _ hx);refine⟨λx hx=>?_,List.pairwise_cons.2 ⟨λx hx=>?_,ih.p⟩⟩
     . rcases List.mem_cons.1 hx with rfl|hx
       . omega
       . exact ih.o x hx
     . rcases acb.1 hx with rfl|hx
       . omega
       . exact h.a0 x hx
theorem aiB{l:List Rn}{n:Int}:xb (aaQ r l) n↔xb l n\/adA r n:=by
 grind [xb,acb]
theorem ai7{L:List Rn}(h:aaw L):jo L=0:=by
 unfold jo;refine xm λj _ hj=>?_;have hj:j<L.length:=by omega
 have e:L.getD j ek=L[j]:=by grind
 unfold qn LO;rw[e,if_pos (h.o _ (ς hj)).c,if_neg];rintro⟨h0,hc⟩;have hk:j-1<L.length:=by omega
 have e2:L.getD (j-1) ek=L[j-1]:=by grind
 rw[e2]at hc;have ho:=h.o _ (ς hj);have hp:=h.o _ (ς hk);have hlt:fU L[j-1]+1<yy L[j]:=List.pairwise_iff_getElem.1 h.p (j-1) j hk hj (by omega);have c1:=ho.a0.2.2;have c2:=hp.a0.2.2;rcases hc with hc|hc
 . have:=(adq hp ho).2 (by omega);grind [iM,bF]
 . have:=(afS hp ho).1 hc;omega
def mf(ea la:Bool)(L:List It)(i:Nat):Bool:=!(L.getD i fP).r&&(!(ea&&ο i 0)&&!(la&&ο (i+1) L.length))
def aba(ea la:Bool)(L:List It)(i:Nat):Bool:=mf ea la L i&&fy (L.getD i fP).f
def qb(ea la:Bool)(L:List It)(n i:Nat):cD:=bif aS i n&&aba ea la L i then .a (aab 0 (oB (L.getD i fP)) 0 (mw (L.getD i fP))) true none else .b
def abl(ea la:Bool)(L:List It)(i:Nat):List AV:=
 bif mf ea la L i then(bif ab 1 (L.getD i fP).f.g then ft 3 .f gL 1 0 (bf (jI (L.getD i fP).f.ng (L.getD i fP).f.s (L.getD i fP).f.e (L.getD i fP).f.g)) 0 (bf (jL (L.getD i fP).f.ng (L.getD i fP).f.s (L.getD i fP).f.e (L.getD i fP).f.g+1)-1)
  else bif fy (L.getD i fP).f then ft 1 (.c (16+i) 0 1 (.b 1)) gL 0 0 0 0 0
  else ft 2 .f ⟨(L.getD i fP).f.ng,(L.getD i fP).f.lg,(L.getD i fP).f.s,(L.getD i fP).f.e,0,(L.getD i fP).f.mo,(L.getD i fP).f.da,0,0,0⟩ 0 0 0 0 0)
 else ft 3 .f gL (dq (L.getD i fP).f.mo (L.getD i fP).f.da) (W2 ea la L i).a (W2 ea la L i).b (W2 ea la L i).c (W2 ea la L i).d
def aaf(ea la:Bool)(L:List It):Nat->List AV
 | 0=>[]
 | n+1=>aaf ea la L n++abl ea la L n
def D9(L:List It)(ea la:Bool):dW:=λvs o=>match vs with
 | [.g 15 0,.f,.a .i64 z,.f,.f,.c 14 0 n K,.a .i64 n',.a .i64 i]=>s7 o λk1 m K1 ea1 la1=>aH [ο L.length n,ο m n,aa n' (Int.ofNat n),aa i 0,aa z 0,aa k1 3,bQ ea1 ea,bQ la1 la] (.a0 (.b 1,[.g 15 0,.f,.a .i64 0,.c 22 0 n (.a 0),.f,.c 14 0 n K,.a .i64 n',.a .i64 (Int.ofNat n)],⟨8,[.a (aaf ea la L n) true (some 17),qb ea la L n 5,qb ea la L n 4,qb ea la L n 3,qb ea la L n 2,qb ea la L n 1,qb ea la L n 0,.a (fS 3 (.c 14 0 n K1) ea la) true none],[]⟩))
 | _=>none
def Gf(L:List It)(ea la:Bool):cx:=iz jE 1 (d9 103 [1,2,3,5,6,34,35,36] (D9 L ea la))
noncomputable def Hc:aQ:=eQ gZ 25 (fl 14 [21] sI)
theorem Pn(w:List AV)(L:List It)(ea la:Bool)(n:Nat)(K:fg){Q:EQ->Prop}:gG Q (bT Hc (Gf L ea la) [.a w false none] 7 [.h (fS 3 (.c 14 0 n K) ea la)]) (bE 17702030022000705226666)=((λ(A B C E N:AV)(G:Bool)(F:Int)(H I:Nat)=>(λ(O P:List AV)=>and true (and (τ (υ 0 H) w.length) (bc 14 O))/\abk O n 3 ea la/\ο L.length n/\ο n n/\aa F F/\bQ ea ea/\bQ la la/\(∀J1:Nat->Value,aa F 0=false/\τ n 10000/\G/\G/\G/\τ (υ 0 I) (List.length (aaf ea la L n))/\dM (List.take I (List.drop 0 (aaf ea la L n)))/\τ (υ 0 (List.length (List.take I (List.drop 0 (aaf ea la L n))))) P.length/\Q (.d [.c 23 0 n (fg.b n),C],⟨9,[.a (JL P 0 (List.take I (List.drop 0 (aaf ea la L n)))) true none,.a (aaf ea la L n) true (some 17),qb ea la L n 5,qb ea la L n 4,qb ea la L n 3,qb ea la L n 2,qb ea la L n 1,qb ea la L n 0,.a [.a .u8 3,E,E,B,C,C,B,B,A,A,A,A,E,E,B,C,C,B,B,A,A,A,A,E,E,B,C,C,B,B,A,A,A,.c 14 0 n K,.b ea,.b la] true none],[]⟩))) (b_ w 0 H) (mX [A,.f,E,E,B,C,C,B,B,A,A,A,A,N,C,N,C] n)) (.a .u8 0) (.e []) (.a .i64 0) (.b false) (.a .i8 0) (τ n n) (Int.ofNat n) (HMul.hMul n 21) (HMul.hMul n 17)):=by rfl
theorem aed{cfg:cL}{C:bg}{kb:Nat}{o':aB}(hn:st.o.n<=o'.n)(hlen:o'.os.length=o'.n)(hle:o'.le=st.o.le)(hat:∀i,i<st.o.n->o'.at i=st.o.at i):Wk cfg C kb st λs=>s=⟨st.ts,st.tn,o',st.ds,st.ro⟩:=by
 intro D m a w hi ht;have g:∀id,D id->get C o' id=get C st.o id:=λid hd=>by
  have hlt:=hi.lt id hd;grind [get,gB,jT]
 have inv:dX cfg D m C o' w:=by
  refine⟨λid hd=>by rw[g id hd];exact hi.a0 id hd,λi j h1 h2 h3 h4 h5=>hi.inj i j h1 h2 h3 (by grind) (by grind),λid hd=>by have:=hi.lt id hd;omega,hi.c0,λid h=>by rw[g id (hi.b0 id h).1];exact hi.b0 id h,λid h=>hi.le id (by grind),hi.lo,hlen⟩
 exact⟨_,D,m,rfl,⟨ht.b0,ht.c0,ht.d0,ht.a0,ht.e0,ht.f0⟩,rfl,rfl,inv,λD0 m0 o0 w0 ho hl he=>⟨inv,he.f0,he.a0,he.l0,Nat.le_trans he.o0 hn,he.os,he.j0,he.d0,he.i0,he.g0,by simp only[hle];exact he.m0,he.e0⟩⟩
theorem aa2{ρ:List (Nat×Nat)}{k:Int}{x:Da}{p d e:Int}{l:Nat}(h:To b ρ i=some j):yw (kG b ρ 20) (ft k (.c i 0 l C) x p a c d e)=some (ft k (.c j 0 l C) x p a c d e):=by
 simp only[ft,yw,kG,h,ob]
theorem acY{ρ:List (Nat×Nat)}{k:Int}{x:Da}{p d e:Int}:yw (kG b ρ 20) (ft k .f x p a c d e)=some (ft k .f x p a c d e):=by
 rfl
theorem agb{ρ:List (Nat×Nat)}(h:To b ρ (16+i)=some (16+i)):yw (kG b ρ 20) (abl ea la L i)=some (abl ea la L i):=by
 grind [abl,acY,aa2]
theorem aa1{b:Nat}{ρ:List (Nat×Nat)}{ea la:Bool}{L:List It}:∀{n:Nat},(∀i,i<n->To b ρ (16+i)=some (16+i))->yw (kG b ρ 20) (aaf ea la L n)=some (aaf ea la L n)
 | 0,_=>rfl
 | n+1,h=>rB (aa1 λi hi=>h i (by omega)) (agb (h n (by omega)))
def UI(i j q:Nat):Nat:=bif ο q i then j else q+1
abbrev Th(a:Nat->Nat)(k:Nat):List Nat:=[a 0,a 1,a 2,a 3,a 4,a 5,k]
theorem acD{W:cD}(hw:∀x∈[W],cR 14 x){tn:Nat}{rel:List Nat}{vs vs':List AV}{a:Nat->Nat}{os:List cD}{t:Nat->cD}{cs cs':List AV}(hsel:∀s∈Th a k,1<=s/\s<n)(hnd:(Th a k).Nodup)(hE:os.getD (n-1) .b=E)(lE:cR 16 E)(ht:∀q,q<6->os.getD (n-1-a q) .b=t q)(lt:∀q,cR 16 (t q))
 (hk:os.getD (n-1-k) .b=.a cs true (some 17)) (hc:yw (kG 16 (eM 15 1 (Th a k)) 20) cs=some cs') (hvs:yw (kG 16 (eM 15 1 (Th a k)) 20) vs=some vs'):VW cfg (Cw cfg [W]) 1 tn rel vs ⟨n,os,[]⟩ vs' ⟨8,[.a cs' true (some 17),t 5,t 4,t 3,t 2,t 1,t 0,E],[]⟩:=by
 have hn:=hsel k (by simp[Th]);have at0:∀(os:List cD) (n i:Nat),(⟨n,os,[]⟩:aB).at i=os.getD (n-1-i) .b:=λos n i=>rfl;have sl:∀q,q<6->t q=os.getD (n-1-a q) .b/\cR 16 (os.getD (n-1-a q) .b):=λq hq=>⟨(ht q hq).symm,by rw[ht q hq];exact lt q⟩;refine VW.d0 eb.lv (C:=Cw cfg [W]) (kb:=1) (sel:=Th a k) (B6 hw) (by grind) hsel hnd (λp hp=>by grind) rfl rfl rfl (λi hi=>?_) (λq hq=>?_) hvs
 . have:i=0:=by omega
   subst this;rw[at0,at0];refine⟨?_,?_⟩
   . simp_all
   . show cR 16 (os.getD (n-1) .b);grind
 . have:q=0\/q=1\/q=2\/q=3\/q=4\/q=5\/q=6:=by
    simp[Th]at hq;omega
   rw[at0,at0];rcases this with rfl|rfl|rfl|rfl|rfl|rfl|rfl
   . exact .inl (sl 0 (by decide))
   . exact .inl (sl 1 (by decide))
   . exact .inl (sl 2 (by decide))
   . exact .inl (sl 3 (by decide))
   . exact .inl (sl 4 (by decide))
   . exact .inl (sl 5 (by decide))
   . exact .inr ⟨_,_,_,_,hk,hc,rfl⟩
def ahJ(ea la:Bool)(L:List It)(E:cD):Nat->aB
 | 0=>⟨7,[.b,.b,.b,.b,.b,.b,E],[]⟩
 | i+1=>⟨8,[.a (aaf ea la L (i+1)) true (some 17),qb ea la L (i+1) 5,qb ea la L (i+1) 4,qb ea la L (i+1) 3,qb ea la L (i+1) 2,qb ea la L (i+1) 1,qb ea la L (i+1) 0,E],[]⟩
def nv(ea la:Bool)(L:List It)(E:cD)(i:Nat):List cD:=[qb ea la L i 5,qb ea la L i 4,qb ea la L i 3,qb ea la L i 2,qb ea la L i 1,qb ea la L i 0,E]
theorem aeX:ahJ ea la L E (i+1)=⟨8,[.a (aaf ea la L (i+1)) true (some 17),qb ea la L (i+1) 5,qb ea la L (i+1) 4,qb ea la L (i+1) 3,qb ea la L (i+1) 2,qb ea la L (i+1) 1,qb ea la L (i+1) 0,E],[]⟩:=rfl
theorem fK:cR b (qb ea la L n i):=by
 unfold qb;cases(aS i n&&aba ea la L i)
 . exact⟨rfl,λi hi=>by cases hi⟩
 . exact⟨rfl,λi hi=>by grind [aab,HL,bw,aC]⟩
theorem kH(h:i≠n):qb ea la L (n+1) i=qb ea la L n i:=by
 grind [qb,aU]
theorem abS(h:aba ea la L n=false):qb ea la L (n+1) i=qb ea la L n i:=by
 grind [qb,kH]
theorem ab8(h:aba ea la L n):qb ea la L (n+1) n=.a (aab 0 (oB (L.getD n fP)) 0 (mw (L.getD n fP))) true none:=by
 grind [qb,aU]
theorem aa5:cR b .b:=⟨rfl,λi hi=>by cases hi⟩
theorem aac{b d:Int}:cR k (.a (aab a b c d) true none):=⟨rfl,λi hi=>by grind [aab,HL,bw,aC]⟩
theorem ahm(h:aba ea la L i):abl ea la L i=ft 1 (.c (16+i) 0 1 (.b 1)) gL 0 0 0 0 0:=by
 grind [aba,fy,cK,ao,bF,abl]
theorem rc{B:List cD}(h:n-1-k=top.length+j):(top++B).getD (n-1-k) .b=B.getD j .b:=by
 grind
theorem aas(hn:n=7+top.length):(top++nv ea la L E i).getD (n-1) .b=E:=by
 show(top++nv ea la L E i).getD (n-1-0) .b=E;rw[rc (j:=6) (by omega)];rfl
theorem Ya{q:Nat}(hn:n=7+top.length)(hq:q<6):(top++nv ea la L E i).getD (n-1-(q+1)) .b=qb ea la L i q:=by
 rw[rc (j:=5-q) (by omega)];rcases(by omega:q=0\/q=1\/q=2\/q=3\/q=4\/q=5)with rfl|rfl|rfl|rfl|rfl|rfl<;>rfl
section
variable{W:cD}(hw:∀x∈[W],cR 14 x){ea la:Bool}{L:List It}{E:cD}(lE:cR 16 E){i n:Nat}{top:List cD}{tn:Nat}{rel:List Nat}{vs vs':List AV}
include hw lE
theorem amD(hn:n=7+top.length)(hk:7<=k)(hkn:k<n)(h5:i<6)(h:aba ea la L i=false)(hc:(top++nv ea la L E i).getD (n-1-k) .b=.a (aaf ea la L i++abl ea la L i) true (some 17))(hvs:yw (kG 16 (eM 15 1 [1,2,3,4,5,6,k]) 20) vs=some vs'):VW cfg (Cw cfg [W]) 1 tn rel vs ⟨n,top++nv ea la L E i,[]⟩ vs' (ahJ ea la L E (i+1)):=by
 rw[aeX];refine acD hw (a:=λq=>q+1) (t:=qb ea la L (i+1)) (k:=k) (λs hs=>?_) ?_ (aas hn) lE (λq hq=>?_) (λ_=>fK) hc ?_ hvs
 . simp[Th]at hs;omega
 . simp[Th];omega
 . rw[abS h];exact Ya hn hq
 . have m:∀q,q<6->To 16 (eM 15 1 [1,2,3,4,5,6,k]) (16+q)=some (16+q):=λq hq=>by
    rcases(by omega:q=0\/q=1\/q=2\/q=3\/q=4\/q=5)with rfl|rfl|rfl|rfl|rfl|rfl<;>rfl
   exact rB (aa1 λq hq=>m q (by omega)) (agb (m i h5))
theorem anr(hn:n=7+top.length)(hk:7<=k)(hkn:k<n)(hj:7<=j)(hjn:j<n)(hjk:j≠k)(h5:i<6)(h:aba ea la L i)(hd:(top++nv ea la L E i).getD (n-1-j) .b=.a (aab 0 (oB (L.getD i fP)) 0 (mw (L.getD i fP))) true none)(hc:(top++nv ea la L E i).getD (n-1-k) .b=.a (aaf ea la L i++ft 1 (.c (15+j) 0 1 (.b 1)) gL 0 0 0 0 0) true (some 17))(hvs:yw (kG 16 (eM 15 1 (Th (UI i j) k)) 20) vs=some vs'):VW cfg (Cw cfg [W]) 1 tn rel vs ⟨n,top++nv ea la L E i,[]⟩ vs' (ahJ ea la L E (i+1)):=by
 have nl:aS (15+j) 16=false:=by grind [aU]
 have bj:∀q,q<=6->ο (15+q) (15+j)=false:=λq hq=>b9.mpr (by omega);have b1:=bj 1 (by omega);have b2:=bj 2 (by omega);have b3:=bj 3 (by omega);have b4:=bj 4 (by omega);have b5:=bj 5 (by omega);have b6:=bj 6 (by omega);have jj:ο (15+j) (15+j)=true:=aJ.mpr rfl;have six:i=0\/i=1\/i=2\/i=3\/i=4\/i=5:=by omega
 have mj:To 16 (eM 15 1 (Th (UI i j) k)) (15+j)=some (16+i):=by
  rcases six with rfl|rfl|rfl|rfl|rfl|rfl<;>simp only[Th,UI,ο,To,eM,xx,nl,b1,b2,b3,b4,b5,b6,jj,zAj,Nat.reduceAdd]
 have m:∀q,q<i->To 16 (eM 15 1 (Th (UI i j) k)) (16+q)=some (16+q):=λq hq=>by
  rcases six with rfl|rfl|rfl|rfl|rfl|rfl<;>rcases(by omega:q=0\/q=1\/q=2\/q=3\/q=4)with rfl|rfl|rfl|rfl|rfl<;>first|omega|rfl
 have sA:∀q,(q=i/\UI i j q=j)\/(q≠i/\UI i j q=q+1):=λq=>by
  unfold UI;cases e:ο q i
  . exact .inr ⟨b9.mp e,rfl⟩
  . exact .inl ⟨aJ.mp e,rfl⟩
 rw[aeX];refine acD hw (a:=UI i j) (t:=qb ea la L (i+1)) (k:=k) (λs hs=>?_) ?_ (aas hn) lE (λq hq=>?_) (λ_=>fK) hc (rB (aa1 m) (by rw[ahm h];exact aa2 mj)) hvs
 . have:=sA 0;have:=sA 1;have:=sA 2;have:=sA 3;have:=sA 4;have:=sA 5;simp only[Th,σ,List.not_mem_nil,or_false]at hs;omega
 . have:=sA 0;have:=sA 1;have:=sA 2;have:=sA 3;have:=sA 4;have:=sA 5;simp[Th];omega
 . by_cases e:q=i
   . subst e;rw[ab8 h,<-hd];simp[UI]
   . rw[kH e,<-Ya (top:=top) (E:=E) hn hq,show UI i j q=q+1 by simp[UI,b9.mpr e]]
end
end Go.Ev
