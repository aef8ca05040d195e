import Derived.Laws.Runes
import Derived.WalkMore
import Derived.Test.YtoghlpcacfnjbaaGreatDoorP18
import Derived.Test.YtoghlpcacfnjbaaGreatDoorP02
set_option linter.all false
set_option maxRecDepth 100000
set_option maxHeartbeats 4000000
section
namespace Go.Ev
open Go Go.Proofs
variable{s:List UInt8}{Q:AV->Prop}
def dB(b:UInt8):Bool:=decide (48<=b.toNat)&&decide (b.toNat<=57)
def dV(l:List UInt8):Bool:=l.all dB
def numL(l:List UInt8):Nat:=l.foldl (λn b=>n*10+(b.toNat-48)) 0
def iS(s:List UInt8)(i:Nat):Nat:=numL (s.take i)*10^(i-s.length)
def cF(s:List UInt8)(e:Nat):Nat:=numL s*10^e
theorem I0(l:List UInt8)(b:UInt8):numL (l++[b])=numL l*10+(b.toNat-48):=by simp[numL,List.foldl_append]
theorem Db{s:List UInt8}{i:Nat}(h:i<s.length):iS s (i+1)=iS s i*10+((s.getD i 0).toNat-48):=by
 unfold iS;rw[pf h,I0,show i+1-s.length=0 by omega,show i-s.length=0 by omega];simp
theorem Df{s:List UInt8}{i:Nat}(h:s.length<=i):iS s (i+1)=iS s i*10:=by
 unfold iS;rw[List.take_of_length_le (by omega:s.length<=i+1),List.take_of_length_le h,show i+1-s.length=(i-s.length)+1 by omega,Nat.pow_succ,Nat.mul_assoc]
theorem FF(s:List UInt8)(i:Nat):iS s i<=iS s (i+1):=by
 by_cases h:i<s.length
 . rw[Db h];omega
 . rw[Df (by omega)];omega
theorem Ez{i j:Nat}(h:i<=j):iS s i<=iS s j:=by
 obtain⟨k,rfl⟩:∃k,j=i+k:=⟨j-i,by omega⟩;induction k with
 | zero=>exact Nat.le_refl _
 | succ k ih=>exact Nat.le_trans (ih (by omega)) (FF s (i+k))
theorem Aa(s:List UInt8)(e:Nat):iS s (s.length+e)=cF s e:=by
 unfold iS cF;rw[List.take_of_length_le (by omega),show s.length+e-s.length=e by omega]
theorem pz{s:List UInt8}(h:dV s){i:Nat}(hi:i<s.length):48<=(s.getD i 0).toNat/\(s.getD i 0).toNat<=57:=by
 unfold dV at h;rw[List.all_eq_true]at h;have:=h (s.getD i 0) (by rw[zAd,List.getElem?_eq_getElem hi];simp);simpa [dB]using this
def magOk(s:List UInt8)(e:Nat):Bool:=Nat.ble (cF s e) 10000000000000000
def Sb:dW:=λvs o=>match vs,o with
 | [.d s,.a .i64 e,.a .i64 r,.a .i64 q,.a .i64 n,.a .i64 i],⟨0,[],[]⟩=>some (aH [Nat.ble s.length 1000,ab 0 e,ab e 1000,dV s,aa r 0,aa q 0,aa n 0,aa i 0]
   (.d0 (magOk s e.toNat) λb=>bif b then .a0 (.b 0,[.d s,.a .i64 e,.a .i64 0,.a .i64 0,.a .i64 (Int.ofNat (cF s e.toNat)),.a .i64 (Int.ofNat (s.length+e.toNat))],dO)
     else .f0 λJ=>.a0 (.c,[.d s,.a .i64 e,.a .i64 0,.a .i64 0,.i (J 0),.i (J 1)],dO)))
 | _,_=>none
def Zv:cx:=iz jE 0 (d9 32 [0,1,4,5,6,7] Sb)
def Vh:dP:=λargs=>match args with
 | [.d s,.a .i64 e]=>some (aH [Nat.ble s.length 1000,ab 0 e,ab e 1000,dV s] (.d0 (magOk s e.toNat) λb=>bif b then .a0 (.e [.a .i64 (Int.ofNat (cF s e.toNat)),.a .i64 1])else .a0 (.e [.a .i64 0,.a .i64 0])))
 | _=>none
def T2:aQ:=bb T1 122 Vh
def XW(s:List UInt8)(e n:Int)(i:Nat)(J:Nat->Value){Q:VQ->Prop}:gG Q (rT S7 jE [] 122 0 32 [0,1,4,5,6,7] [.d s,.a .i64 e,.a .i64 0,.a .i64 0,.a .i64 n,.a .i64 (Int.ofNat i)] J dO) (bE 1121412142704242)=((λ(A B C:AV)(E F G:Int)(N:Nat)=>(λ(I U:AV)(T:Bool)(H O P:Int)=>(λ(Z u1:AV)(W Y u0:Bool)(V:Int)=>(λ(u2:Bool)=>af .i64 V/\(u2->af .i64 F/\(W->aS i N/\af .u8 G/\af .i64 G/\af .i64 H/\(Y->Q (.c,[B,C,A,A,Z,I],⟨0,[],[]⟩))/\(Y=false->u0/\Q (.a,[B,C,A,A,Z,u1],⟨0,[],[]⟩)))/\(W=false->(T->Q (.c,[B,C,A,A,U,I],⟨0,[],[]⟩))/\(T=false->u0/\Q (.a,[B,C,A,A,U,u1],⟨0,[],[]⟩))))/\(u2=false->Q (.b 0,[B,C,A,A,.a .i64 n,I],⟨0,[],[]⟩))) (not (ab V E))) (.a .i64 H) (.a .i64 P) (not (ab O E)) (not (ab H 10000000000000000)) (af .i64 P) (Int.add O e)) (.a .i64 E) (.a .i64 F) (not (ab F 10000000000000000)) (Int.add F G) (Int.ofNat N) (Int.add E 1)) (.a .i64 0) (.d s) (.a .i64 e) (Int.ofNat i) (Int.mul 10 n) (Int.sub (Int.ofNat (UInt8.toNat (List.getD s i 0))) 48) s.length):=by kernel_rfl
theorem WN:cu Tryz.prog (cH cfg S7) (Cw cfg []) (lb 122 0) 32 [0,1,4,5,6,7] Sb:=by
 intro vs o t Q hv hq J;unfold Sb at hv;split at hv
 . rename_i s e r q n i;cases hv;replace hq:=cO hq;obtain⟨⟨h1,h2,h3,h4,h5,h6,h7,h8,-⟩,hq⟩:=hq;rw[al]at h1;rw[aq]at h2 h3;rw[ao]at h5 h6 h7 h8;subst h5 h6 h7 h8;have hq:Tr.wp Q (bif magOk s e.toNat then .a0 (.b 0,[.d s,.a .i64 e,.a .i64 0,.a .i64 0,.a .i64 (Int.ofNat (cF s e.toNat)),.a .i64 (Int.ofNat (s.length+e.toNat))],dO)else .f0 λJ=>.a0 (.c,[.d s,.a .i64 e,.a .i64 0,.a .i64 0,.i (J 0),.i (J 1)],dO)):=hq;refine ia vQ rfl rfl ai (ι:={i:Nat // i<=s.length+e.toNat/\iS s i<=10000000000000000}) (λx=>[.d s,.a .i64 e,.a .i64 0,.a .i64 0,.a .i64 (Int.ofNat (iS s x.1)),.a .i64 (Int.ofNat x.1)]) (λ_=>dO) (λx=>s.length+e.toNat-x.1) 0 (λ_=>Nat.le_refl _) (λx J=>?_) (Nat.le_refl _) (λJ=>Wk.a0 ⟨⟨0,Nat.zero_le _,by simp[iS,numL]⟩,J,by simp[iS,numL,tr]⟩) J;obtain⟨i,hi,hp⟩:=x;dsimp only;have hlt:=@Db s i;have hge:=@Df s i;have hmono:i+1<=s.length+e.toNat->iS s (i+1)<=cF s e.toNat:=λh=>by rw[<-Aa];exact Ez h
   have hdi:=@pz s h4 i;refine e8 λQ' hQ=>cg ((XW s e _ i J).mpr ?_);simp only[az,reduceCtorEq];have no:10000000000000000<iS s (i+1)->i+1<=s.length+e.toNat->magOk s e.toNat=false:=λh h'=>by
    have:=hmono h';unfold magOk;rw[Cn];omega
   (repeat' first|exact trivial|refine⟨?_,?_⟩|intro)<;>first|omega|refine hQ _ ?_
   . have:=hlt (by omega);rw[no (by omega) (by omega),cond_false]at hq;exact⟨_,_,VW.c0 (.same (.same (.same (.same (.int (.int .nil)))))) rfl,hq (jv [_,_])⟩
   . have h:=hlt (by omega);exact⟨⟨i+1,by omega,by omega⟩,by dsimp only;omega,VW.a0 (by dsimp only;rw[h];congr 6;simp only[Bv];omega) rfl⟩
   . have:=hge (by omega);rw[no (by omega) (by omega),cond_false]at hq;exact⟨_,_,VW.c0 (.same (.same (.same (.same (.int (.int .nil)))))) rfl,hq (jv [_,_])⟩
   . have h:=hge (by omega);exact⟨⟨i+1,by omega,by omega⟩,by dsimp only;omega,VW.a0 (by dsimp only;rw[h];congr 6;simp only[Bv];omega) rfl⟩
   . obtain rfl:i=s.length+e.toNat:=by omega
     rw[Aa]at hp ⊢;have:magOk s e.toNat=true:=by unfold magOk;rw[al];exact hp
     rw[this,cond_true]at hq;exact⟨_,_,VW.b0,hq⟩
 . cases hv
def N9:bj tab 122=some (dH 122,aL 122):=by kernel_rfl
def Kr:(bz (aL 122)).map (·.1)=[0]:=by kernel_rfl
theorem Lz:ak Tryz.prog cfg T2:=au WO λargs t v he hv=>by
 unfold Vh at he;split at he
 . rename_i s e;cases he;obtain⟨⟨h1,h2,h3,h4,-⟩,hv⟩:=aF hv;rw[al]at h1;rw[aq]at h2 h3;refine Bu vQ (L:=Zv) N9 (by simp) (dv Kr λi hi e he st Q hw=>?_) ?_
   . have hi:i=0:=by simp at hi;omega
     subst hi;cases he;exact bR (cC.a0 vQ) (by decide) rfl WN hw
   . refine jJ (bE 114527) (R:=λQ=>(λ(B:AV)(A:Nat)=>Nat.ble s.length 1000/\ab 0 e/\ab e 1000/\dV s/\(magOk s A->(∀J1:Nat->Value,Q (.e [.a .i64 (Int.ofNat (cF s A)),.a .i64 1],⟨0,[],[]⟩)))/\(magOk s A=false->(∀J1 J2:Nat->Value,Q (.e [B,B],⟨0,[],[]⟩)))) (.a .i64 0) e.toNat) (λ_=>by kernel_rfl) λQ' hQ=>?_;simp only[az,reduceCtorEq];have hv:Tr.b0 (bif magOk s e.toNat then .a0 (.e [.a .i64 (Int.ofNat (cF s e.toNat)),.a .i64 1])else .a0 (.e [.a .i64 0,.a .i64 0]))=some v:=hv
     (repeat' first|exact trivial|refine⟨?_,?_⟩|intro)<;>first|omega|assumption|(rename_i hm _;rw[hm]at hv;cases hv;exact hQ _ dL.c0)|(rename_i hm _ _;rw[hm]at hv;cases hv;exact hQ _ dL.c0)
 . cases he
abbrev XH(ng lg:Bool)(s:List UInt8)(e g:Int):AV:=.h [.b ng,.b lg,.d s,.a .i64 e,.a .i64 g]
abbrev PH(ng lg:Bool)(s:List UInt8)(e g:Int)(mo da:List UInt8)(a b c:Int):AV:=.h [.b ng,.b lg,.d s,.a .i64 e,.a .i64 g,.d mo,.d da,.a .u8 a,.a .u8 b,.a .u8 c]
def aV(ng lg:Bool)(s:List UInt8)(e g:Int):Bool:=decide (aY s 48 57+aY s 88 88=s.length/\0<=g/\
 (lg=false/\s.length=4/\e=0/\¬(ng/\aY s 48 48=4)/\g<=4/\¬(0<g/\0<aY s 88 88)\/
  lg/\aY s 88 88=0/\1<=aY s 48 57/\aY s 48 57<=17/\(s.getD 0 0).toNat≠48/\0<=e/\e<=16/\¬(e=0/\aY s 48 57<5)/\g<=aY s 48 57+e/\magOk s e.toNat=true))
def Uw:dP:=λargs=>match args with
 | [.h [.b ng,.b lg,.d s,.a .i64 e,.a .i64 g]]=>some (aH [Nat.ble s.length 1000] (.a0 (.a .i64 (gY 1 (Int.ofNat (aY s 88 88))))))
 | _=>none
def bI(b:Bool):Int:=bif b then 1 else 0
def TH:dP:=λargs=>match args with
 | [.h [.b ng,.b lg,.d s,.a .i64 e,.a .i64 g]]=>some (aH [Nat.ble s.length 1000,af .i64 e] (.a0 (.a .i64 (bI (aV ng lg s e g)))))
 | _=>none
def T3:aQ:=bb (bb T2 137 Uw) 69 TH
theorem oV{s:List UInt8}(h:aY s 48 57=s.length):dV s=true:=by
 unfold aY at h;rw[List.length_filter_eq_length_iff]at h;unfold dV;rw[List.all_eq_true];intro c hc;have:=h c hc;rw[zAa,zAb,zAb]at this;unfold dB;rw[zAa,zAb,zAb];omega
theorem XD{b:Bool}(h:b):bI b=1:=by rw[h];rfl
theorem VR{b:Bool}(h:b=false):bI b=0:=by rw[h];rfl
def ZN(ng lg:Bool)(s:List UInt8)(e g:Int):gG Q (pT T2 jE 137 [XH ng lg s e g]) (bE 1200)=(Nat.ble s.length 1000000/\Q (.a .i64 (gY 1 (Int.ofNat (aY s 88 88))))):=by kernel_rfl
def O0:bj tab 137=some (dH 137,aL 137):=by kernel_rfl
theorem MB:ak Tryz.prog cfg T3:=by
 refine au (au Lz λargs t v he hv=>?_) λargs t v he hv=>?_
 . unfold Uw at he;split at he
   . cases he;obtain⟨h1,hv⟩:=bO hv;rw[al]at h1;cases hv;refine kV Lz (L:=jE) O0 (by simp) ai (cg ((ZN _ _ _ _ _).mpr ?_)) (by simp[aC]);simp only[az,reduceCtorEq]
     (repeat' first|exact trivial|refine⟨?_,?_⟩|intro)<;>first|omega|rfl
   . cases he
 . unfold TH at he;split at he
   . rename_i ng lg s e g;cases he;obtain⟨⟨h1,h2,-⟩,hv⟩:=aF hv;rw[al]at h1;rw[aE]at h2;cases hv;have k1:=rP s 48 57;have k2:=rP s 88 88;refine jD Lz ai (bE 1023310056662310006662310005662810006623315562331623008111447000140025533231028811144700014370702437422024320243202432202024324324156623315623533102300810332311437422024053328162331023008103323114374220243202432702024202432024040143202402200200) (R:=λQ=>(λ(I V u5 u6 u8 u9 ua us ut uu:Bool)(H ur:Int)(U:Nat)(A N u7:Prop)=>(λ(C E W Y Z u0 ub uc ue uf ug:Bool)(uv uw uz:Int)(ud uh ux uy:Prop)=>(λ(B G P ui uj ul um uC uD:Bool)(O T uk un uo uA uB:Prop)=>(λ(u1 u2:Bool)(F u3 u4 uE uF uG uH:Prop)=>(λ(up uq:Prop)=>ub/\ub/\af .i64 uv/\(u1->u1/\u1/\ui=false/\(us->A)/\(us=false->(ut->(u2->u2/\u2/\uj=false/\(G->G/\G/\(ng->ng/\ng/\ub/\ng/\G/\ng/\uA/\(W->W/\W/\u5=false/\uE)/\(uk->uk/\uk/\u5/\A))/\(N->N/\N/\N/\G/\N/\uA/\uE))/\(u3->u3/\u3/\u3/\uc/\A))/\(up->up/\up/\uj/\A))/\(ut=false->(ul->ul/\uB/\(um->um/\ue=false/\(P->P/\P/\aS 0 U/\P/\uf=false/\(Z->Z/\Z/\u8=false/\(u0->u0/\u0/\u9=false/\(E->E/\E/\E/\(I->I/\E/\I/\uy/\(B->B/\B/\B/\B/\B/\uC/\B/\ug=false/\uF)/\(F->F/\F/\F/\F/\F/\F/\ug/\A))/\(uh->uh/\E/\uh/\uy/\uC/\uF))/\(T->T/\T/\T/\T/\ua/\A))/\(un->un/\un/\u9/\A))/\(uo->uo/\uo/\u8/\A))/\(u4->u4/\u4/\u4/\uf/\A))/\(uG->uG/\ue/\A))/\(uH->uH/\Y/\A))))/\(uq->uq/\uq/\ui/\A)) (u2=false) (u1=false)) (not ui) (not uj) (B=false) (G=false) (P=false) ((C->C/\C/\C/\(V->V/\C/\V/\ux/\(Y->A)/\(uB->u7))/\(ud->ud/\C/\ud/\ux/\u7))/\(O->O/\O/\O/\O/\u6/\A)) ((uD->A)/\(uD=false->Nat.ble U 1000/\ab 0 e/\ab e 1000/\(dV s->(uu->u7)/\(uu=false->A))/\(dV s=false->False))) (um=false) (ul=false)) (not ug) (not uc) (not uf) (not (aa uv uw)) (not (aa uw 4)) (not Y) (not ue) (af .i64 uz) (not (ab g uz)) (C=false) (E=false) (W=false) (u0=false) (Z=false) (uc=false) (Y=false)) (not u6) (not ua) (not u5) (not (ab ur 0)) (not u8) (not u9) (Nat.ble U 1000000) (not I) (not (ab 1 H)) (not (ab H 17)) (not (ab 5 H)) (Int.add H ur) (Int.ofNat U) (Int.add H e) (V=false) (I=false) (u6=false) (ua=false)) (aa e 0) (not (ab g 0)) (aa (Int.ofNat (aY s 48 48)) 4) (not (ab g 4)) (aa (Int.ofNat (UInt8.toNat (List.getD s 0 0))) 48) (not (ab 0 e)) (not (ab e 16)) (not (ab 0 g)) (not lg) (magOk s e.toNat) (Int.ofNat (aY s 48 57)) (Int.ofNat (aY s 88 88)) s.length (Q (.a .i64 0)) (ng=false) (Q (.a .i64 1))) (λ_=>by kernel_rfl) λQ' hQ=>?_;simp only[az,reduceCtorEq];have dg:=@oV s;have yes:aV ng lg s e g->Q' (.a .i64 1):=λh=>hQ _ (by rw[XD h]);have no:aV ng lg s e g=false->Q' (.a .i64 0):=λh=>hQ _ (by rw[VR h])
     (repeat' first|exact trivial|refine⟨?_,?_⟩|intro)<;>first|omega|assumption|(exact dg (by omega))|(exfalso;have:=dg (by omega);simp_all;done)|(refine no ?_;unfold aV;rw[decide_eq_false_iff_not];simp_all;try omega)|(refine yes ?_;unfold aV;rw[zAb];simp_all;try omega)
   . cases he
def pZ(n:Int):List UInt8:=[UInt8.ofNat (48+(n/10).toNat),UInt8.ofNat (48+(n%10).toNat)]
def QP:dP:=λargs=>match args with
 | [.a .i64 n]=>some (aH [ab 0 n,ab n 99] (.a0 (.d (pZ n))))
 | _=>none
def T4:aQ:=bb T3 70 QP
def agB(s:List UInt8)(i:Nat)(d:Int):Bool:=decide ((s.getD i 0).toNat=88) || decide (((s.getD i 0).toNat:Int)=48+d)
def agr(s:List UInt8)(n:Int):Bool:=decide (s.length=2)&&(agB s 0 (n/10)&&agB s 1 (n%10))
def TU:dP:=λargs=>match args with
 | [.d s,.a .i64 n]=>some (aH [ab 0 n,ab n 99] (.a0 (.a .i64 (bI (agr s n)))))
 | _=>none
def T5:aQ:=bb T4 140 TU
def eW(s:List UInt8)(g:Nat):Bool:=(List.range g).any λk=>agr s (k+1)
def aR(mo:List UInt8):Int:=bif ae mo [UInt8.ofNat 50,UInt8.ofNat 49]then 21 else bif ae mo [UInt8.ofNat 50,UInt8.ofNat 50]then 22 else bif ae mo [UInt8.ofNat 50,UInt8.ofNat 51]then 23 else bif ae mo [UInt8.ofNat 50,UInt8.ofNat 52]then 24 else bif ae mo [UInt8.ofNat 50,UInt8.ofNat 53]then 25 else bif ae mo [UInt8.ofNat 50,UInt8.ofNat 54]then 26 else bif ae mo [UInt8.ofNat 50,UInt8.ofNat 55]then 27 else bif ae mo [UInt8.ofNat 50,UInt8.ofNat 56]then 28 else bif ae mo [UInt8.ofNat 50,UInt8.ofNat 57]then 29 else bif ae mo [UInt8.ofNat 51,UInt8.ofNat 48]then 30 else bif ae mo [UInt8.ofNat 51,UInt8.ofNat 49]then 31 else bif ae mo [UInt8.ofNat 51,UInt8.ofNat 50]then 32 else bif ae mo [UInt8.ofNat 51,UInt8.ofNat 51]then 33 else bif ae mo [UInt8.ofNat 51,UInt8.ofNat 52]then 34 else bif ae mo [UInt8.ofNat 51,UInt8.ofNat 53]then 35 else bif ae mo [UInt8.ofNat 51,UInt8.ofNat 54]then 36 else bif ae mo [UInt8.ofNat 51,UInt8.ofNat 55]then 37 else bif ae mo [UInt8.ofNat 51,UInt8.ofNat 56]then 38 else bif ae mo [UInt8.ofNat 51,UInt8.ofNat 57]then 39 else bif ae mo [UInt8.ofNat 52,UInt8.ofNat 48]then 40 else bif ae mo [UInt8.ofNat 52,UInt8.ofNat 49]then 41 else 0
def dq(mo da:List UInt8):Int:=1+(bif ae mo []then 0 else 1)+(bif ae da []then 0 else 1)
def errMk(a b c n:Int):Int:=if n<1\/3<n then 4 else if 3<a\/(n<=0/\0<a)\/3<b\/(n<=1/\0<b)\/3<c\/(n<=2/\0<c)then 9 else 0
def Zt:dP:=λargs=>match args with
 | [.h [.b ng,.b lg,.d s,.a .i64 e,.a .i64 g,.d mo,.d da,.a .u8 a,.a .u8 b,.a .u8 c]]=>some (.a0 (.a .i64 (aR mo)))
 | _=>none
def YA:dP:=λargs=>match args with
 | [.h [.b ng,.b lg,.d s,.a .i64 e,.a .i64 g,.d mo,.d da,.a .u8 a,.a .u8 b,.a .u8 c]]=>some (.a0 (.a .i64 (dq mo da)))
 | _=>none
def T6:aQ:=T5
def T7:aQ:=bb (bb T6 36 Zt) 38 YA
theorem Xx:∀a:Nat,a<10->List.drop a (List.take (a+1) [UInt8.ofNat 48,UInt8.ofNat 49,UInt8.ofNat 50,UInt8.ofNat 51,UInt8.ofNat 52,UInt8.ofNat 53,UInt8.ofNat 54,UInt8.ofNat 55,UInt8.ofNat 56,UInt8.ofNat 57])=[UInt8.ofNat (48+a)]:=by decide
theorem Xj:∀a:Nat,a<10->(UInt8.ofNat (48+a)).toNat=48+a:=by decide
def X8(n:Int):gG Q (pT T3 jE 70 [.a .i64 n]) (bE 1770077020)=((λ(A B:Int)(H:List UInt8)=>(λ(I:Bool)(C E:Int)(N O:Nat)=>(λ(F G:Nat)=>(λ(P T:List UInt8)=>I/\I/\af .i64 C/\ab 0 C/\Nat.ble F 10/\ab 0 A/\Nat.ble N F/\af .i64 E/\ab 0 E/\Nat.ble G 10/\ab 0 B/\Nat.ble O G/\Nat.ble (HAdd.hAdd P.length T.length) 1000000/\Q (.d (P++T))) (List.drop N (List.take F H)) (List.drop O (List.take G H))) C.toNat E.toNat) (af .i64 A) (Int.add A 1) (Int.add B 1) A.toNat B.toNat) (Int.tdiv n 10) (Int.tmod n 10) [UInt8.ofNat 48,UInt8.ofNat 49,UInt8.ofNat 50,UInt8.ofNat 51,UInt8.ofNat 52,UInt8.ofNat 53,UInt8.ofNat 54,UInt8.ofNat 55,UInt8.ofNat 56,UInt8.ofNat 57]):=by kernel_rfl
def b86(ng lg:Bool)(s:List UInt8)(e g:Int)(mo da:List UInt8)(a b c:Int):gG Q (pT T6 jE 36 [PH ng lg s e g mo da a b c]) (bE 10014005140051400514005140051400514005140051400514005140051400514005140051400514005140051400514005140051405)=((λ(A B C E F G H I N O:UInt8)=>(λ(P T U V W Y Z u0 u1 u2 u3 u4 u5 u6 u7 u8 u9 ua ub uc ud:Bool)=>(P->Q (.a .i64 21))/\(P=false->(T->Q (.a .i64 22))/\(T=false->(U->Q (.a .i64 23))/\(U=false->(V->Q (.a .i64 24))/\(V=false->(W->Q (.a .i64 25))/\(W=false->(Y->Q (.a .i64 26))/\(Y=false->(Z->Q (.a .i64 27))/\(Z=false->(u0->Q (.a .i64 28))/\(u0=false->(u1->Q (.a .i64 29))/\(u1=false->(u2->Q (.a .i64 30))/\(u2=false->(u3->Q (.a .i64 31))/\(u3=false->(u4->Q (.a .i64 32))/\(u4=false->(u5->Q (.a .i64 33))/\(u5=false->(u6->Q (.a .i64 34))/\(u6=false->(u7->Q (.a .i64 35))/\(u7=false->(u8->Q (.a .i64 36))/\(u8=false->(u9->Q (.a .i64 37))/\(u9=false->(ua->Q (.a .i64 38))/\(ua=false->(ub->Q (.a .i64 39))/\(ub=false->(uc->Q (.a .i64 40))/\(uc=false->(ud->Q (.a .i64 41))/\(ud=false->Q (.a .i64 0))))))))))))))))))))))) (ae mo [B,E]) (ae mo [B,B]) (ae mo [B,A]) (ae mo [B,C]) (ae mo [B,F]) (ae mo [B,G]) (ae mo [B,H]) (ae mo [B,I]) (ae mo [B,N]) (ae mo [A,O]) (ae mo [A,E]) (ae mo [A,B]) (ae mo [A,A]) (ae mo [A,C]) (ae mo [A,F]) (ae mo [A,G]) (ae mo [A,H]) (ae mo [A,I]) (ae mo [A,N]) (ae mo [C,O]) (ae mo [C,E])) (UInt8.ofNat 51) (UInt8.ofNat 50) (UInt8.ofNat 52) (UInt8.ofNat 49) (UInt8.ofNat 53) (UInt8.ofNat 54) (UInt8.ofNat 55) (UInt8.ofNat 56) (UInt8.ofNat 57) (UInt8.ofNat 48)):=by kernel_rfl
def b88(ng lg:Bool)(s:List UInt8)(e g:Int)(mo da:List UInt8)(a b c:Int):gG Q (pT T6 jE 38 [PH ng lg s e g mo da a b c]) (bE 1104011040040)=((λ(A B:Bool)(C:Prop)=>(λ(E:Prop)=>(B->(A->Q (.a .i64 3))/\(E->C))/\(B=false->(A->C)/\(E->Q (.a .i64 1)))) (A=false)) (not (ae da [])) (not (ae mo [])) (Q (.a .i64 2))):=by kernel_rfl
def No:bj tab 70=some (dH 70,aL 70):=by kernel_rfl
def Sz:bj tab 36=some (dH 36,aL 36):=by kernel_rfl
def RL:bj tab 38=some (dH 38,aL 38):=by kernel_rfl
theorem ML:ak Tryz.prog cfg T4:=by
 refine au MB λargs t v he hv=>?_;unfold QP at he;split at he
 . rename_i n;cases he;obtain⟨⟨h1,h2,-⟩,hv⟩:=aF hv;rw[aq]at h1 h2;cases hv;refine kV MB (L:=jE) No (by simp) ai (cg ((X8 n).mpr ?_)) (by simp[aC]);dsimp only;rw[Int.tdiv_eq_ediv_of_nonneg h1,Int.tmod_eq_emod_of_nonneg h1];obtain⟨k,rfl⟩:∃k:Nat,n=k:=⟨n.toNat,by omega⟩;have e1:((k:Int)/10)=((k/10:Nat):Int):=by omega
   have e2:((k:Int)%10)=((k%10:Nat):Int):=by omega
   have e3:Int.add ((k/10:Nat):Int) 1=((k/10+1:Nat):Int):=by rw[qW];omega
   have e4:Int.add ((k%10:Nat):Int) 1=((k%10+1:Nat):Int):=by rw[qW];omega
   rw[e1,e2,e3,e4];simp only[Int.toNat_natCast,Xx _ (by omega:k/10<10),Xx _ (by omega:k%10<10)];simp only[az,reduceCtorEq];simp only[zAf,List.length_nil]
   (repeat' first|exact trivial|refine⟨?_,?_⟩|intro)<;>first|omega|skip
   show AV.d _=AV.d (pZ k);unfold pZ;rw[e1,e2];rfl
 . cases he
theorem pN{i:Nat}{d:Int}:agB s i d=true↔(s.getD i 0).toNat=88\/((s.getD i 0).toNat:Int)=48+d:=by
 unfold agB;rw[Bool.or_eq_true,zAb,zAb]
theorem Xs:ak Tryz.prog cfg T5:=by
 refine au ML λargs t v he hv=>?_;unfold TU at he;split at he
 . rename_i s n;cases he;obtain⟨⟨h1,h2,-⟩,hv⟩:=aF hv;rw[aq]at h1 h2;cases hv;refine jD ML ai (bE 1000633058100203811403020070240020007381033058107381142322007024702423220070247024220) (R:=λQ=>(λ(T:Nat)(U V:Prop)(N:UInt8)=>(λ(C O:Bool)(Y Z:Int)=>(λ(E P W u0:Bool)(F:Prop)=>(λ(A G:Bool)(H u1 u2:Prop)=>(λ(B I:Prop)=>ab 0 n/\ab n 99/\(C->C/\aS 0 T/\C/\C/\(G->G/\aS 0 T/\G/\G/\G/\C/\W=false/\C/\(E->E/\O/\E/\E/\(A->A/\O/\A/\A/\A/\E/\u1/\E/\u2)/\(B->B/\B/\B/\B/\E/\P/\E/\U))/\(H->H/\H/\H/\H/\H/\V))/\(I->I/\I/\I/\I/\C/\W/\C/\O/\(A->A/\O/\A/\A/\A/\u1/\u2)/\(B->B/\B/\B/\B/\P/\U)))/\(F->F/\F/\F/\F/\F/\V)) (A=false) (G=false)) (not P) (not W) (E=false) (P=false) ((u0->U)/\(u0=false->V))) (aa Y (Int.ofNat (UInt8.toNat (List.getD (pZ n) 0 N)))) (aa Z 88) (aa Y 88) (aa Z (Int.ofNat (UInt8.toNat (List.getD (pZ n) 1 N)))) (C=false)) (aa (Int.ofNat T) 2) (aS 1 T) (Int.ofNat (UInt8.toNat (List.getD s 0 N))) (Int.ofNat (UInt8.toNat (List.getD s 1 N)))) s.length (Q (.a .i64 1)) (Q (.a .i64 0)) (UInt8.ofNat 0)) (λ_=>by kernel_rfl) λQ' hQ=>?_;try dsimp only
   have t0:((pZ n).getD 0 0).toNat=48+(n/10).toNat:=Xj _ (by omega);have t1:((pZ n).getD 1 0).toNat=48+(n%10).toNat:=Xj _ (by omega);have tl:(pZ n).length=2:=rfl;simp only[az,reduceCtorEq];have yes:agr s n->Q' (.a .i64 1):=λh=>hQ _ (by rw[XD h]);have no:agr s n=false->Q' (.a .i64 0):=λh=>hQ _ (by rw[VR h]);have iff:agr s n=true↔s.length=2/\((s.getD 0 0).toNat=88\/((s.getD 0 0).toNat:Int)=48+n/10)/\((s.getD 1 0).toNat=88\/((s.getD 1 0).toNat:Int)=48+n%10):=by
    unfold agr;rw[zAa,zAa,zAb,pN,pN]
   have iff':agr s n=false↔¬(s.length=2/\((s.getD 0 0).toNat=88\/((s.getD 0 0).toNat:Int)=48+n/10)/\((s.getD 1 0).toNat=88\/((s.getD 1 0).toNat:Int)=48+n%10)):=by
    rw[<-iff,Bool.not_eq_true]
   (repeat' first|exact trivial|refine⟨?_,?_⟩|intro)<;>first|omega|(refine yes (iff.mpr ?_);omega)|(refine no (iff'.mpr ?_);omega)
 . cases he
theorem GB{g:Nat}:eW s g=false↔∀k,k<g->agr s ((k:Int)+1)=false:=by
 unfold eW;rw[List.any_eq_false];exact⟨λh k hk=>by simpa using h k (List.mem_range.2 hk),λh k hk=>by simpa using h k (List.mem_range.1 hk)⟩
theorem Ob{g k:Nat}(hk:k<g)(h:agr s ((k:Int)+1)):eW s g=true:=by
 unfold eW;rw[List.any_eq_true];exact⟨k,List.mem_range.2 hk,h⟩
theorem Kn:ak Tryz.prog cfg T6:=Xs
theorem MW:ak Tryz.prog cfg T7:=by
 refine au (au Kn λargs t v he hv=>?_) λargs t v he hv=>?_
 . unfold Zt at he;split at he
   . cases he;cases hv;refine kV Kn (L:=jE) Sz (by simp) ai (e8 λQ' hQ=>cg ((b86 _ _ _ _ _ _ _ _ _ _).mpr ?_)) (by simp[aC]);dsimp only
     (repeat' first|exact trivial|refine⟨?_,?_⟩|intro)<;>(refine hQ _ ?_;rw[AV.a.injEq];refine⟨rfl,?_⟩;unfold aR;simp only[*,zAj])
   . cases he
 . unfold YA at he;split at he
   . cases he;cases hv;refine kV Kn (L:=jE) RL (by simp) ai (e8 λQ' hQ=>cg ((b88 _ _ _ _ _ _ _ _ _ _).mpr ?_)) (by simp[aC]);simp only[nr,GM]
     (repeat' first|exact trivial|refine⟨?_,?_⟩|intro)<;>(refine hQ _ ?_;rw[AV.a.injEq];refine⟨rfl,?_⟩;unfold dq;simp only[*,zAj];rfl)
   . cases he
theorem LT{n:Int}:(af .i64 n=true)=(-9223372036854775808<=n/\n<=9223372036854775807):=aE
theorem EB(a b:Int):gY a b=min a b:=by
 unfold gY;cases h:ab a b with
 | true=>rw[aq]at h;rw[cond_true];omega
 | false=>rw[bF]at h;rw[cond_false];omega
theorem IN{ng lg:Bool}{e g:Int}(h:aV ng lg s e g)(h0:aY s 88 88=0):dV s/\0<=e/\e<=16/\s.length<=17:=by
 unfold aV at h;rw[zAb]at h;exact⟨oV (by omega),by omega,by omega,by omega⟩
def oy(ng lg:Bool)(s:List UInt8)(e g:Int)(mo:List UInt8):Bool:=decide (aV ng lg s e g/\¬(0<g/\ae mo []=false)/\((aR mo≠24/\aR mo≠28/\aR mo≠30)\/1<=aY s 88 88\/¬(magOk s e.toNat/\cF s e.toNat=10000000000000000/\ng=false)))
def T8:aQ:=T7
def nH(ng lg:Bool)(s:List UInt8)(e g:Int)(mo da:List UInt8)(a b c:Int):Int:=
 if oy ng lg s e g mo=false then 6 else if ae mo []=false/\aR mo=0/\eW mo 12=false then 7 else if ae da []=false/\(ae mo []\/0<aR mo\/eW da 31=false)then 8 else errMk a b c (dq mo da)
def T9:aQ:=T8
theorem CF(mo:List UInt8):0<=aR mo:=by
 unfold aR
 repeat' (first|omega|(cases ae mo _<;>simp only[zAj]))
theorem WW:ak Tryz.prog cfg T8:=MW
theorem gx:ak Tryz.prog cfg T9:=WW
end Go.Ev
end
section
namespace Go.Proofs.YtoghlpcacfnjbaaGreatDoor
open Go.RowKit
theorem ints_size(a:Nat)(w:World)(h:a<=9223372036854775807):Calls Tryz.prog 277 #[.int .i64 (a:Int)] w λe w'=>e=.returned (.int .u64 (a:Int))/\w=w':=by
 go_enter Tryz.func277,Tryz.ntmps277
 go_wp2;go_ret
 simp
theorem ints_signed_ok(a:Nat)(w:World)(h:a<=9223372036854775807):Calls Tryz.prog 278 #[.int .u64 (a:Int),.bool false] w λe w'=>e=.returned (.tuple #[.int .i64 (a:Int),.int .i64 0])/\w=w':=by
 go_enter Tryz.func278,Tryz.ntmps278
 go_wp2;go_ret2
 simp
theorem ints_signed_no(a:Nat)(w:World)(h:9223372036854775807<a):Calls Tryz.prog 278 #[.int .u64 (a:Int),.bool false] w λe w'=>e=.returned (.tuple #[.int .i64 0,.int .i64 15])/\w=w':=by
 go_enter Tryz.func278,Tryz.ntmps278
 go_wp2;go_ret2
 simp
theorem Mul64(x y:Nat)(w:World)(hx:x<18446744073709551616)(hy:y<18446744073709551616)(a b:Nat)(ha:x*y/18446744073709551616=a)(hb:x*y%18446744073709551616=b) :
 Calls Tryz.prog 276 #[.int .u64 (x:Int),.int .u64 (y:Int)] w λe w'=>e=.returned (.tuple #[.int .u64 (a:Int),.int .u64 (b:Int)])/\w=w':=by
 subst ha;subst hb;refine(Tryz.bits_Mul64 x y hx hy w).mono ?_;rintro e w' ⟨rfl,rfl⟩;exact⟨rfl,rfl⟩
theorem Mul_ok(a b:Nat)(w:World)(ha:a<=9223372036854775807)(hb0:b<=9223372036854775807)(h:a*b<=9223372036854775807) :
 Calls Tryz.prog 241 #[.int .i64 (a:Int),.int .i64 (b:Int)] w λe w'=>e=.returned (.tuple #[.int .i64 ((a*b:Nat):Int),.int .i64 0])/\Below w.heap.size w w':=by
 obtain⟨m,hm⟩:∃m,a*b=m:=⟨_,rfl⟩;have e1:a*b/18446744073709551616=0:=by omega
 have e2:a*b%18446744073709551616=m:=by omega
 rw[hm]at h ⊢;clear hm;go_enter Tryz.func241,Tryz.ntmps241
 go_wp2_with (first|(go_at_call 277;refine(ints_size _ _ (by omega)).mono ?_;rintro e w' ⟨rfl,rfl⟩)|(go_at_call 276;refine(Mul64 _ _ _ (by omega) (by omega) _ _ e1 e2).mono ?_;rintro e w' ⟨rfl,rfl⟩)|(go_at_call 278;refine(ints_signed_ok _ _ (by omega)).mono ?_;rintro e w' ⟨rfl,rfl⟩))
 go_ret2
 exact⟨by simp,by(repeat(first|exact Below.refl _ _|assumption|refine balloc ?_ _|refine Below.drew ?_|refine bdrewN ?_ _|(refine bset ?_ (by first|exact Nat.le_refl _|(simp;done)|(simp;omega)) _)|refine bnext ?_ (by assumption)))⟩
theorem Mul_no(a b:Nat)(w:World)(ha:a<=9223372036854775807)(hb0:b<=9223372036854775807)(h:9223372036854775807<a*b) :
 Calls Tryz.prog 241 #[.int .i64 (a:Int),.int .i64 (b:Int)] w λe w'=>e=.returned (.tuple #[.int .i64 0,.int .i64 15])/\Below w.heap.size w w':=by
 obtain⟨q,e1⟩:∃q,a*b/18446744073709551616=q:=⟨_,rfl⟩;obtain⟨m,e2⟩:∃m,a*b%18446744073709551616=m:=⟨_,rfl⟩;have hm:m<18446744073709551616:=by omega
 by_cases hq:0<q
 . clear h;go_enter Tryz.func241,Tryz.ntmps241
   go_wp2_with (first|(go_at_call 277;refine(ints_size _ _ (by omega)).mono ?_;rintro e w' ⟨rfl,rfl⟩)|(go_at_call 276;refine(Mul64 _ _ _ (by omega) (by omega) _ _ e1 e2).mono ?_;rintro e w' ⟨rfl,rfl⟩))
   go_ret2
   exact⟨by simp,by(repeat(first|exact Below.refl _ _|assumption|refine balloc ?_ _|refine Below.drew ?_|refine bdrewN ?_ _|(refine bset ?_ (by first|exact Nat.le_refl _|(simp;done)|(simp;omega)) _)|refine bnext ?_ (by assumption)))⟩
 . have hq0:q=0:=by omega
   have h2:9223372036854775807<m:=by omega
   subst hq0;clear h;go_enter Tryz.func241,Tryz.ntmps241
   go_wp2_with (first|(go_at_call 277;refine(ints_size _ _ (by omega)).mono ?_;rintro e w' ⟨rfl,rfl⟩)|(go_at_call 276;refine(Mul64 _ _ _ (by omega) (by omega) _ _ e1 e2).mono ?_;rintro e w' ⟨rfl,rfl⟩)|(go_at_call 278;refine(ints_signed_no _ _ (by omega)).mono ?_;rintro e w' ⟨rfl,rfl⟩))
   go_ret2
   exact⟨by simp,by(repeat(first|exact Below.refl _ _|assumption|refine balloc ?_ _|refine Below.drew ?_|refine bdrewN ?_ _|(refine bset ?_ (by first|exact Nat.le_refl _|(simp;done)|(simp;omega)) _)|refine bnext ?_ (by assumption)))⟩
theorem enc_facts{r:Nat}(h:128<=r)(h2:r<=1114111):∃rs:ByteArray,Utf8.encode (r:Int)=rs/\2<=rs.size/\rs.size<=4/\∀(i:Nat) (hi:i<rs.size),i+1=rs.size->128<=rs[i].toNat:=by
 have key:∀c:Nat,128<=c->c<=1114111->∀rs:ByteArray,rs=(let b (n:Nat):UInt8:=UInt8.ofNat n
  if c<0x80 then⟨#[b c]⟩
  else if c<0x800 then⟨#[b (0xC0+c/64),b (0x80+c%64)]⟩
  else if c<0x10000 then⟨#[b (0xE0+c/4096),b (0x80+c/64%64),b (0x80+c%64)]⟩
  else⟨#[b (0xF0+c/262144),b (0x80+c/4096%64),b (0x80+c/64%64),b (0x80+c%64)]⟩:ByteArray)->2<=rs.size/\rs.size<=4/\∀(i:Nat) (hi:i<rs.size),i+1=rs.size->128<=rs[i].toNat:=by
  intro c h1 h2 rs e;have hb:128<=(UInt8.ofNat (0x80+c%64)).toNat:=by simp;omega
  rw[if_neg (by omega)]at e;split at e
  . subst e;refine⟨show 2<=2 by decide,show 2<=4 by decide,λi hi k=>?_⟩;have:i=1:=by have e2:i+1=2:=k;omega
    subst this;exact hb
  . split at e
    . subst e;refine⟨show 2<=3 by decide,show 3<=4 by decide,λi hi k=>?_⟩;have:i=2:=by have e2:i+1=3:=k;omega
      subst this;exact hb
    . subst e;refine⟨show 2<=4 by decide,show 4<=4 by decide,λi hi k=>?_⟩;have:i=3:=by have e2:i+1=4:=k;omega
      subst this;exact hb
 refine⟨_,rfl,?_⟩;by_cases hv:Utf8.valid (r:Int)
 . refine key r h h2 _ ?_;unfold Utf8.encode;simp only[hv,if_true,Int.toNat_natCast]
 . refine key Utf8.runeError (by decide) (by decide) _ ?_;unfold Utf8.encode;simp only[hv];rfl
theorem indexByte_high:∀(l:List UInt8) (c:UInt8),(∀b∈l,b.toNat<128)->128<=c.toNat->¬0<=Lib.indexByte l c:=by
 intro l c h hc hi;rw[<-decide_eq_true_iff (p:=0<=Lib.indexByte l c),<-Lib.contains_iff_indexByte]at hi;have:=h c (by simpa using hi);omega
theorem indexByte_no{l:List UInt8}{c:UInt8}(h:¬0<=Lib.indexByte l c):Lib.indexByte l c = -1:=by
 have:=Lib.indexByte_ge l c;omega
theorem IndexByte_none(t:ByteArray)(c:Int)(w:World)(h:∀b∈t.data.toList,b.toNat<128)(h0:128<=c)(h1:c<256) :
 Calls Tryz.prog 308 #[.string t,.int .u8 c] w λe w'=>e=.returned (.int .i64 (-1))/\w'=w:=by
 refine(Tryz.strings_IndexByte t c w).mono ?_;rintro e w' ⟨rfl,rfl⟩;exact⟨by rw[indexByte_no (indexByte_high _ _ h (by simp;omega))],rfl⟩
theorem extract_mem(s:ByteArray)(a e:Nat):∀b∈(s.extract a e).data.toList,b∈s.data.toList:=by
 intro b hb;rw[ByteArray.data_extract,Array.toList_extract]at hb;exact List.mem_of_mem_drop (List.mem_of_mem_take (by simpa [List.extract]using hb))
theorem ValidRune_is(r:Int)(b:Bool)(w:World)(h:Lib.validRune r=b):Calls Tryz.prog 309 #[.int .i32 r] w λe w'=>e=.returned (.bool b)/\w=w':=by
 refine(Tryz.utf8_ValidRune r w).mono ?_;rintro e w' ⟨rfl,rfl⟩;exact⟨by rw[h],rfl⟩
theorem ix_at(s:ByteArray)(m:Nat)(h:m<s.size)(c:Nat)(hc:s[m].toNat=c)(w:World):(Instr.index 9 (.string s) (.int .i64 (m:Int))).run Tryz.prog w=.ok (.int .u8 (c:Int)) w:=by
 rw[run_index_string (w:=w) 9 s .i64 (m:Int) Tryz.underlying9,dif_pos ⟨by omega,by omega⟩];subst hc;rfl
theorem slice_from(s:ByteArray)(m:Nat)(h:m<=s.size)(w:World):(Instr.slice 9 (.string s) (some (.int .i64 (m:Int))) none none).run Tryz.prog w=.ok (.string (s.extract m s.size)) w:=by
 rw[run_slice_string_l (w:=w) (t:=9) (ht:=Tryz.underlying9) (s:=s) .i64 (m:Int) (by omega) (by omega)];rfl
theorem biter{w:World}(s:ByteArray)(p:Nat):Below w.heap.size w (w.iter s p):=(Below.refl _ _).alloc (Nat.le_refl _) _
set_option maxRecDepth 1000000 in
set_option maxHeartbeats 2000000 in
theorem IndexRune_err(s:ByteArray)(w:World)(ha:∀(i:Nat) (h:i<s.size),s[i].toNat<128) :
 Calls Tryz.prog 282 #[.string s,.int .i32 65533] w λe w'=>e=.returned (.int .i64 (-1))/\Below w.heap.size w w':=by
 have HM:=Lib.hid ha;clear ha;go_enter Tryz.func282,Tryz.ntmps282
 go_wp2;go_loopw [5,6] (λ_ _ wr=>∃pos,pos<=s.size/\wr=w.iter s pos) (λ_ _ wr=>s.size-wr.iterPos w.heap.size)
 case atStart=>exact⟨0,by omega,rfl⟩
 case round=>
  obtain⟨pos,hp,rfl⟩:=hrel;by_cases hlt:pos<s.size
  . have hb:=HM.out pos hlt;have nx:=λty=>run_next_ascii (P:=Tryz.prog) w s pos ty hlt (by omega);generalize hc:s[pos]=c at *;clear hc;have t0:((c.toNat:Int)==65533)=false:=by simp;omega
    go_wp2;go_roundw
    case rel=>exact⟨pos+1,by omega,rfl⟩
    case measure=>simp;omega
  . have nx:=λty=>run_next_end (P:=Tryz.prog) w s pos ty hlt;go_wp2;go_ret
    exact⟨by simp,biter _ _⟩
set_option maxRecDepth 1000000 in
set_option maxHeartbeats 2000000 in
theorem IndexRune_high(s:ByteArray)(r:Nat)(w:World)(hs:4<=s.size)(hs2:s.size<=100)(ha:∀(i:Nat) (h:i<s.size),s[i].toNat<128)(h:128<=r)(h2:r<=1114111)(hr:r≠65533) :
 Calls Tryz.prog 282 #[.string s,.int .i32 (r:Int)] w λe w'=>e=.returned (.int .i64 (-1))/\Below w.heap.size w w':=by
 have q0:decide ((r:Int)<128)=false:=by simp;omega
 have q1:((r:Int)==65533)=false:=by simp;omega
 by_cases hv:Lib.validRune (r:Int)=true
 . obtain⟨rs,er,z1,z2,hl⟩:=enc_facts h h2;obtain⟨m,hm⟩:∃m,rs.size=m+1:=⟨rs.size-1,by omega⟩;have hm1:m<s.size:=by omega
   have hm2:m<rs.size:=by omega
   have L1:=ha m hm1;have L2:=hl m hm2 (by omega);have L3:=rs[m].toNat_lt;obtain⟨c1,e1⟩:∃c,s[m].toNat=c:=⟨_,rfl⟩;obtain⟨c2,e2⟩:∃c,rs[m].toNat=c:=⟨_,rfl⟩;have x1:=ix_at s m hm1 c1 e1;have x2:=ix_at rs m hm2 c2 e2;rw[e1]at L1;rw[e2]at L2 L3;clear e1 e2;have x3:∀w:World,(Instr.slice 9 (.string s) (some (.int .i64 ((m:Int)+1))) none none).run Tryz.prog w=.ok (.string (s.extract (m+1) s.size)) w:=slice_from s (m+1) (by omega);have x4:IntKind.i64.wrap ((m:Int)+1)=(m:Int)+1:=IntWalk.i64_in _ (by omega);have t1:((c1:Int) !=(c2:Int))=true:=by simp;omega
   have HA:Hid (∀b∈s.data.toList,b.toNat<128):=Lib.hid (by
    intro b hb;obtain⟨i,hi,rfl⟩:=List.getElem_of_mem hb;exact ha i (by simpa using hi))
   clear ha hl;go_enter Tryz.func282,Tryz.ntmps282
   go_wp2_with (first|(go_at_call 309;refine(ValidRune_is _ _ _ hv).mono ?_;rintro e w' ⟨rfl,rfl⟩))
   have cv:∀w:World,(convert 21 9 (.int .i32 (r:Int))).run Tryz.prog w=.ok (.string rs) w:=λw=>by rw[run_convert_int_string w 21 9 .i32 r (by kernel_rfl) (by kernel_rfl),er]
   go_wp2;go_step3
   go_wp2;go_loopw [4,9,10,11] (λ_ i _ _ wr=>i=.int .i64 (m:Int)/\wr=w) (λ_ _ _ _ _=>0)
   case atStart=>exact⟨rfl,rfl⟩
   case round=>
    obtain⟨rfl,rfl⟩:=hrel;go_wp2;go_step3
    go_wp2;go_quiet (fail)
    go_wp2;go_quiet ((go_at_call 308;exact(IndexByte_none _ _ _ (λb hb=>HA.out b (extract_mem _ _ _ b hb)) (by omega) (by omega)).mono λ_ _ h=>⟨h.1,_,h.2⟩))
    go_wp2;rw[Exit.noGoto_ret];simp +zetaDelta only[Exit.inBlock,Exit.then,Exit.noGoto];go_ret
    exact⟨by simp,by(repeat(first|exact Below.refl _ _|assumption|refine balloc ?_ _|refine Below.drew ?_|refine bdrewN ?_ _|(refine bset ?_ (by first|exact Nat.le_refl _|(simp;done)|(simp;omega)) _)|refine bnext ?_ (by assumption)))⟩
 . have hv2:Lib.validRune (r:Int)=false:=by simpa using hv
   go_enter Tryz.func282,Tryz.ntmps282
   go_wp2_with (first|(go_at_call 309;refine(ValidRune_is _ _ _ hv2).mono ?_;rintro e w' ⟨rfl,rfl⟩))
   go_ret
   exact⟨by simp,by(repeat(first|exact Below.refl _ _|assumption|refine balloc ?_ _|refine Below.drew ?_|refine bdrewN ?_ _|(refine bset ?_ (by first|exact Nat.le_refl _|(simp;done)|(simp;omega)) _)|refine bnext ?_ (by assumption)))⟩
end Go.Proofs.YtoghlpcacfnjbaaGreatDoor
end
