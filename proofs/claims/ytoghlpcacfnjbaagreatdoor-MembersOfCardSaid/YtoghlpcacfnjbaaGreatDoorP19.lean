import Derived.Laws.Runes
import Derived.WalkMore
import Derived.Test.YtoghlpcacfnjbaaGreatDoorP18
import Derived.Test.YtoghlpcacfnjbaaGreatDoorP02
set_option linter.all false
set_option maxRecDepth 100000
set_option maxHeartbeats 4000000
section
namespace Go.Ev
open Go Go.Proofs
variable{s:List UInt8}{Q:AV->Prop}
def dB(b:UInt8):Bool:=decide (48<=b.toNat)&&decide (b.toNat<=57)
def dY(l:List UInt8):Bool:=l.all dB
def numL(l:List UInt8):Nat:=l.foldl (λn b=>n*10+(b.toNat-48)) 0
def iP(s:List UInt8)(i:Nat):Nat:=numL (s.take i)*10^(i-s.length)
def cC(s:List UInt8)(e:Nat):Nat:=numL s*10^e
theorem Hi(l:List UInt8)(b:UInt8):numL (l++[b])=numL l*10+(b.toNat-48):=by simp[numL,List.foldl_append]
theorem BQ{s:List UInt8}{i:Nat}(h:i<s.length):iP s (i+1)=iP s i*10+((s.getD i 0).toNat-48):=by
 unfold iP;rw[pi h,Hi,show i+1-s.length=0 by omega,show i-s.length=0 by omega];simp
theorem CV{s:List UInt8}{i:Nat}(h:s.length<=i):iP s (i+1)=iP s i*10:=by
 unfold iP;rw[List.take_of_length_le (by omega:s.length<=i+1),List.take_of_length_le h,show i+1-s.length=(i-s.length)+1 by omega,Nat.pow_succ,Nat.mul_assoc]
theorem DE(s:List UInt8)(i:Nat):iP s i<=iP s (i+1):=by
 by_cases h:i<s.length
 . rw[BQ h];omega
 . rw[CV (by omega)];omega
theorem EN{i j:Nat}(h:i<=j):iP s i<=iP s j:=by
 obtain⟨k,rfl⟩:∃k,j=i+k:=⟨j-i,by omega⟩;induction k with
 | zero=>exact Nat.le_refl _
 | succ k ih=>exact Nat.le_trans (ih (by omega)) (DE s (i+k))
theorem ze(s:List UInt8)(e:Nat):iP s (s.length+e)=cC s e:=by
 unfold iP cC;rw[List.take_of_length_le (by omega),show s.length+e-s.length=e by omega]
theorem oI{s:List UInt8}(h:dY s){i:Nat}(hi:i<s.length):48<=(s.getD i 0).toNat/\(s.getD i 0).toNat<=57:=by
 unfold dY at h;rw[List.all_eq_true]at h;have:=h (s.getD i 0) (by rw[zAe,List.getElem?_eq_getElem hi];simp);simpa [dB]using this
def magOk(s:List UInt8)(e:Nat):Bool:=Nat.ble (cC s e) 10000000000000000
def QE:d9:=λvs o=>match vs,o with
 | [.str s,.int .i64 e,.int .i64 r,.int .i64 q,.int .i64 n,.int .i64 i],⟨0,[],[]⟩=>some (aH [Nat.ble s.length 1000,ab 0 e,ab e 1000,dY s,aa r 0,aa q 0,aa n 0,aa i 0]
   (.test (magOk s e.toNat) λb=>bif b then .ret (.exit 0,[.str s,.int .i64 e,.int .i64 0,.int .i64 0,.int .i64 (Int.ofNat (cC s e.toNat)),.int .i64 (Int.ofNat (s.length+e.toNat))],dO)
     else .all λJ=>.ret (.ret,[.str s,.int .i64 e,.int .i64 0,.int .i64 0,.any (J 0),.any (J 1)],dO)))
 | _,_=>none
def Y7:cz:=iz io 0 (eb 32 [0,1,4,5,6,7] QE)
def Tt:dJ:=λargs=>match args with
 | [.str s,.int .i64 e]=>some (aH [Nat.ble s.length 1000,ab 0 e,ab e 1000,dY s] (.test (magOk s e.toNat) λb=>bif b then .ret (.tuple [.int .i64 (Int.ofNat (cC s e.toNat)),.int .i64 1])else .ret (.tuple [.int .i64 0,.int .i64 0])))
 | _=>none
def T2:aR:=aY T1 122 Tt
def YX(s:List UInt8)(e n:Int)(i:Nat)(J:Nat->Value){Q:VQ->Prop}:fx Q (rT S7 io [] 122 0 32 [0,1,4,5,6,7] [.str s,.int .i64 e,.int .i64 0,.int .i64 0,.int .i64 n,.int .i64 (Int.ofNat i)] J dO) (bA 1121412142704242)=((λ(A B C:AV)(E F G:Int)(N:Nat)=>(λ(I U:AV)(T:Bool)(H O P:Int)=>(λ(Z u1:AV)(W Y u0:Bool)(V:Int)=>(λ(u2:Bool)=>ae .i64 V/\(u2->ae .i64 F/\(W->aW i N/\ae .u8 G/\ae .i64 G/\ae .i64 H/\(Y->Q (.ret,[B,C,A,A,Z,I],⟨0,[],[]⟩))/\(Y=false->u0/\Q (.normal,[B,C,A,A,Z,u1],⟨0,[],[]⟩)))/\(W=false->(T->Q (.ret,[B,C,A,A,U,I],⟨0,[],[]⟩))/\(T=false->u0/\Q (.normal,[B,C,A,A,U,u1],⟨0,[],[]⟩))))/\(u2=false->Q (.exit 0,[B,C,A,A,.int .i64 n,I],⟨0,[],[]⟩))) (not (ab V E))) (.int .i64 H) (.int .i64 P) (not (ab O E)) (not (ab H 10000000000000000)) (ae .i64 P) (Int.add O e)) (.int .i64 E) (.int .i64 F) (not (ab F 10000000000000000)) (Int.add F G) (Int.ofNat N) (Int.add E 1)) (.int .i64 0) (.str s) (.int .i64 e) (Int.ofNat i) (Int.mul 10 n) (Int.sub (Int.ofNat (UInt8.toNat (List.getD s i 0))) 48) s.length):=by kernel_rfl
theorem TJ:cx Tryz.prog (cH cfg S7) (Cw cfg []) (lb 122 0) 32 [0,1,4,5,6,7] QE:=by
 intro vs o t Q hv hq J;unfold QE at hv;split at hv
 . rename_i s e r q n i;cases hv;replace hq:=cL hq;obtain⟨⟨h1,h2,h3,h4,h5,h6,h7,h8,-⟩,hq⟩:=hq;rw[aq]at h1;rw[ao]at h2 h3;rw[al]at h5 h6 h7 h8;subst h5 h6 h7 h8;have hq:Tr.wp Q (bif magOk s e.toNat then .ret (.exit 0,[.str s,.int .i64 e,.int .i64 0,.int .i64 0,.int .i64 (Int.ofNat (cC s e.toNat)),.int .i64 (Int.ofNat (s.length+e.toNat))],dO)else .all λJ=>.ret (.ret,[.str s,.int .i64 e,.int .i64 0,.int .i64 0,.any (J 0),.any (J 1)],dO)):=hq;refine im tK rfl rfl ag (ι:={i:Nat // i<=s.length+e.toNat/\iP s i<=10000000000000000}) (λx=>[.str s,.int .i64 e,.int .i64 0,.int .i64 0,.int .i64 (Int.ofNat (iP s x.1)),.int .i64 (Int.ofNat x.1)]) (λ_=>dO) (λx=>s.length+e.toNat-x.1) 0 (λ_=>Nat.le_refl _) (λx J=>?_) (Nat.le_refl _) (λJ=>Wk.refl ⟨⟨0,Nat.zero_le _,by simp[iP,numL]⟩,J,by simp[iP,numL,sX]⟩) J;obtain⟨i,hi,hp⟩:=x;dsimp only;have hlt:=@BQ s i;have hge:=@CV s i;have hmono:i+1<=s.length+e.toNat->iP s (i+1)<=cC s e.toNat:=λh=>by rw[<-ze];exact EN h
   have hdi:=@oI s h4 i;refine dD λQ' hQ=>bG ((YX s e _ i J).mpr ?_);simp only[az,reduceCtorEq];have no:10000000000000000<iP s (i+1)->i+1<=s.length+e.toNat->magOk s e.toNat=false:=λh h'=>by
    have:=hmono h';unfold magOk;rw[At];omega
   (repeat' first|exact trivial|refine⟨?_,?_⟩|intro)<;>first|omega|refine hQ _ ?_
   . have:=hlt (by omega);rw[no (by omega) (by omega),cond_false]at hq;exact⟨_,_,VW.any (.same (.same (.same (.same (.int (.int .nil)))))) rfl,hq (jv [_,_])⟩
   . have h:=hlt (by omega);exact⟨⟨i+1,by omega,by omega⟩,by dsimp only;omega,VW.of_eq (by dsimp only;rw[h];congr 6;simp only[AA];omega) rfl⟩
   . have:=hge (by omega);rw[no (by omega) (by omega),cond_false]at hq;exact⟨_,_,VW.any (.same (.same (.same (.same (.int (.int .nil)))))) rfl,hq (jv [_,_])⟩
   . have h:=hge (by omega);exact⟨⟨i+1,by omega,by omega⟩,by dsimp only;omega,VW.of_eq (by dsimp only;rw[h];congr 6;simp only[AA];omega) rfl⟩
   . obtain rfl:i=s.length+e.toNat:=by omega
     rw[ze]at hp ⊢;have:magOk s e.toNat=true:=by unfold magOk;rw[aq];exact hp
     rw[this,cond_true]at hq;exact⟨_,_,VW.refl,hq⟩
 . cases hv
def Mq:bh tab 122=some (dC 122,aN 122):=by kernel_rfl
def J5:(bj (aN 122)).map (·.1)=[0]:=by kernel_rfl
theorem JZ:ak Tryz.prog cfg T2:=au Vn λargs t v he hv=>by
 unfold Tt at he;split at he
 . rename_i s e;cases he;obtain⟨⟨h1,h2,h3,h4,-⟩,hv⟩:=aF hv;rw[aq]at h1;rw[ao]at h2 h3;refine Bp tK (L:=Y7) Mq (by simp) (dv J5 λi hi e he st Q hw=>?_) ?_
   . have hi:i=0:=by simp at hi;omega
     subst hi;cases he;exact b7 (cF.good tK) (by decide) rfl TJ hw
   . refine jT (bA 114527) (R:=λQ=>(λ(B:AV)(A:Nat)=>Nat.ble s.length 1000/\ab 0 e/\ab e 1000/\dY s/\(magOk s A->(∀J1:Nat->Value,Q (.tuple [.int .i64 (Int.ofNat (cC s A)),.int .i64 1],⟨0,[],[]⟩)))/\(magOk s A=false->(∀J1 J2:Nat->Value,Q (.tuple [B,B],⟨0,[],[]⟩)))) (.int .i64 0) e.toNat) (λ_=>by kernel_rfl) λQ' hQ=>?_;simp only[az,reduceCtorEq];have hv:Tr.run (bif magOk s e.toNat then .ret (.tuple [.int .i64 (Int.ofNat (cC s e.toNat)),.int .i64 1])else .ret (.tuple [.int .i64 0,.int .i64 0]))=some v:=hv
     (repeat' first|exact trivial|refine⟨?_,?_⟩|intro)<;>first|omega|assumption|(rename_i hm _;rw[hm]at hv;cases hv;exact hQ _ dL.refl)|(rename_i hm _ _;rw[hm]at hv;cases hv;exact hQ _ dL.refl)
 . cases he
abbrev TS(ng lg:Bool)(s:List UInt8)(e g:Int):AV:=.agg [.bool ng,.bool lg,.str s,.int .i64 e,.int .i64 g]
abbrev O5(ng lg:Bool)(s:List UInt8)(e g:Int)(mo da:List UInt8)(a b c:Int):AV:=.agg [.bool ng,.bool lg,.str s,.int .i64 e,.int .i64 g,.str mo,.str da,.int .u8 a,.int .u8 b,.int .u8 c]
def aZ(ng lg:Bool)(s:List UInt8)(e g:Int):Bool:=decide (aT s 48 57+aT s 88 88=s.length/\0<=g/\
 (lg=false/\s.length=4/\e=0/\¬(ng/\aT s 48 48=4)/\g<=4/\¬(0<g/\0<aT s 88 88)\/
  lg/\aT s 88 88=0/\1<=aT s 48 57/\aT s 48 57<=17/\(s.getD 0 0).toNat≠48/\0<=e/\e<=16/\¬(e=0/\aT s 48 57<5)/\g<=aT s 48 57+e/\magOk s e.toNat=true))
def Wb:dJ:=λargs=>match args with
 | [.agg [.bool ng,.bool lg,.str s,.int .i64 e,.int .i64 g]]=>some (aH [Nat.ble s.length 1000] (.ret (.int .i64 (gQ 1 (Int.ofNat (aT s 88 88))))))
 | _=>none
def bI(b:Bool):Int:=bif b then 1 else 0
def RU:dJ:=λargs=>match args with
 | [.agg [.bool ng,.bool lg,.str s,.int .i64 e,.int .i64 g]]=>some (aH [Nat.ble s.length 1000,ae .i64 e] (.ret (.int .i64 (bI (aZ ng lg s e g)))))
 | _=>none
def T3:aR:=aY (aY T2 137 Wb) 69 RU
theorem oP{s:List UInt8}(h:aT s 48 57=s.length):dY s=true:=by
 unfold aT at h;rw[List.length_filter_eq_length_iff]at h;unfold dY;rw[List.all_eq_true];intro c hc;have:=h c hc;rw[zAa,zAb,zAb]at this;unfold dB;rw[zAa,zAb,zAb];omega
theorem Wh{b:Bool}(h:b):bI b=1:=by rw[h];rfl
theorem Tq{b:Bool}(h:b=false):bI b=0:=by rw[h];rfl
def Ze(ng lg:Bool)(s:List UInt8)(e g:Int):fx Q (pT T2 io 137 [TS ng lg s e g]) (bA 1200)=(Nat.ble s.length 1000000/\Q (.int .i64 (gQ 1 (Int.ofNat (aT s 88 88))))):=by kernel_rfl
def Nq:bh tab 137=some (dC 137,aN 137):=by kernel_rfl
theorem Jo:ak Tryz.prog cfg T3:=by
 refine au (au JZ λargs t v he hv=>?_) λargs t v he hv=>?_
 . unfold Wb at he;split at he
   . cases he;obtain⟨h1,hv⟩:=bK hv;rw[aq]at h1;cases hv;refine kw JZ (L:=io) Nq (by simp) ag (bG ((Ze _ _ _ _ _).mpr ?_)) (by simp[aD]);simp only[az,reduceCtorEq]
     (repeat' first|exact trivial|refine⟨?_,?_⟩|intro)<;>first|omega|rfl
   . cases he
 . unfold RU at he;split at he
   . rename_i ng lg s e g;cases he;obtain⟨⟨h1,h2,-⟩,hv⟩:=aF hv;rw[aq]at h1;rw[aB]at h2;cases hv;have k1:=m7 s 48 57;have k2:=m7 s 88 88;refine iI JZ ag (bA 1023310056662310006662310005662810006623315562331623008111447000140025533231028811144700014370702437422024320243202432202024324324156623315623533102300810332311437422024053328162331023008103323114374220243202432702024202432024040143202402200200) (R:=λQ=>(λ(I V u5 u6 u8 u9 ua us ut uu:Bool)(H ur:Int)(U:Nat)(A N u7:Prop)=>(λ(C E W Y Z u0 ub uc ue uf ug:Bool)(uv uw uz:Int)(ud uh ux uy:Prop)=>(λ(B G P ui uj ul um uC uD:Bool)(O T uk un uo uA uB:Prop)=>(λ(u1 u2:Bool)(F u3 u4 uE uF uG uH:Prop)=>(λ(up uq:Prop)=>ub/\ub/\ae .i64 uv/\(u1->u1/\u1/\ui=false/\(us->A)/\(us=false->(ut->(u2->u2/\u2/\uj=false/\(G->G/\G/\(ng->ng/\ng/\ub/\ng/\G/\ng/\uA/\(W->W/\W/\u5=false/\uE)/\(uk->uk/\uk/\u5/\A))/\(N->N/\N/\N/\G/\N/\uA/\uE))/\(u3->u3/\u3/\u3/\uc/\A))/\(up->up/\up/\uj/\A))/\(ut=false->(ul->ul/\uB/\(um->um/\ue=false/\(P->P/\P/\aW 0 U/\P/\uf=false/\(Z->Z/\Z/\u8=false/\(u0->u0/\u0/\u9=false/\(E->E/\E/\E/\(I->I/\E/\I/\uy/\(B->B/\B/\B/\B/\B/\uC/\B/\ug=false/\uF)/\(F->F/\F/\F/\F/\F/\F/\ug/\A))/\(uh->uh/\E/\uh/\uy/\uC/\uF))/\(T->T/\T/\T/\T/\ua/\A))/\(un->un/\un/\u9/\A))/\(uo->uo/\uo/\u8/\A))/\(u4->u4/\u4/\u4/\uf/\A))/\(uG->uG/\ue/\A))/\(uH->uH/\Y/\A))))/\(uq->uq/\uq/\ui/\A)) (u2=false) (u1=false)) (not ui) (not uj) (B=false) (G=false) (P=false) ((C->C/\C/\C/\(V->V/\C/\V/\ux/\(Y->A)/\(uB->u7))/\(ud->ud/\C/\ud/\ux/\u7))/\(O->O/\O/\O/\O/\u6/\A)) ((uD->A)/\(uD=false->Nat.ble U 1000/\ab 0 e/\ab e 1000/\(dY s->(uu->u7)/\(uu=false->A))/\(dY s=false->False))) (um=false) (ul=false)) (not ug) (not uc) (not uf) (not (aa uv uw)) (not (aa uw 4)) (not Y) (not ue) (ae .i64 uz) (not (ab g uz)) (C=false) (E=false) (W=false) (u0=false) (Z=false) (uc=false) (Y=false)) (not u6) (not ua) (not u5) (not (ab ur 0)) (not u8) (not u9) (Nat.ble U 1000000) (not I) (not (ab 1 H)) (not (ab H 17)) (not (ab 5 H)) (Int.add H ur) (Int.ofNat U) (Int.add H e) (V=false) (I=false) (u6=false) (ua=false)) (aa e 0) (not (ab g 0)) (aa (Int.ofNat (aT s 48 48)) 4) (not (ab g 4)) (aa (Int.ofNat (UInt8.toNat (List.getD s 0 0))) 48) (not (ab 0 e)) (not (ab e 16)) (not (ab 0 g)) (not lg) (magOk s e.toNat) (Int.ofNat (aT s 48 57)) (Int.ofNat (aT s 88 88)) s.length (Q (.int .i64 0)) (ng=false) (Q (.int .i64 1))) (λ_=>by kernel_rfl) λQ' hQ=>?_;simp only[az,reduceCtorEq];have dg:=@oP s;have yes:aZ ng lg s e g->Q' (.int .i64 1):=λh=>hQ _ (by rw[Wh h]);have no:aZ ng lg s e g=false->Q' (.int .i64 0):=λh=>hQ _ (by rw[Tq h])
     (repeat' first|exact trivial|refine⟨?_,?_⟩|intro)<;>first|omega|assumption|(exact dg (by omega))|(exfalso;have:=dg (by omega);simp_all;done)|(refine no ?_;unfold aZ;rw[decide_eq_false_iff_not];simp_all;try omega)|(refine yes ?_;unfold aZ;rw[zAb];simp_all;try omega)
   . cases he
def pL(n:Int):List UInt8:=[UInt8.ofNat (48+(n/10).toNat),UInt8.ofNat (48+(n%10).toNat)]
def Rv:dJ:=λargs=>match args with
 | [.int .i64 n]=>some (aH [ab 0 n,ab n 99] (.ret (.str (pL n))))
 | _=>none
def T4:aR:=aY T3 70 Rv
def agB(s:List UInt8)(i:Nat)(d:Int):Bool:=decide ((s.getD i 0).toNat=88) || decide (((s.getD i 0).toNat:Int)=48+d)
def agr(s:List UInt8)(n:Int):Bool:=decide (s.length=2)&&(agB s 0 (n/10)&&agB s 1 (n%10))
def UK:dJ:=λargs=>match args with
 | [.str s,.int .i64 n]=>some (aH [ab 0 n,ab n 99] (.ret (.int .i64 (bI (agr s n)))))
 | _=>none
def T5:aR:=aY T4 140 UK
def eW(s:List UInt8)(g:Nat):Bool:=(List.range g).any λk=>agr s (k+1)
def aL(mo:List UInt8):Int:=bif af mo [UInt8.ofNat 50,UInt8.ofNat 49]then 21 else bif af mo [UInt8.ofNat 50,UInt8.ofNat 50]then 22 else bif af mo [UInt8.ofNat 50,UInt8.ofNat 51]then 23 else bif af mo [UInt8.ofNat 50,UInt8.ofNat 52]then 24 else bif af mo [UInt8.ofNat 50,UInt8.ofNat 53]then 25 else bif af mo [UInt8.ofNat 50,UInt8.ofNat 54]then 26 else bif af mo [UInt8.ofNat 50,UInt8.ofNat 55]then 27 else bif af mo [UInt8.ofNat 50,UInt8.ofNat 56]then 28 else bif af mo [UInt8.ofNat 50,UInt8.ofNat 57]then 29 else bif af mo [UInt8.ofNat 51,UInt8.ofNat 48]then 30 else bif af mo [UInt8.ofNat 51,UInt8.ofNat 49]then 31 else bif af mo [UInt8.ofNat 51,UInt8.ofNat 50]then 32 else bif af mo [UInt8.ofNat 51,UInt8.ofNat 51]then 33 else bif af mo [UInt8.ofNat 51,UInt8.ofNat 52]then 34 else bif af mo [UInt8.ofNat 51,UInt8.ofNat 53]then 35 else bif af mo [UInt8.ofNat 51,UInt8.ofNat 54]then 36 else bif af mo [UInt8.ofNat 51,UInt8.ofNat 55]then 37 else bif af mo [UInt8.ofNat 51,UInt8.ofNat 56]then 38 else bif af mo [UInt8.ofNat 51,UInt8.ofNat 57]then 39 else bif af mo [UInt8.ofNat 52,UInt8.ofNat 48]then 40 else bif af mo [UInt8.ofNat 52,UInt8.ofNat 49]then 41 else 0
def df(mo da:List UInt8):Int:=1+(bif af mo []then 0 else 1)+(bif af da []then 0 else 1)
def errMk(a b c n:Int):Int:=if n<1\/3<n then 4 else if 3<a\/(n<=0/\0<a)\/3<b\/(n<=1/\0<b)\/3<c\/(n<=2/\0<c)then 9 else 0
def ZC:dJ:=λargs=>match args with
 | [.agg [.bool ng,.bool lg,.str s,.int .i64 e,.int .i64 g,.str mo,.str da,.int .u8 a,.int .u8 b,.int .u8 c]]=>some (.ret (.int .i64 (aL mo)))
 | _=>none
def XY:dJ:=λargs=>match args with
 | [.agg [.bool ng,.bool lg,.str s,.int .i64 e,.int .i64 g,.str mo,.str da,.int .u8 a,.int .u8 b,.int .u8 c]]=>some (.ret (.int .i64 (df mo da)))
 | _=>none
def T6:aR:=T5
def T7:aR:=aY (aY T6 36 ZC) 38 XY
theorem Ur:∀a:Nat,a<10->List.drop a (List.take (a+1) [UInt8.ofNat 48,UInt8.ofNat 49,UInt8.ofNat 50,UInt8.ofNat 51,UInt8.ofNat 52,UInt8.ofNat 53,UInt8.ofNat 54,UInt8.ofNat 55,UInt8.ofNat 56,UInt8.ofNat 57])=[UInt8.ofNat (48+a)]:=by decide
theorem WA:∀a:Nat,a<10->(UInt8.ofNat (48+a)).toNat=48+a:=by decide
def Zk(n:Int):fx Q (pT T3 io 70 [.int .i64 n]) (bA 1770077020)=((λ(A B:Int)(H:List UInt8)=>(λ(I:Bool)(C E:Int)(N O:Nat)=>(λ(F G:Nat)=>(λ(P T:List UInt8)=>I/\I/\ae .i64 C/\ab 0 C/\Nat.ble F 10/\ab 0 A/\Nat.ble N F/\ae .i64 E/\ab 0 E/\Nat.ble G 10/\ab 0 B/\Nat.ble O G/\Nat.ble (HAdd.hAdd P.length T.length) 1000000/\Q (.str (P++T))) (List.drop N (List.take F H)) (List.drop O (List.take G H))) C.toNat E.toNat) (ae .i64 A) (Int.add A 1) (Int.add B 1) A.toNat B.toNat) (Int.tdiv n 10) (Int.tmod n 10) [UInt8.ofNat 48,UInt8.ofNat 49,UInt8.ofNat 50,UInt8.ofNat 51,UInt8.ofNat 52,UInt8.ofNat 53,UInt8.ofNat 54,UInt8.ofNat 55,UInt8.ofNat 56,UInt8.ofNat 57]):=by kernel_rfl
def b86(ng lg:Bool)(s:List UInt8)(e g:Int)(mo da:List UInt8)(a b c:Int):fx Q (pT T6 io 36 [O5 ng lg s e g mo da a b c]) (bA 10014005140051400514005140051400514005140051400514005140051400514005140051400514005140051400514005140051405)=((λ(A B C E F G H I N O:UInt8)=>(λ(P T U V W Y Z u0 u1 u2 u3 u4 u5 u6 u7 u8 u9 ua ub uc ud:Bool)=>(P->Q (.int .i64 21))/\(P=false->(T->Q (.int .i64 22))/\(T=false->(U->Q (.int .i64 23))/\(U=false->(V->Q (.int .i64 24))/\(V=false->(W->Q (.int .i64 25))/\(W=false->(Y->Q (.int .i64 26))/\(Y=false->(Z->Q (.int .i64 27))/\(Z=false->(u0->Q (.int .i64 28))/\(u0=false->(u1->Q (.int .i64 29))/\(u1=false->(u2->Q (.int .i64 30))/\(u2=false->(u3->Q (.int .i64 31))/\(u3=false->(u4->Q (.int .i64 32))/\(u4=false->(u5->Q (.int .i64 33))/\(u5=false->(u6->Q (.int .i64 34))/\(u6=false->(u7->Q (.int .i64 35))/\(u7=false->(u8->Q (.int .i64 36))/\(u8=false->(u9->Q (.int .i64 37))/\(u9=false->(ua->Q (.int .i64 38))/\(ua=false->(ub->Q (.int .i64 39))/\(ub=false->(uc->Q (.int .i64 40))/\(uc=false->(ud->Q (.int .i64 41))/\(ud=false->Q (.int .i64 0))))))))))))))))))))))) (af mo [B,E]) (af mo [B,B]) (af mo [B,A]) (af mo [B,C]) (af mo [B,F]) (af mo [B,G]) (af mo [B,H]) (af mo [B,I]) (af mo [B,N]) (af mo [A,O]) (af mo [A,E]) (af mo [A,B]) (af mo [A,A]) (af mo [A,C]) (af mo [A,F]) (af mo [A,G]) (af mo [A,H]) (af mo [A,I]) (af mo [A,N]) (af mo [C,O]) (af mo [C,E])) (UInt8.ofNat 51) (UInt8.ofNat 50) (UInt8.ofNat 52) (UInt8.ofNat 49) (UInt8.ofNat 53) (UInt8.ofNat 54) (UInt8.ofNat 55) (UInt8.ofNat 56) (UInt8.ofNat 57) (UInt8.ofNat 48)):=by kernel_rfl
def b88(ng lg:Bool)(s:List UInt8)(e g:Int)(mo da:List UInt8)(a b c:Int):fx Q (pT T6 io 38 [O5 ng lg s e g mo da a b c]) (bA 1104011040040)=((λ(A B:Bool)(C:Prop)=>(λ(E:Prop)=>(B->(A->Q (.int .i64 3))/\(E->C))/\(B=false->(A->C)/\(E->Q (.int .i64 1)))) (A=false)) (not (af da [])) (not (af mo [])) (Q (.int .i64 2))):=by kernel_rfl
def NV:bh tab 70=some (dC 70,aN 70):=by kernel_rfl
def RB:bh tab 36=some (dC 36,aN 36):=by kernel_rfl
def P9:bh tab 38=some (dC 38,aN 38):=by kernel_rfl
theorem Ma:ak Tryz.prog cfg T4:=by
 refine au Jo λargs t v he hv=>?_;unfold Rv at he;split at he
 . rename_i n;cases he;obtain⟨⟨h1,h2,-⟩,hv⟩:=aF hv;rw[ao]at h1 h2;cases hv;refine kw Jo (L:=io) NV (by simp) ag (bG ((Zk n).mpr ?_)) (by simp[aD]);dsimp only;rw[Int.tdiv_eq_ediv_of_nonneg h1,Int.tmod_eq_emod_of_nonneg h1];obtain⟨k,rfl⟩:∃k:Nat,n=k:=⟨n.toNat,by omega⟩;have e1:((k:Int)/10)=((k/10:Nat):Int):=by omega
   have e2:((k:Int)%10)=((k%10:Nat):Int):=by omega
   have e3:Int.add ((k/10:Nat):Int) 1=((k/10+1:Nat):Int):=by rw[vx];omega
   have e4:Int.add ((k%10:Nat):Int) 1=((k%10+1:Nat):Int):=by rw[vx];omega
   rw[e1,e2,e3,e4];simp only[Int.toNat_natCast,Ur _ (by omega:k/10<10),Ur _ (by omega:k%10<10)];simp only[az,reduceCtorEq];simp only[zAd,List.length_nil]
   (repeat' first|exact trivial|refine⟨?_,?_⟩|intro)<;>first|omega|skip
   show AV.str _=AV.str (pL k);unfold pL;rw[e1,e2];rfl
 . cases he
theorem pc{i:Nat}{d:Int}:agB s i d=true↔(s.getD i 0).toNat=88\/((s.getD i 0).toNat:Int)=48+d:=by
 unfold agB;rw[Bool.or_eq_true,zAb,zAb]
theorem TK:ak Tryz.prog cfg T5:=by
 refine au Ma λargs t v he hv=>?_;unfold UK at he;split at he
 . rename_i s n;cases he;obtain⟨⟨h1,h2,-⟩,hv⟩:=aF hv;rw[ao]at h1 h2;cases hv;refine iI Ma ag (bA 1000633058100203811403020070240020007381033058107381142322007024702423220070247024220) (R:=λQ=>(λ(T:Nat)(U V:Prop)(N:UInt8)=>(λ(C O:Bool)(Y Z:Int)=>(λ(E P W u0:Bool)(F:Prop)=>(λ(A G:Bool)(H u1 u2:Prop)=>(λ(B I:Prop)=>ab 0 n/\ab n 99/\(C->C/\aW 0 T/\C/\C/\(G->G/\aW 0 T/\G/\G/\G/\C/\W=false/\C/\(E->E/\O/\E/\E/\(A->A/\O/\A/\A/\A/\E/\u1/\E/\u2)/\(B->B/\B/\B/\B/\E/\P/\E/\U))/\(H->H/\H/\H/\H/\H/\V))/\(I->I/\I/\I/\I/\C/\W/\C/\O/\(A->A/\O/\A/\A/\A/\u1/\u2)/\(B->B/\B/\B/\B/\P/\U)))/\(F->F/\F/\F/\F/\F/\V)) (A=false) (G=false)) (not P) (not W) (E=false) (P=false) ((u0->U)/\(u0=false->V))) (aa Y (Int.ofNat (UInt8.toNat (List.getD (pL n) 0 N)))) (aa Z 88) (aa Y 88) (aa Z (Int.ofNat (UInt8.toNat (List.getD (pL n) 1 N)))) (C=false)) (aa (Int.ofNat T) 2) (aW 1 T) (Int.ofNat (UInt8.toNat (List.getD s 0 N))) (Int.ofNat (UInt8.toNat (List.getD s 1 N)))) s.length (Q (.int .i64 1)) (Q (.int .i64 0)) (UInt8.ofNat 0)) (λ_=>by kernel_rfl) λQ' hQ=>?_;try dsimp only
   have t0:((pL n).getD 0 0).toNat=48+(n/10).toNat:=WA _ (by omega);have t1:((pL n).getD 1 0).toNat=48+(n%10).toNat:=WA _ (by omega);have tl:(pL n).length=2:=rfl;simp only[az,reduceCtorEq];have yes:agr s n->Q' (.int .i64 1):=λh=>hQ _ (by rw[Wh h]);have no:agr s n=false->Q' (.int .i64 0):=λh=>hQ _ (by rw[Tq h]);have iff:agr s n=true↔s.length=2/\((s.getD 0 0).toNat=88\/((s.getD 0 0).toNat:Int)=48+n/10)/\((s.getD 1 0).toNat=88\/((s.getD 1 0).toNat:Int)=48+n%10):=by
    unfold agr;rw[zAa,zAa,zAb,pc,pc]
   have iff':agr s n=false↔¬(s.length=2/\((s.getD 0 0).toNat=88\/((s.getD 0 0).toNat:Int)=48+n/10)/\((s.getD 1 0).toNat=88\/((s.getD 1 0).toNat:Int)=48+n%10)):=by
    rw[<-iff,Bool.not_eq_true]
   (repeat' first|exact trivial|refine⟨?_,?_⟩|intro)<;>first|omega|(refine yes (iff.mpr ?_);omega)|(refine no (iff'.mpr ?_);omega)
 . cases he
theorem GH{g:Nat}:eW s g=false↔∀k,k<g->agr s ((k:Int)+1)=false:=by
 unfold eW;rw[List.any_eq_false];exact⟨λh k hk=>by simpa using h k (List.mem_range.2 hk),λh k hk=>by simpa using h k (List.mem_range.1 hk)⟩
theorem MF{g k:Nat}(hk:k<g)(h:agr s ((k:Int)+1)):eW s g=true:=by
 unfold eW;rw[List.any_eq_true];exact⟨k,List.mem_range.2 hk,h⟩
theorem JT:ak Tryz.prog cfg T6:=TK
theorem Lo:ak Tryz.prog cfg T7:=by
 refine au (au JT λargs t v he hv=>?_) λargs t v he hv=>?_
 . unfold ZC at he;split at he
   . cases he;cases hv;refine kw JT (L:=io) RB (by simp) ag (dD λQ' hQ=>bG ((b86 _ _ _ _ _ _ _ _ _ _).mpr ?_)) (by simp[aD]);dsimp only
     (repeat' first|exact trivial|refine⟨?_,?_⟩|intro)<;>(refine hQ _ ?_;rw[AV.int.injEq];refine⟨rfl,?_⟩;unfold aL;simp only[*,zAj])
   . cases he
 . unfold XY at he;split at he
   . cases he;cases hv;refine kw JT (L:=io) P9 (by simp) ag (dD λQ' hQ=>bG ((b88 _ _ _ _ _ _ _ _ _ _).mpr ?_)) (by simp[aD]);simp only[mr,FQ]
     (repeat' first|exact trivial|refine⟨?_,?_⟩|intro)<;>(refine hQ _ ?_;rw[AV.int.injEq];refine⟨rfl,?_⟩;unfold df;simp only[*,zAj];rfl)
   . cases he
theorem IH{n:Int}:(ae .i64 n=true)=(-9223372036854775808<=n/\n<=9223372036854775807):=aB
theorem DK(a b:Int):gQ a b=min a b:=by
 unfold gQ;cases h:ab a b with
 | true=>rw[ao]at h;rw[cond_true];omega
 | false=>rw[bY]at h;rw[cond_false];omega
theorem Hj{ng lg:Bool}{e g:Int}(h:aZ ng lg s e g)(h0:aT s 88 88=0):dY s/\0<=e/\e<=16/\s.length<=17:=by
 unfold aZ at h;rw[zAb]at h;exact⟨oP (by omega),by omega,by omega,by omega⟩
def nP(ng lg:Bool)(s:List UInt8)(e g:Int)(mo:List UInt8):Bool:=decide (aZ ng lg s e g/\¬(0<g/\af mo []=false)/\((aL mo≠24/\aL mo≠28/\aL mo≠30)\/1<=aT s 88 88\/¬(magOk s e.toNat/\cC s e.toNat=10000000000000000/\ng=false)))
def T8:aR:=T7
def nh(ng lg:Bool)(s:List UInt8)(e g:Int)(mo da:List UInt8)(a b c:Int):Int:=
 if nP ng lg s e g mo=false then 6 else if af mo []=false/\aL mo=0/\eW mo 12=false then 7 else if af da []=false/\(af mo []\/0<aL mo\/eW da 31=false)then 8 else errMk a b c (df mo da)
def T9:aR:=T8
theorem yc(mo:List UInt8):0<=aL mo:=by
 unfold aL
 repeat' (first|omega|(cases af mo _<;>simp only[zAj]))
theorem Um:ak Tryz.prog cfg T8:=Lo
theorem gi:ak Tryz.prog cfg T9:=Um
end Go.Ev
end
section
namespace Go.Proofs.YtoghlpcacfnjbaaGreatDoor
open Go.RowKit
theorem ints_size(a:Nat)(w:World)(h:a<=9223372036854775807):Calls Tryz.prog 277 #[.int .i64 (a:Int)] w λe w'=>e=.returned (.int .u64 (a:Int))/\w=w':=by
 go_enter Tryz.func277,Tryz.ntmps277
 go_wp2;go_ret
 simp
theorem ints_signed_ok(a:Nat)(w:World)(h:a<=9223372036854775807):Calls Tryz.prog 278 #[.int .u64 (a:Int),.bool false] w λe w'=>e=.returned (.tuple #[.int .i64 (a:Int),.int .i64 0])/\w=w':=by
 go_enter Tryz.func278,Tryz.ntmps278
 go_wp2;go_ret2
 simp
theorem ints_signed_no(a:Nat)(w:World)(h:9223372036854775807<a):Calls Tryz.prog 278 #[.int .u64 (a:Int),.bool false] w λe w'=>e=.returned (.tuple #[.int .i64 0,.int .i64 15])/\w=w':=by
 go_enter Tryz.func278,Tryz.ntmps278
 go_wp2;go_ret2
 simp
theorem Mul64(x y:Nat)(w:World)(hx:x<18446744073709551616)(hy:y<18446744073709551616)(a b:Nat)(ha:x*y/18446744073709551616=a)(hb:x*y%18446744073709551616=b) :
 Calls Tryz.prog 276 #[.int .u64 (x:Int),.int .u64 (y:Int)] w λe w'=>e=.returned (.tuple #[.int .u64 (a:Int),.int .u64 (b:Int)])/\w=w':=by
 subst ha;subst hb;refine(Tryz.bits_Mul64 x y hx hy w).mono ?_;rintro e w' ⟨rfl,rfl⟩;exact⟨rfl,rfl⟩
theorem Mul_ok(a b:Nat)(w:World)(ha:a<=9223372036854775807)(hb0:b<=9223372036854775807)(h:a*b<=9223372036854775807) :
 Calls Tryz.prog 241 #[.int .i64 (a:Int),.int .i64 (b:Int)] w λe w'=>e=.returned (.tuple #[.int .i64 ((a*b:Nat):Int),.int .i64 0])/\Below w.heap.size w w':=by
 obtain⟨m,hm⟩:∃m,a*b=m:=⟨_,rfl⟩;have e1:a*b/18446744073709551616=0:=by omega
 have e2:a*b%18446744073709551616=m:=by omega
 rw[hm]at h ⊢;clear hm;go_enter Tryz.func241,Tryz.ntmps241
 go_wp2_with (first|(go_at_call 277;refine(ints_size _ _ (by omega)).mono ?_;rintro e w' ⟨rfl,rfl⟩)|(go_at_call 276;refine(Mul64 _ _ _ (by omega) (by omega) _ _ e1 e2).mono ?_;rintro e w' ⟨rfl,rfl⟩)|(go_at_call 278;refine(ints_signed_ok _ _ (by omega)).mono ?_;rintro e w' ⟨rfl,rfl⟩))
 go_ret2
 exact⟨by simp,by(repeat(first|exact Below.refl _ _|assumption|refine balloc ?_ _|refine Below.drew ?_|refine bdrewN ?_ _|(refine bset ?_ (by first|exact Nat.le_refl _|(simp;done)|(simp;omega)) _)|refine bnext ?_ (by assumption)))⟩
theorem Mul_no(a b:Nat)(w:World)(ha:a<=9223372036854775807)(hb0:b<=9223372036854775807)(h:9223372036854775807<a*b) :
 Calls Tryz.prog 241 #[.int .i64 (a:Int),.int .i64 (b:Int)] w λe w'=>e=.returned (.tuple #[.int .i64 0,.int .i64 15])/\Below w.heap.size w w':=by
 obtain⟨q,e1⟩:∃q,a*b/18446744073709551616=q:=⟨_,rfl⟩;obtain⟨m,e2⟩:∃m,a*b%18446744073709551616=m:=⟨_,rfl⟩;have hm:m<18446744073709551616:=by omega
 by_cases hq:0<q
 . clear h;go_enter Tryz.func241,Tryz.ntmps241
   go_wp2_with (first|(go_at_call 277;refine(ints_size _ _ (by omega)).mono ?_;rintro e w' ⟨rfl,rfl⟩)|(go_at_call 276;refine(Mul64 _ _ _ (by omega) (by omega) _ _ e1 e2).mono ?_;rintro e w' ⟨rfl,rfl⟩))
   go_ret2
   exact⟨by simp,by(repeat(first|exact Below.refl _ _|assumption|refine balloc ?_ _|refine Below.drew ?_|refine bdrewN ?_ _|(refine bset ?_ (by first|exact Nat.le_refl _|(simp;done)|(simp;omega)) _)|refine bnext ?_ (by assumption)))⟩
 . have hq0:q=0:=by omega
   have h2:9223372036854775807<m:=by omega
   subst hq0;clear h;go_enter Tryz.func241,Tryz.ntmps241
   go_wp2_with (first|(go_at_call 277;refine(ints_size _ _ (by omega)).mono ?_;rintro e w' ⟨rfl,rfl⟩)|(go_at_call 276;refine(Mul64 _ _ _ (by omega) (by omega) _ _ e1 e2).mono ?_;rintro e w' ⟨rfl,rfl⟩)|(go_at_call 278;refine(ints_signed_no _ _ (by omega)).mono ?_;rintro e w' ⟨rfl,rfl⟩))
   go_ret2
   exact⟨by simp,by(repeat(first|exact Below.refl _ _|assumption|refine balloc ?_ _|refine Below.drew ?_|refine bdrewN ?_ _|(refine bset ?_ (by first|exact Nat.le_refl _|(simp;done)|(simp;omega)) _)|refine bnext ?_ (by assumption)))⟩
theorem enc_facts{r:Nat}(h:128<=r)(h2:r<=1114111):∃rs:ByteArray,Utf8.encode (r:Int)=rs/\2<=rs.size/\rs.size<=4/\∀(i:Nat) (hi:i<rs.size),i+1=rs.size->128<=rs[i].toNat:=by
 have key:∀c:Nat,128<=c->c<=1114111->∀rs:ByteArray,rs=(let b (n:Nat):UInt8:=UInt8.ofNat n
  if c<0x80 then⟨#[b c]⟩
  else if c<0x800 then⟨#[b (0xC0+c/64),b (0x80+c%64)]⟩
  else if c<0x10000 then⟨#[b (0xE0+c/4096),b (0x80+c/64%64),b (0x80+c%64)]⟩
  else⟨#[b (0xF0+c/262144),b (0x80+c/4096%64),b (0x80+c/64%64),b (0x80+c%64)]⟩:ByteArray)->2<=rs.size/\rs.size<=4/\∀(i:Nat) (hi:i<rs.size),i+1=rs.size->128<=rs[i].toNat:=by
  intro c h1 h2 rs e;have hb:128<=(UInt8.ofNat (0x80+c%64)).toNat:=by simp;omega
  rw[if_neg (by omega)]at e;split at e
  . subst e;refine⟨show 2<=2 by decide,show 2<=4 by decide,λi hi k=>?_⟩;have:i=1:=by have e2:i+1=2:=k;omega
    subst this;exact hb
  . split at e
    . subst e;refine⟨show 2<=3 by decide,show 3<=4 by decide,λi hi k=>?_⟩;have:i=2:=by have e2:i+1=3:=k;omega
      subst this;exact hb
    . subst e;refine⟨show 2<=4 by decide,show 4<=4 by decide,λi hi k=>?_⟩;have:i=3:=by have e2:i+1=4:=k;omega
      subst this;exact hb
 refine⟨_,rfl,?_⟩;by_cases hv:Utf8.valid (r:Int)
 . refine key r h h2 _ ?_;unfold Utf8.encode;simp only[hv,if_true,Int.toNat_natCast]
 . refine key Utf8.runeError (by decide) (by decide) _ ?_;unfold Utf8.encode;simp only[hv];rfl
theorem indexByte_high:∀(l:List UInt8) (c:UInt8),(∀b∈l,b.toNat<128)->128<=c.toNat->¬0<=Lib.indexByte l c:=by
 intro l c h hc hi;rw[<-decide_eq_true_iff (p:=0<=Lib.indexByte l c),<-Lib.contains_iff_indexByte]at hi;have:=h c (by simpa using hi);omega
theorem indexByte_no{l:List UInt8}{c:UInt8}(h:¬0<=Lib.indexByte l c):Lib.indexByte l c = -1:=by
 have:=Lib.indexByte_ge l c;omega
theorem IndexByte_none(t:ByteArray)(c:Int)(w:World)(h:∀b∈t.data.toList,b.toNat<128)(h0:128<=c)(h1:c<256) :
 Calls Tryz.prog 308 #[.string t,.int .u8 c] w λe w'=>e=.returned (.int .i64 (-1))/\w'=w:=by
 refine(Tryz.strings_IndexByte t c w).mono ?_;rintro e w' ⟨rfl,rfl⟩;exact⟨by rw[indexByte_no (indexByte_high _ _ h (by simp;omega))],rfl⟩
theorem extract_mem(s:ByteArray)(a e:Nat):∀b∈(s.extract a e).data.toList,b∈s.data.toList:=by
 intro b hb;rw[ByteArray.data_extract,Array.toList_extract]at hb;exact List.mem_of_mem_drop (List.mem_of_mem_take (by simpa [List.extract]using hb))
theorem ValidRune_is(r:Int)(b:Bool)(w:World)(h:Lib.validRune r=b):Calls Tryz.prog 309 #[.int .i32 r] w λe w'=>e=.returned (.bool b)/\w=w':=by
 refine(Tryz.utf8_ValidRune r w).mono ?_;rintro e w' ⟨rfl,rfl⟩;exact⟨by rw[h],rfl⟩
theorem ix_at(s:ByteArray)(m:Nat)(h:m<s.size)(c:Nat)(hc:s[m].toNat=c)(w:World):(Instr.index 9 (.string s) (.int .i64 (m:Int))).run Tryz.prog w=.ok (.int .u8 (c:Int)) w:=by
 rw[run_index_string (w:=w) 9 s .i64 (m:Int) Tryz.underlying9,dif_pos ⟨by omega,by omega⟩];subst hc;rfl
theorem slice_from(s:ByteArray)(m:Nat)(h:m<=s.size)(w:World):(Instr.slice 9 (.string s) (some (.int .i64 (m:Int))) none none).run Tryz.prog w=.ok (.string (s.extract m s.size)) w:=by
 rw[run_slice_string_l (w:=w) (t:=9) (ht:=Tryz.underlying9) (s:=s) .i64 (m:Int) (by omega) (by omega)];rfl
theorem biter{w:World}(s:ByteArray)(p:Nat):Below w.heap.size w (w.iter s p):=(Below.refl _ _).alloc (Nat.le_refl _) _
set_option maxRecDepth 1000000 in
set_option maxHeartbeats 2000000 in
theorem IndexRune_err(s:ByteArray)(w:World)(ha:∀(i:Nat) (h:i<s.size),s[i].toNat<128) :
 Calls Tryz.prog 282 #[.string s,.int .i32 65533] w λe w'=>e=.returned (.int .i64 (-1))/\Below w.heap.size w w':=by
 have HM:=Lib.hid ha;clear ha;go_enter Tryz.func282,Tryz.ntmps282
 go_wp2;go_loopw [5,6] (λ_ _ wr=>∃pos,pos<=s.size/\wr=w.iter s pos) (λ_ _ wr=>s.size-wr.iterPos w.heap.size)
 case atStart=>exact⟨0,by omega,rfl⟩
 case round=>
  obtain⟨pos,hp,rfl⟩:=hrel;by_cases hlt:pos<s.size
  . have hb:=HM.out pos hlt;have nx:=λty=>run_next_ascii (P:=Tryz.prog) w s pos ty hlt (by omega);generalize hc:s[pos]=c at *;clear hc;have t0:((c.toNat:Int)==65533)=false:=by simp;omega
    go_wp2;go_roundw
    case rel=>exact⟨pos+1,by omega,rfl⟩
    case measure=>simp;omega
  . have nx:=λty=>run_next_end (P:=Tryz.prog) w s pos ty hlt;go_wp2;go_ret
    exact⟨by simp,biter _ _⟩
set_option maxRecDepth 1000000 in
set_option maxHeartbeats 2000000 in
theorem IndexRune_high(s:ByteArray)(r:Nat)(w:World)(hs:4<=s.size)(hs2:s.size<=100)(ha:∀(i:Nat) (h:i<s.size),s[i].toNat<128)(h:128<=r)(h2:r<=1114111)(hr:r≠65533) :
 Calls Tryz.prog 282 #[.string s,.int .i32 (r:Int)] w λe w'=>e=.returned (.int .i64 (-1))/\Below w.heap.size w w':=by
 have q0:decide ((r:Int)<128)=false:=by simp;omega
 have q1:((r:Int)==65533)=false:=by simp;omega
 by_cases hv:Lib.validRune (r:Int)=true
 . obtain⟨rs,er,z1,z2,hl⟩:=enc_facts h h2;obtain⟨m,hm⟩:∃m,rs.size=m+1:=⟨rs.size-1,by omega⟩;have hm1:m<s.size:=by omega
   have hm2:m<rs.size:=by omega
   have L1:=ha m hm1;have L2:=hl m hm2 (by omega);have L3:=rs[m].toNat_lt;obtain⟨c1,e1⟩:∃c,s[m].toNat=c:=⟨_,rfl⟩;obtain⟨c2,e2⟩:∃c,rs[m].toNat=c:=⟨_,rfl⟩;have x1:=ix_at s m hm1 c1 e1;have x2:=ix_at rs m hm2 c2 e2;rw[e1]at L1;rw[e2]at L2 L3;clear e1 e2;have x3:∀w:World,(Instr.slice 9 (.string s) (some (.int .i64 ((m:Int)+1))) none none).run Tryz.prog w=.ok (.string (s.extract (m+1) s.size)) w:=slice_from s (m+1) (by omega);have x4:IntKind.i64.wrap ((m:Int)+1)=(m:Int)+1:=IntWalk.i64_in _ (by omega);have t1:((c1:Int) !=(c2:Int))=true:=by simp;omega
   have HA:Hid (∀b∈s.data.toList,b.toNat<128):=Lib.hid (by
    intro b hb;obtain⟨i,hi,rfl⟩:=List.getElem_of_mem hb;exact ha i (by simpa using hi))
   clear ha hl;go_enter Tryz.func282,Tryz.ntmps282
   go_wp2_with (first|(go_at_call 309;refine(ValidRune_is _ _ _ hv).mono ?_;rintro e w' ⟨rfl,rfl⟩))
   have cv:∀w:World,(convert 21 9 (.int .i32 (r:Int))).run Tryz.prog w=.ok (.string rs) w:=λw=>by rw[run_convert_int_string w 21 9 .i32 r (by kernel_rfl) (by kernel_rfl),er]
   go_wp2;go_step3
   go_wp2;go_loopw [4,9,10,11] (λ_ i _ _ wr=>i=.int .i64 (m:Int)/\wr=w) (λ_ _ _ _ _=>0)
   case atStart=>exact⟨rfl,rfl⟩
   case round=>
    obtain⟨rfl,rfl⟩:=hrel;go_wp2;go_step3
    go_wp2;go_quiet (fail)
    go_wp2;go_quiet ((go_at_call 308;exact(IndexByte_none _ _ _ (λb hb=>HA.out b (extract_mem _ _ _ b hb)) (by omega) (by omega)).mono λ_ _ h=>⟨h.1,_,h.2⟩))
    go_wp2;rw[Exit.noGoto_ret];simp +zetaDelta only[Exit.inBlock,Exit.then,Exit.noGoto];go_ret
    exact⟨by simp,by(repeat(first|exact Below.refl _ _|assumption|refine balloc ?_ _|refine Below.drew ?_|refine bdrewN ?_ _|(refine bset ?_ (by first|exact Nat.le_refl _|(simp;done)|(simp;omega)) _)|refine bnext ?_ (by assumption)))⟩
 . have hv2:Lib.validRune (r:Int)=false:=by simpa using hv
   go_enter Tryz.func282,Tryz.ntmps282
   go_wp2_with (first|(go_at_call 309;refine(ValidRune_is _ _ _ hv2).mono ?_;rintro e w' ⟨rfl,rfl⟩))
   go_ret
   exact⟨by simp,by(repeat(first|exact Below.refl _ _|assumption|refine balloc ?_ _|refine Below.drew ?_|refine bdrewN ?_ _|(refine bset ?_ (by first|exact Nat.le_refl _|(simp;done)|(simp;omega)) _)|refine bnext ?_ (by assumption)))⟩
end Go.Proofs.YtoghlpcacfnjbaaGreatDoor
end
