import Derived.Test.YtcffhjfdlflbgaaGreatDoorP22
set_option linter.all false
open UInt8 renaming ofNat->ν
open Int renaming ofNat->ξ,sub->σ
open Nat renaming beq->ο,ble->π,le_refl->ς
open HAdd renaming hAdd->τ
open List renaming drop->υ
set_option linter.all false
set_option maxRecDepth 100000
set_option maxHeartbeats 4000000
namespace Go.Ev
open Go Go.Proofs
variable{ng lg:Bool}{s:List UInt8}{c1 c2 c3 c:UInt8}{S:aQ}
def mP(ng:Bool)(s:List UInt8)(e k:Int):Bool:=bif ο (eC s 88 88) 0 then aa k (dY ng s e)else match s with|[c0,c1,c2,c3]=>(bif ng then ab 1 (-k)&&decide (nS c0 c1 c2 c3 (-k))else decide (nS c0 c1 c2 c3 k))|_=>false
def ab1(y:Int):Bool:=ab (-10000000000000000) y&&ab y 10000000000000000
def Tf:dP:=λ
 | [.g [.e ng,.e lg,.f s,.a .i64 e,.a .i64 g],.a .i64 n]=>some (aH [aa g 0,aV ng lg s e g,π s.length 1000,lP s,ab1 n] (.a0 (bI (mP ng s e n))))
 | _=>none
def QQ:dP:=λ
 | [.g [.e ng,.e lg,.f s,.a .i64 e,.a .i64 g]]=>some (aH [aa g 0,aV ng lg s e g,π s.length 1000,lP s] (.a0 (.c [(jR ng s e),(s5 ng s e)])))
 | _=>none
def wu(s:List UInt8)(n:Int)(j:Nat):Bool:=(List.range j).all λk=>decide (mt (s.getD (3-k) 0) (n/10^k%10))
def SL:dW:=λvs o=>match vs,o with
 | [.a .i64 n,.h 14 0,.a .i64 z,.a .i64 i],⟨1,[.a [.e ng,.e lg,.f s,.a .i64 e,.a .i64 g] true none],[]⟩=>some (aH [aa z 0,aa i 3,ο s.length 4,ab 0 n,ab n 10000000000000000] (.d0 (wu s n 4) λb=>bif b then .a0 (.b 0,[.a .i64 (n/10000),.h 14 0,.a .i64 0,.a .i64 (-1)],o)else .f0 λJ=>.a0 (.c,[.j (J 0),.h 14 0,.a .i64 0,.j (J 1)],o)))
 | _,_=>none
def ZJ:cx:=iz jE 0 (d9 92 [1,2,4,5] SL)
def z4:List UInt8:=[48,48,48,48]
def xd(v c:UInt8):UInt8:=bif ο c.toNat 88 then v else c
def su(s:List UInt8):List UInt8:=s.map (xd 48)
def Nt(s:List UInt8):List UInt8:=s.map (xd 57)
def E1(s:List UInt8):Nat->List UInt8
 | 0=>z4
 | i+1=>bif ο (s.getD i 0).toNat 88 then z4.take i++[49]++z4.drop (i+1)else E1 s i
def KI:dW:=λvs o=>match vs,o with
 | [.h 14 0,.f [],.f [],.a .i64 i],⟨1,[.a [.e ng,.e lg,.f s,.a .i64 e,.a .i64 g] true none],[]⟩=>some (aH [aa i 0,ο s.length 4] (.a0 (.b 0,[.h 14 0,(su s),(Nt s),.a .i64 4],o)))
 | _,_=>none
def K4:dW:=λvs o=>match vs,o with
 | [.h 14 0,.f l,.f h,.a .i64 i],⟨1,[.a [.e ng,.e lg,.f s,.a .i64 e,.a .i64 g] true none],[]⟩=>some (aH [aa i 0,ο s.length 4,ae l [48,48,48,48]] (.a0 (.b 2,[.h 14 0,(E1 s 4),h,.a .i64 4],o)))
 | _,_=>none
def Yk:cx:=iz (iz jE 0 (d9 117 [1,4,5,6] KI)) 2 (d9 117 [1,4,5,9] K4)
theorem Ui(ng lg:Bool)(s l h:List UInt8)(e g:Int)(i:Nat)(J:Nat->Value){Q:VQ->Prop}:gG Q (rT T9 jE [] 183 0 117 [1,4,5,6] [.h 14 0,l,h,(ξ i)] J ⟨1,[.a [ng,lg,s,e,g] true none],[]⟩) (bE 1171742020202020204)=((λ(E:AV)(C:Int)(H I:Nat)=>(λ(N:Bool)(F:Int)=>(λ(O:AV)(A:Bool)(G:Nat)=>(λ(P T:Bool)(B:List UInt8)=>(λ(U:Bool)(V:Nat)=>(N->A/\P/\T/\A/\P/\T/\(U->π (τ H 1) 1000000/\π (τ I 1) 1000000/\A/\Q (.a,[E,(l++[ν 48]),(h++[ν 57]),O],⟨1,[.a [ng,lg,s,e,g] true none],[]⟩))/\(U=false->π (τ H V) 1000000/\π (τ I V) 1000000/\A/\Q (.a,[E,(l++B),(h++B),O],⟨1,[.a [ng,lg,s,e,g] true none],[]⟩)))/\(N=false->Q (.b 0,[E,l,h,C],⟨1,[.a [ng,lg,s,e,g] true none],[]⟩))) (ae B [ν 88]) B.length) (π G s.length) (π i G) (υ i (List.take G s))) F (af .i64 F) F.toNat) (not (ab 4 C)) (Int.add C 1)) (.h 14 0) (ξ i) l.length h.length):=by rfl
theorem Vy(ng lg:Bool)(s l h:List UInt8)(e g:Int)(i:Nat)(J:Nat->Value){Q:VQ->Prop}:gG Q (rT T9 jE [] 183 1 117 [1,4,5,9] [.h 14 0,l,h,(ξ i)] J ⟨1,[.a [ng,lg,s,e,g] true none],[]⟩) (bE 1121707042004)=((λ(C E:AV)(H:Bool)(B:Int)(A:UInt8)=>(λ(I:Bool)(F:Int)(N:List UInt8)=>(λ(T:AV)(G:Bool)(O:List UInt8)(P:Nat)=>(λ(U V:List UInt8)=>(I->aS i s.length/\(H->π i 4/\π (τ O.length 1) 1000000/\G/\π P 4/\π (τ U.length V.length) 1000000/\G/\Q (.a,[C,(U++V),E,T],⟨1,[.a [ng,lg,s,e,g] true none],[]⟩))/\(H=false->G/\Q (.a,[C,l,E,T],⟨1,[.a [ng,lg,s,e,g] true none],[]⟩)))/\(I=false->Q (.b 2,[C,l,E,B],⟨1,[.a [ng,lg,s,e,g] true none],[]⟩))) (O++[ν 49]) (υ P N)) F (af .i64 F) (υ 0 (List.take i N)) F.toNat) (not (ab 4 B)) (Int.add B 1) [A,A,A,A]) (.h 14 0) h (aa (ξ (UInt8.toNat (List.getD s i (ν 0)))) 88) (ξ i) (ν 48)):=by rfl
theorem NL:ec eS 184=some (dH 184,aL 184):=by rfl
theorem Oj:ec eS 183=some (dH 183,aL 183):=by rfl
theorem Kg:(bz (aL 184)).map (·.1)=[0]:=by rfl
theorem K9:(bz (aL 183)).map (·.1)=[0,2]:=by rfl
theorem CO{s:List UInt8}{n:Int}{j:Nat}:wu s n (j+1)=(wu s n j&&decide (mt (s.getD (3-j) 0) (n/10^j%10))):=by
 grind [wu]
theorem Ae{s:List UInt8}{n:Int}:∀{k j:Nat},wu s n j=false->j<=k->wu s n k=false
 | 0,j,h,hj=>by
   grind
 | k+1,j,h,hj=>by
   by_cases e:j=k+1
   . grind
   . rw[CO,Ae (k:=k) h (by omega),Bool.false_and]
theorem Ut:cu Tryz.prog (cH cfg T9) (Cw cfg []) (lb 184 0) 92 [1,2,4,5] SL:=by
 intro vs o t Q hv hq J;unfold SL at hv;split at hv
 . rename_i n z i ng lg s e g;cases hv;replace hq:=cO hq;obtain⟨⟨h1,h2,h3,h4,h5,-⟩,hq⟩:=hq;rw[ao]at h1 h2;rw[aJ]at h3;rw[aq]at h4 h5;subst h1 h2;simp only[aH,Tr.wp]at hq;refine ia gx rfl rfl ai (ι:={j:Nat // j<=4/\wu s n j}) (λx=>[.a .i64 (n/10^x.1),.h 14 0,.a .i64 0,.a .i64 (3-(x.1:Int))]) (λ_=>⟨1,[.a [.e ng,.e lg,.f s,.a .i64 e,.a .i64 g] true none],[]⟩) (λx=>4-x.1) 1 (λ_=>ς _) (λx J=>?_) (ς _) (λJ=>Wk.a0 ⟨⟨0,by omega,rfl⟩,J,by simp⟩) J;obtain⟨j,hj,hd⟩:=x;dsimp only;have hdiv:∀j:Nat,n/10^(j+1)=n/10^j/10:=λj=>by
    grind [Int.ediv_ediv_of_nonneg]
   have hpos:0<=n/10^j:=Int.ediv_nonneg h4 (Int.pow_nonneg (by decide));have hle:n/10^j<=10000000000000000:=Int.le_trans (Int.ediv_le_self _ h4) h5;have hs:=@CO s n j;rw[hd,Bool.true_and]at hs;have mtq:∀x:Int,mt (s.getD (3-j) 0) x↔(s.getD (3-j) 0).toNat=88\/((s.getD (3-j) 0).toNat:Int)=48+x:=λx=>by rfl
   have ret:wu s n (j+1)=false->j+1<=4->∀J:Nat->Value,Q (.c,[.j (J 0),.h 14 0,.a .i64 0,.j (J 1)],⟨1,[.a [.e ng,.e lg,.f s,.a .i64 e,.a .i64 g] true none],[]⟩):=λh hk=>by
    rw[Ae h hk]at hq;exact hq
   have fin:j=4->Q (.b 0,[.a .i64 (n/10000),.h 14 0,.a .i64 0,.a .i64 (-1)],⟨1,[.a [.e ng,.e lg,.f s,.a .i64 e,.a .i64 g] true none],[]⟩):=λh=>by
    subst h;rw[hd]at hq;exact hq
   clear hq;refine jJ (bE 112200888122014770770242204) (R:=λQ=>(λ(G H:AV)(C:Bool)(E I N:Int)(F:Nat)=>(λ(O:Bool)(P:Int)(T:Prop)=>(λ(A U:Bool)=>(λ(B:Prop)=>(C->C/\O/\(A->A/\A/\A/\C/\O/\A/\A/\A/\af .i64 E/\A/\af .u8 E/\A/\A/\(U->Q (.c,[.a .i64 (n/10^j),G,H,.a .i64 (3-(j:Int))],⟨1,[.a [.e ng,.e lg,.f s,.a .i64 e,.a .i64 g] true none],[]⟩))/\(U=false->T))/\(B->B/\B/\B/\B/\B/\B/\B/\B/\B/\T))/\(C=false->Q (.b 0,[.a .i64 (n/10^j),G,H,.a .i64 (3-(j:Int))],⟨1,[.a [.e ng,.e lg,.f s,.a .i64 e,.a .i64 g] true none],[]⟩))) (A=false)) (not (aa P 88)) (not (aa P E))) (aS F s.length) (ξ (UInt8.toNat (List.getD s F (ν 0)))) (af .i64 I/\af .i64 N/\Q (.a,[.a .i64 I,G,H,.a .i64 N],⟨1,[.a [.e ng,.e lg,.f s,.a .i64 e,.a .i64 g] true none],[]⟩))) (.h 14 0) (.a .i64 0) (ab 0 (3-(j:Int))) (Int.add 48 (Int.tmod (n/10^j) 10)) (Int.tdiv (n/10^j) 10) (σ (3-(j:Int)) 1) (3-(j:Int)).toNat) (λ_=>by rfl) λQ' hQ=>?_;try dsimp only
   rw[Int.tmod_eq_emod_of_nonneg hpos,Int.tdiv_eq_ediv_of_nonneg hpos];by_cases h4':j=4
   . have fin':=fin h4';clear fin;subst h4';simp only[az,reduceCtorEq];grind [VW.b0]
   . have e3:Int.toNat (3-(j:Int))=3-j:=by omega
     rw[e3];rw[show(ν 0)=(0:UInt8)from rfl];have ret:=λh=>ret h (by omega);clear fin;rw[hs]at ret;rw[decide_eq_false_iff_not,mtq]at ret;have go:(s.getD (3-j) 0).toNat=88\/((s.getD (3-j) 0).toNat:Int)=48+n/10^j%10->wu s n (j+1)=true:=λh=>by rw[hs,zAc,mtq];exact h
     have next:wu s n (j+1)->∃y:{j:Nat // j<=4/\wu s n j},4-y.1<4-j/\VW cfg (Cw cfg []) 1 92 [1,2,4,5] [.a .i64 (n/10^j/10),.h 14 0,.a .i64 0,.a .i64 (3-(j:Int)-1)] ⟨1,[.a [.e ng,.e lg,.f s,.a .i64 e,.a .i64 g] true none],[]⟩ [.a .i64 (n/10^y.1),.h 14 0,.a .i64 0,.a .i64 (3-(y.1:Int))] ⟨1,[.a [.e ng,.e lg,.f s,.a .i64 e,.a .i64 g] true none],[]⟩:=λh=>
      ⟨⟨j+1,by omega,h⟩,by dsimp only;omega,VW.b0 (by dsimp only;rw[hdiv,show 3-((j+1:Nat):Int)=3-(j:Int)-1 by omega]) rfl⟩
     clear hs mtq hd hdiv;have b1:0<=n/10^j%10/\n/10^j%10<=9:=by omega
     have hcl:=UInt8.toNat_lt (s.getD (3-j) 0);generalize (s.getD (3-j) 0).toNat=cn at *;have hv2:s.length=4:=h3;simp only[az,reduceCtorEq]
     (repeat' first|exact trivial|refine⟨?_,?_⟩|intro)<;>first|contradiction|omega|assumption|refine hQ _ ?_
     all_goals first
      | exact⟨_,_,VW.c0 (.int (.same (.same (.int .nil)))) rfl,ret (by omega) (jv [_,_])⟩
      | exact next (go (by omega))
 . cases hv
theorem GZ{n:Nat}:aa (gY 1 (ξ n)) 1=!(ο n 0):=by
 cases n with
 | zero=>rfl
 | succ n=>
   rfl
theorem AL{e g:Int}(h:aV ng lg s e g)(hx:eC s 88 88=0):(0<=e/\e<=1000)/\dV s/\magOk s e.toNat/\cF s e.toNat<=10000000000000000:=by
 have hd:dV s=true:=oV (by
  grind [aV])
 have hm:magOk s e.toNat=true:=by
  unfold aV at h;rw[zAc]at h;rcases h with⟨k1,k2,⟨l1,l2,l3,l4⟩|⟨l1,l2,l3,l4,l5,l6,l7,l8,l9,l10⟩⟩
  . unfold magOk;rw[al];unfold cF;rw[l3];have:numL s<=9999:=by
     match s,l2,hd with
     | [p,q,r,t],_,hd=>
       grind [dV,dB,numL]
    grind
  omega
 grind [magOk,al,aV]
theorem Mz{e g:Int}(h:aV ng lg s e g)(hx:¬eC s 88 88=0):e=0:=by
 grind [aV]
theorem Ch{c0:UInt8}{n:Int}(hn:0<=n):nS c0 c1 c2 c3 n↔wu [c0,c1,c2,c3] n 4/\n/10000=0:=by
 have e:wu [c0,c1,c2,c3] n 4=(decide (mt c3 (n/1%10))&&(decide (mt c2 (n/10%10))&&(decide (mt c1 (n/100%10))&&(decide (mt c0 (n/1000%10))&&true)))):=rfl;grind [nS]
theorem Wm{e n:Int}(ho:aV ng lg s e 0)(hs:s.length<=1000)(hX:lP s)(hn : -10000000000000000<=n/\n<=10000000000000000) :
 bu Tryz.prog cfg 184 [.g [.e ng,.e lg,.f s,.a .i64 e,.a .i64 0],.a .i64 n] [] (.a .i64 (bI (mP ng s e n))) []:=by
 cases hx:ο (eC s 88 88) 0 with
 | true=>
   have hx0:aa (gY 1 (ξ (eC s 88 88))) 1=false:=by rw[GZ,hx];rfl
   rw[aJ]at hx;obtain⟨he,hd,hm,hv⟩:=AL ho hx;refine jD gx ai (bE 1023003300811420200022700032000530200232337020541023003300811411440200022700032000530200232337020542403322) (R:=λQ=>(λ(G P V W:Bool)(N Z:Int)(Y:Nat)(A H O:Prop)=>(λ(B T u0:Bool)(I U:Int)=>(λ(C u1 u2 u3 u4 u5:Bool)(E:Prop)=>(λ(F:Prop)=>(λ(u6:Prop->Prop)=>u0/\u0/\V=false/\not (ab n 10000000000000000)=false/\(ng->af .i64 N/\(C->C/\G/\C/\C/\A/\A/\C/\A/\C/\C/\T=false/\u6 ((u2->(u3->O)/\(u3=false->H))/\(u2=false->(u4->O)/\(u4=false->H))))/\(F->F/\F/\F/\F/\F/\F/\T/\H))/\(ng=false->(B->B/\G/\B/\B/\A/\A/\B/\A/\B/\B/\P=false/\u6 (af .i64 Z/\(u5->O)/\(u5=false->H)))/\(E->E/\E/\E/\E/\E/\E/\P/\H))) (λu7=>G/\A/\G/\ab 0 e/\W/\dV s/\magOk s Y/\u1/\u7)) (C=false)) (not T) (af .i64 I) (af .i64 U) (aa I U) (aa I (IntKind.wrap .i64 U)) (aa I Z) (B=false)) (not P) (not (ab 0 N)) (not V) (Int.tdiv (ξ (cF s Y)) 1) (Int.tdiv N 1)) (π s.length 1000) (not (ab 0 n)) (not (ab (Neg.neg 10000000000000000) n)) (ab e 1000) (σ 0 n) (Int.tdiv n 1) e.toNat (aa (gY 1 (ξ (eC s 88 88))) 1=false) (Q (.a .i64 0)) (Q (.a .i64 1))) (λ_=>by rfl) λQ' hQ=>?_;try dsimp only
   have hY:mP ng s e n=aa n (dY ng s e):=by simp_all [mP]
   rw[hY]at hQ;have hval:dY ng s e=if ng=true then -(cF s e.toNat:Int)else(cF s e.toNat:Int):=by grind [dY]
   have yes:n=dY ng s e->Q' (.a .i64 1):=λh=>hQ _ (by rw[ao.mpr h];rfl);have no:n≠dY ng s e->Q' (.a .i64 0):=λh=>hQ _ (by rw[aw.mpr h];rfl);rw[hval]at yes no;rw[hx]at hx0 ⊢;simp only[Int.tdiv_one];clear hQ hY hval ho;generalize cF s e.toNat=mv at *;cases ng with
   | true=>
     simp only[if_true]at yes no;simp only[az,reduceCtorEq]
     (repeat' first|exact trivial|refine⟨?_,?_⟩|intro)<;>first|contradiction|omega|assumption|(grind)|grind
   | false=>
     simp only[Bool.false_eq_true,if_false]at yes no;simp only[az,reduceCtorEq]
     (repeat' first|exact trivial|refine⟨?_,?_⟩|intro)<;>first|contradiction|omega|assumption|(grind)|grind
 | false=>
   have hx1:aa (gY 1 (ξ (eC s 88 88))) 1=true:=by rw[GZ,hx];rfl
   obtain⟨c0,c1,c2,c3,rfl,_⟩:=sV hX hx;refine kA gx (L:=ZJ) NL (by simp) (dv Kg λi hi e he st Q hw=>?_) (jJ (bE 10230033008111447002200053323370227020541023003300811144700220051432770227020542403322) (R:=λQ=>(λ(A O T U Y:Bool)(G:Int)(V:Nat)(H I W:Prop)=>(λ(B N P Z u0 u1:Bool)(u2:Prop)=>(λ(C:Bool)(E:Prop)=>(λ(F:Prop)=>Z/\Z/\T=false/\not U=false/\(ng->af .i64 G/\(C->C/\N/\C/\C/\A/\A/\C/\A/\C/\ng/\ng/\C/\ng/\P=false/\(aa G 0->H)/\(aa G 0=false->N/\A/\u0/\ab 0 G/\ab G 10000000000000000/\(wu [c0,c1,c2,c3] G 4->(∀J1:Nat->Value,(u1->H)/\(u1=false->W)))/\(wu [c0,c1,c2,c3] G 4=false->u2)))/\(F->F/\F/\F/\F/\F/\F/\P/\H))/\(I->(B->B/\N/\B/\B/\A/\A/\B/\A/\B/\I/\I/\B/\I/\O=false/\N/\A/\u0/\ab 0 n/\U/\(wu [c0,c1,c2,c3] n 4->(∀J1:Nat->Value,(Y->H)/\(Y=false->W)))/\(wu [c0,c1,c2,c3] n 4=false->u2))/\(E->E/\E/\E/\E/\E/\E/\O/\H))) (C=false)) (not P) (B=false)) (not O) (π V 1000) (not (ab 0 G)) (not T) (ο V 4) (not (ab (HDiv.hDiv G 10000) 0)) (∀J1 J2:Nat->Value,H)) (aa (gY 1 (ξ (eC [c0,c1,c2,c3] 88 88))) 1) (not (ab 0 n)) (not (ab (Neg.neg 10000000000000000) n)) (ab n 10000000000000000) (not (ab (HDiv.hDiv n 10000) 0)) (σ 0 n) [c0,c1,c2,c3].length (Q (.a .i64 0)) (ng=false) (Q (.a .i64 1))) (λ_=>by rfl) λQ' hQ=>?_) (by rfl)
   . have hi:i=0:=by grind
     subst hi;cases he;exact bR (cC.a0 gx) (by decide) rfl Ut hw
   . try dsimp only
     have hY:mP ng [c0,c1,c2,c3] e n=(bif ng then ab 1 (-n)&&decide (nS c0 c1 c2 c3 (-n))else decide (nS c0 c1 c2 c3 n)):=by grind [mP]
     rw[hY]at hQ;rw[hx1];have z0:∀k:Int,σ 0 k = -k:=λk=>Int.zero_sub k;simp only[z0];cases ng with
     | true=>
       have yes:1<=-n/\wu [c0,c1,c2,c3] (-n) 4/\-n/10000=0->Q' (.a .i64 1):=λh=>hQ _ (by rw[cond_true,aq.mpr h.1,decide_eq_true ((Ch (by omega)).2 h.2)];rfl);have no:¬(1<=-n/\wu [c0,c1,c2,c3] (-n) 4/\-n/10000=0)->Q' (.a .i64 0):=λh=>hQ _ (by
        have:(ab 1 (-n)&&decide (nS c0 c1 c2 c3 (-n)))=false:=by
         grind [aq,Ch]
        rw[cond_true,this];rfl)
       clear hQ ho hX hx hx1 hY z0;have h4:[c0,c1,c2,c3].length=4:=rfl;generalize [c0,c1,c2,c3]=s at *;generalize wu s n 4=dn at *;generalize wu s (-n) 4=dm at *;simp only[az,reduceCtorEq]
       (repeat' first|exact trivial|refine⟨?_,?_⟩|intro)<;>first|contradiction|omega|assumption|(refine no λh=>?_;rcases h with⟨h1,h2,h3⟩;first|omega|(simp_all;done))|(refine yes ⟨?_,?_,?_⟩<;>first|assumption|omega)
     | false=>
       have yes:0<=n/\wu [c0,c1,c2,c3] n 4/\n/10000=0->Q' (.a .i64 1):=λh=>hQ _ (by rw[cond_false,decide_eq_true ((Ch h.1).2 h.2)];rfl);have no:¬(0<=n/\wu [c0,c1,c2,c3] n 4/\n/10000=0)->Q' (.a .i64 0):=λh=>hQ _ (by
        rw[cond_false,decide_eq_false λk=>h ⟨k.1,(Ch k.1).1 k⟩];rfl)
       clear hQ ho hX hx hx1 hY z0;have h4:[c0,c1,c2,c3].length=4:=rfl;generalize [c0,c1,c2,c3]=s at *;generalize wu s n 4=dn at *;generalize wu s (-n) 4=dm at *;simp only[az,reduceCtorEq]
       (repeat' first|exact trivial|refine⟨?_,?_⟩|intro)<;>first|contradiction|omega|assumption|(refine no λh=>?_;rcases h with⟨h1,h2,h3⟩;first|omega|(simp_all;done))|(refine yes ⟨?_,?_,?_⟩<;>first|assumption|omega)
theorem aln(hS:ak Tryz.prog cfg S):ak Tryz.prog cfg (d5 S 184 Tf):=au hS λargs t v he hv=>by
 unfold Tf at he;split at he
 . rename_i ng lg s e g n;cases he;obtain⟨⟨h1,h2,h3,h4,h5,-⟩,hv⟩:=aF hv;rw[ao]at h1;rw[al]at h3;unfold ab1 at h5;rw[zAa,aq,aq]at h5;cases hv;grind [Wm]
 grind
theorem EC{i:Nat}(h:i<s.length):υ i (List.take (i+1) s)=[s.getD i 0]:=by
 grind [pf]
theorem NA:ae [c] [ν 88]=ο c.toNat 88:=by
 rw[bV,Bool.eq_iff_iff,beq_iff_eq,cQ];constructor
 . simp_all
 . intro h;rw[show c=ν 88 from UInt8.toNat_inj.1 h]
theorem aby{f:UInt8->UInt8}{s:List UInt8}{i:Nat}(h:i<s.length):(s.take (i+1)).map f=(s.take i).map f++[f (s.getD i 0)]:=by
 grind [pf]
theorem RW:cu Tryz.prog (cH cfg T9) (Cw cfg []) (lb 183 0) 117 [1,4,5,6] KI:=by
 intro vs o t Q hv hq J;unfold KI at hv;split at hv
 . rename_i i ng lg s e g;cases hv;replace hq:=cO hq;obtain⟨⟨h1,h2,-⟩,hq⟩:=hq;rw[ao]at h1;rw[aJ]at h2;subst h1;simp only[aH,Tr.wp]at hq;refine ia gx rfl rfl ai (ι:={j:Nat // j<=4}) (λx=>[.h 14 0,((s.take x.1).map (xd 48)),((s.take x.1).map (xd 57)),(ξ x.1)]) (λ_=>⟨1,[.a [ng,lg,s,e,g] true none],[]⟩) (λx=>4-x.1) 1 (λ_=>ς _) (λx J=>?_) (ς _) (λJ=>Wk.a0 ⟨⟨0,by omega⟩,J,rfl⟩) J;obtain⟨j,hj⟩:=x;dsimp only;refine eD λQ' hQ=>cg ((Ui ng lg s _ _ e g j J).mpr ?_);have l1:((s.take j).map (xd 48)).length=j:=by grind
   have l2:((s.take j).map (xd 57)).length=j:=by grind
   by_cases h4:j=4
   . subst h4;have e1:(s.take 4).map (xd 48)=su s:=by grind [su]
     have e2:(s.take 4).map (xd 57)=Nt s:=by grind [Nt]
     rw[e1]at l1 ⊢;rw[e2]at l2 ⊢;simp only[az,reduceCtorEq];grind [VW.a0]
   . have hlt:j<s.length:=by omega
     have m1:=@aby (xd 48) s j hlt;have m2:=@aby (xd 57) s j hlt;have dt:=EC hlt;have next:∀a b:List UInt8,a=(s.take (j+1)).map (xd 48)->b=(s.take (j+1)).map (xd 57)->∃y:{j:Nat // j<=4},4-y.1<4-j/\VW cfg (Cw cfg []) 1 117 [1,4,5,6] [.h 14 0,a,b,(ξ (j+1))] ⟨1,[.a [ng,lg,s,e,g] true none],[]⟩ [.h 14 0,((s.take y.1).map (xd 48)),((s.take y.1).map (xd 57)),(ξ y.1)] ⟨1,[.a [ng,lg,s,e,g] true none],[]⟩:=λa b ha hb=>⟨⟨j+1,by omega⟩,by grind,VW.b0 (by grind) rfl⟩;rw[m1,m2]at next;clear m1 m2 hq;generalize (s.take j).map (xd 48)=l at *;generalize (s.take j).map (xd 57)=h at *;have e1:Int.toNat (Int.add (ξ j) 1)=j+1:=rfl;simp only[e1,dt,NA,zAd,List.length_nil];generalize s.getD j 0=c at *;have x1:ο c.toNat 88->xd 48 c=48/\xd 57 c=57:=λh=>by unfold xd;rw[h];exact⟨rfl,rfl⟩
     have x2:ο c.toNat 88=false->xd 48 c=c/\xd 57 c=c:=λh=>by unfold xd;rw[h];exact⟨rfl,rfl⟩
     cases hb:ο c.toNat 88 with
     | true=>
       rw[(x1 hb).1,(x1 hb).2]at next;have next:=next _ _ rfl rfl;clear x1 x2 hb dt;simp only[az,reduceCtorEq]
       (repeat' first|exact trivial|refine⟨?_,?_⟩|intro)<;>first|contradiction|omega|assumption|exact hQ _ next
     | false=>
       rw[(x2 hb).1,(x2 hb).2]at next;have next:=next _ _ rfl rfl;clear x1 x2 hb dt;simp only[az,reduceCtorEq]
       (repeat' first|exact trivial|refine⟨?_,?_⟩|intro)<;>first|contradiction|omega|assumption|exact hQ _ next
 . cases hv
theorem C6{s:List UInt8}:∀{i:Nat},i<=4->(E1 s i).length=4
 | 0,_=>rfl
 | i+1,h=>by
   rw[E1];cases ο (s.getD i 0).toNat 88 with
   | true=>
     rw[cond_true,zAe,zAe,List.length_take,List.length_drop];show min i 4+1+(4-(i+1))=4;omega
   | false=>rw[cond_false];exact C6 (by omega)
theorem Ro:cu Tryz.prog (cH cfg T9) (Cw cfg []) (lb 183 1) 117 [1,4,5,9] K4:=by
 intro vs o t Q hv hq J;unfold K4 at hv;split at hv
 . rename_i l h i ng lg s e g;cases hv;replace hq:=cO hq;obtain⟨⟨h1,h2,h3,-⟩,hq⟩:=hq;rw[ao]at h1;rw[aJ]at h2;rw[bV,beq_iff_eq]at h3;subst h1 h3;simp only[aH,Tr.wp]at hq;refine ia gx rfl rfl ai (ι:={j:Nat // j<=4}) (λx=>[.h 14 0,(E1 s x.1),h,(ξ x.1)]) (λ_=>⟨1,[.a [ng,lg,s,e,g] true none],[]⟩) (λx=>4-x.1) 1 (λ_=>ς _) (λx J=>?_) (ς _) (λJ=>Wk.a0 ⟨⟨0,by omega⟩,J,rfl⟩) J;obtain⟨j,hj⟩:=x;dsimp only;refine eD λQ' hQ=>cg ((Vy ng lg s _ h e g j J).mpr ?_);by_cases h4:j=4
   . have fin:Q (.b 2,[.h 14 0,(E1 s j),h,(ξ j)],⟨1,[.a [ng,lg,s,e,g] true none],[]⟩):=by grind
     generalize E1 s j=l at *;simp only[az,reduceCtorEq];grind [VW.a0]
   . have hlt:j<s.length:=by omega
     have next:∀a:List UInt8,a=E1 s (j+1)->∃y:{j:Nat // j<=4},4-y.1<4-j/\VW cfg (Cw cfg []) 1 117 [1,4,5,9] [.h 14 0,a,h,(ξ (j+1))] ⟨1,[.a [ng,lg,s,e,g] true none],[]⟩ [.h 14 0,(E1 s y.1),h,(ξ y.1)] ⟨1,[.a [ng,lg,s,e,g] true none],[]⟩:=λa ha=>⟨⟨j+1,by omega⟩,by grind,VW.b0 (by rw[ha]) rfl⟩;rw[E1]at next;clear hq;have e1:Int.toNat (Int.add (ξ j) 1)=j+1:=rfl;have k1:(List.take j z4).length<=4:=by grind
     have k2:(υ (j+1) z4).length<=4:=by rw[List.length_drop];exact Nat.sub_le _ _
     have ez:([ν 48,ν 48,ν 48,ν 48]:List UInt8)=z4:=rfl;simp only[e1,ez,List.drop_zero,zAe,zAd,List.length_nil];rw[show(ν 0)=(0:UInt8)from rfl];generalize s.getD j 0=c at *;generalize E1 s j=l at *;cases hb:ο c.toNat 88 with
     | true=>
       simp_all [az];omega
     | false=>
       rw[hb]at next;have next2:=next _ rfl;clear next;rw[cond_false]at next2;rw[b9]at hb;clear e1 ez;generalize z4=zz at *;simp only[az,reduceCtorEq]
       (repeat' first|exact trivial|refine⟨?_,?_⟩|intro)<;>first|contradiction|omega|assumption|exact hQ _ next2
 . cases hv
theorem E8{v:UInt8}:(xd v c).toNat=if c.toNat=88 then v.toNat else c.toNat:=by
 grind [xd,gm,ic]
theorem PO{a b d:UInt8}(h0:48<=a.toNat/\a.toNat<=57)(h1:48<=b.toNat/\b.toNat<=57)(h2:48<=c.toNat/\c.toNat<=57)(h3:48<=d.toNat/\d.toNat<=57):dV [a,b,c,d]/\cF [a,b,c,d] 0=1000*(a.toNat-48)+100*(b.toNat-48)+10*(c.toNat-48)+(d.toNat-48)/\magOk [a,b,c,d] 0=true:=by
 grind [cF,numL,dV,dB,magOk,al]
theorem DW{c0 v:UInt8}(hv:48<=v.toNat/\v.toNat<=57)(h0:fC c0)(h1:fC c1)(h2:fC c2)(h3:fC c3):dV ([c0,c1,c2,c3].map (xd v))/\((cF ([c0,c1,c2,c3].map (xd v)) 0:Nat):Int)=gu c0 c1 c2 c3 v.toNat/\magOk ([c0,c1,c2,c3].map (xd v)) 0=true:=by
 grind [dD,E8,lL,gm,ic,PO,gu]
theorem Je{c0:UInt8}(h0:fC c0)(h1:fC c1)(h2:fC c2)(h3:fC c3)(hx:¬eC [c0,c1,c2,c3] 88 88=0)(hz:su [c0,c1,c2,c3]=[48,48,48,48]):dV (E1 [c0,c1,c2,c3] 4)/\((cF (E1 [c0,c1,c2,c3] 4) 0:Nat):Int)=nT c1 c2 c3/\magOk (E1 [c0,c1,c2,c3] 4) 0=true:=by
 have key:∀l:List UInt8,E1 [c0,c1,c2,c3] 4=l->dV l->magOk l 0->((cF l 0:Nat):Int)=nT c1 c2 c3->dV (E1 [c0,c1,c2,c3] 4)/\((cF (E1 [c0,c1,c2,c3] 4) 0:Nat):Int)=nT c1 c2 c3/\magOk (E1 [c0,c1,c2,c3] 4) 0=true:=λl e a b c=>by grind
 have ls:E1 [c0,c1,c2,c3] 4=bif ο c3.toNat 88 then[48,48,48,49]else bif ο c2.toNat 88 then[48,48,49,48]else bif ο c1.toNat 88 then[48,49,48,48]else bif ο c0.toNat 88 then[49,48,48,48]else z4:=rfl
 unfold nT at key ⊢;cases e3:ο c3.toNat 88 with
 | true=>rw[e3,cond_true]at ls key;exact key _ ls (by decide) (by decide) (by decide)
 | false=>
   rw[e3,cond_false]at ls key;cases e2:ο c2.toNat 88 with
   | true=>rw[e2,cond_true]at ls key;exact key _ ls (by decide) (by decide) (by decide)
   | false=>
     rw[e2,cond_false]at ls key;cases e1:ο c1.toNat 88 with
     | true=>rw[e1,cond_true]at ls key;exact key _ ls (by decide) (by decide) (by decide)
     | false=>
       rw[e1,cond_false]at ls key;cases e0:ο c0.toNat 88 with
       | true=>rw[e0,cond_true]at ls;exact key _ ls (by decide) (by decide) (by decide)
       | false=>
         exfalso;apply hx;rw[b9]at e0 e1 e2 e3;rw[eU,eU,eU,eU,if_neg (by omega),if_neg (by omega),if_neg (by omega),if_neg (by omega)];rfl
theorem Xr{e:Int}(ho:aV ng lg s e 0)(hs:s.length<=1000)(hX:lP s) :
 bu Tryz.prog cfg 183 [.g [ng,lg,s,e,.a .i64 0]] [] (.c [(jR ng s e),(s5 ng s e)]) []:=by
 cases hx:ο (eC s 88 88) 0 with
 | true=>
   have hx0:aa (gY 1 (ξ (eC s 88 88))) 1=false:=by rw[GZ,hx];rfl
   have l1:jR ng s e=dY ng s e:=by simp_all [jR]
   have l2:s5 ng s e=dY ng s e:=by simp_all [s5]
   rw[aJ]at hx;obtain⟨he,hd,hm,hv⟩:=AL ho hx;refine jD gx ai (bE 1122400022700227532005) (R:=λQ=>(λ(A B:Bool)(C:Nat)=>(λ(E:Int)=>(λ(G:AV)(F:Int)=>(λ(I:AV)(H:Bool)=>(λ(N:Prop->Prop)=>A/\aa (gY 1 (ξ (eC s 88 88))) 1=false/\N (N ((ng->H/\H/\Q (.c [I,I]))/\(ng=false->Q (.c [G,G]))))) (λu0=>A/\ab 0 e/\B/\dV s/\magOk s C/\u0)) F (af .i64 F)) E (σ 0 E)) (ξ (cF s C))) (π s.length 1000) (ab e 1000) e.toNat) (λ_=>by rfl) λQ' hQ=>?_;try dsimp only
   rw[l1,l2]at hQ;have z0:∀k:Int,σ 0 k = -k:=λk=>Int.zero_sub k;unfold dY at hQ;rw[hx0];simp only[z0];cases ng with
   | true=>
     have hQ:=hQ _ rfl;rw[cond_true]at hQ;have e1:(-(ξ (cF s e.toNat))) = -((cF s e.toNat:Nat):Int):=rfl;simp only[e1];clear e1;generalize cF s e.toNat=mv at *;simp_all [az];omega
   | false=>
     simp_all [az]
 | false=>
   have hx1:aa (gY 1 (ξ (eC s 88 88))) 1=true:=by rw[GZ,hx];rfl
   obtain rfl:=Mz ho (b9.mp hx);obtain⟨c0,c1,c2,c3,rfl,h0,h1,h2,h3⟩:=sV hX hx;refine kA gx (L:=Yk) Oj (by simp) (dv K9 λi hi e he st Q hw=>?_) (jJ (bE 111113000130004400400111300013000440040044004000331111100200010104200044004001111402000114114420004400400440040011111002000101042000440040011114020001141144200044004004400400220422402022005) (R:=λQ=>(λ(A:AV)(G U V:List UInt8)(ue:Nat)(B:Prop)(T:UInt8)=>(λ(C E F u0 u2 u3 u4 uf ug:Bool)(u1 uh uj:Int)(ui:Prop)=>(λ(u6 u7 un uo:AV)(W:Bool)(u5 u8:Int)(H I N uk ul um:Prop)=>(λ(O P ua ub:AV)(Y Z:Bool)(u9:Prop)=>(λ(uc ud:Prop)=>(λ(up:Prop)=>π ue 1000/\aa (gY 1 (ξ (eC [c0,c1,c2,c3] 88 88))) 1/\uf/\(∀J1:Nat->Value,(ng->ng/\ng/\(u0->uf/\u0/\(∀J2:Nat->Value,(ug->(dV U->(magOk U 0->(C->(E->(F->ng/\(Y->(W->Q (.c [O,u6]))/\(u9->Q (.c [O,u7])))/\(uc->(W->Q (.c [P,u6]))/\(u9->Q (.c [P,u7]))))/\(H->ng/\(W->Q (.c [A,u6]))/\(u9->Q (.c [A,u7]))))/\I)/\N)/\(magOk U 0=false->up))/\(dV U=false->False))/\(ug=false->False)))/\(u0=false->(u2->(u3->(u4->(C->(E->(F->ng/\(Y->(Z->Q (.c [O,ua]))/\(ud->Q (.c [O,ub])))/\(uc->(Z->Q (.c [P,ua]))/\(ud->Q (.c [P,ub]))))/\(H->ng/\(Z->Q (.c [A,ua]))/\(ud->Q (.c [A,ub]))))/\I)/\N)/\(uk->up))/\ul)/\um))/\(B->B/\B/\(u2->(u3->(u4->(C->(E->(F->B/\Q (.c [un,uo]))/\(H->B/\Q (.c [un,A])))/\I)/\N)/\(uk->(C->(E->(F->B/\Q (.c [A,uo]))/\(H->B/\ui))/\I)/\N))/\ul)/\um))) ((C->(E->(F->ng/\(Y->Q (.c [O,A]))/\(uc->Q (.c [P,A])))/\(H->ng/\ui))/\I)/\N)) (Y=false) (Z=false)) u5 (IntKind.wrap .i64 u5) u8 (IntKind.wrap .i64 u8) (af .i64 u5) (af .i64 u8) (W=false)) u1 (IntKind.wrap .i64 u1) uj uh (af .i64 u1) (σ 0 uh) (σ 0 uj) (F=false) (E=false->False) (C=false->False) (u4=false) (u3=false->False) (u2=false->False)) (π V.length 1000) (dV V) (magOk V 0) (ae G [T,T,T,T]) (π G.length 1000) (dV G) (magOk G 0) (ο ue 4) (π U.length 1000) (σ 0 (ξ (cF U 0))) (ξ (cF V 0)) (ξ (cF G 0)) (Q (.c [A,A]))) (.a .i64 0) (su [c0,c1,c2,c3]) (E1 [c0,c1,c2,c3] 4) (Nt [c0,c1,c2,c3]) [c0,c1,c2,c3].length (ng=false) (ν 48)) (λ_=>by kernel_rfl) λQ' hQ=>?_) (by rfl)
   . have hi:i=0\/i=1:=by grind
     rcases hi with rfl|rfl
     . cases he;exact bR (cC.a0 gx) (by decide) rfl RW hw
     . cases he;exact bR (cC.a0 gx) (by decide) rfl Ro hw
   . try dsimp only
     have l1:jR ng [c0,c1,c2,c3] 0=(bif ng then -(gu c0 c1 c2 c3 57)else Fd ng c0 c1 c2 c3):=by grind [jR]
     have l2:s5 ng [c0,c1,c2,c3] 0=(bif ng then -(Fd ng c0 c1 c2 c3)else gu c0 c1 c2 c3 57):=by grind [s5]
     rw[l1,l2]at hQ;obtain⟨a1,a2,a3⟩:=DW (v:=57) (by decide) h0 h1 h2 h3;obtain⟨b1,b2,b3⟩:=DW (v:=48) (by decide) h0 h1 h2 h3;have z0:∀k:Int,σ 0 k = -k:=λk=>Int.zero_sub k;have a2:((cF (Nt [c0,c1,c2,c3]) 0:Nat):Int)=gu c0 c1 c2 c3 57:=a2;have b2:((cF (su [c0,c1,c2,c3]) 0:Nat):Int)=gu c0 c1 c2 c3 48:=b2;have a1:dV (Nt [c0,c1,c2,c3])=true:=a1;have b1:dV (su [c0,c1,c2,c3])=true:=b1;have a3:magOk (Nt [c0,c1,c2,c3]) 0=true:=a3;have b3:magOk (su [c0,c1,c2,c3]) 0=true:=b3;have n1:(Nt [c0,c1,c2,c3]).length=4:=rfl;have n2:(su [c0,c1,c2,c3]).length=4:=rfl;have hz:ae (su [c0,c1,c2,c3]) [ν 48,ν 48,ν 48,ν 48]=aa (gu c0 c1 c2 c3 48) 0:=by
      rw[bV,Bool.eq_iff_iff,beq_iff_eq,ao,<-b2];constructor
      . intro h;rw[h];rfl
      . intro h;have hb:=b1;have hv:cF (su [c0,c1,c2,c3]) 0=0:=by omega
        have d0:∀c:UInt8,(fC c=true)->48<=(xd 48 c).toNat/\(xd 48 c).toNat<=57:=λc hc=>by
         rw[dD]at hc;rw[E8];have:(48:UInt8).toNat=48:=rfl;split<;>omega
        have e:=(PO (d0 c0 h0) (d0 c1 h1) (d0 c2 h2) (d0 c3 h3)).2.1;have e:cF (su [c0,c1,c2,c3]) 0=_:=e;have:=d0 c0 h0;have:=d0 c1 h1;have:=d0 c2 h2;have:=d0 c3 h3;have q:∀c:UInt8,(xd 48 c).toNat=48->xd 48 c=ν 48:=λc h=>UInt8.toNat_inj.1 h;show[xd 48 c0,xd 48 c1,xd 48 c2,xd 48 c3]=_;rw[q c0 (by omega),q c1 (by omega),q c2 (by omega),q c3 (by omega)]
     have lz:=λh=>Je h0 h1 h2 h3 (b9.mp hx) h;have n3:(E1 [c0,c1,c2,c3] 4).length=4:=C6 (by decide);have hz2:ae (su [c0,c1,c2,c3]) [ν 48,ν 48,ν 48,ν 48]->dV (E1 [c0,c1,c2,c3] 4)/\((cF (E1 [c0,c1,c2,c3] 4) 0:Nat):Int)=nT c1 c2 c3/\magOk (E1 [c0,c1,c2,c3] 4) 0=true:=λh=>by
      rw[bV,beq_iff_eq]at h;exact lz h
     have bH:=a3;have bL:=b3;unfold magOk at bH bL;rw[al]at bH bL;have bS:magOk (E1 [c0,c1,c2,c3] 4) 0->cF (E1 [c0,c1,c2,c3] 4) 0<=10000000000000000:=λh=>by unfold magOk at h;rwa [al]at h
     unfold Fd at hQ;rw[hx1];simp only[z0];clear lz l1 l2 ho hX hx hx1 z0 h0 h1 h2 h3;have h4:[c0,c1,c2,c3].length=4:=rfl;generalize Nt [c0,c1,c2,c3]=H at *;generalize su [c0,c1,c2,c3]=L at *;generalize E1 [c0,c1,c2,c3] 4=S at *;generalize [c0,c1,c2,c3]=s at *;generalize gu c0 c1 c2 c3 57=F at *;generalize gu c0 c1 c2 c3 48=G at *;generalize nT c1 c2 c3=X at *;subst a2 b2;cases ng with
     | true=>
       simp only[cond_true,Bool.true_and]at hQ;cases hbz:ae L [ν 48,ν 48,ν 48,ν 48]with
       | true=>
         obtain⟨s1,s2,s3⟩:=hz2 hbz;have bS:=bS s3;rw[hbz]at hz;rw[<-hz,cond_true,<-s2]at hQ;have hQ:=hQ _ rfl;clear hz hz2;generalize cF S 0=mS at *;generalize cF H 0=mH at *;generalize cF L 0=mL at *;simp only[az,reduceCtorEq]
         (repeat' first|exact trivial|refine⟨?_,?_⟩|intro)<;>first|contradiction|omega|assumption|(exfalso;simp_all;done)
       | false=>
         rw[hbz]at hz;rw[<-hz,cond_false]at hQ;have hQ:=hQ _ rfl;clear hz hz2 bS;generalize cF S 0=mS at *;generalize cF H 0=mH at *;generalize cF L 0=mL at *;simp only[az,reduceCtorEq]
         (repeat' first|exact trivial|refine⟨?_,?_⟩|intro)<;>first|contradiction|omega|assumption|(exfalso;simp_all;done)
     | false=>
       simp only[cond_false,Bool.false_and]at hQ;have hQ:=hQ _ rfl;clear hz hz2 bS;generalize cF S 0=mS at *;generalize cF H 0=mH at *;generalize cF L 0=mL at *;simp only[az,reduceCtorEq]
       (repeat' first|exact trivial|refine⟨?_,?_⟩|intro)<;>first|contradiction|omega|assumption|(exfalso;simp_all;done)
theorem Rc(hS:ak Tryz.prog cfg S):ak Tryz.prog cfg (d5 S 183 QQ):=au hS λargs t v he hv=>by
 unfold QQ at he;split at he
 . rename_i ng lg s e g;cases he;obtain⟨⟨h1,h2,h3,h4,-⟩,hv⟩:=aF hv;rw[ao]at h1;rw[al]at h3;cases hv;grind [Xr]
 grind
end Go.Ev
