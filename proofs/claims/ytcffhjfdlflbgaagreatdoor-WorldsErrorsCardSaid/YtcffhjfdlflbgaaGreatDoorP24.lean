import Derived.Test.YtcffhjfdlflbgaaGreatDoorP23
set_option linter.all false
open UInt8 renaming ofNat->ν
open Int renaming ofNat->ξ,sub->σ,add->ω
open Nat renaming beq->ο,ble->π,le_refl->ς
open HAdd renaming hAdd->τ
open Bool renaming true_and->υ
open Prod renaming snd->χ
open List renaming drop->ψ
set_option linter.all false
set_option maxRecDepth 100000
set_option maxHeartbeats 4000000
namespace Go.Ev
open Go Go.Proofs
variable{ng lg:Bool}{s:List UInt8}{c0 c1 c2 c3 c:UInt8}{S:aQ}
def mP(ng:Bool)(s:List UInt8)(e k:Int):Bool:=bif ο (dT s 88 88) 0 then aa k (dY ng s e)else match s with|[c0,c1,c2,c3]=>(bif ng then ab 1 (-k)&&decide (nS c0 c1 c2 c3 (-k))else decide (nS c0 c1 c2 c3 k))|_=>false
def ab1(y:Int):Bool:=ab (-10000000000000000) y&&ab y 10000000000000000
def Tf:dP:=λ
 | [.g [.b ng,.b lg,.e s,.a .i64 e,.a .i64 g],.a .i64 n]=>some (aH [aa g 0,aV ng lg s e g,π s.length 1000,lP s,ab1 n] (.a0 (.a .i64 (bI (mP ng s e n)))))
 | _=>none
def QQ:dP:=λ
 | [.g [.b ng,.b lg,.e s,.a .i64 e,.a .i64 g]]=>some (aH [aa g 0,aV ng lg s e g,π s.length 1000,lP s] (.a0 (.d [.a .i64 (jR ng s e),.a .i64 (Zi ng s e)])))
 | _=>none
def wu(s:List UInt8)(n:Int)(j:Nat):Bool:=(List.range j).all λk=>decide (mt (s.getD (3-k) 0) (n/10^k%10))
def SL:dW:=λvs o=>match vs,o with
 | [.a .i64 n,.h 14 0,.a .i64 z,.a .i64 i],⟨1,[.a [.b ng,.b lg,.e s,.a .i64 e,.a .i64 g] true none],[]⟩=>some (aH [aa z 0,aa i 3,ο s.length 4,ab 0 n,ab n 10000000000000000] (.d0 (wu s n 4) λb=>bif b then .a0 (.b 0,[.a .i64 (n/10000),.h 14 0,.a .i64 0,.a .i64 (-1)],o)else .e0 λJ=>.a0 (.c,[.j (J 0),.h 14 0,.a .i64 0,.j (J 1)],o)))
 | _,_=>none
def ZJ:cx:=iz jE 0 (d9 92 [1,2,4,5] SL)
def z4:List UInt8:=[48,48,48,48]
def xd(v c:UInt8):UInt8:=bif ο c.toNat 88 then v else c
def su(s:List UInt8):List UInt8:=s.map (xd 48)
def Nt(s:List UInt8):List UInt8:=s.map (xd 57)
def E1(s:List UInt8):Nat->List UInt8
 | 0=>z4
 | i+1=>bif ο (s.getD i 0).toNat 88 then z4.take i++[49]++z4.drop (i+1)else E1 s i
def KI:dW:=λvs o=>match vs,o with
 | [.h 14 0,.e [],.e [],.a .i64 i],⟨1,[.a [.b ng,.b lg,.e s,.a .i64 e,.a .i64 g] true none],[]⟩=>some (aH [aa i 0,ο s.length 4] (.a0 (.b 0,[.h 14 0,.e (su s),.e (Nt s),.a .i64 4],o)))
 | _,_=>none
def K4:dW:=λvs o=>match vs,o with
 | [.h 14 0,.e l,.e h,.a .i64 i],⟨1,[.a [.b ng,.b lg,.e s,.a .i64 e,.a .i64 g] true none],[]⟩=>some (aH [aa i 0,ο s.length 4,ae l [48,48,48,48]] (.a0 (.b 2,[.h 14 0,.e (E1 s 4),.e h,.a .i64 4],o)))
 | _,_=>none
def Yk:cx:=iz (iz jE 0 (d9 117 [1,4,5,6] KI)) 2 (d9 117 [1,4,5,9] K4)
theorem Ui(ng lg:Bool)(s l h:List UInt8)(e g:Int)(i:Nat)(J:Nat->Value){Q:VQ->Prop}:gG Q (rT T9 jE [] 183 0 117 [1,4,5,6] [.h 14 0,.e l,.e h,.a .i64 (ξ i)] J ⟨1,[.a [.b ng,.b lg,.e s,.a .i64 e,.a .i64 g] true none],[]⟩) (bE 1171742020202020204)=((λ(E:AV)(C:Int)(H I:Nat)=>(λ(N:Bool)(F:Int)=>(λ(O:AV)(A:Bool)(G:Nat)=>(λ(P T:Bool)(B:List UInt8)=>(λ(U:Bool)(V:Nat)=>(N->A/\P/\T/\A/\P/\T/\(U->π (τ H 1) 1000000/\π (τ I 1) 1000000/\A/\Q (.a,[E,.e (l++[ν 48]),.e (h++[ν 57]),O],⟨1,[.a [.b ng,.b lg,.e s,.a .i64 e,.a .i64 g] true none],[]⟩))/\(U=false->π (τ H V) 1000000/\π (τ I V) 1000000/\A/\Q (.a,[E,.e (l++B),.e (h++B),O],⟨1,[.a [.b ng,.b lg,.e s,.a .i64 e,.a .i64 g] true none],[]⟩)))/\(N=false->Q (.b 0,[E,.e l,.e h,.a .i64 C],⟨1,[.a [.b ng,.b lg,.e s,.a .i64 e,.a .i64 g] true none],[]⟩))) (ae B [ν 88]) B.length) (π G s.length) (π i G) (ψ i (List.take G s))) (.a .i64 F) (af .i64 F) F.toNat) (not (ab 4 C)) (ω C 1)) (.h 14 0) (ξ i) l.length h.length):=κ
theorem Vy(ng lg:Bool)(s l h:List UInt8)(e g:Int)(i:Nat)(J:Nat->Value){Q:VQ->Prop}:gG Q (rT T9 jE [] 183 1 117 [1,4,5,9] [.h 14 0,.e l,.e h,.a .i64 (ξ i)] J ⟨1,[.a [.b ng,.b lg,.e s,.a .i64 e,.a .i64 g] true none],[]⟩) (bE 1121707042004)=((λ(C E:AV)(H:Bool)(B:Int)(A:UInt8)=>(λ(I:Bool)(F:Int)(N:List UInt8)=>(λ(T:AV)(G:Bool)(O:List UInt8)(P:Nat)=>(λ(U V:List UInt8)=>(I->aS i s.length/\(H->π i 4/\π (τ O.length 1) 1000000/\G/\π P 4/\π (τ U.length V.length) 1000000/\G/\Q (.a,[C,.e (U++V),E,T],⟨1,[.a [.b ng,.b lg,.e s,.a .i64 e,.a .i64 g] true none],[]⟩))/\(H=false->G/\Q (.a,[C,.e l,E,T],⟨1,[.a [.b ng,.b lg,.e s,.a .i64 e,.a .i64 g] true none],[]⟩)))/\(I=false->Q (.b 2,[C,.e l,E,.a .i64 B],⟨1,[.a [.b ng,.b lg,.e s,.a .i64 e,.a .i64 g] true none],[]⟩))) (O++[ν 49]) (ψ P N)) (.a .i64 F) (af .i64 F) (ψ 0 (List.take i N)) F.toNat) (not (ab 4 B)) (ω B 1) [A,A,A,A]) (.h 14 0) (.e h) (aa (ξ (UInt8.toNat (List.getD s i (ν 0)))) 88) (ξ i) (ν 48)):=κ
theorem NL:aY tab 184=some (dH 184,aL 184):=κ
theorem Oj:aY tab 183=some (dH 183,aL 183):=κ
theorem Kg:(bz (aL 184)).map (·.1)=[0]:=κ
theorem K9:(bz (aL 183)).map (·.1)=[0,2]:=κ
theorem CO{s:List UInt8}{n:Int}{j:Nat}:wu s n (j+1)=(wu s n j&&decide (mt (s.getD (3-j) 0) (n/10^j%10))):=by
 grind [wu]
theorem Ae{s:List UInt8}{n:Int}:∀{k j:Nat},wu s n j=false->j<=k->wu s n k=false
 | 0,j,h,hj=>by
   grind
 | k+1,j,h,hj=>by
   by_cases e:j=k+1
   . grind
   . rw[CO,Ae (k:=k) h δ,Bool.false_and]
theorem Ut:cu Tryz.prog (cH cfg T9) (Cw cfg []) (lb 184 0) 92 [1,2,4,5] SL:=by
 intro vs o t Q hv hq J;unfold SL at hv;split at hv
 . rename_i n z i ng lg s e g;cases hv;replace hq:=cO hq;obtain⟨⟨h1,h2,h3,h4,h5,-⟩,hq⟩:=hq;rw[ao]at h1 h2;rw[aJ]at h3;rw[aq]at h4 h5;subst h1 h2;simp only[aH,Tr.wp]at hq;refine ia tV rfl rfl ai (ι:={j:Nat // j<=4/\wu s n j}) (λx=>[.a .i64 (n/10^x.1),.h 14 0,.a .i64 0,.a .i64 (3-(x.1:Int))]) (λ_=>⟨1,[.a [.b ng,.b lg,.e s,.a .i64 e,.a .i64 g] true none],[]⟩) (λx=>4-x.1) 1 (λ_=>ς _) (λx J=>?_) (ς _) (λJ=>Wk.a0 ⟨⟨0,by omega,rfl⟩,J,by simp⟩) J;obtain⟨j,hj,hd⟩:=x;dsimp only;have hdiv:∀j:Nat,n/10^(j+1)=n/10^j/10:=λj=>by
    grind [Int.ediv_ediv_of_nonneg]
   have hpos:0<=n/10^j:=Int.ediv_nonneg h4 (Int.pow_nonneg ζ);have hle:n/10^j<=10000000000000000:=Int.le_trans (Int.ediv_le_self _ h4) h5;have hs:=@CO s n j;rw[hd,υ]at hs;have mtq:∀x:Int,mt (s.getD (3-j) 0) x↔(s.getD (3-j) 0).toNat=88\/((s.getD (3-j) 0).toNat:Int)=48+x:=λx=>by rfl
   have ret:wu s n (j+1)=false->j+1<=4->∀J:Nat->Value,Q (.c,[.j (J 0),.h 14 0,.a .i64 0,.j (J 1)],⟨1,[.a [.b ng,.b lg,.e s,.a .i64 e,.a .i64 g] true none],[]⟩):=λh hk=>by
    rw[Ae h hk]at hq;exact hq
   have fin:j=4->Q (.b 0,[.a .i64 (n/10000),.h 14 0,.a .i64 0,.a .i64 (-1)],⟨1,[.a [.b ng,.b lg,.e s,.a .i64 e,.a .i64 g] true none],[]⟩):=λh=>by
    subst h;rw[hd]at hq;exact hq
   clear hq;refine jJ (bE 112200888122014770770242204) (R:=λQ=>(λ(G H:AV)(C:Bool)(E I N:Int)(F:Nat)=>(λ(O:Bool)(P:Int)(T:Prop)=>(λ(A U:Bool)=>(λ(B:Prop)=>(C->C/\O/\(A->A/\A/\A/\C/\O/\A/\A/\A/\af .i64 E/\A/\af .u8 E/\A/\A/\(U->Q (.c,[.a .i64 (n/10^j),G,H,.a .i64 (3-(j:Int))],⟨1,[.a [.b ng,.b lg,.e s,.a .i64 e,.a .i64 g] true none],[]⟩))/\(U=false->T))/\(B->B/\B/\B/\B/\B/\B/\B/\B/\B/\T))/\(C=false->Q (.b 0,[.a .i64 (n/10^j),G,H,.a .i64 (3-(j:Int))],⟨1,[.a [.b ng,.b lg,.e s,.a .i64 e,.a .i64 g] true none],[]⟩))) (A=false)) (not (aa P 88)) (not (aa P E))) (aS F s.length) (ξ (UInt8.toNat (List.getD s F (ν 0)))) (af .i64 I/\af .i64 N/\Q (.a,[.a .i64 I,G,H,.a .i64 N],⟨1,[.a [.b ng,.b lg,.e s,.a .i64 e,.a .i64 g] true none],[]⟩))) (.h 14 0) (.a .i64 0) (ab 0 (3-(j:Int))) (ω 48 (Int.tmod (n/10^j) 10)) (Int.tdiv (n/10^j) 10) (σ (3-(j:Int)) 1) (3-(j:Int)).toNat) (λ_=>by rfl) λQ' hQ=>?_;try dsimp only
   rw[Int.tmod_eq_emod_of_nonneg hpos,Int.tdiv_eq_ediv_of_nonneg hpos];by_cases h4':j=4
   . have fin':=fin h4';clear fin;subst h4';simp only[az,reduceCtorEq];grind [VW.b0]
   . have e3:Int.toNat (3-(j:Int))=3-j:=δ
     rw[e3];rw[show(ν 0)=(0:UInt8)from rfl];have ret:=λh=>ret h δ;clear fin;rw[hs]at ret;rw[decide_eq_false_iff_not,mtq]at ret;have go:(s.getD (3-j) 0).toNat=88\/((s.getD (3-j) 0).toNat:Int)=48+n/10^j%10->wu s n (j+1)=true:=λh=>by rw[hs,zAc,mtq];exact h
     have next:wu s n (j+1)->∃y:{j:Nat // j<=4/\wu s n j},4-y.1<4-j/\VW cfg (Cw cfg []) 1 92 [1,2,4,5] [.a .i64 (n/10^j/10),.h 14 0,.a .i64 0,.a .i64 (3-(j:Int)-1)] ⟨1,[.a [.b ng,.b lg,.e s,.a .i64 e,.a .i64 g] true none],[]⟩ [.a .i64 (n/10^y.1),.h 14 0,.a .i64 0,.a .i64 (3-(y.1:Int))] ⟨1,[.a [.b ng,.b lg,.e s,.a .i64 e,.a .i64 g] true none],[]⟩:=λh=>
      ⟨⟨j+1,by omega,h⟩,by dsimp only;omega,VW.b0 (by dsimp only;rw[hdiv,show 3-((j+1:Nat):Int)=3-(j:Int)-1 by omega]) rfl⟩
     clear hs mtq hd hdiv;have b1:0<=n/10^j%10/\n/10^j%10<=9:=δ
     have hcl:=UInt8.toNat_lt (s.getD (3-j) 0);generalize (s.getD (3-j) 0).toNat=cn at *;have hv2:s.length=4:=h3;simp only[az,reduceCtorEq]
     (repeat' first|exact trivial|refine⟨?_,?_⟩|intro)<;>first|contradiction|omega|assumption|refine hQ _ ?_
     all_goals first
      | exact⟨_,_,VW.c0 (.b0 (.a0 (.a0 (.b0 .c0)))) rfl,ret δ (jv [_,_])⟩
      | exact next (go δ)
 . cases hv
theorem GZ{n:Nat}:aa (gY 1 (ξ n)) 1=!(ο n 0):=by
 cases n with
 | zero=>rfl
 | succ n=>
   rfl
theorem AL{e g:Int}(h:aV ng lg s e g)(hx:dT s 88 88=0):(0<=e/\e<=1000)/\dV s/\magOk s e.toNat/\fa s e.toNat<=10000000000000000:=by
 have hd:dV s=true:=oV (by
  grind [aV])
 have hm:magOk s e.toNat=true:=by
  unfold aV at h;rw[zAc]at h;rcases h with⟨k1,k2,⟨l1,l2,l3,l4⟩|⟨l1,l2,l3,l4,l5,l6,l7,l8,l9,l10⟩⟩
  . unfold magOk;rw[al];unfold fa;rw[l3];have:numL s<=9999:=by
     match s,l2,hd with
     | [p,q,r,t],_,hd=>
       grind [dV,dB,numL]
    grind
  omega
 grind [magOk,al,aV]
theorem Mz{e g:Int}(h:aV ng lg s e g)(hx:¬dT s 88 88=0):e=0:=by
 grind [aV]
theorem Ch{n:Int}(hn:0<=n):nS c0 c1 c2 c3 n↔wu [c0,c1,c2,c3] n 4/\n/10000=0:=by
 have e:wu [c0,c1,c2,c3] n 4=(decide (mt c3 (n/1%10))&&(decide (mt c2 (n/10%10))&&(decide (mt c1 (n/100%10))&&(decide (mt c0 (n/1000%10))&&true)))):=rfl;grind [nS]
theorem Wm{e n:Int}(ho:aV ng lg s e 0)(hs:s.length<=1000)(hX:lP s)(hn : -10000000000000000<=n/\n<=10000000000000000) :
 bu Tryz.prog cfg 184 [.g [.b ng,.b lg,.e s,.a .i64 e,.a .i64 0],.a .i64 n] [] (.a .i64 (bI (mP ng s e n))) []:=by
 cases hx:ο (dT s 88 88) 0 with
 | true=>
   have hx0:aa (gY 1 (ξ (dT s 88 88))) 1=false:=by rw[GZ,hx];rfl
   rw[aJ]at hx;obtain⟨he,hd,hm,hv⟩:=AL ho hx;refine jD tV ai (bE 1023003300811420200022700032000530200232337020541023003300811411440200022700032000530200232337020542403322) (R:=λQ=>(λ(G P V W:Bool)(N Z:Int)(Y:Nat)(A H O:Prop)=>(λ(B T u0:Bool)(I U:Int)=>(λ(C u1 u2 u3 u4 u5:Bool)(E:Prop)=>(λ(F:Prop)=>(λ(u6:Prop->Prop)=>u0/\u0/\V=false/\not (ab n 10000000000000000)=false/\(ng->af .i64 N/\(C->C/\G/\C/\C/\A/\A/\C/\A/\C/\C/\T=false/\u6 ((u2->(u3->O)/\(u3=false->H))/\(u2=false->(u4->O)/\(u4=false->H))))/\(F->F/\F/\F/\F/\F/\F/\T/\H))/\(ng=false->(B->B/\G/\B/\B/\A/\A/\B/\A/\B/\B/\P=false/\u6 (af .i64 Z/\(u5->O)/\(u5=false->H)))/\(E->E/\E/\E/\E/\E/\E/\P/\H))) (λu7=>G/\A/\π s.length 1000/\ab 0 e/\W/\dV s/\magOk s Y/\u1/\u7)) (C=false)) (not T) (af .i64 I) (af .i64 U) (aa I U) (aa I (IntKind.wrap .i64 U)) (aa I Z) (B=false)) (not P) (not (ab 0 N)) (not V) (Int.tdiv (ξ (fa s Y)) 1) (Int.tdiv N 1)) (π s.length 140737488351232) (not (ab 0 n)) (not (ab (Neg.neg 10000000000000000) n)) (ab e 1000) (σ 0 n) (Int.tdiv n 1) e.toNat (aa (gY 1 (ξ (dT s 88 88))) 1=false) (Q (.a .i64 0)) (Q (.a .i64 1))) (λ_=>by rfl) λQ' hQ=>?_;try dsimp only
   have hY:mP ng s e n=aa n (dY ng s e):=by simp_all [mP]
   rw[hY]at hQ;have hval:dY ng s e=if ng=true then -(fa s e.toNat:Int)else(fa s e.toNat:Int):=by grind [dY]
   have yes:n=dY ng s e->Q' (.a .i64 1):=λh=>hQ _ (by rw[ao.mpr h];rfl);have no:n≠dY ng s e->Q' (.a .i64 0):=λh=>hQ _ (by rw[aw.mpr h];rfl);rw[hval]at yes no;rw[hx]at hx0 ⊢;simp only[Int.tdiv_one];clear hQ hY hval ho;generalize fa s e.toNat=mv at *;cases ng with
   | true=>
     simp only[if_true]at yes no;simp only[az,reduceCtorEq]
     (repeat' first|exact trivial|refine⟨?_,?_⟩|intro)<;>first|contradiction|omega|assumption|(grind)|grind
   | false=>
     simp only[Bool.false_eq_true,if_false]at yes no;simp only[az,reduceCtorEq]
     (repeat' first|exact trivial|refine⟨?_,?_⟩|intro)<;>first|contradiction|omega|assumption|(grind)|grind
 | false=>
   have hx1:aa (gY 1 (ξ (dT s 88 88))) 1=true:=by rw[GZ,hx];rfl
   obtain⟨c0,c1,c2,c3,rfl,_⟩:=sV hX hx;refine kA tV (L:=ZJ) NL θ (dv Kg λi hi e he st Q hw=>?_) (jJ (bE 10230033008111447002200053323370227020541023003300811144700220051432770227020542403322) (R:=λQ=>(λ(A O T U Y:Bool)(G:Int)(V:Nat)(H I W:Prop)=>(λ(B N P Z u0 u1:Bool)(u2:Prop)=>(λ(C:Bool)(E:Prop)=>(λ(F:Prop)=>Z/\Z/\T=false/\not U=false/\(ng->af .i64 G/\(C->C/\N/\C/\C/\A/\A/\C/\A/\C/\ng/\ng/\C/\ng/\P=false/\(aa G 0->H)/\(aa G 0=false->N/\A/\u0/\ab 0 G/\ab G 10000000000000000/\(wu [c0,c1,c2,c3] G 4->(∀J1:Nat->Value,(u1->H)/\(u1=false->W)))/\(wu [c0,c1,c2,c3] G 4=false->u2)))/\(F->F/\F/\F/\F/\F/\F/\P/\H))/\(I->(B->B/\N/\B/\B/\A/\A/\B/\A/\B/\I/\I/\B/\I/\O=false/\N/\A/\u0/\ab 0 n/\U/\(wu [c0,c1,c2,c3] n 4->(∀J1:Nat->Value,(Y->H)/\(Y=false->W)))/\(wu [c0,c1,c2,c3] n 4=false->u2))/\(E->E/\E/\E/\E/\E/\E/\O/\H))) (C=false)) (not P) (B=false)) (not O) (π V 1000) (not (ab 0 G)) (not T) (ο V 4) (not (ab (HDiv.hDiv G 10000) 0)) (∀J1 J2:Nat->Value,H)) (aa (gY 1 (ξ (dT [c0,c1,c2,c3] 88 88))) 1) (not (ab 0 n)) (not (ab (Neg.neg 10000000000000000) n)) (ab n 10000000000000000) (not (ab (HDiv.hDiv n 10000) 0)) (σ 0 n) [c0,c1,c2,c3].length (Q (.a .i64 0)) (ng=false) (Q (.a .i64 1))) (λ_=>by rfl) λQ' hQ=>?_) κ
   . have hi:i=0:=η
     subst hi;cases he;exact bR (cC.a0 tV) ζ rfl Ut hw
   . try dsimp only
     have hY:mP ng [c0,c1,c2,c3] e n=(bif ng then ab 1 (-n)&&decide (nS c0 c1 c2 c3 (-n))else decide (nS c0 c1 c2 c3 n)):=by grind [mP]
     rw[hY]at hQ;rw[hx1];have z0:∀k:Int,σ 0 k = -k:=λk=>Int.zero_sub k;simp only[z0];cases ng with
     | true=>
       have yes:1<=-n/\wu [c0,c1,c2,c3] (-n) 4/\-n/10000=0->Q' (.a .i64 1):=λh=>hQ _ (by rw[cond_true,aq.mpr h.1,decide_eq_true ((Ch δ).2 h.2)];rfl);have no:¬(1<=-n/\wu [c0,c1,c2,c3] (-n) 4/\-n/10000=0)->Q' (.a .i64 0):=λh=>hQ _ (by
        have:(ab 1 (-n)&&decide (nS c0 c1 c2 c3 (-n)))=false:=by
         grind [aq,Ch]
        rw[cond_true,this];rfl)
       clear hQ ho hX hx hx1 hY z0;have h4:[c0,c1,c2,c3].length=4:=rfl;generalize [c0,c1,c2,c3]=s at *;generalize wu s n 4=dn at *;generalize wu s (-n) 4=dm at *;simp only[az,reduceCtorEq]
       (repeat' first|exact trivial|refine⟨?_,?_⟩|intro)<;>first|contradiction|omega|assumption|(refine no λh=>?_;rcases h with⟨h1,h2,h3⟩;first|omega|(simp_all;done))|(refine yes ⟨?_,?_,?_⟩<;>first|assumption|omega)
     | false=>
       have yes:0<=n/\wu [c0,c1,c2,c3] n 4/\n/10000=0->Q' (.a .i64 1):=λh=>hQ _ (by rw[cond_false,decide_eq_true ((Ch h.1).2 h.2)];rfl);have no:¬(0<=n/\wu [c0,c1,c2,c3] n 4/\n/10000=0)->Q' (.a .i64 0):=λh=>hQ _ (by
        rw[cond_false,decide_eq_false λk=>h ⟨k.1,(Ch k.1).1 k⟩];rfl)
       clear hQ ho hX hx hx1 hY z0;have h4:[c0,c1,c2,c3].length=4:=rfl;generalize [c0,c1,c2,c3]=s at *;generalize wu s n 4=dn at *;generalize wu s (-n) 4=dm at *;simp only[az,reduceCtorEq]
       (repeat' first|exact trivial|refine⟨?_,?_⟩|intro)<;>first|contradiction|omega|assumption|(refine no λh=>?_;rcases h with⟨h1,h2,h3⟩;first|omega|(simp_all;done))|(refine yes ⟨?_,?_,?_⟩<;>first|assumption|omega)
theorem aln(hS:ak Tryz.prog cfg S):ak Tryz.prog cfg (aK S 184 Tf):=au hS λargs t v he hv=>by
 unfold Tf at he;split at he
 . rename_i ng lg s e g n;cases he;obtain⟨⟨h1,h2,h3,h4,h5,-⟩,hv⟩:=aF hv;rw[ao]at h1;rw[al]at h3;unfold ab1 at h5;rw[zAa,aq,aq]at h5;cases hv;grind [Wm]
 grind
theorem EC{i:Nat}(h:i<s.length):ψ i (List.take (i+1) s)=[s.getD i 0]:=by
 grind [pf]
theorem NA:ae [c] [ν 88]=ο c.toNat 88:=by
 rw[bV,Bool.eq_iff_iff,beq_iff_eq,cQ];constructor
 . simp_all
 . intro h;rw[show c=ν 88 from UInt8.toNat_inj.1 h]
theorem aby{f:UInt8->UInt8}{s:List UInt8}{i:Nat}(h:i<s.length):(s.take (i+1)).map f=(s.take i).map f++[f (s.getD i 0)]:=by
 grind [pf]
theorem RW:cu Tryz.prog (cH cfg T9) (Cw cfg []) (lb 183 0) 117 [1,4,5,6] KI:=by
 intro vs o t Q hv hq J;unfold KI at hv;split at hv
 . rename_i i ng lg s e g;cases hv;replace hq:=cO hq;obtain⟨⟨h1,h2,-⟩,hq⟩:=hq;rw[ao]at h1;rw[aJ]at h2;subst h1;simp only[aH,Tr.wp]at hq;refine ia tV rfl rfl ai (ι:={j:Nat // j<=4}) (λx=>[.h 14 0,.e ((s.take x.1).map (xd 48)),.e ((s.take x.1).map (xd 57)),.a .i64 (ξ x.1)]) (λ_=>⟨1,[.a [.b ng,.b lg,.e s,.a .i64 e,.a .i64 g] true none],[]⟩) (λx=>4-x.1) 1 (λ_=>ς _) (λx J=>?_) (ς _) (λJ=>Wk.a0 ⟨⟨0,by omega⟩,J,rfl⟩) J;obtain⟨j,hj⟩:=x;dsimp only;refine bb λQ' hQ=>cg ((Ui ng lg s _ _ e g j J).mpr ?_);have l1:((s.take j).map (xd 48)).length=j:=η
   have l2:((s.take j).map (xd 57)).length=j:=η
   by_cases h4:j=4
   . subst h4;have e1:(s.take 4).map (xd 48)=su s:=by grind [su]
     have e2:(s.take 4).map (xd 57)=Nt s:=by grind [Nt]
     rw[e1]at l1 ⊢;rw[e2]at l2 ⊢;simp only[az,reduceCtorEq];grind [VW.a0]
   . have hlt:j<s.length:=δ
     have m1:=@aby (xd 48) s j hlt;have m2:=@aby (xd 57) s j hlt;have dt:=EC hlt;have next:∀a b:List UInt8,a=(s.take (j+1)).map (xd 48)->b=(s.take (j+1)).map (xd 57)->∃y:{j:Nat // j<=4},4-y.1<4-j/\VW cfg (Cw cfg []) 1 117 [1,4,5,6] [.h 14 0,.e a,.e b,.a .i64 (ξ (j+1))] ⟨1,[.a [.b ng,.b lg,.e s,.a .i64 e,.a .i64 g] true none],[]⟩ [.h 14 0,.e ((s.take y.1).map (xd 48)),.e ((s.take y.1).map (xd 57)),.a .i64 (ξ y.1)] ⟨1,[.a [.b ng,.b lg,.e s,.a .i64 e,.a .i64 g] true none],[]⟩:=λa b ha hb=>⟨⟨j+1,by omega⟩,by grind,VW.b0 η rfl⟩;rw[m1,m2]at next;clear m1 m2 hq;generalize (s.take j).map (xd 48)=l at *;generalize (s.take j).map (xd 57)=h at *;have e1:Int.toNat (ω (ξ j) 1)=j+1:=rfl;simp only[e1,dt,NA,zAd,List.length_nil];generalize s.getD j 0=c at *;have x1:ο c.toNat 88->xd 48 c=48/\xd 57 c=57:=λh=>by unfold xd;rw[h];exact⟨rfl,rfl⟩
     have x2:ο c.toNat 88=false->xd 48 c=c/\xd 57 c=c:=λh=>by unfold xd;rw[h];exact⟨rfl,rfl⟩
     cases hb:ο c.toNat 88 with
     | true=>
       rw[(x1 hb).1,(x1 hb).2]at next;have next:=next _ _ rfl rfl;clear x1 x2 hb dt;simp only[az,reduceCtorEq]
       (repeat' first|exact trivial|refine⟨?_,?_⟩|intro)<;>first|contradiction|omega|assumption|exact hQ _ next
     | false=>
       rw[(x2 hb).1,(x2 hb).2]at next;have next:=next _ _ rfl rfl;clear x1 x2 hb dt;simp only[az,reduceCtorEq]
       (repeat' first|exact trivial|refine⟨?_,?_⟩|intro)<;>first|contradiction|omega|assumption|exact hQ _ next
 . cases hv
theorem C6{s:List UInt8}:∀{i:Nat},i<=4->(E1 s i).length=4
 | 0,_=>rfl
 | i+1,h=>by
   rw[E1];cases ο (s.getD i 0).toNat 88 with
   | true=>
     rw[cond_true,zAe,zAe,List.length_take,List.length_drop];show min i 4+1+(4-(i+1))=4;omega
   | false=>rw[cond_false];exact C6 δ
theorem Ro:cu Tryz.prog (cH cfg T9) (Cw cfg []) (lb 183 1) 117 [1,4,5,9] K4:=by
 intro vs o t Q hv hq J;unfold K4 at hv;split at hv
 . rename_i l h i ng lg s e g;cases hv;replace hq:=cO hq;obtain⟨⟨h1,h2,h3,-⟩,hq⟩:=hq;rw[ao]at h1;rw[aJ]at h2;rw[bV,beq_iff_eq]at h3;subst h1 h3;simp only[aH,Tr.wp]at hq;refine ia tV rfl rfl ai (ι:={j:Nat // j<=4}) (λx=>[.h 14 0,.e (E1 s x.1),.e h,.a .i64 (ξ x.1)]) (λ_=>⟨1,[.a [.b ng,.b lg,.e s,.a .i64 e,.a .i64 g] true none],[]⟩) (λx=>4-x.1) 1 (λ_=>ς _) (λx J=>?_) (ς _) (λJ=>Wk.a0 ⟨⟨0,by omega⟩,J,rfl⟩) J;obtain⟨j,hj⟩:=x;dsimp only;refine bb λQ' hQ=>cg ((Vy ng lg s _ h e g j J).mpr ?_);by_cases h4:j=4
   . have fin:Q (.b 2,[.h 14 0,.e (E1 s j),.e h,.a .i64 (ξ j)],⟨1,[.a [.b ng,.b lg,.e s,.a .i64 e,.a .i64 g] true none],[]⟩):=η
     generalize E1 s j=l at *;simp only[az,reduceCtorEq];grind [VW.a0]
   . have hlt:j<s.length:=δ
     have next:∀a:List UInt8,a=E1 s (j+1)->∃y:{j:Nat // j<=4},4-y.1<4-j/\VW cfg (Cw cfg []) 1 117 [1,4,5,9] [.h 14 0,.e a,.e h,.a .i64 (ξ (j+1))] ⟨1,[.a [.b ng,.b lg,.e s,.a .i64 e,.a .i64 g] true none],[]⟩ [.h 14 0,.e (E1 s y.1),.e h,.a .i64 (ξ y.1)] ⟨1,[.a [.b ng,.b lg,.e s,.a .i64 e,.a .i64 g] true none],[]⟩:=λa ha=>⟨⟨j+1,by omega⟩,by grind,VW.b0 (by rw[ha]) rfl⟩;rw[E1]at next;clear hq;have e1:Int.toNat (ω (ξ j) 1)=j+1:=rfl;have k1:(List.take j z4).length<=4:=η
     have k2:(ψ (j+1) z4).length<=4:=by rw[List.length_drop];exact Nat.sub_le _ _
     have ez:([ν 48,ν 48,ν 48,ν 48]:List UInt8)=z4:=rfl;simp only[e1,ez,List.drop_zero,zAe,zAd,List.length_nil];rw[show(ν 0)=(0:UInt8)from rfl];generalize s.getD j 0=c at *;generalize E1 s j=l at *;cases hb:ο c.toNat 88 with
     | true=>
       simp_all [az];omega
     | false=>
       rw[hb]at next;have next2:=next _ rfl;clear next;rw[cond_false]at next2;rw[b9]at hb;clear e1 ez;generalize z4=zz at *;simp only[az,reduceCtorEq]
       (repeat' first|exact trivial|refine⟨?_,?_⟩|intro)<;>first|contradiction|omega|assumption|exact hQ _ next2
 . cases hv
theorem E8{v:UInt8}:(xd v c).toNat=if c.toNat=88 then v.toNat else c.toNat:=by
 grind [xd,rY,ic]
theorem PO{a b d:UInt8}(h0:48<=a.toNat/\a.toNat<=57)(h1:48<=b.toNat/\b.toNat<=57)(h2:48<=c.toNat/\c.toNat<=57)(h3:48<=d.toNat/\d.toNat<=57):dV [a,b,c,d]/\fa [a,b,c,d] 0=1000*(a.toNat-48)+100*(b.toNat-48)+10*(c.toNat-48)+(d.toNat-48)/\magOk [a,b,c,d] 0=true:=by
 grind [fa,numL,dV,dB,magOk,al]
theorem DW{v:UInt8}(hv:48<=v.toNat/\v.toNat<=57)(h0:fC c0)(h1:fC c1)(h2:fC c2)(h3:fC c3):dV ([c0,c1,c2,c3].map (xd v))/\((fa ([c0,c1,c2,c3].map (xd v)) 0:Nat):Int)=gu c0 c1 c2 c3 v.toNat/\magOk ([c0,c1,c2,c3].map (xd v)) 0=true:=by
 grind [dD,E8,lL,rY,ic,PO,gu]
theorem Je(h0:fC c0)(h1:fC c1)(h2:fC c2)(h3:fC c3)(hx:¬dT [c0,c1,c2,c3] 88 88=0)(hz:su [c0,c1,c2,c3]=[48,48,48,48]):dV (E1 [c0,c1,c2,c3] 4)/\((fa (E1 [c0,c1,c2,c3] 4) 0:Nat):Int)=nT c1 c2 c3/\magOk (E1 [c0,c1,c2,c3] 4) 0=true:=by
 have key:∀l:List UInt8,E1 [c0,c1,c2,c3] 4=l->dV l->magOk l 0->((fa l 0:Nat):Int)=nT c1 c2 c3->dV (E1 [c0,c1,c2,c3] 4)/\((fa (E1 [c0,c1,c2,c3] 4) 0:Nat):Int)=nT c1 c2 c3/\magOk (E1 [c0,c1,c2,c3] 4) 0=true:=λl e a b c=>by grind
 have ls:E1 [c0,c1,c2,c3] 4=bif ο c3.toNat 88 then[48,48,48,49]else bif ο c2.toNat 88 then[48,48,49,48]else bif ο c1.toNat 88 then[48,49,48,48]else bif ο c0.toNat 88 then[49,48,48,48]else z4:=rfl
 unfold nT at key ⊢;cases e3:ο c3.toNat 88 with
 | true=>rw[e3,cond_true]at ls key;exact key _ ls ζ ζ ζ
 | false=>
   rw[e3,cond_false]at ls key;cases e2:ο c2.toNat 88 with
   | true=>rw[e2,cond_true]at ls key;exact key _ ls ζ ζ ζ
   | false=>
     rw[e2,cond_false]at ls key;cases e1:ο c1.toNat 88 with
     | true=>rw[e1,cond_true]at ls key;exact key _ ls ζ ζ ζ
     | false=>
       rw[e1,cond_false]at ls key;cases e0:ο c0.toNat 88 with
       | true=>rw[e0,cond_true]at ls;exact key _ ls ζ ζ ζ
       | false=>
         exfalso;apply hx;rw[b9]at e0 e1 e2 e3;rw[eU,eU,eU,eU,if_neg δ,if_neg δ,if_neg δ,if_neg δ];rfl
theorem Xr{e:Int}(ho:aV ng lg s e 0)(hs:s.length<=1000)(hX:lP s) :
 bu Tryz.prog cfg 183 [.g [.b ng,.b lg,.e s,.a .i64 e,.a .i64 0]] [] (.d [.a .i64 (jR ng s e),.a .i64 (Zi ng s e)]) []:=by
 cases hx:ο (dT s 88 88) 0 with
 | true=>
   have hx0:aa (gY 1 (ξ (dT s 88 88))) 1=false:=by rw[GZ,hx];rfl
   have l1:jR ng s e=dY ng s e:=by simp_all [jR]
   have l2:Zi ng s e=dY ng s e:=by simp_all [Zi]
   rw[aJ]at hx;obtain⟨he,hd,hm,hv⟩:=AL ho hx;refine jD tV ai (bE 1122400022700227532005) (R:=λQ=>(λ(A B:Bool)(C:Nat)=>(λ(E:Int)=>(λ(G:AV)(F:Int)=>(λ(I:AV)(H:Bool)=>(λ(N:Prop->Prop)=>π s.length 140737488351232/\aa (gY 1 (ξ (dT s 88 88))) 1=false/\N (N ((ng->H/\H/\Q (.d [I,I]))/\(ng=false->Q (.d [G,G]))))) (λu0=>A/\ab 0 e/\B/\dV s/\magOk s C/\u0)) (.a .i64 F) (af .i64 F)) (.a .i64 E) (σ 0 E)) (ξ (fa s C))) (π s.length 1000) (ab e 1000) e.toNat) (λ_=>by rfl) λQ' hQ=>?_;try dsimp only
   rw[l1,l2]at hQ;have z0:∀k:Int,σ 0 k = -k:=λk=>Int.zero_sub k;unfold dY at hQ;rw[hx0];simp only[z0];cases ng with
   | true=>
     have hQ:=hQ _ rfl;rw[cond_true]at hQ;have e1:(-(ξ (fa s e.toNat))) = -((fa s e.toNat:Nat):Int):=rfl;simp only[e1];clear e1;generalize fa s e.toNat=mv at *;simp_all [az];omega
   | false=>
     simp_all [az];omega
 | false=>
   have hx1:aa (gY 1 (ξ (dT s 88 88))) 1=true:=by rw[GZ,hx];rfl
   obtain rfl:=Mz ho (b9.mp hx);obtain⟨c0,c1,c2,c3,rfl,h0,h1,h2,h3⟩:=sV hX hx;refine kA tV (L:=Yk) Oj θ (dv K9 λi hi e he st Q hw=>?_) (jJ (bE 111113000130004400400111300013000440040044004000331111100200010104200044004001111402000114114420004400400440040011111002000101042000440040011114020001141144200044004004400400220422402022005) (R:=λQ=>(λ(A:AV)(G U V:List UInt8)(ue:Nat)(B:Prop)(T:UInt8)=>(λ(C E F u0 u2 u3 u4 uf ug:Bool)(u1 uh uj:Int)(ui:Prop)=>(λ(u6 u7 un uo:AV)(W:Bool)(u5 u8:Int)(H I N uk ul um:Prop)=>(λ(O P ua ub:AV)(Y Z:Bool)(u9:Prop)=>(λ(uc ud:Prop)=>(λ(up:Prop)=>π ue 1000/\aa (gY 1 (ξ (dT [c0,c1,c2,c3] 88 88))) 1/\uf/\(∀J1:Nat->Value,(ng->ng/\ng/\(u0->uf/\u0/\(∀J2:Nat->Value,(ug->(dV U->(magOk U 0->(C->(E->(F->ng/\(Y->(W->Q (.d [O,u6]))/\(u9->Q (.d [O,u7])))/\(uc->(W->Q (.d [P,u6]))/\(u9->Q (.d [P,u7]))))/\(H->ng/\(W->Q (.d [A,u6]))/\(u9->Q (.d [A,u7]))))/\I)/\N)/\(magOk U 0=false->up))/\(dV U=false->False))/\(ug=false->False)))/\(u0=false->(u2->(u3->(u4->(C->(E->(F->ng/\(Y->(Z->Q (.d [O,ua]))/\(ud->Q (.d [O,ub])))/\(uc->(Z->Q (.d [P,ua]))/\(ud->Q (.d [P,ub]))))/\(H->ng/\(Z->Q (.d [A,ua]))/\(ud->Q (.d [A,ub]))))/\I)/\N)/\(uk->up))/\ul)/\um))/\(B->B/\B/\(u2->(u3->(u4->(C->(E->(F->B/\Q (.d [un,uo]))/\(H->B/\Q (.d [un,A])))/\I)/\N)/\(uk->(C->(E->(F->B/\Q (.d [A,uo]))/\(H->B/\ui))/\I)/\N))/\ul)/\um))) ((C->(E->(F->ng/\(Y->Q (.d [O,A]))/\(uc->Q (.d [P,A])))/\(H->ng/\ui))/\I)/\N)) (Y=false) (Z=false)) (.a .i64 u5) (.a .i64 (IntKind.wrap .i64 u5)) (.a .i64 u8) (.a .i64 (IntKind.wrap .i64 u8)) (af .i64 u5) (af .i64 u8) (W=false)) (.a .i64 u1) (.a .i64 (IntKind.wrap .i64 u1)) (.a .i64 uj) (.a .i64 uh) (af .i64 u1) (σ 0 uh) (σ 0 uj) (F=false) (E=false->False) (C=false->False) (u4=false) (u3=false->False) (u2=false->False)) (π V.length 1000) (dV V) (magOk V 0) (ae G [T,T,T,T]) (π G.length 1000) (dV G) (magOk G 0) (ο ue 4) (π U.length 1000) (σ 0 (ξ (fa U 0))) (ξ (fa V 0)) (ξ (fa G 0)) (Q (.d [A,A]))) (.a .i64 0) (su [c0,c1,c2,c3]) (E1 [c0,c1,c2,c3] 4) (Nt [c0,c1,c2,c3]) [c0,c1,c2,c3].length (ng=false) (ν 48)) (λ_=>by kernel_rfl) λQ' hQ=>?_) κ
   . have hi:i=0\/i=1:=η
     rcases hi with rfl|rfl
     . cases he;exact bR (cC.a0 tV) ζ rfl RW hw
     . cases he;exact bR (cC.a0 tV) ζ rfl Ro hw
   . try dsimp only
     have l1:jR ng [c0,c1,c2,c3] 0=(bif ng then -(gu c0 c1 c2 c3 57)else Fd ng c0 c1 c2 c3):=by grind [jR]
     have l2:Zi ng [c0,c1,c2,c3] 0=(bif ng then -(Fd ng c0 c1 c2 c3)else gu c0 c1 c2 c3 57):=by grind [Zi]
     rw[l1,l2]at hQ;obtain⟨a1,a2,a3⟩:=DW (v:=57) ζ h0 h1 h2 h3;obtain⟨b1,b2,b3⟩:=DW (v:=48) ζ h0 h1 h2 h3;have z0:∀k:Int,σ 0 k = -k:=λk=>Int.zero_sub k;have a2:((fa (Nt [c0,c1,c2,c3]) 0:Nat):Int)=gu c0 c1 c2 c3 57:=a2;have b2:((fa (su [c0,c1,c2,c3]) 0:Nat):Int)=gu c0 c1 c2 c3 48:=b2;have a1:dV (Nt [c0,c1,c2,c3])=true:=a1;have b1:dV (su [c0,c1,c2,c3])=true:=b1;have a3:magOk (Nt [c0,c1,c2,c3]) 0=true:=a3;have b3:magOk (su [c0,c1,c2,c3]) 0=true:=b3;have n1:(Nt [c0,c1,c2,c3]).length=4:=rfl;have n2:(su [c0,c1,c2,c3]).length=4:=rfl;have hz:ae (su [c0,c1,c2,c3]) [ν 48,ν 48,ν 48,ν 48]=aa (gu c0 c1 c2 c3 48) 0:=by
      rw[bV,Bool.eq_iff_iff,beq_iff_eq,ao,<-b2];constructor
      . intro h;rw[h];rfl
      . intro h;have hb:=b1;have hv:fa (su [c0,c1,c2,c3]) 0=0:=δ
        have d0:∀c:UInt8,(fC c=true)->48<=(xd 48 c).toNat/\(xd 48 c).toNat<=57:=λc hc=>by
         rw[dD]at hc;rw[E8];have:(48:UInt8).toNat=48:=rfl;split<;>omega
        have e:=(PO (d0 c0 h0) (d0 c1 h1) (d0 c2 h2) (d0 c3 h3)).2.1;have e:fa (su [c0,c1,c2,c3]) 0=_:=e;have:=d0 c0 h0;have:=d0 c1 h1;have:=d0 c2 h2;have:=d0 c3 h3;have q:∀c:UInt8,(xd 48 c).toNat=48->xd 48 c=ν 48:=λc h=>UInt8.toNat_inj.1 h;show[xd 48 c0,xd 48 c1,xd 48 c2,xd 48 c3]=_;rw[q c0 δ,q c1 δ,q c2 δ,q c3 δ]
     have lz:=λh=>Je h0 h1 h2 h3 (b9.mp hx) h;have n3:(E1 [c0,c1,c2,c3] 4).length=4:=C6 ζ;have hz2:ae (su [c0,c1,c2,c3]) [ν 48,ν 48,ν 48,ν 48]->dV (E1 [c0,c1,c2,c3] 4)/\((fa (E1 [c0,c1,c2,c3] 4) 0:Nat):Int)=nT c1 c2 c3/\magOk (E1 [c0,c1,c2,c3] 4) 0=true:=λh=>by
      rw[bV,beq_iff_eq]at h;exact lz h
     have bH:=a3;have bL:=b3;unfold magOk at bH bL;rw[al]at bH bL;have bS:magOk (E1 [c0,c1,c2,c3] 4) 0->fa (E1 [c0,c1,c2,c3] 4) 0<=10000000000000000:=λh=>by unfold magOk at h;rwa [al]at h
     unfold Fd at hQ;rw[hx1];simp only[z0];clear lz l1 l2 ho hX hx hx1 z0 h0 h1 h2 h3;have h4:[c0,c1,c2,c3].length=4:=rfl;generalize Nt [c0,c1,c2,c3]=H at *;generalize su [c0,c1,c2,c3]=L at *;generalize E1 [c0,c1,c2,c3] 4=S at *;generalize [c0,c1,c2,c3]=s at *;generalize gu c0 c1 c2 c3 57=F at *;generalize gu c0 c1 c2 c3 48=G at *;generalize nT c1 c2 c3=X at *;subst a2 b2;cases ng with
     | true=>
       simp only[cond_true,υ]at hQ;cases hbz:ae L [ν 48,ν 48,ν 48,ν 48]with
       | true=>
         obtain⟨s1,s2,s3⟩:=hz2 hbz;have bS:=bS s3;rw[hbz]at hz;rw[<-hz,cond_true,<-s2]at hQ;have hQ:=hQ _ rfl;clear hz hz2;generalize fa S 0=mS at *;generalize fa H 0=mH at *;generalize fa L 0=mL at *;simp only[az,reduceCtorEq]
         (repeat' first|exact trivial|refine⟨?_,?_⟩|intro)<;>first|contradiction|omega|assumption|(exfalso;simp_all;done)
       | false=>
         rw[hbz]at hz;rw[<-hz,cond_false]at hQ;have hQ:=hQ _ rfl;clear hz hz2 bS;generalize fa S 0=mS at *;generalize fa H 0=mH at *;generalize fa L 0=mL at *;simp only[az,reduceCtorEq]
         (repeat' first|exact trivial|refine⟨?_,?_⟩|intro)<;>first|contradiction|omega|assumption|(exfalso;simp_all;done)
     | false=>
       simp only[cond_false,Bool.false_and]at hQ;have hQ:=hQ _ rfl;clear hz hz2 bS;generalize fa S 0=mS at *;generalize fa H 0=mH at *;generalize fa L 0=mL at *;simp only[az,reduceCtorEq]
       (repeat' first|exact trivial|refine⟨?_,?_⟩|intro)<;>first|contradiction|omega|assumption|(exfalso;simp_all;done)
theorem Rc(hS:ak Tryz.prog cfg S):ak Tryz.prog cfg (aK S 183 QQ):=au hS λargs t v he hv=>by
 unfold QQ at he;split at he
 . rename_i ng lg s e g;cases he;obtain⟨⟨h1,h2,h3,h4,-⟩,hv⟩:=aF hv;rw[ao]at h1;rw[al]at h3;cases hv;grind [Xr]
 grind
end Go.Ev
set_option linter.all false
set_option maxRecDepth 100000
set_option maxHeartbeats 4000000
namespace Go.Ev
open Go Go.Proofs
variable{x:cD}{S:aQ}
abbrev bB(ng lg:Bool)(s:List UInt8)(e g:Int)(mo da:List UInt8)(a b c:Int):cD:=.a [.b ng,.b lg,.e s,.a .i64 e,.a .i64 g,.e mo,.e da,.a .u8 a,.a .u8 b,.a .u8 c] true none
def tu(b0:cD):List Int->aB
 | []=>⟨1,[b0],[]⟩
 | x::xs=>⟨2,[.a ((x::xs).map (AV.a .i64)) true (some 1),b0],[]⟩
def S_:dW:=λ
 | [.h 14 0,.f,.a .i64 m],⟨1,[.a [.b ng,.b lg,.e s,.a .i64 e,.a .i64 g,.e [m0,m1],.e da,.a .u8 a,.a .u8 b,.a .u8 c] true none],[]⟩=>some (aH [fC m0,fC m1,aa m 1] (.a0 (.b 0,[.h 14 0,iC 15 (ay m0 m1 12),.a .i64 13],tu (bB ng lg s e g [m0,m1] da a b c) (ay m0 m1 12))))
 | _,_=>none
def ZH:cx:=iz jE 0 (d9 29 [1,3,4] S_)
def Ta:aav:=λ
 | [.g [.b ng,.b lg,.e s,.a .i64 e,.a .i64 g,.e [m0,m1],.e da,.a .u8 a,.a .u8 b,.a .u8 c]],[]=>some (aH [fC m0,fC m1,aa (aR [m0,m1]) 0,!(gU (ay m0 m1 12))] (.a0 (.c 14 0 (dG (ay m0 m1 12)) (.b 0),[.a (aI (ay m0 m1 12)) true (some 1)])))
 | _,_=>none
def SF:dP:=λ
 | [.a .i64 y,.a .i64 m]=>some (aH [af .i64 y] (.a0 (.a .i64 (bP y m))))
 | _=>none
theorem O9:aY tab 250=some (dH 250,aL 250):=κ
theorem Mk:(bz (aL 250)).map (·.1)=[0]:=κ
theorem aO{cs:List AV}{rw:Bool}{g:Option Nat}{b:Nat}(h:bw cs=[]):cR b (.a cs rw g):=⟨rfl,λi hi=>by
 exfalso;have hi:i∈bw cs:=hi;grind⟩
theorem fx{tn:Nat}{rel:List Nat}{vs vs':List AV}{mid B:List cD}{k kb n:Nat}(hk:mid.length=k)(hB:B.length=kb)(hn:n=kb+k+1)(hlow:∀b∈B,cR (14+kb) b)(hx:cR (14+kb) x)(hvs:yw (kG (14+kb) [(14+(kb+k),14+(kb+0))] 20) vs=some vs') :
 VW cfg (Cw cfg []) kb tn rel vs ⟨n,x::(mid++B),[]⟩ vs' ⟨kb+1,x::B,[]⟩:=by
 subst hn;have at0:∀(os:List cD) (n i:Nat),(⟨n,os,[]⟩:aB).at i=os.getD (n-1-i) .b:=λos n i=>rfl;refine VW.d0 gR.lv (C:=Cw cfg []) (kb:=kb) (sel:=[kb+k]) zW η (λs hs=>?_) θ (λp hp=>by grind) rfl rfl η (λi hi=>?_) (λt ht=>?_) hvs
 . grind
 . have e1:(⟨kb+1,x::B,[]⟩:aB).at i=B.getD (kb-1-i) .b:=by
    grind
   have e2:(⟨kb+k+1,x::(mid++B),[]⟩:aB).at i=B.getD (kb-1-i) .b:=by
    grind
   rw[e1,e2];refine⟨rfl,?_⟩;have hlt:kb-1-i<B.length:=δ
   rw[zAf,List.getElem?_eq_getElem hlt];exact hlow _ (List.getElem_mem hlt)
 . have:t=0:=η
   subst this;refine .inl ⟨?_,?_⟩
   . grind
   . show cR (14+kb) ((⟨kb+k+1,x::(mid++B),[]⟩:aB).at (kb+k));grind
theorem dL.d0{v v':AV}{rest:List cD}{k n:Nat}(hk:rest.length=k)(hn:n=k+1)(hx:cR 14 x)(hv:kG 14 [(14+k,14)] 20 v'=some v):dL [] v [x] (v',⟨n,x::rest,[]⟩):=by
 subst hn;have hv':kG ((Cw cfg []).lo+0) (fY (Cw cfg []).lo 0 [k]) 20 v'=some v:=hv;refine(oX gR.lv (C:=Cw cfg []) (st:=⟨.c0 v' .a0 .a0,1,⟨k+1,x::rest,[]⟩,[],none⟩) (kb:=0) (sel:=[k]) (ts':=.c0 v .a0 .a0) (o':=⟨1,[x],[]⟩) zW (Nat.zero_le _) (λs hs=>?_) θ (λp hp=>by grind) rfl rfl rfl (λi hi=>absurd hi (Nat.not_lt_zero i)) (λt ht=>?_) ?_ (λd hd=>by grind) (λi hi=>by grind)).b0 λs hs=>?_
 . grind
 . have:t=0:=η
   subst this;refine .inl ⟨?_,?_⟩
   . grind [aB.at]
   . show cR 14 ((⟨k+1,x::rest,[]⟩:aB).at k);grind [aB.at]
 . grind [xB,ob]
 . rw[hs];exact⟨rfl,rfl⟩
theorem WT{y m:Int}(hy : -9223372036854775808<=y/\y<=9223372036854775807):bu Tryz.prog cfg 203 [.a .i64 y,.a .i64 m] [] (.a .i64 (bP y m)) []:=by
 refine jD tV ai (bE 110330008107331142322024220240414124124124) (R:=λQ=>(λ(A F G H I O:Bool)(C P T:Prop)=>(λ(E:Bool)(B:Prop)=>(λ(N:Prop)=>(F->F/\C)/\(F=false->(G->G/\C)/\(G=false->(H->H/\C)/\(H=false->(aa m 11->C)/\(aa m 11=false->(aa m 2->(A->A/\A/\A/\(E->E/\E/\A/\I=false/\A/\(O->P)/\(O=false->T))/\(N->N/\N/\A/\I/\A/\P))/\(B->B/\B/\B/\B/\B/\T))/\(aa m 2=false->Q (.a .i64 31))))))) (E=false)) (not I) (A=false)) (aa (Int.tmod y 4) 0) (aa m 4) (aa m 6) (aa m 9) (not (aa (Int.tmod y 100) 0)) (aa (Int.tmod y 400) 0) (Q (.a .i64 30)) (Q (.a .i64 29)) (Q (.a .i64 28))) (λ_=>by rfl) λQ' hQ=>?_;try dsimp only
 have z:∀k:Int,y.tmod k=0↔y%k=0:=λk=>by grind [Int.dvd_iff_tmod_eq_zero,Int.dvd_iff_emod_eq_zero]
 have fin:∀n:Int,n=bP y m->Q' (.a .i64 n):=λn h=>hQ _ (by rw[h]);clear hQ;simp only[az,reduceCtorEq];simp only[z]
 (repeat' first|exact trivial|refine⟨?_,?_⟩|intro)<;>first|omega|grind [bP,Go.Proofs.YtcffhjfdlflbgaaGreatDoor.mlen,Go.Proofs.YtcffhjfdlflbgaaGreatDoor.lp]
theorem acf{b0:cD}{L:List Int}(h:L≠[]):tu b0 L=⟨2,[.a (L.map (AV.a .i64)) true (some 1),b0],[]⟩:=by cases L with|nil=>grind|cons x xs=>rfl
theorem Vu:cu Tryz.prog (cH cfg T9) (Cw cfg []) (lb 250 0) 29 [1,3,4] S_:=by
 intro vs o t Q hv hq J;unfold S_ at hv;split at hv
 . rename_i m ng lg s e g m0 m1 da a b c;cases hv;replace hq:=cO hq;obtain⟨⟨h1,h2,h3,-⟩,hq⟩:=hq;rw[ao]at h3;subst h3;have hq:Q (.b 0,[.h 14 0,iC 15 (ay m0 m1 12),.a .i64 13],tu (bB ng lg s e g [m0,m1] da a b c) (ay m0 m1 12)):=hq;refine ia tV rfl rfl ai (ι:={i:Nat // i<=12}) (λx=>[.h 14 0,iC 15 (ay m0 m1 x.1),.a .i64 ((x.1:Int)+1)]) (λx=>tu (bB ng lg s e g [m0,m1] da a b c) (ay m0 m1 x.1)) (λx=>12-x.1) 1 (λx=>by cases h:ay m0 m1 x.1<;>exact Nat.succ_le_succ (Nat.zero_le _)) (λx J=>?_) (ς _) (λJ=>Wk.a0 ⟨⟨0,Nat.zero_le _⟩,J,rfl⟩) J;obtain⟨i,hi⟩:=x;dsimp only;have hlen:=eV m0 m1 i;have hs:=aam m0 m1 i;have blow:cR (14+1) (bB ng lg s e g [m0,m1] da a b c):=aO κ;have blow2:∀z∈[bB ng lg s e g [m0,m1] da a b c],cR (14+1) z:=λz hz=>by
    grind
   have fin:i=12->∃vs2 o2,VW cfg (Cw cfg []) 1 29 [1,3,4] [.h 14 0,iC 15 (ay m0 m1 i),.a .i64 ((i:Int)+1)] (tu (bB ng lg s e g [m0,m1] da a b c) (ay m0 m1 i)) vs2 o2/\Q (.b 0,vs2,o2):=λh=>by
    grind [VW.b0]
   have bi:∀b:Bool,bI b=1↔b=true:=λb=>by cases b<;>decide
   by_cases hL:ay m0 m1 i=[]
   . rw[hL]at hs fin ⊢;refine jJ (bE 1121205422004) (R:=λQ=>(λ(F:cD)(A E:AV)(B:Bool)(C:Int)=>(λ(H:AV)(G:Bool)=>(ab ((i:Int)+1) 12->ab 0 ((i:Int)+1)/\ab ((i:Int)+1) 99/\(B->G/\Q (.a,[A,.c 16 0 1 (fg.b 0),H],⟨3,[.a [E] true (some 1),.a [E] true none,F],[]⟩))/\(B=false->G/\Q (.a,[A,.f,H],⟨1,[F],[]⟩)))/\(ab ((i:Int)+1) 12=false->Q (.b 0,[A,.f,E],⟨1,[F],[]⟩))) (.a .i64 C) (af .i64 C)) (.a [.b ng,.b lg,.e s,.a .i64 e,.a .i64 g,.e [m0,m1],.e da,.a .u8 a,.a .u8 b,.a .u8 c] true none) (.h 14 0) (.a .i64 ((i:Int)+1)) (aa (cond (agr [m0,m1] ((i:Int)+1)) 1 0) 1) (ω ((i:Int)+1) 1)) (λ_=>by rfl) λQ' hQ=>?_;try dsimp only
     cases ha:agr [m0,m1] ((i:Int)+1)with
     | true=>
       rw[ha]at hs;have next:i<12->∃y:{i:Nat // i<=12},12-y.1<12-i/\VW cfg (Cw cfg []) 1 29 [1,3,4] [.h 14 0,.c 16 0 1 (.b 0),.a .i64 ((i:Int)+1+1)] ⟨3,[.a [.a .i64 ((i:Int)+1)] true (some 1),.a [.a .i64 ((i:Int)+1)] true none,bB ng lg s e g [m0,m1] da a b c],[]⟩ [.h 14 0,iC 15 (ay m0 m1 y.1),.a .i64 ((y.1:Int)+1)] (tu (bB ng lg s e g [m0,m1] da a b c) (ay m0 m1 y.1)):=λh=>by
        refine⟨⟨i+1,by omega⟩,by dsimp only;omega,?_⟩;dsimp only;rw[hs];exact fx (x:=.a [.a .i64 ((i:Int)+1)] true (some 1)) (mid:=[.a [.a .i64 ((i:Int)+1)] true none]) (B:=[bB ng lg s e g [m0,m1] da a b c]) rfl rfl rfl blow2 (aO rfl) rfl
       clear hs hq;simp only[az,reduceCtorEq]
       (repeat' first|exact trivial|refine⟨?_,?_⟩|intro)<;>first|contradiction|omega|assumption|exact hQ _ (fin δ)|exact hQ _ (next δ)|skip
     | false=>
       rw[ha]at hs;have next:i<12->∃y:{i:Nat // i<=12},12-y.1<12-i/\VW cfg (Cw cfg []) 1 29 [1,3,4] [.h 14 0,.f,.a .i64 ((i:Int)+1+1)] ⟨1,[bB ng lg s e g [m0,m1] da a b c],[]⟩ [.h 14 0,iC 15 (ay m0 m1 y.1),.a .i64 ((y.1:Int)+1)] (tu (bB ng lg s e g [m0,m1] da a b c) (ay m0 m1 y.1)):=λh=>by
        refine⟨⟨i+1,by omega⟩,by dsimp only;omega,?_⟩;dsimp only;rw[hs];exact VW.a0
       clear hs hq;simp only[az,reduceCtorEq]
       (repeat' first|exact trivial|refine⟨?_,?_⟩|intro)<;>first|contradiction|omega|assumption|exact hQ _ (fin δ)|exact hQ _ (next δ)|skip
   . rw[jr hL,acf hL]at fin ⊢;refine jJ (bE 1121124520422004) (R:=λQ=>(λ(H:cD)(A G I:AV)(B E:Bool)(F:Int)(C:Nat)=>(λ(O:AV)(N:Bool)=>(ab ((i:Int)+1) 12->ab 0 ((i:Int)+1)/\ab ((i:Int)+1) 99/\(B->and (and (π C 1000000) true) true/\(E->N/\Q (.a,[A,.c 17 0 C (fg.b 0),O],⟨4,[.a (((ay m0 m1 i).map (AV.a .i64))++[G]) true (some 1),.a [G] true none,cD.b,H],[]⟩))/\(E=false->False))/\(B=false->N/\Q (.a,[A,I,O],⟨2,[.a ((ay m0 m1 i).map (AV.a .i64)) true (some 1),H],[]⟩)))/\(ab ((i:Int)+1) 12=false->Q (.b 0,[A,I,G],⟨2,[.a ((ay m0 m1 i).map (AV.a .i64)) true (some 1),H],[]⟩))) (.a .i64 F) (af .i64 F)) (.a [.b ng,.b lg,.e s,.a .i64 e,.a .i64 g,.e [m0,m1],.e da,.a .u8 a,.a .u8 b,.a .u8 c] true none) (.h 14 0) (.a .i64 ((i:Int)+1)) (.c 15 0 (ay m0 m1 i).length (fg.b 0)) (aa (cond (agr [m0,m1] ((i:Int)+1)) 1 0) 1) (and true (ο ((ay m0 m1 i).map (AV.a .i64)).length (HMul.hMul (ay m0 m1 i).length 1))) (ω ((i:Int)+1) 1) (τ (ay m0 m1 i).length 1)) (λ_=>by kernel_rfl) λQ' hQ=>?_;try dsimp only
     have aX:∀n:Nat,ο n (n*1)=true:=λn=>by rw[Nat.mul_one];exact rY rfl
     have hcl:((ay m0 m1 i).map (AV.a .i64)).length=(ay m0 m1 i).length:=List.length_map _;cases ha:agr [m0,m1] ((i:Int)+1)with
     | true=>
       rw[ha]at hs;have he:ay m0 m1 (i+1)=ay m0 m1 i++[(i:Int)+1]:=hs;have hne:ay m0 m1 (i+1)≠[]:=by rw[he];simp
       have next:i<12->∃y:{i:Nat // i<=12},12-y.1<12-i/\VW cfg (Cw cfg []) 1 29 [1,3,4] [.h 14 0,.c 17 0 ((ay m0 m1 i).length+1) (.b 0),.a .i64 ((i:Int)+1+1)] ⟨4,[.a ((ay m0 m1 i).map (AV.a .i64)++[.a .i64 ((i:Int)+1)]) true (some 1),.a [.a .i64 ((i:Int)+1)] true none,.b,bB ng lg s e g [m0,m1] da a b c],[]⟩ [.h 14 0,iC 15 (ay m0 m1 y.1),.a .i64 ((y.1:Int)+1)] (tu (bB ng lg s e g [m0,m1] da a b c) (ay m0 m1 y.1)):=λh=>by
        refine⟨⟨i+1,by omega⟩,by dsimp only;omega,?_⟩;dsimp only;rw[jr hne,acf hne,he,List.map_append,zAe];refine fx (x:=.a ((ay m0 m1 i).map (AV.a .i64)++[.a .i64 ((i:Int)+1)]) true (some 1)) (mid:=[.a [.a .i64 ((i:Int)+1)] true none,.b]) (B:=[bB ng lg s e g [m0,m1] da a b c]) (k:=2) (kb:=1) rfl rfl rfl blow2 ?_ ?_
        . have:=@lV (ay m0 m1 i++[(i:Int)+1]) true (some 1) 15
          rwa [List.map_append]at this
        . rfl
       clear hs hq he hne;generalize (ay m0 m1 i).map (AV.a .i64)=cs at *;generalize (ay m0 m1 i).length=n at *;simp only[az,reduceCtorEq];try simp only[aX,Bool.and_true,υ,aJ,b9,al]
       (repeat' first|exact trivial|refine⟨?_,?_⟩|intro)<;>first|contradiction|omega|assumption|exact hQ _ (fin δ)|exact hQ _ (next δ)|(exfalso;simp_all;done)|(exfalso;simp_all;omega)
     | false=>
       rw[ha]at hs;have he:ay m0 m1 (i+1)=ay m0 m1 i:=by rw[hs];simp
       have next:i<12->∃y:{i:Nat // i<=12},12-y.1<12-i/\VW cfg (Cw cfg []) 1 29 [1,3,4] [.h 14 0,.c 15 0 (ay m0 m1 i).length (.b 0),.a .i64 ((i:Int)+1+1)] ⟨2,[.a ((ay m0 m1 i).map (AV.a .i64)) true (some 1),bB ng lg s e g [m0,m1] da a b c],[]⟩ [.h 14 0,iC 15 (ay m0 m1 y.1),.a .i64 ((y.1:Int)+1)] (tu (bB ng lg s e g [m0,m1] da a b c) (ay m0 m1 y.1)):=λh=>by
        refine⟨⟨i+1,by omega⟩,by dsimp only;omega,?_⟩;dsimp only;rw[he,jr hL,acf hL];exact VW.a0
       clear hs hq he;generalize (ay m0 m1 i).map (AV.a .i64)=cs at *;generalize (ay m0 m1 i).length=n at *;simp only[az,reduceCtorEq];try simp only[aX,Bool.and_true,υ,aJ,b9,al]
       (repeat' first|exact trivial|refine⟨?_,?_⟩|intro)<;>first|contradiction|omega|assumption|exact hQ _ (fin δ)|exact hQ _ (next δ)|(exfalso;simp_all;done)|(exfalso;simp_all;omega)
 . cases hv
theorem Wf{ng lg:Bool}{s:List UInt8}{e g:Int}{m0 m1:UInt8}{da:List UInt8}{a b c:Int}(h0:fC m0)(h1:fC m1)(hse:aR [m0,m1]=0)(hL:ay m0 m1 12≠[]) :
 bu Tryz.prog cfg 250 [.g [.b ng,.b lg,.e s,.a .i64 e,.a .i64 g,.e [m0,m1],.e da,.a .u8 a,.a .u8 b,.a .u8 c]] [] (.c 14 0 (dG (ay m0 m1 12)) (.b 0)) [.a (aI (ay m0 m1 12)) true (some 1)]:=by
 refine Bu tV (L:=ZH) O9 θ (dv Mk λi hi e he st Q hw=>?_) (jJ (bE 1022356) (R:=λQ=>(λ(A:List Int)=>not (ab (aR [m0,m1]) 0)=false/\fC m0/\fC m1/\(∀J1:Nat->Value,Q (Prod.fst (Prod.fst (iC 15 A,χ ([.h 14 0,iC 15 A,.a .i64 13],tu (.a [.b ng,.b lg,.e s,.a .i64 e,.a .i64 g,.e [m0,m1],.e da,.a .u8 a,.a .u8 b,.a .u8 c] true none) A)),χ (iC 15 A,χ ([.h 14 0,iC 15 A,.a .i64 13],tu (.a [.b ng,.b lg,.e s,.a .i64 e,.a .i64 g,.e [m0,m1],.e da,.a .u8 a,.a .u8 b,.a .u8 c] true none) A))),χ (Prod.fst (iC 15 A,χ ([.h 14 0,iC 15 A,.a .i64 13],tu (.a [.b ng,.b lg,.e s,.a .i64 e,.a .i64 g,.e [m0,m1],.e da,.a .u8 a,.a .u8 b,.a .u8 c] true none) A)),χ (iC 15 A,χ ([.h 14 0,iC 15 A,.a .i64 13],tu (.a [.b ng,.b lg,.e s,.a .i64 e,.a .i64 g,.e [m0,m1],.e da,.a .u8 a,.a .u8 b,.a .u8 c] true none) A)))))) (ay m0 m1 12)) (λ_=>by kernel_rfl) λQ' hQ=>?_)
 . have hi:i=0:=η
   subst hi;cases he;exact bR (cC.a0 tV) ζ rfl Vu hw
 . try dsimp only
   rw[jr hL,acf hL];have fin:=hQ (_,_) (dL.d0 (v:=.c 14 0 (dG (ay m0 m1 12)) (.b 0)) (v':=.c 15 0 (dG (ay m0 m1 12)) (.b 0)) (x:=.a (aI (ay m0 m1 12)) true (some 1)) (rest:=[bB ng lg s e g [m0,m1] da a b c]) (k:=1) (n:=2) rfl rfl lV rfl);have fin:Q' (.c 15 0 (ay m0 m1 12).length (.b 0),⟨2,[.a ((ay m0 m1 12).map (AV.a .i64)) true (some 1),bB ng lg s e g [m0,m1] da a b c],[]⟩):=fin;simp_all [az]
theorem Sk(hS:ak Tryz.prog cfg S):ak Tryz.prog cfg (eQ S 250 (fl 14 [] Ta)):=by
 refine bm hS (fW gR.lv Az λargs ws t r he hr=>?_);unfold Ta at he;split at he
 . cases he;replace hr:=aF hr;obtain⟨⟨h1,h2,h3,h4,-⟩,hr⟩:=hr;rw[ao]at h3;cases hr;refine⟨Wf h1 h2 h3 λhn=>?_,λx hx=>?_⟩
   . rw[hn]at h4;cases h4
   . simp only[List.mem_singleton]at hx;subst hx;exact lV
 grind
theorem Sh(hS:ak Tryz.prog cfg S):ak Tryz.prog cfg (aK S 203 SF):=au hS λargs t v he hv=>by
 unfold SF at he;split at he
 . cases he;obtain⟨h1,hv⟩:=ex hv;rw[aE]at h1;cases hv;exact WT h1
 grind
end Go.Ev
