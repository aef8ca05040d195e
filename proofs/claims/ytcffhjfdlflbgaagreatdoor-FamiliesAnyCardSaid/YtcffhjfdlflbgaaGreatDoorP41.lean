import Derived.Deep.DeepWitnessRowRef
import Derived.Test.YtcffhjfdlflbgaaGreatDoorP40
set_option linter.all false
open Bool renaming not_eq_false'->ν
open Int renaming ofNat->ξ
open Nat renaming beq->ο
open Option.some renaming inj->π
set_option linter.all false
set_option maxRecDepth 100000
set_option maxHeartbeats 4000000
section
namespace Go.Ev
open Go Go.Proofs
variable{x:Da}{f:Nat}{args:List AV}{ws:List cD}{c:Fk}{K K':fg}{g:Option Nat}
theorem ae_{y m:Int}(h:1<=m/\m<=12):bf y<=aG y m/\aG y m<aG y (m+1)/\aG y (m+1)<=bf (y+1)/\aG y m+d6 y m=aG y (m+1):=by
 have ys:bf (y+1)=bf y+365+iE y:=Go.Proofs.YtcffhjfdlflbgaaGreatDoor.yst_succ y;have bl:0<=iE y/\iE y<=1:=Go.Proofs.YtcffhjfdlflbgaaGreatDoor.lp_01 y;have e:=@p9 y m h.1 (by omega);have hn:=jk y m;have key:∀k:Int,1<=k->k<=13->bf y<=aG y k/\aG y k<=bf y+365+iE y:=λk h1 h2=>by
  have:aG y k=bf y+Go.Proofs.YtcffhjfdlflbgaaGreatDoor.mcum y k:=rfl;grind [iE,Go.Proofs.YtcffhjfdlflbgaaGreatDoor.mcum]
 grind
theorem ahn{y m d:Int}(h:1<=m/\m<=12)(h1:aG y m<=d)(h2:d<aG y (m+1)):aN d=y/\bZ d=m:=by
 obtain⟨a,b,c,e⟩:=@ae_ y m h;have hy:aN d=y:=Go.Proofs.YtcffhjfdlflbgaaGreatDoor.yOf_unique (show bf y<=d by omega) (show d<bf (y+1)by omega);have hy':Go.Proofs.YtcffhjfdlflbgaaGreatDoor.yOf d=y:=hy;refine⟨hy,Go.Proofs.YtcffhjfdlflbgaaGreatDoor.mOf_unique h.1 ?_ ?_⟩
 . rw[hy'];exact h1
 . rw[hy'];exact h2
theorem afo{y m d p:Int}(hy : -10000000000000000<=y/\y<=10000000000000000)(h:(p=1/\m=0)\/(p=2/\(1<=m/\m<=12)/\d=0)\/(p=3/\(1<=m/\m<=12)/\1<=d/\d<=d6 y m)):(lT (iO y m d) p/\CK (iO y m d) p=iO y m d)/\(lT (iD y m d) p/\PU (iD y m d) p=iD y m d)/\-3652425000000000000<=iO y m d/\iO y m d<=iD y m d/\iD y m d<=3652425000000000365:=by
 obtain⟨e1,e2⟩:=n9;have m1:=eF hy.1;have m2:=eF hy.2;have ys:∀z,bf (z+1)=bf z+365+iE z:=Go.Proofs.YtcffhjfdlflbgaaGreatDoor.yst_succ;have bl:∀z,0<=iE z/\iE z<=1:=Go.Proofs.YtcffhjfdlflbgaaGreatDoor.lp_01;have l1:=bl y;have y1:=ys y;have y2:iE 10000000000000000=1:=by decide
 have y3:=ys 10000000000000000;have m3:=eF (show y+1<=10000000000000000+1 by omega);rcases h with⟨rfl,rfl⟩|⟨rfl,hm,rfl⟩|⟨rfl,hm,hd⟩
 . have a1:iO y 0 d=bf y:=rfl;have a2:iD y 0 d=bf (y+1)-1:=rfl;rw[a1,a2];refine⟨⟨Pa (dR.2 (by omega)),?_⟩,⟨Pa (dR.2 (by omega)),?_⟩,by omega,by omega,by omega⟩
   . show bf (aN (bf y))=_;rw[yR.1]
   . show bf (aN (bf (y+1)-1))+364+iE (aN (bf (y+1)-1))=_;grind [yR]
 . obtain⟨a,b,c,e⟩:=@ae_ y m hm;have k0:aa m 0=false:=aw.mpr (by omega);have k1:ab 13 m=false:=bF.mpr (by omega);have a1:iO y m 0=aG y m:=by unfold iO;rw[k0,k1];rfl
   have a2:iD y m 0=aG y (m+1)-1:=by unfold iD;rw[k0,k1];rfl
   rw[a1,a2];obtain⟨q1,q2⟩:=ahn hm (Int.le_refl _) b;obtain⟨q3,q4⟩:=ahn (y:=y) (d:=aG y (m+1)-1) hm (by omega) (by omega);refine⟨⟨Pa (dR.2 (by omega)),?_⟩,⟨Pa (dR.2 (by omega)),?_⟩,by omega,by omega,by omega⟩
   . show aG (aN _) (bZ _)=_;grind
   . show aG (aN _) (bZ _)+d6 (aN _) (bZ _)-1=_;grind
 . obtain⟨a,b,c,e⟩:=@ae_ y m hm;have k0:aa m 0=false:=aw.mpr (by omega);have k1:ab 13 m=false:=bF.mpr (by omega);have k2:aa d 0=false:=aw.mpr (by omega);have a1:iO y m d=aG y m+d-1:=by grind [iO]
   have a2:iD y m d=aG y m+d-1:=by grind [iD]
   rw[a1,a2];exact⟨⟨rfl,rfl⟩,⟨rfl,rfl⟩,by omega,by omega,by omega⟩
theorem ad4(hv:dF x)(hp:kZ x):(lT (kD x) (dq x.mo x.da)/\CK (kD x) (dq x.mo x.da)=kD x)/\(lT (bq x.ng x.s x.e x.mo x.da) (dq x.mo x.da)/\PU (bq x.ng x.s x.e x.mo x.da) (dq x.mo x.da)=bq x.ng x.s x.e x.mo x.da)/\-3652425000000000000<=kD x/\kD x<=bq x.ng x.s x.e x.mo x.da/\bq x.ng x.s x.e x.mo x.da<=3652425000000000365:=by
 obtain⟨ng,lg,s,e,g,mo,da,a,b,c⟩:=x;have hp:eX s g mo da=true:=hp;have hv:wa ng lg s e g mo da a b c=true:=hv;obtain⟨p1,p2⟩:=qc.1 hp;obtain⟨h6,i1,i2,i3,i4,e0,nx,-⟩:=ye.1 (qd hv p1);obtain⟨_,_,_,_,u1,u2,u3⟩:=aaj e0 nx h6;rw[ao]at p2;unfold kY at u1;simp only[zAa]at u1;have hy : -10000000000000000<=dY ng s e/\dY ng s e<=10000000000000000:=by
  grind [eO,aq]
 refine afo hy ?_;unfold dq;dsimp only;cases hm:ae mo []with
 | true=>
   have hd:ae da []=true:=by
    cases hd:ae da []with
    | true=>rfl
    | false=>
      have:=aaR e0 nx hd;rw[hm]at u2;have:=ao.mp u2.symm;omega
   rw[hm]at u2;rw[hd];exact .inl ⟨rfl,ao.mp u2.symm⟩
 | false=>
   have hs:=aaU e0 nx hm p2;cases hd:ae da []with
   | true=>
     rw[hd]at u3;exact .inr (.inl ⟨rfl,hs,ao.mp u3.symm⟩)
   | false=>exact .inr (.inr ⟨rfl,hs,(aaR e0 nx hd).2.2⟩)
theorem bu.dead{v:AV}(h:bu Tryz.prog cfg f args ws v []):bu Tryz.prog cfg f args ws v [.b]:=
 h.a0 ((aed (C:=Cw cfg ws) (st:=⟨.c0 v .b0 .b0,1,⟨0,[],[]⟩,[],none⟩) (kb:=0) (o':=⟨1,[.b],[]⟩) (Nat.zero_le _) rfl rfl λi hi=>absurd hi (Nat.not_lt_zero i)).b0 λs hs=>by rw[hs];exact⟨rfl,rfl⟩)
def xq(B:cD):Nat->cD
 | 0=>B
 | _=>.b
theorem u1(hw:∀x∈ws,cR 14 x)(hl:ws.length<=1)(hs:c.s=none)(h:bu Tryz.prog cfg f args ws (.d [.c (14+ws.length) 0 1 K,.a .i64 0]) [.a (c.at (14+ws.length)).cs true g]):abf f args ws 1 K g (λ_=>c) λ_=>.b:=by
 have e:ws.length=0\/ws.length=1:=by omega
 refine h.a0 (dL.u (sel:=[1,2,3,4,5,6,0]) hw rfl (by simp) (by decide) (by decide) rfl rfl (by rcases e with e|e<;>rw[e]<;>rfl) λt ht=>?_);rcases(by omega:t=0\/t=1\/t=2\/t=3\/t=4\/t=5\/t=6)with rfl|rfl|rfl|rfl|rfl|rfl|rfl
 . exact .inl ⟨rfl,aa5⟩
 . exact .inl ⟨rfl,aa5⟩
 . exact .inl ⟨rfl,aa5⟩
 . exact .inl ⟨rfl,aa5⟩
 . exact .inl ⟨rfl,aa5⟩
 . exact .inl ⟨rfl,aa5⟩
 . refine .inr ⟨_,_,_,_,rfl,?_,rfl⟩;show yw _ (ft c.k (c.d (14+ws.length)) c.x c.p c.a c.b c.c c.e)=some (ft c.k (c.d (14+ws.length)) c.x c.p c.a c.b c.c c.e);grind [Fk.d,acY]
theorem u2{q:Nat}{B:cD}(hw:∀x∈ws,cR 14 x)(hl:ws.length<=1)(hs:c.s=some (0,q,K'))(hB:cR 14 B)(h:bu Tryz.prog cfg f args ws (.d [.c (14+ws.length+1) 0 1 K,.a .i64 0]) [.a (c.at (14+ws.length)).cs true g,B]):abf f args ws 1 K g (λ_=>c) (xq B):=by
 have hB':cR (14+ws.length) B:=⟨hB.1,λi hi=>Nat.lt_of_lt_of_le (hB.2 i hi) (Nat.le_add_right _ _)⟩;have e:ws.length=0\/ws.length=1:=by omega
 refine h.a0 (dL.u (sel:=[0,2,3,4,5,6,1]) hw rfl (by simp) (by decide) (by decide) rfl rfl (by rcases e with e|e<;>rw[e]<;>rfl) λt ht=>?_);rcases(by omega:t=0\/t=1\/t=2\/t=3\/t=4\/t=5\/t=6)with rfl|rfl|rfl|rfl|rfl|rfl|rfl
 . exact .inl ⟨rfl,hB'⟩
 . exact .inl ⟨rfl,aa5⟩
 . exact .inl ⟨rfl,aa5⟩
 . exact .inl ⟨rfl,aa5⟩
 . exact .inl ⟨rfl,aa5⟩
 . exact .inl ⟨rfl,aa5⟩
 . refine .inr ⟨_,_,_,_,rfl,?_,rfl⟩;show yw _ (ft c.k (c.d (14+ws.length)) c.x c.p c.a c.b c.c c.e)=some (ft c.k (c.d (14+ws.length)) c.x c.p c.a c.b c.c c.e);unfold Fk.d;rw[hs];exact aa2 (by rcases e with e|e<;>rw[e]<;>rfl)
theorem amb{R:List Rn}(h:aaw R):Nx R/\jo R=0/\abH R=0:=by
 have hi:∀i,i<R.length->IJ (R.getD i ek).b/\IJ (R.getD i ek).d:=λi hi=>by
  have ho:=h.o (R.getD i ek) (by grind);obtain⟨-,a,b,c,d⟩:=ho;exact⟨⟨by omega,by omega⟩,⟨by omega,by omega⟩⟩
 have hc:=ai7 h;exact⟨hi,hc,by grind [ai3]⟩
theorem apB{r:Rn}(h:tm r):aaw [r]:=⟨λx hx=>by grind,List.pairwise_singleton _ _⟩
theorem adY{a b c d:Int}{j:Nat}{P S:Nat->cD}{x y:Bool}{g':Option Nat}(hj:j<6)(hP:P j=.a (aab a b c d) x g)(hS:S j=.a (aab a b c d) y g')(h:tm ⟨a,b,c,d⟩):ab0 P S ⟨1,some (j,1,K),gL,0,0,0,0,0⟩ ⟨1,some (j,1,K'),gL,0,0,0,0,0⟩:=by
 obtain⟨h1,h2,h3⟩:=amb (apB h);exact .b (R:=[⟨a,b,c,d⟩]) hj hP hS h1 (Nat.le_refl _) (by simp) h2 h3
section
variable{P S:Nat->cD}
theorem afX(hv:dF x)(hg:x.g=0)(hx:eA (x.s++x.mo++x.da)):ab0 P S ⟨2,none,⟨x.ng,x.lg,x.s,x.e,0,x.mo,x.da,0,0,0⟩,0,0,0,0,0⟩ ⟨2,none,⟨x.ng,x.lg,x.s,x.e,0,x.mo,x.da,0,0,0⟩,0,0,0,0,0⟩:=by
 obtain⟨n1,n2,n3⟩:=aej hv;obtain⟨h6,i1,i2,i3,i4,i5,h0⟩:=SA.1 (show wa _ _ _ _ _ _ _ _ _ _=true from hv);have e:=afO (ak5 h0);exact .a aql (anC n1 n2 n3 i1 e hx) (ano n1 n2 n3 i1 e hx)
section
variable{p b d:Int}(hp:1<=p/\p<=3)
include hp
theorem ail(hb:af .i64 b/\lT b p/\CK b p=b)(hd:af .i64 d/\lT d p/\PU d p=d)(hl:b<=d):ab0 P S ⟨3,none,gL,p,0,b,0,d⟩ ⟨3,none,gL,p,0,b,0,d⟩:=by
 have hr:bA 0 b 0 d=0:=gA.2 ⟨.inl rfl,.inl rfl,.inr ⟨rfl,hl⟩⟩;exact .a ako (aie hp rfl hb.1 rfl hd.1 (zi.2 ⟨.inl rfl,hr,λ_=>hb.2,λ_=>hd.2⟩)) (alJ hp hb hd hr)
theorem akB(hd:af .i64 d/\lT d p/\PU d p=d):ab0 P S ⟨3,none,gL,p,-1,0,0,d⟩ ⟨3,none,gL,p,-1,0,0,d⟩:=by
 have hr:bA (-1) 0 0 d=0:=gA.2 ⟨.inr ⟨rfl,rfl⟩,.inl rfl,.inl (by decide)⟩;exact .a ako (aie hp rfl rfl rfl hd.1 (zi.2 ⟨.inr rfl,hr,λh=>absurd h (by decide),λ_=>hd.2⟩)) (ali hp hd)
theorem alE(hb:af .i64 b/\lT b p/\CK b p=b):ab0 P S ⟨3,none,gL,p,0,b,1,0⟩ ⟨3,none,gL,p,0,b,1,0⟩:=by
 have hr:bA 0 b 1 0=0:=gA.2 ⟨.inl rfl,.inr ⟨rfl,rfl⟩,.inl (by decide)⟩;exact .a ako (aie hp rfl hb.1 rfl rfl (zi.2 ⟨.inl rfl,hr,λ_=>hb.2,λh=>absurd h (by decide)⟩)) (akq hp hb)
end
theorem abP{d:Int}(h1 : -3652425000000000002<=d)(h2:d<=3652425000000002000):af .i64 d=true:=by
 grind [aE,eH,eE]
theorem afD(hv:dF x)(hg:1<=x.g):ab0 P S ⟨3,none,gL,1,0,bf (jI x.ng x.s x.e x.g),0,bf (jL x.ng x.s x.e x.g+1)-1⟩ ⟨3,none,gL,1,0,bf (jI x.ng x.s x.e x.g),0,bf (jL x.ng x.s x.e x.g+1)-1⟩:=by
 obtain⟨_,_,_,_,_,_,h0⟩:=SA.1 (show wa _ _ _ _ _ _ _ _ _ _=true from hv);have hk:=(acz (Cc h0)).2;unfold oc at hk;rw[zAc]at hk;obtain⟨a1,a2,a3⟩:=ahZ hk.1 hg;obtain⟨⟨b1,b2⟩,-,b3,b4,b5⟩:=@afo _ 0 0 1 a1 (.inl ⟨rfl,rfl⟩);obtain⟨-,⟨c1,c2⟩,c3,c4,c5⟩:=@afo _ 0 0 1 a2 (.inl ⟨rfl,rfl⟩);have m:=eF a3;have e1:∀y,iO y 0 0=bf y:=λ_=>rfl;have e2:∀y,iD y 0 0=bf (y+1)-1:=λ_=>rfl;grind [ail,abP]
def sU(x:Da)(j:Nat):Fk:=bif ab 1 x.g then⟨3,none,gL,1,0,bf (jI x.ng x.s x.e x.g),0,bf (jL x.ng x.s x.e x.g+1)-1⟩else bif fy x then⟨1,some (j,1,.b 1),gL,0,0,0,0,0⟩else⟨2,none,⟨x.ng,x.lg,x.s,x.e,0,x.mo,x.da,0,0,0⟩,0,0,0,0,0⟩
theorem aig{j:Nat}{g':Option Nat}{t t':Bool}(hv:dF x)(hj:j<6)(hP:fy x->P j=.a (aab 0 (kD x) 0 (bq x.ng x.s x.e x.mo x.da)) t g/\S j=.a (aab 0 (kD x) 0 (bq x.ng x.s x.e x.mo x.da)) t' g'):ab0 P S (sU x j) (sU x j):=by
 unfold sU;cases hg:ab 1 x.g with
 | true=>exact afD hv (aq.mp hg)
 | false=>
   rw[bF]at hg;cases hn:fy x with
   | true=>
     obtain⟨e1,e2⟩:=hP hn;obtain⟨b1,b2,b3⟩:=abC (qd (show wa _ _ _ _ _ _ _ _ _ _=true from hv) hn);exact adY hj e1 e2 ⟨gA.2 ⟨.inl rfl,.inl rfl,.inr ⟨rfl,b2⟩⟩,by grind [kD],by grind [kD],by grind,by grind⟩
   | false=>
     have g0:x.g=0:=by
      obtain⟨_,_,_,_,_,_,h0⟩:=SA.1 (show wa _ _ _ _ _ _ _ _ _ _=true from hv);have hk:=(acz (Cc h0)).2;grind [oc,aV]
     simp_all [afX,fy,cK,aa]
end
def qG(ea la:Bool)(L:List It)(i:Nat):Fk:=bif mf ea la L i then sU (L.getD i fP).f i else⟨3,none,gL,dq (L.getD i fP).f.mo (L.getD i fP).f.da,(W2 ea la L i).a,(W2 ea la L i).b,(W2 ea la L i).c,(W2 ea la L i).d⟩
theorem aev{b:Nat}{ea la:Bool}{L:List It}:∀{n:Nat},aeF b ea la L n=nK (λi=>(qG ea la L i).at b) n
 | 0=>rfl
 | n+1=>by
   show aeF b ea la L n++af0 b ea la L n=nK _ n++((qG ea la L n).at b).cs;rw[aev];congr 1
   unfold af0 qG sU;cases mf ea la L n<;>cases ab 1 (L.getD n fP).f.g<;>cases fy (L.getD n fP).f<;>rfl
theorem af9{ea la:Bool}{L:List It}{n:Nat}(h5:n<=6):adb (qG ea la L) n:=λi hi j q K h=>by
 grind [qG,sU]
theorem ahU{ea la:Bool}{L:List It}(h:nI 3 ea la L)(h5:L.length<=6){i:Nat}(hi:i<L.length):ab0 (qb ea la L L.length) (qb ea la L L.length) (qG ea la L i) (qG ea la L i):=by
 have hit:=h.it i hi;have hE:ea->i=0->aaD (L.getD i fP)=true:=λh1 h2=>by subst h2;exact h.he h1
 have hL:la->i+1=L.length->aaD (L.getD i fP)=true:=λh1 h2=>by
  have:=h.hl h1;grind
 unfold qG;unfold aap mB at hit;simp only[zAa]at hit;obtain⟨v1,v2,-⟩:=hit;cases hd:mf ea la L i with
 | true=>
   rw[cond_true];refine aig (t:=true) (t':=true) (g:=none) (g':=none) v1 (by omega) λhn=>?_;grind [aba,mf,qb,kD,aU,oB,mw]
 | false=>
   rw[cond_false];unfold W2;unfold mf at hd;generalize L.getD i fP=x at *;unfold kW;have cp:=comps_bd x.f.mo x.f.da;have hp:1<=dq x.f.mo x.f.da/\dq x.f.mo x.f.da<=3:=cp;cases hr:x.r with
   | true=>
     rw[hr,cond_true,zAa]at v2;obtain⟨w1,w2⟩:=v2;unfold mV at w2;simp only[zAa]at w2;obtain⟨p1,p2,p3,p4⟩:=w2;rw[ao]at p3;rw[aq]at p4;have ne:∀b,aaD x=b->b=false:=λb hb=>by
      grind [aaD]
     have e1:(ea&&ο i 0)=false:=by
      rw[<-Bool.not_eq_true,zAa];simp_all
     have e2:(la&&ο (i+1) L.length)=false:=by
      rw[<-Bool.not_eq_true,zAa];simp_all
     obtain⟨⟨b1,b2⟩,-,b3,b4,b5⟩:=ad4 v1 p1;obtain⟨-,⟨c1,c2⟩,c3,c4,c5⟩:=ad4 w1 p2;rw[<-p3]at c1 c2;have eh:mw x=bq x.t.ng x.t.s x.t.e x.t.mo x.t.da:=by grind [mw]
     rw[e1,e2,eh];have p4:kD x.f<=kD x.t:=p4;exact ail (b:=kD x.f) (d:=bq x.t.ng x.t.s x.t.e x.t.mo x.t.da) hp ⟨abP (by omega) (by omega),b1,b2⟩ ⟨abP (by omega) (by omega),c1,c2⟩ (by omega)
   | false=>
     rw[hr]at hd;have plx:aaD x->kZ x.f=true:=λk=>by
      grind [aaD]
     have eh:mw x=bq x.f.ng x.f.s x.f.e x.f.mo x.f.da:=by grind [mw]
     rw[eh];cases e1:(ea&&ο i 0)<;>cases e2:(la&&ο (i+1) L.length)<;>rw[e1,e2]at hd
     . grind
     . rw[zAa]at e2;obtain⟨⟨b1,b2⟩,-,b3,b4,b5⟩:=ad4 v1 (plx (hL e2.1 (aJ.mp e2.2)));exact alE (b:=kD x.f) hp ⟨abP (by omega) (by omega),b1,b2⟩
     . rw[zAa]at e1;obtain⟨-,⟨c1,c2⟩,b3,b4,b5⟩:=ad4 v1 (plx (hE e1.1 (aJ.mp e1.2)));grind [akB,abP]
     . rw[zAa]at e1 e2;have:=aJ.mp e1.2;have:=aJ.mp e2.2;exact absurd (by omega) (h.h1 e1.1 e2.1)
end Go.Ev
end
section
namespace Go.Ev.Wit
open Go Go.Proofs
def bh:Nat->DataW Unit->List Value
 | 0,_=>[]
 | d+1,.agg xs=>xs.flatMap (bh d)
 | _,.lit (.int k n)=>[.int k n]
 | _,_=>[]
def Y_(h:Array Obj)(b:Nat)(c:List Value):Array Obj:=h.modify b λ
 | .cells _ t frozen=>.cells c.toArray t frozen
 | o=>o
def Zd(B:Nat):List (Nat×List Value):=[(9,[.int .u8 (0),.int .u8 (1),.int .u8 (28),.int .u8 (2),.int .u8 (29),.int .u8 (14),.int .u8 (24),.int .u8 (3),.int .u8 (30),.int .u8 (22),.int .u8 (20),.int .u8 (15),.int .u8 (25),.int .u8 (17),.int .u8 (4),.int .u8 (8),.int .u8 (31),.int .u8 (27),.int .u8 (13),.int .u8 (23),.int .u8 (21),.int .u8 (19),.int .u8 (16),.int .u8 (7),.int .u8 (26),.int .u8 (12),.int .u8 (18),.int .u8 (6),.int .u8 (11),.int .u8 (5),.int .u8 (10),.int .u8 (9)]),
 (10,[.int .u8 (0),.int .u8 (1),.int .u8 (56),.int .u8 (2),.int .u8 (57),.int .u8 (49),.int .u8 (28),.int .u8 (3),.int .u8 (61),.int .u8 (58),.int .u8 (42),.int .u8 (50),.int .u8 (38),.int .u8 (29),.int .u8 (17),.int .u8 (4),.int .u8 (62),.int .u8 (47),.int .u8 (59),.int .u8 (36),.int .u8 (45),.int .u8 (43),.int .u8 (51),.int .u8 (22),.int .u8 (53),.int .u8 (39),.int .u8 (33),.int .u8 (30),.int .u8 (24),.int .u8 (18),.int .u8 (12),.int .u8 (5),.int .u8 (63),.int .u8 (55),.int .u8 (48),.int .u8 (27),.int .u8 (60),.int .u8 (41),.int .u8 (37),.int .u8 (16),.int .u8 (46),.int .u8 (35),.int .u8 (44),.int .u8 (21),.int .u8 (52),.int .u8 (32),.int .u8 (23),.int .u8 (11),.int .u8 (54),.int .u8 (26),.int .u8 (40),.int .u8 (15),.int .u8 (34),.int .u8 (20),.int .u8 (31),.int .u8 (10),.int .u8 (25),.int .u8 (14),.int .u8 (19),.int .u8 (9),.int .u8 (13),.int .u8 (8),.int .u8 (7),.int .u8 (6)]),
 (8,[.int .u64 (1),.int .u64 (10),.int .u64 (100),.int .u64 (1000),.int .u64 (10000),.int .u64 (100000),.int .u64 (1000000),.int .u64 (10000000),.int .u64 (100000000),.int .u64 (1000000000),.int .u64 (10000000000),.int .u64 (100000000000),.int .u64 (1000000000000),.int .u64 (10000000000000),.int .u64 (100000000000000),.int .u64 (1000000000000000),.int .u64 (10000000000000000),.int .u64 (100000000000000000),.int .u64 (1000000000000000000),.int .u64 (10000000000000000000)]),
 (7,[.int .u8 (128),.int .u8 (191),.int .u8 (160),.int .u8 (191),.int .u8 (128),.int .u8 (159),.int .u8 (144),.int .u8 (191),.int .u8 (128),.int .u8 (143),.int .u8 (0),.int .u8 (0),.int .u8 (0),.int .u8 (0),.int .u8 (0),.int .u8 (0),.int .u8 (0),.int .u8 (0),.int .u8 (0),.int .u8 (0),.int .u8 (0),.int .u8 (0),.int .u8 (0),.int .u8 (0),.int .u8 (0),.int .u8 (0),.int .u8 (0),.int .u8 (0),.int .u8 (0),.int .u8 (0),.int .u8 (0),.int .u8 (0)]),
 (4,[.iface 376 (.pointer (some ⟨B+0,0,none⟩))]),
 (3,[.iface 376 (.pointer (some ⟨B+1,0,none⟩))]),
 (5,[.slice (some ⟨B+2,0,none⟩) 3 3]),
 (1,[.int .i64 (31),.int .i64 (28),.int .i64 (31),.int .i64 (30),.int .i64 (31),.int .i64 (30),.int .i64 (31),.int .i64 (31),.int .i64 (30),.int .i64 (31),.int .i64 (30),.int .i64 (31)]),
 (2,[.int .i64 (3),.int .i64 (3),.int .i64 (6),.int .i64 (3),.int .i64 (9),.int .i64 (3),.int .i64 (12),.int .i64 (3),.int .i64 (3),.int .i64 (3),.int .i64 (6),.int .i64 (3),.int .i64 (9),.int .i64 (3),.int .i64 (12),.int .i64 (3),.int .i64 (9),.int .i64 (3),.int .i64 (12),.int .i64 (3),.int .i64 (3),.int .i64 (3),.int .i64 (6),.int .i64 (3),.int .i64 (1),.int .i64 (3),.int .i64 (4),.int .i64 (3),.int .i64 (7),.int .i64 (3),.int .i64 (10),.int .i64 (3),.int .i64 (1),.int .i64 (4),.int .i64 (5),.int .i64 (4),.int .i64 (9),.int .i64 (4),.int .i64 (1),.int .i64 (6),.int .i64 (7),.int .i64 (6)]),
 (6,bh 9 Go.Pinned.utf8First)]
def Zq(B:Nat):List Obj:=[.cells #[.string ⟨#[118,97,108,117,101,32,111,117,116,32,111,102,32,114,97,110,103,101]⟩] 378 (0,0),.cells #[.string ⟨#[105,110,118,97,108,105,100,32,115,121,110,116,97,120]⟩] 378 (0,0),.cells #[.int .i64 (4),.int .i64 (1),.int .i64 (100),.int .i64 (-1),.int .i64 (400),.int .i64 (1)] 368 (0,0)]
noncomputable def LI(h:Array Obj):Array Obj:=((Zd h.size).foldl (λh p=>Y_ h p.1 p.2) h)++(Zq h.size).toArray
noncomputable def laidWorld(os:Os):World:={ World.holding Tryz.prog os ⟨#[],#[],[]⟩with heap:=LI (World.holding Tryz.prog os ⟨#[],#[],[]⟩).heap }
end Go.Ev.Wit
end
section
namespace Go.Ev
open Go Go.Proofs
variable{args:List AV}{t:Tr AV}{S:aQ}{n i:Nat}
def sD(F:Da->Tr AV):dP:=λ
 | [.h [.b ng,.b lg,.e s,.a .i64 e,.a .i64 g,.e mo,.e da,.a .u8 a,.a .u8 b,.a .u8 c]]=>some (F ⟨ng,lg,s,e,g,mo,da,a,b,c⟩)
 | _=>none
def sDD(F:Da->Da->Tr AV):dP:=λ
 | [.h [.b ng,.b lg,.e s,.a .i64 e,.a .i64 g,.e mo,.e da,.a .u8 a,.a .u8 b,.a .u8 c],.h [.b ng',.b lg',.e s',.a .i64 e',.a .i64 g',.e mo',.e da',.a .u8 a',.a .u8 b',.a .u8 c']]=>some (F ⟨ng,lg,s,e,g,mo,da,a,b,c⟩ ⟨ng',lg',s',e',g',mo',da',a',b',c'⟩)
 | _=>none
def sIK(F:It->AV->Tr AV):dP:=λ
 | [.h [.b ng,.b lg,.e s,.a .i64 e,.a .i64 g,.e mo,.e da,.a .u8 a,.a .u8 b,.a .u8 c,.b r,.b ng',.b lg',.e s',.a .i64 e',.a .i64 g',.e mo',.e da',.a .u8 a',.a .u8 b',.a .u8 c'],k]=>some (F ⟨⟨ng,lg,s,e,g,mo,da,a,b,c⟩,r,⟨ng',lg',s',e',g',mo',da',a',b',c'⟩⟩ k)
 | _=>none
theorem Ym{F:Da->Tr AV}(h:sD F args=some t):∃x:Da,args=[.h x.cs]/\F x=t:=by
 unfold sD at h;split at h
 . exact⟨⟨_,_,_,_,_,_,_,_,_,_⟩,rfl,π h⟩
 . cases h
theorem Zo{F:Da->Da->Tr AV}(h:sDD F args=some t):∃x y:Da,args=[.h x.cs,.h y.cs]/\F x y=t:=by
 unfold sDD at h;split at h
 . exact⟨⟨_,_,_,_,_,_,_,_,_,_⟩,⟨_,_,_,_,_,_,_,_,_,_⟩,rfl,π h⟩
 . cases h
theorem Xf{F:It->AV->Tr AV}(h:sIK F args=some t):∃(x:It) (k:AV),args=[.h (x.f.cs++.b x.r::x.t.cs),k]/\F x k=t:=by
 unfold sIK at h;split at h
 . exact⟨⟨⟨_,_,_,_,_,_,_,_,_,_⟩,_,⟨_,_,_,_,_,_,_,_,_,_⟩⟩,_,rfl,π h⟩
 . cases h
def rk(x:Da):Bool:=Nat.ble x.s.length 140737488351232&&(Nat.ble x.mo.length 140737488351232&&(Nat.ble x.da.length 140737488351232&&(af .i64 x.e&&(af .i64 x.g&&(af .u8 x.a&&(af .u8 x.b&&af .u8 x.c))))))
def xC(x:Da):Int:=bW x.ng x.lg x.s x.e x.g x.mo x.da x.a x.b x.c
def Ul(x:Da):Bool:=dZ x.ng x.lg x.s x.e x.g x.mo x.da x.a x.b x.c
def Zl(x y:Da):Bool:=mV x.s x.ng x.e x.g x.mo x.da y.s y.ng y.e y.g y.mo y.da
def UO(all:Bool)(x:It):Int:=bif not (aa (xC x.f) 0)then xC x.f else bif x.r then(bif not (aa (xC x.t) 0)then xC x.t else bif Zl x.f x.t then bif all&&not (fy x.f)then 10 else 0 else 10)else bif Ul x.t then bif all&&not (fy x.f)then 10 else 0 else 5
def Va(x:It):Bool:=rk x.f&&rk x.t
def Yo:dP:=sD λx=>aH [rk x] (.a0 (.a .i64 (xC x)))
def sGo:dP:=sDD λx y=>aH [dF x,dF y] (.a0 (.b (Zl x y)))
def TGi:aQ:=d5 (d5 (d5 gZ 42 Yo) 262 sGo) 264 tz
def bOg(x y:Da){Q:AV->Prop}:gG Q (pT TD jE 262 [.h x.cs,.h y.cs]) (bE 10005233102381052000620061432202062202064322020642006)=(dF x/\fk (not (not (kZ x))) (not (not (kZ x))/\dF y/\not (not (kZ x))/\not (kZ x)=false/\fk (not (not (kZ y))) (not (not (kZ y))/\dF x/\rp 2 (not (not (kZ y))) true (dF y/\not (not (kZ y))/\not (kZ y)=false/\fk (not (aa (cond (aa (aR x.mo) 0) (dq x.mo x.da) 0) (cond (aa (aR y.mo) 0) (dq y.mo y.da) 0))) (Q (.b false)) (gN x/\gN y/\Q (.b (ab (gc 0 (jc x) 0 (jc y)) 0))))) (rp 4 (not (not (kZ y))) false (not (kZ y)/\Q (.b false)))) (rp 2 (not (not (kZ x))) false (not (kZ x)/\Q (.b false)))):=by kernel_rfl
theorem Z7(hS:ak Tryz.prog cfg S):ak Tryz.prog cfg (d5 S 262 sGo):=au hS λargs t v he hv=>by
 obtain⟨x,y,rfl,rfl⟩:=Zo he;obtain⟨⟨h1,h2,-⟩,hv⟩:=aF hv;cases hv;refine kA amC (L:=jE) alu (by simp) ai (eD λQ' hQ=>cg ((bOg x y).mpr ?_)) (by rfl);have hQ:=hQ _ rfl;have hx:kZ x->gN x/\aa (aR x.mo) 0=true:=λh=>⟨qd h1 (qc.1 h).1,(qc.1 h).2⟩;have hy:kZ y->gN y/\aa (aR y.mo) 0=true:=λh=>⟨qd h2 (qc.1 h).1,(qc.1 h).2⟩;have e:Zl x y=(kZ x&&(kZ y&&(aa (dq x.mo x.da) (dq y.mo y.da)&&ab (jc x) (jc y)))):=rfl;have c:ab (gc 0 (jc x) 0 (jc y)) 0=ab (jc x) (jc y):=by
  have:=xF 0 (jc x) 0 (jc y);rw[Bool.eq_iff_iff,aq,aq];omega
 rw[e]at hQ;rw[c,h1,h2];cases hp:kZ x<;>cases hq:kZ y<;>rw[hp,hq]at hQ<;>simp only[fk,rp,Bool.not_true,Bool.not_false,true_and,and_true,true_imp_iff,reduceCtorEq,false_imp_iff]<;>simp only[Bool.false_and,Bool.and_false,Bool.true_and]at hQ<;>first|exact hQ|skip
 rw[(hx hp).1,(hy hq).1,(hx hp).2,(hy hq).2];cases hc:aa (dq x.mo x.da) (dq y.mo y.da)<;>rw[hc]at hQ<;>simp only[cond_true,hc,Bool.not_true,Bool.not_false,true_and,and_true,true_imp_iff,reduceCtorEq,false_imp_iff]<;>simpa using hQ
theorem x9{x:Da}(h:rk x)(h0:xC x=0):dF x=true:=by
 unfold rk at h;simp only[zAa]at h;exact yn.2 ⟨Nat.le_trans (TU (dC (Cc h0) dE).1) (by decide),h.2.2.2.1,h.2.2.2.2.1,h.2.2.2.2.2.1,h.2.2.2.2.2.2.1,h.2.2.2.2.2.2.2,h0⟩
theorem Wv(hS:ak Tryz.prog cfg S):ak Tryz.prog cfg (d5 S 42 Yo):=au hS λargs t v he hv=>by
 obtain⟨x,rfl,rfl⟩:=Ym he;obtain⟨⟨h,-⟩,hv⟩:=aF hv;cases hv;unfold rk at h;simp only[zAa]at h;obtain⟨h1,h2,h3,h4,h5,h6,h7,h8⟩:=h;rw[aE]at h4 h5 h6 h7 h8;exact zQ (al.mp h1) (al.mp h2) (al.mp h3) h4 h5 h6 h7 h8
theorem YI:ak Tryz.prog cfg TGi:=anL (Z7 (Wv aW))
def tX(all:Bool)(x:Da)(Q:AV->Prop):Prop:=bif all then dF x=true/\fk (not (fy x)) (Q (.a .i64 10)) (Q (.a .i64 0))else Q (.a .i64 0)
def tIt(all:Bool)(x:It)(Q:AV->Prop):Prop:=rk x.f/\fk (not (aa (xC x.f) 0)) (Q (.a .i64 (xC x.f))) (bif x.r then rk x.t=true/\fk (not (aa (xC x.t) 0)) (Q (.a .i64 (xC x.t))) (dF x.f/\dF x.t/\fk (not (Zl x.f x.t)) (Q (.a .i64 10)) (tX all x.f Q))else fk (not (Ul x.t)) (Q (.a .i64 5)) (tX all x.f Q))
theorem bIg(x y:Da){Q:AV->Prop}:∀all r:Bool,∃D,gG Q (pT TGi jE 207 [.h (x.cs++.b r::y.cs),.a .u8 (bif all then 4 else 3)]) D=tIt all ⟨x,r,y⟩ Q
 | false,false=>⟨bE 1000566610400056614200056,by kernel_rfl⟩
 | false,true=>⟨bE 155610400225666661425614200056,by kernel_rfl⟩
 | true,false=>⟨bE 10010400256666104000566142556,by kernel_rfl⟩
 | true,true=>⟨bE 1001040020566104002256666614256142556,by kernel_rfl⟩
def sIg:dP:=sIK λx k=>match k with
 | .a .u8 k=>aH [aa k 3 || aa k 4,Va x] (.a0 (.a .i64 (UO (aa k 4) x)))
 | _=>.c0
theorem Z4(hS:ak Tryz.prog cfg S):ak Tryz.prog cfg (d5 S 207 sIg):=au hS λargs t v he hv=>by
 obtain⟨x,k,rfl,rfl⟩:=Xf he;split at hv
 . rename_i k;obtain⟨⟨h0,h,-⟩,hv⟩:=aF hv;cases hv;obtain⟨all,hk,e4⟩:∃all:Bool,k=(bif all then 4 else 3)/\aa k 4=all:=by
    rw[Bool.or_eq_true,ao,ao]at h0;rcases h0 with rfl|rfl
    . exact⟨false,rfl,rfl⟩
    . exact⟨true,rfl,rfl⟩
   rw[e4];subst hk;unfold Va at h;rw[zAa]at h;obtain⟨g1,g2⟩:=h;refine kA YI (L:=jE) ahI (by simp) ai (eD λQ' hQ=>?_) (by rfl);obtain⟨D,hD⟩:=@bIg x.f x.t Q' all x.r;refine cg (hD.mpr ?_);have hQ:=hQ _ rfl;have hX:dF x.f->Q' (.a .i64 (bif all&&not (fy x.f)then 10 else 0))->tX all x.f Q':=λh hq=>by
    unfold tX;cases all
    . exact hq
    . refine⟨h,λhn=>?_,λhn=>?_⟩<;>rw[hn]at hq<;>exact hq
   unfold UO at hQ;refine⟨g1,λe=>?_,λe=>?_⟩<;>rw[e]at hQ
   . exact hQ
   . rw[ν,ao]at e;have v1:=x9 g1 e;dsimp only;cases hr:x.r<;>rw[hr]at hQ
     . refine⟨λe=>?_,λe=>hX v1 ?_⟩
       . rw[Bool.not_eq_true']at e;rw[e]at hQ;exact hQ
       . rw[ν]at e;rw[e]at hQ;exact hQ
     . refine⟨g2,λe=>?_,λe=>?_⟩<;>rw[e]at hQ
       . exact hQ
       . rw[ν,ao]at e;refine⟨v1,x9 g2 e,λe=>?_,λe=>hX v1 ?_⟩
         . rw[Bool.not_eq_true']at e;rw[e]at hQ;exact hQ
         . rw[ν]at e;rw[e]at hQ;exact hQ
 . cases hv
def TJg:aQ:=d5 (d5 gZ 265 yc) 207 sIg
theorem Vl:ak Tryz.prog cfg TJg:=Z4 (aj2 aW)
def WU(F:Nat->Int)(n:Nat):Bool:=(List.range n).all λi=>aa (F i) 0
def fJ(F:Nat->Int):Nat->Nat->Nat
 | 0,i=>i
 | m+1,i=>bif aa (F i) 0 then fJ F m (i+1)else i
theorem aa7{F:Nat->Int}(h:∀j,j<n->F j=0):WU F n=true:=List.all_eq_true.2 λj hj=>ao.mpr (h j (List.mem_range.1 hj))
theorem Ye{F:Nat->Int}{i:Nat}(h:F i≠0):∀{m s:Nat},s<=i->i<s+m->(∀j,s<=j->j<i->F j=0)->fJ F m s=i
 | 0,s,h1,h2,_=>by omega
 | m+1,s,h1,h2,h3=>by
   unfold fJ;by_cases e:s=i
   . subst e;rw[aw.mpr h];rfl
   . rw[ao.mpr (h3 s (Nat.le_refl _) (by omega))];exact Ye h (by omega) (by omega) λj h4 h5=>h3 j (by omega) h5
theorem aa6{F:Nat->Int}(hi:i<n)(h:F i≠0)(h3:∀j,j<i->F j=0):WU F n=false/\fJ F n 0=i:=by
 refine⟨?_,Ye h (Nat.zero_le _) (by omega) λj _ h5=>h3 j h5⟩;cases e:WU F n with
 | false=>rfl
 | true=>exact absurd (ao.mp (List.all_eq_true.1 e i (List.mem_range.2 hi))) h
def VP(ea la i0 il:Bool)(x:It):Bool:=((ea&&i0) || (la&&il))&&!(aaD x) || ((ea&&i0)&&(la&&il))
def td(k:Int)(ea la:Bool)(L:List It)(i:Nat):Int:=bif not (aa (UO (aa k 4) (L.getD i fP)) 0)then UO (aa k 4) (L.getD i fP)else bif VP ea la (ο i 0) (ο (i+1) L.length) (L.getD i fP)then 10 else 0
def tEn(b:Bool)(x:It)(R N:Prop):Prop:=vZ 2 3 (not x.r) (dF x.f/\not x.r/\rp 2 b true (fk (not (kZ x.f)) R N)) (rp 2 b true R)
def tEd:Bool->Bool->Bool->Bool->Bool->It->Prop->Prop->Prop
 | false,false,_,_,_,_,_,N=>N
 | false,true,_,il,_,x,R,N=>vZ 1 3 il (tEn il x R N) N
 | true,false,i0,_,_,x,R,N=>vZ 1 3 i0 (tEn i0 x R N) N
 | true,true,i0,il,n0,x,R,N=>vZ 1 3 i0 (vZ 2 3 (not x.r) (dF x.f/\not x.r/\rp 2 i0 true (fk (not (kZ x.f)) R (fk il (il/\rp 3 (not x.r) true (dF x.f/\not x.r/\rp 2 il true (not (kZ x.f)=false/\n0/\R))) (rp 3 il false (n0=false/\N))))) (rp 2 i0 true R)) (vZ 1 3 il (tEn il x R (n0=false/\N)) (n0=false/\N))
theorem Zw{ea la i0 il n0:Bool}{x:It}{R N:Prop}(hv:dF x.f)(h0:n0=(i0&&il))(hR:VP ea la i0 il x->R)(hN:VP ea la i0 il x=false->N):tEd ea la i0 il n0 x R N:=by
 subst h0;cases hr:x.r<;>cases hp:kZ x.f<;>cases ea<;>cases la<;>cases i0<;>cases il<;>simp_all [tEd,tEn,VP,aaD,vZ,fk,rp]
def tIs(w:List AV)(k:Int)(n i:Nat)(ea la:Bool)(Rt:Int->Prop)(N E:Prop):Prop:=ba n i (aS i n/\nE (tg (wF w i)) ((aa k 3 || aa k 4)/\Va (jQ (wF w i))/\(aa k 3 || aa k 4)/\Va (jQ (wF w i))/\vZ 1 0 (not (aa (UO (aa k 4) (jQ (wF w i))) 0)) (Rt (UO (aa k 4) (jQ (wF w i)))) (tEd ea la (aa (ξ i) 0) (aa (ξ i) (ξ n-1)) (aa (ξ n-1) 0) (jQ (wF w i)) (Rt 10) N))) E
def jbI(k:Int)(i:Nat)(x:It):List cD:=[.a [.a .i64 (UO (aa k 4) x),.i 208 [] [.g 18 0,.g 15 0],.a .i64 10,.i 209 [] [.g 15 0,.g 17 0,.g 18 0],.a .i64 10,.i 211 [] [.g 15 0,.g 17 0,.g 16 0,.g 18 0],.a .i64 10,.i 212 [] [.g 15 0,.g 16 0]] true none,.a (dp [x]) true none,.a [iV i] true none]
def VU(k:Int)(n:Nat)(K1:fg)(ea la:Bool):List cD:=[.a [.a .i64 (ξ n-1)] true none,ie k n K1 ea la]
theorem rIg(w:List AV)(k:Int)(n i:Nat)(K K1:fg)(J:Nat->Value){Q:VQ->Prop}:∀ea la:Bool,∃D,gG Q (rT TJg jE [.a w false none] 134 0 39 [1,2,3,4,13,14,15] [.g 15 0,.a .i64 0,.a .i64 0,.g 16 0,.c 14 0 n K,iV n,iV i] J ⟨2,VU k n K1 ea la,[]⟩) D=tIs w k n i ea la (λe=>Q (.c,[.g 15 0,iV i,.a .i64 e,.g 16 0,.c 14 0 n K,iV n,iV i],⟨5,jbI k i (jQ (wF w i))++VU k n K1 ea la,[]⟩)) (nR i (Q (.a,[.g 15 0,.a .i64 0,.a .i64 0,.g 16 0,.c 14 0 n K,iV n,iX i],⟨5,jbI k i (jQ (wF w i))++VU k n K1 ea la,[]⟩))) (Q (.b 0,[.g 15 0,.a .i64 0,.a .i64 0,.g 16 0,.c 14 0 n K,iV n,iV i],⟨2,VU k n K1 ea la,[]⟩))
 | false,false=>⟨bE 1126666661020422000666220005662777777704,by kernel_rfl⟩
 | false,true=>⟨bE 112006681522812066100042702062402000664056661020422000666220005662777777704,by kernel_rfl⟩
 | true,false=>⟨bE 112000666681522812006666100042702062402000664561020422000666220005662777777704,by kernel_rfl⟩
 | true,true=>⟨bE 1120003668152281200035561000427020624020006640005681522812000366810002556327020622020006640056100042702062402000664561020422000666220005662777777704,by kernel_rfl⟩
def Us(k:Int)(ea la:Bool)(L:List It):Int:=bif WU (td k ea la L) L.length then 0 else td k ea la L (fJ (td k ea la L) L.length 0)
def Zp(k:Int)(ea la:Bool)(L:List It):Int:=bif WU (td k ea la L) L.length then 0 else ξ (fJ (td k ea la L) L.length 0)
def vIg(L:List It)(k:Int)(ea la:Bool):dW:=λvs o=>match vs,o with
 | [.g 15 0,.a .i64 z,.a .i64 z',.g 16 0,.c 14 0 n K,.a .i64 n',.a .i64 i],⟨2,[.a [.a .i64 last] true none,b],[]⟩=>s7 ⟨1,[b],[]⟩ λk1 m K1 ea1 la1=>aH [ο L.length n,ο m n,aa z 0,aa z' 0,aa n' (ξ n),aa i 0,aa last (ξ n-1),aa k1 k,bQ ea1 ea,bQ la1 la] (.d0 (WU (td k ea la L) L.length) λb=>bif b then .a0 (.b 0,[.g 15 0,.a .i64 0,.a .i64 0,.g 16 0,.c 14 0 n K,iV n,iV n],⟨2,VU k n K1 ea la,[]⟩)else .a0 (.c,[.g 15 0,iV (fJ (td k ea la L) L.length 0),.a .i64 (td k ea la L (fJ (td k ea la L) L.length 0)),.g 16 0,.c 14 0 n K,iV n,iV (fJ (td k ea la L) L.length 0)],⟨2,VU k n K1 ea la,[]⟩))
 | _,_=>none
theorem Ve:aa (ξ i) (ξ n-1)=ο (i+1) n:=by grind [aJ,ao]
theorem X6:aa (ξ i) 0=ο i 0:=by grind [aJ,ao]
theorem XT{k:Int}{K1:fg}{ea la:Bool}:∀b∈VU k n K1 ea la,cR 17 b:=λx hx=>by
 simp only[VU,List.mem_cons,List.not_mem_nil,or_false]at hx;rcases hx with rfl|rfl
 . exact⟨rfl,λi hi=>by simp[HL,bw,aC]at hi⟩
 . exact abX (by decide)
section
variable{k:Int}{ea la:Bool}{L:List It}(hk:(aa k 3 || aa k 4))(hn:L.length<=200)(hg:∀i,i<L.length->Va (L.getD i fP))
include hk hn hg
theorem aeS:cu Tryz.prog (cH cfg TJg) (Cw cfg [.a (dp L) false none]) (lb 134 0) 39 [1,2,3,4,13,14,15] (vIg L k ea la):=by
 intro vs o t Q hv hq J;unfold vIg at hv;split at hv
 . rename_i z z' n K n' i last b;obtain⟨k1,m,K1,ea1,la1,ho,rfl⟩:=aec hv;obtain rfl:b=ie k1 m K1 ea1 la1:=by injection ho with _ h;injection h
   replace hq:=cO hq;obtain⟨⟨h1,h2,h3,h4,h5,h6,h7,h8,h9,h10,-⟩,hq⟩:=hq;rw[aJ]at h1 h2;rw[ao]at h3 h4 h5 h6 h7 h8;replace h9:=yl h9;replace h10:=yl h10;subst h1 h2 h3 h4 h5 h6 h7 h8 h9 h10;simp only[Tr.wp]at hq;refine ia Vl rfl rfl ai (ι:={i:Nat // i<=L.length/\∀j,j<i->td k1 ea1 la1 L j=0}) (λx=>[.g 15 0,.a .i64 0,.a .i64 0,.g 16 0,.c 14 0 L.length K,iV L.length,iV x.1]) (λ_=>⟨2,VU k1 L.length K1 ea1 la1,[]⟩) (λx=>L.length-x.1) 2 (λ_=>Nat.le_refl _) (λx J=>?_) (Nat.le_refl _) (λJ=>Wk.a0 ⟨⟨0,Nat.zero_le _,λj hj=>absurd hj (Nat.not_lt_zero j)⟩,J,rfl⟩) J;obtain⟨i,hi,hz⟩:=x;refine eD λQ' hQ=>?_;obtain⟨D,hD⟩:=@rIg (dp L) k1 L.length i K K1 J Q' ea1 la1;have base:∀{a c:List cD} {vs:List AV},a.length=3->(∀ρ,yw (kG 17 ρ 20) vs=some vs)->VW cfg (Cw cfg [.a (dp L) false none]) 2 39 [1,2,3,4,13,14,15] vs ⟨5,a++VU k1 L.length K1 ea1 la1,[]⟩ vs ⟨2,VU k1 L.length K1 ea1 la1,[]⟩:=λ{a c vs} ha hv=>ad6 dT rfl (by rw[ha]) XT (hv []);refine cg (hD.mpr (abi hi (λhl=>?_) λh=>?_))
   . obtain⟨a1,a2⟩:=afB hl;rw[a2,Ve,X6];have g:=hg i hl;have e:=hz;have ret:∀e,td k1 ea1 la1 L i=e->e≠0->Q' (.c,[.g 15 0,iV i,.a .i64 e,.g 16 0,.c 14 0 L.length K,iV L.length,iV i],⟨5,jbI k1 i (L.getD i fP)++VU k1 L.length K1 ea1 la1,[]⟩):=λe he h0=>hQ _ ⟨_,_,base (c:=[]) rfl λ_=>rfl,by
      obtain⟨f1,f2⟩:=aa6 hl (by rw[he];exact h0) hz;rw[f1,f2,he]at hq;exact hq⟩
     refine⟨aU.2 hl,mz ⟨hk,g,hk,g,⟨λh=>?_,λh=>?_⟩⟩ a1⟩
     . refine⟨h,ret _ ?_ ?_⟩
       . unfold td;rw[h];rfl
       . simpa [aw]using h
     . have h':=h;rw[ν,ao]at h';have hv:dF (L.getD i fP).f=true:=by
        unfold Va at g;rw[zAa]at g;refine x9 g.1 ?_;unfold UO at h';cases hf:aa (xC (L.getD i fP).f) 0 with
        | true=>exact ao.mp hf
        | false=>rw[hf]at h';exact h'
       refine Zw hv ?_ (λhb=>ret 10 ?_ (by decide)) λhb=>⟨by rw[aE];simp only[eH,eE];show _<=(i:Int)+1/\(i:Int)+1<=_;omega,hQ _ ⟨⟨i+1,hl,λj hj=>?_⟩,by dsimp only;omega,base (c:=[]) rfl λ_=>rfl⟩⟩
       . grind [aJ,ao]
       . unfold td;rw[h,hb];rfl
       . by_cases hji:j=i
         . subst hji;unfold td;rw[h,hb];rfl
         . exact hz j (by omega)
   . subst h;rw[aa7 hz]at hq;exact hQ _ ⟨_,_,VW.a0,hq⟩
 . cases hv
end
end Go.Ev
end
