import Derived.Test.YtcffhjfdlflbgaaGreatDoorP39
set_option linter.all false
open Nat renaming zero_le->ν,le_refl->ξ
set_option linter.all false
set_option maxRecDepth 100000
set_option maxHeartbeats 4000000
namespace Go.Ev
open Go Go.Proofs
variable{f n:Nat}{args:List AV}{v:AV}{c φ:Fk}{K K' M:fg}{g:Option Nat}{B:cD}{x y z:Da}{ea la:Bool}{L:List It}{q:Aq}{k e1:Int}
theorem bu.b0{ws:List cD}(h:bu Tryz.prog cfg f args ws v []):bu Tryz.prog cfg f args ws v [.b]:=
 h.a0 ((aed (C:=Cw cfg ws) (st:=⟨.c0 v .a0 .a0,1,⟨0,[],[]⟩,[],none⟩) (kb:=0) (o':=⟨1,[.b],[]⟩) (ν _) rfl rfl λi hi=>absurd hi (Nat.not_lt_zero i)).b0 λs hs=>by rw[hs];exact⟨rfl,rfl⟩)
def xq(B:cD):Nat->cD
 | 0=>B
 | _=>.b
theorem u1(hs:c.s=none)(h:bu Tryz.prog cfg f args [] (.c [.b 14 0 1 K,.a .i64 0]) [.a (c.at 14).cs true g] ):abf f args [] 1 K g (λ_=>c) λ_=>.b:=by
 refine h.a0 (dL.u (sel:=[1,2,3,4,5,0]) (λx hx=>by grind) rfl (by simp) (by decide) (by decide) rfl rfl rfl λt ht=>?_);rcases(by omega:t=0\/t=1\/t=2\/t=3\/t=4\/t=5)with rfl|rfl|rfl|rfl|rfl|rfl
 . exact .inl ⟨rfl,aa5⟩
 . exact .inl ⟨rfl,aa5⟩
 . exact .inl ⟨rfl,aa5⟩
 . exact .inl ⟨rfl,aa5⟩
 . exact .inl ⟨rfl,aa5⟩
 . refine .inr ⟨_,_,_,_,rfl,?_,rfl⟩;show yw _ (ft c.k (c.d 14) c.x c.p c.a c.b c.c c.e)=some (ft c.k (c.d 14) c.x c.p c.a c.b c.c c.e);grind [Fk.d,acY]
theorem u2{ws:List cD}{q:Nat}(hw:∀x∈ws,cR 14 x)(hl:ws.length<=1)(hs:c.s=some (0,q,K'))(hB:cR 14 B)(h:bu Tryz.prog cfg f args ws (.c [.b (14+ws.length+1) 0 1 K,.a .i64 0]) [.a (c.at (14+ws.length)).cs true g,B]):abf f args ws 1 K g (λ_=>c) (xq B):=by
 have hB':cR (14+ws.length) B:=⟨hB.1,λi hi=>Nat.lt_of_lt_of_le (hB.2 i hi) (Nat.le_add_right _ _)⟩;have e:ws.length=0\/ws.length=1:=by omega
 refine h.a0 (dL.u (sel:=[0,2,3,4,5,1]) hw rfl (by simp) (by decide) (by decide) rfl rfl (by rcases e with e|e<;>rw[e]<;>rfl) λt ht=>?_);rcases(by omega:t=0\/t=1\/t=2\/t=3\/t=4\/t=5)with rfl|rfl|rfl|rfl|rfl|rfl
 . exact .inl ⟨rfl,hB'⟩
 . exact .inl ⟨rfl,aa5⟩
 . exact .inl ⟨rfl,aa5⟩
 . exact .inl ⟨rfl,aa5⟩
 . exact .inl ⟨rfl,aa5⟩
 . refine .inr ⟨_,_,_,_,rfl,?_,rfl⟩;show yw _ (ft c.k (c.d (14+ws.length)) c.x c.p c.a c.b c.c c.e)=some (ft c.k (c.d (14+ws.length)) c.x c.p c.a c.b c.c c.e);unfold Fk.d;rw[hs];exact aa2 (by rcases e with e|e<;>rw[e]<;>rfl)
theorem amb{R:List Rn}(h:aaw R):Nx R/\jo R=0/\abH R=0:=by
 have hi:∀i,i<R.length->IJ (R.getD i fo).b/\IJ (R.getD i fo).d:=λi hi=>by
  have ho:=h.o (R.getD i fo) (by grind);obtain⟨-,a,b,c,d⟩:=ho;exact⟨⟨by omega,by omega⟩,⟨by omega,by omega⟩⟩
 have hc:=ai7 h;exact⟨hi,hc,by grind [ai3]⟩
theorem apB{r:Rn}(h:eo r):aaw [r]:=⟨λx hx=>by grind,List.pairwise_singleton _ _⟩
theorem adY{a b c d:Int}{j:Nat}{P S:Nat->cD}{x y:Bool}{g':Option Nat}(hj:j<5)(hP:P j=.a (aab a b c d) x g)(hS:S j=.a (aab a b c d) y g')(h:eo ⟨a,b,c,d⟩):ab0 P S ⟨1,some (j,1,K),gL,0,0,0,0,0⟩ ⟨1,some (j,1,K'),gL,0,0,0,0,0⟩:=by
 obtain⟨h1,h2,h3⟩:=amb (apB h);exact .b (R:=[⟨a,b,c,d⟩]) hj hP hS h1 (ξ _) (by simp) h2 h3
section
variable{P S:Nat->cD}
theorem afX(hv:dF x)(hg:x.g=0)(hx:eA (x.s++x.mo++x.da)):ab0 P S ⟨2,none,⟨x.ng,x.lg,x.s,x.e,0,x.mo,x.da,0,0,0⟩,0,0,0,0,0⟩ ⟨2,none,⟨x.ng,x.lg,x.s,x.e,0,x.mo,x.da,0,0,0⟩,0,0,0,0,0⟩:=by
 obtain⟨n1,n2,n3⟩:=aej hv;obtain⟨h6,i1,i2,i3,i4,i5,h0⟩:=SA.1 (show wa _ _ _ _ _ _ _ _ _ _=true from hv);have e:=afO (ak5 h0);exact .a aql (anC n1 n2 n3 i1 e hx) (ano n1 n2 n3 i1 e hx)
section
variable{p b d:Int}(hp:1<=p/\p<=3)
include hp
theorem ail(hb:af .i64 b/\lT b p/\CK b p=b)(hd:af .i64 d/\lT d p/\PU d p=d)(hl:b<=d):ab0 P S ⟨3,none,gL,p,0,b,0,d⟩ ⟨3,none,gL,p,0,b,0,d⟩:=by
 have hr:bA 0 b 0 d=0:=gA.2 ⟨.inl rfl,.inl rfl,.inr ⟨rfl,hl⟩⟩;exact .a ako (aie hp rfl hb.1 rfl hd.1 (zi.2 ⟨.inl rfl,hr,λ_=>hb.2,λ_=>hd.2⟩)) (alJ hp hb hd hr)
theorem akB(hd:af .i64 d/\lT d p/\PU d p=d):ab0 P S ⟨3,none,gL,p,-1,0,0,d⟩ ⟨3,none,gL,p,-1,0,0,d⟩:=by
 have hr:bA (-1) 0 0 d=0:=gA.2 ⟨.inr ⟨rfl,rfl⟩,.inl rfl,.inl (by decide)⟩;exact .a ako (aie hp rfl rfl rfl hd.1 (zi.2 ⟨.inr rfl,hr,λh=>absurd h (by decide),λ_=>hd.2⟩)) (ali hp hd)
theorem alE(hb:af .i64 b/\lT b p/\CK b p=b):ab0 P S ⟨3,none,gL,p,0,b,1,0⟩ ⟨3,none,gL,p,0,b,1,0⟩:=by
 have hr:bA 0 b 1 0=0:=gA.2 ⟨.inl rfl,.inr ⟨rfl,rfl⟩,.inl (by decide)⟩;exact .a ako (aie hp rfl hb.1 rfl rfl (zi.2 ⟨.inl rfl,hr,λ_=>hb.2,λh=>absurd h (by decide)⟩)) (akq hp hb)
end
theorem abP{d:Int}(h1 : -3652425000000000002<=d)(h2:d<=3652425000000002000):af .i64 d=true:=by
 grind [aE,eH,eE]
theorem afD(hv:dF x)(hg:1<=x.g):ab0 P S ⟨3,none,gL,1,0,bf (jI x.ng x.s x.e x.g),0,bf (jL x.ng x.s x.e x.g+1)-1⟩ ⟨3,none,gL,1,0,bf (jI x.ng x.s x.e x.g),0,bf (jL x.ng x.s x.e x.g+1)-1⟩:=by
 obtain⟨_,_,_,_,_,_,h0⟩:=SA.1 (show wa _ _ _ _ _ _ _ _ _ _=true from hv);have hk:=(acz (Cc h0)).2;unfold oc at hk;rw[zAc]at hk;obtain⟨a1,a2,a3⟩:=ahZ hk.1 hg;obtain⟨⟨b1,b2⟩,-,b3,b4,b5⟩:=@afo _ 0 0 1 a1 (.inl ⟨rfl,rfl⟩);obtain⟨-,⟨c1,c2⟩,c3,c4,c5⟩:=@afo _ 0 0 1 a2 (.inl ⟨rfl,rfl⟩);have m:=eF a3;have e1:∀y,iO y 0 0=bf y:=λ_=>rfl;have e2:∀y,iD y 0 0=bf (y+1)-1:=λ_=>rfl;grind [ail,abP]
def sU(x:Da)(j:Nat):Fk:=bif ab 1 x.g then⟨3,none,gL,1,0,bf (jI x.ng x.s x.e x.g),0,bf (jL x.ng x.s x.e x.g+1)-1⟩else bif fy x then⟨1,some (j,1,.b 1),gL,0,0,0,0,0⟩else⟨2,none,⟨x.ng,x.lg,x.s,x.e,0,x.mo,x.da,0,0,0⟩,0,0,0,0,0⟩
theorem aig{j:Nat}{g':Option Nat}{t t':Bool}(hv:dF x)(hj:j<5)(hP:fy x->P j=.a (aab 0 (kD x) 0 (bq x.ng x.s x.e x.mo x.da)) t g/\S j=.a (aab 0 (kD x) 0 (bq x.ng x.s x.e x.mo x.da)) t' g'):ab0 P S (sU x j) (sU x j):=by
 unfold sU;cases hg:ab 1 x.g with
 | true=>exact afD hv (aq.mp hg)
 | false=>
   rw[bF]at hg;cases hn:fy x with
   | true=>
     obtain⟨e1,e2⟩:=hP hn;obtain⟨b1,b2,b3⟩:=abC (qd (show wa _ _ _ _ _ _ _ _ _ _=true from hv) hn);exact adY hj e1 e2 ⟨gA.2 ⟨.inl rfl,.inl rfl,.inr ⟨rfl,b2⟩⟩,by grind [kD],by grind [kD],by grind,by grind⟩
   | false=>
     have g0:x.g=0:=by
      obtain⟨_,_,_,_,_,_,h0⟩:=SA.1 (show wa _ _ _ _ _ _ _ _ _ _=true from hv);have hk:=(acz (Cc h0)).2;grind [oc,aV]
     simp_all [afX,fy,cK,aa]
end
def qG(ea la:Bool)(L:List It)(i:Nat):Fk:=bif mf ea la L i then sU (L.getD i fP).f i else⟨3,none,gL,dq (L.getD i fP).f.mo (L.getD i fP).f.da,(W2 ea la L i).a,(W2 ea la L i).b,(W2 ea la L i).c,(W2 ea la L i).d⟩
theorem aev{b:Nat}{ea la:Bool}{L:List It}:∀{n:Nat},aeF b ea la L n=nK (λi=>(qG ea la L i).at b) n
 | 0=>rfl
 | n+1=>by
   show aeF b ea la L n++af0 b ea la L n=nK _ n++((qG ea la L n).at b).cs;rw[aev];congr 1
   unfold af0 qG sU;cases mf ea la L n<;>cases ab 1 (L.getD n fP).f.g<;>cases fy (L.getD n fP).f<;>rfl
theorem af9(h5:n<=5):adb (qG ea la L) n:=λi hi j q K h=>by
 grind [qG,sU]
theorem ahU(h:nI 3 ea la L)(h5:L.length<=5){i:Nat}(hi:i<L.length):ab0 (qb ea la L L.length) (qb ea la L L.length) (qG ea la L i) (qG ea la L i):=by
 have hit:=h.it i hi;have hE:ea->i=0->aaD (L.getD i fP)=true:=λh1 h2=>by subst h2;exact h.he h1
 have hL:la->i+1=L.length->aaD (L.getD i fP)=true:=λh1 h2=>by
  have:=h.hl h1;grind
 unfold qG;unfold aap mB at hit;simp only[zAa]at hit;obtain⟨v1,v2,-⟩:=hit;cases hd:mf ea la L i with
 | true=>
   rw[cond_true];refine aig (t:=true) (t':=true) (g:=none) (g':=none) v1 (by omega) λhn=>?_;grind [aba,mf,qb,kD,aU,oB,mw]
 | false=>
   rw[cond_false];unfold W2;unfold mf at hd;generalize L.getD i fP=x at *;unfold kW;have cp:=comps_bd x.f.mo x.f.da;have hp:1<=dq x.f.mo x.f.da/\dq x.f.mo x.f.da<=3:=cp;cases hr:x.r with
   | true=>
     rw[hr,cond_true,zAa]at v2;obtain⟨w1,w2⟩:=v2;unfold mV at w2;simp only[zAa]at w2;obtain⟨p1,p2,p3,p4⟩:=w2;rw[ao]at p3;rw[aq]at p4;have ne:∀b,aaD x=b->b=false:=λb hb=>by
      grind [aaD]
     have e1:(ea&&Nat.beq i 0)=false:=by
      rw[<-Bool.not_eq_true,zAa];simp_all
     have e2:(la&&Nat.beq (i+1) L.length)=false:=by
      rw[<-Bool.not_eq_true,zAa];simp_all
     obtain⟨⟨b1,b2⟩,-,b3,b4,b5⟩:=ad4 v1 p1;obtain⟨-,⟨c1,c2⟩,c3,c4,c5⟩:=ad4 w1 p2;rw[<-p3]at c1 c2;have eh:mw x=bq x.t.ng x.t.s x.t.e x.t.mo x.t.da:=by grind [mw]
     rw[e1,e2,eh];have p4:kD x.f<=kD x.t:=p4;exact ail (b:=kD x.f) (d:=bq x.t.ng x.t.s x.t.e x.t.mo x.t.da) hp ⟨abP (by omega) (by omega),b1,b2⟩ ⟨abP (by omega) (by omega),c1,c2⟩ (by omega)
   | false=>
     rw[hr]at hd;have plx:aaD x->kZ x.f=true:=λk=>by
      grind [aaD]
     have eh:mw x=bq x.f.ng x.f.s x.f.e x.f.mo x.f.da:=by grind [mw]
     rw[eh];cases e1:(ea&&Nat.beq i 0)<;>cases e2:(la&&Nat.beq (i+1) L.length)<;>rw[e1,e2]at hd
     . grind
     . rw[zAa]at e2;obtain⟨⟨b1,b2⟩,-,b3,b4,b5⟩:=ad4 v1 (plx (hL e2.1 (aJ.mp e2.2)));exact alE (b:=kD x.f) hp ⟨abP (by omega) (by omega),b1,b2⟩
     . rw[zAa]at e1;obtain⟨-,⟨c1,c2⟩,b3,b4,b5⟩:=ad4 v1 (plx (hE e1.1 (aJ.mp e1.2)));grind [akB,abP]
     . rw[zAa]at e1 e2;have:=aJ.mp e1.2;have:=aJ.mp e2.2;exact absurd (by omega) (h.h1 e1.1 e2.1)
theorem acy{v:Nat->AV}{news:List cD}:tD Tryz.prog cfg f (vv (okC Tryz.prog cfg) f v news):=by
 intro C args o t r ht hr;cases ht;obtain⟨h,hr⟩:=bG hr;cases hr;exact aa3.1 h
theorem am9{S:aQ}(f12:bu Tryz.prog cfg 12 [] [] (.e true) [])(hS:ak Tryz.prog cfg S):ak Tryz.prog cfg (d5 S 12 Bn):=au hS λargs t v he hv=>by
 unfold Bn at he;split at he
 . cases he;cases hv;omega
 grind
theorem akT(f12:bu Tryz.prog cfg 12 [] [] (.e true) []){E:List AV}{I:cD}{F H:Nat->Fm}{gP gR:Option Nat}{p r:Nat->cD}:ak Tryz.prog cfg (qv (okC Tryz.prog cfg) E I n K F H gP gR p r):=bm (bm (bm (bm (bm (bm (am9 f12 aW) acy) acy) acy) acy) acy) acy
theorem ahE{ok:qp}{C:bg}{F H:Nat->Fm}{o:aB}:∀{n:Nat},(∀i,i<n->ok 9 C [.g (F i).cs,.g (H i).cs] o (.a .i64 1,o)/\ok 10 C [.g (F i).cs] o (.a .i64 0,o)/\ok 11 C [.g (F i).cs] o (.a .i64 0,o)=true)->Tk (Ag ok C F H o n)
 | 0,_=>trivial
 | n+1,h=>by
   obtain⟨a,b,c⟩:=h n (Nat.lt_succ_self n);exact aen (ahE λi hi=>h i (by omega)) ⟨a,b,c,trivial⟩
theorem amz:ec eS 3=some (dH 3,aL 3):=by rfl
section
variable{w:List AV}{I:cD}{k e0 e1 b:Int}{sX:AV}{E:List AV}{n:Nat}{K:fg}{Φ Ψ:Nat->Fk}{gP gR:Option Nat}{p r:Nat->cD}{szs:List Nat}{args':List AV}{q:Aq}
theorem anT(f12:bu Tryz.prog cfg 12 [] [] (.e true) [])(hw:∀x∈[cD.a w false none],cR 14 x)(hD:∀Q,∃D,gG Q (pW (qv (okC Tryz.prog cfg) E I n K (λi=>(Φ i).at 18) (λi=>(Ψ i).at 24) gP gR p r) jE [.a w false none] 3 [kE k e0 e1 b sX]) D=fu (sC (okC Tryz.prog cfg) (Cw cfg [.a w false none]) I (xC k e0 e1 b sX) E n K (λi=>(Φ i).at 18) (λi=>(Ψ i).at 24) gP gR p r) (Q (.e true)))
 (c6:Ci Tryz.prog cfg 6 (Cw cfg [.a w false none]) [.g (xC k e0 e1 b sX)] ⟨1,[.a (xC k e0 e1 b sX) true none],[]⟩ (.g E,⟨2,[I,.a (xC k e0 e1 b sX) true none],[]⟩))
 (h7:nC (nX 14 (Cw cfg [.a w false none]) (JN I (xC k e0 e1 b sX) E) 20) [.g E] ⟨szs,[],true⟩=some (args',q)) (h8:nC (nX 14 (Cw cfg [.a w false none]) (Af I (xC k e0 e1 b sX) E n (λi=>(Φ i).at 18) gP p) 20) [.g E] ⟨szs,[],true⟩=some (args',q)) (hq:q.ok)
 (u7:abf 7 args' q.ws n (.b n) gP Φ p) (u8:abf 8 args' q.ws n K gR Ψ r) (l7:adb Φ n) (l8:adb Ψ n) (hp:∀j,j<5->cR 14 (p j)) (hr:∀j,j<5->cR 14 (r j)) (hF:∀i,i<n->ab0 p r (Φ i) (Ψ i)):bu Tryz.prog cfg 3 [kE k e0 e1 b sX] [.a w false none] (.e true) []:=by
 refine P0 (akT f12 (E:=E) (I:=I) (n:=n) (K:=K) (F:=λi=>(Φ i).at 18) (H:=λi=>(Ψ i).at 24) (gP:=gP) (gR:=gR) (p:=p) (r:=r)) (L:=jE) hw amz (by simp) ai (eD λQ' hQ=>?_) (by rfl);obtain⟨D,hD⟩:=hD Q';have x7:=ajD h7 hq u7 l7 hp;have x8:=ajD h8 hq u8 l8 hr;have five:∀j,j<5->j=0\/j=1\/j=2\/j=3\/j=4:=λj h=>by omega
 have x9:=λi hi=>ae2 (hF i hi) (C:=Cw cfg [.a w false none]) (o:=Ap I (xC k e0 e1 b sX) E n (λi=>(Φ i).at 18) (λi=>(Ψ i).at 24) gP gR p r) (u:=18) (v:=24) (λj hj=>by rcases five j hj with rfl|rfl|rfl|rfl|rfl<;>rfl) (λj hj=>by rcases five j hj with rfl|rfl|rfl|rfl|rfl<;>rfl);refine cg (hD.mpr (j6 (hQ _ rfl) ?_));exact⟨aa3.2 c6,aa3.2 x7,aa3.2 x8,ahE λi hi=>⟨aa3.2 (x9 i hi).1,aa3.2 (x9 i hi).2.1,aa3.2 (x9 i hi).2.2⟩⟩
end
section
variable{C:bg}{o:aB}
theorem ajb{d:Nat}{k1:Int}{k2:Int}:nX 14 C o (d+2) (.g (aaa k x k1 y k2 z v ea la)) q=ob (nX 14 C o (d+1) v q) λr=>some (.g (aaa k x k1 y k2 z r.1 ea la),r.2):=by
 show ob (nC (nX 14 C o (d+1)) (aaa k x k1 y k2 z v ea la) q) (λp=>some (AV.g p.1,p.2))=_;have hi:∀k n q,nX 14 C o (d+1) (.a k n) q=some (.a k n,q):=λ_ _ _=>rfl;have hb:∀b q,nX 14 C o (d+1) (.e b) q=some (.e b,q):=λ_ _=>rfl;have hs:∀s q,nX 14 C o (d+1) (.f s) q=some (.f s,q):=λ_ _=>rfl;cases h:nX 14 C o (d+1) v q<;>simp only[aaa,nC,hi,hb,hs,h,ob]
theorem amW{d:Nat}{e0 b:Int}:nX 14 C o (d+2) (.g (xC k e0 e1 b v)) q=ob (nX 14 C o (d+1) v q) λr=>some (.g (xC k e0 e1 b r.1),r.2):=by
 show ob (nC (nX 14 C o (d+1)) (xC k e0 e1 b v) q) (λp=>some (AV.g p.1,p.2))=_;have hi:∀k n q,nX 14 C o (d+1) (.a k n) q=some (.a k n,q):=λ_ _ _=>rfl;cases h:nX 14 C o (d+1) v q<;>simp only[xC,nC,hi,h,ob]
end
structure sJ(w:List AV)(k e0 e1 b:Int)(sX:AV)(ws6:List cD)(a6:AV)(N:Nat):Prop where
 hw:∀x∈[cD.a w false none],cR 14 x
 a0:∃szs,nC (nX 14 (Cw cfg [.a w false none]) ⟨1,[.a (xC k e0 e1 b sX) true none],[]⟩ 20) [.g (xC k e0 e1 b sX)] ⟨szs,[],true⟩=some ([a6],⟨[],ws6,true⟩)
 d0:∀(ok:qp) (I:cD) (ek:Int) (x:Da) (k1:Int) (y:Da) (k2:Int) (z:Da) (ea la:Bool) (K:fg) (F H:Nat->Fm) (gP gR:Option Nat) (p r:Nat->cD) (Q:AV->Prop),∃D,gG Q (pW (qv ok (aaa ek x k1 y k2 z .d ea la) I 1 K F H gP gR p r) jE [.a w false none] 3 [kE k e0 e1 b sX]) D=fu (sC ok (Cw cfg [.a w false none]) I (xC k e0 e1 b sX) (aaa ek x k1 y k2 z .d ea la) 1 K F H gP gR p r) (Q (.e true))
 d1:∀(ok:qp) (I:cD) (m:Nat) (M:fg) (ek:Int) (x:Da) (k1:Int) (y:Da) (k2:Int) (z:Da) (ea la:Bool) (n:Nat) (K:fg) (F H:Nat->Fm) (gP gR:Option Nat) (p r:Nat->cD) (Q:AV->Prop),1<=n->n<=N->∃D,gG Q (pW (qv ok (aaa ek x k1 y k2 z (.b 16 0 m M) ea la) I n K F H gP gR p r) jE [.a w false none] 3 [kE k e0 e1 b sX]) D=fu (sC ok (Cw cfg [.a w false none]) I (xC k e0 e1 b sX) (aaa ek x k1 y k2 z (.b 16 0 m M) ea la) n K F H gP gR p r) (Q (.e true))
theorem ahM{e0 b:Int}:sJ [] k e0 e1 b .d [] (.g (xC k e0 e1 b .d)) 1:=by
 refine⟨λx hx=>?_,⟨[],by rfl⟩,λok I ek x k1 y k2 z ea la K F H gP gR p r Q=>⟨_,apV ok [] I k e0 e1 b ek x k1 y k2 z ea la K F H gP gR p r⟩,λok I m M ek x k1 y k2 z ea la n K F H gP gR p r Q h1 hn=>?_⟩
 . rw[List.mem_singleton.1 hx];exact⟨rfl,λi hi=>by cases hi⟩
 . obtain rfl:n=1:=by omega
   exact⟨_,apL ok [] I k e0 e1 b m M ek x k1 y k2 z ea la K F H gP gR p r⟩
theorem abe:∀{G:List Ip},bc 14 (eP G)=true
 | []=>rfl
 | x::xs=>abe (G:=xs)
theorem ajC{k e0 e1 b:Int}{G:List Ip}{c:Nat}:sJ (eP G) k e0 e1 b (.b 14 0 G.length (.b c)) [.a (eP G) false none] (.g (xC k e0 e1 b (.b 14 0 G.length (.b c)))) 5:=by
 have hl:∀{G:List Ip},(eP G).length=G.length*21:=λ{G}=>by
  induction G<;>grind [eP,Ip.cs,Dp.cs,List.length_cons]
 refine⟨wc,⟨[21],by simp only[nC,amW,ac4 (C:=Cw cfg [.a (eP G) false none]) (o:=⟨1,[.a (xC k e0 e1 b (.b 14 0 G.length (.b c))) true none],[]⟩) (id:=14) (w:=eP G) (rw:=false) (g:=none) rfl hl abe,ob];rfl⟩,λok I ek x k1 y k2 z ea la K F H gP gR p r Q=>⟨_,aqt ok (eP G) I k e0 e1 b G.length c ek x k1 y k2 z ea la K F H gP gR p r⟩,λok I m M ek x k1 y k2 z ea la n K F H gP gR p r Q h1 hn=>⟨_,aoq ok (eP G) I k e0 e1 b G.length c m M ek x k1 y k2 z ea la K F H gP gR p r n h1 hn⟩⟩
section
variable{w:List AV}{k e0 e1 b:Int}{sX:AV}{ws6:List cD}{a6:AV}{N:Nat}(hI:sJ w k e0 e1 b sX ws6 a6 N)(f12:bu Tryz.prog cfg 12 [] [] (.e true) [])
include hI f12
theorem adL{ek k1 k2:Int}{gP gR:Option Nat}{ψ:Fk}{p r:Nat->cD}(h6:bu Tryz.prog cfg 6 [a6] ws6 (.g (aaa ek x k1 y k2 z .d ea la)) [])(u7:abf 7 [.g (aaa ek x k1 y k2 z .d ea la)] [] 1 (.b 1) gP (λ_=>φ) p)(u8:abf 8 [.g (aaa ek x k1 y k2 z .d ea la)] [] 1 K gR (λ_=>ψ) r)(l7:adb (λ_=>φ) 1)(l8:adb (λ_=>ψ) 1)(hp:∀j,j<5->cR 14 (p j))(hr:∀j,j<5->cR 14 (r j))(hF:ab0 p r φ ψ):bu Tryz.prog cfg 3 [kE k e0 e1 b sX] [.a w false none] (.e true) []:=by
 obtain⟨szs,hc⟩:=hI.a0;refine anT (I:=.b) (Φ:=λ_=>φ) (Ψ:=λ_=>ψ) (szs:=[]) (q:=⟨[],[],true⟩) f12 hI.hw (λQ=>hI.d0 (okC Tryz.prog cfg) .b ek x k1 y k2 z ea la K _ _ gP gR p r Q) ?_ (by rfl) (by rfl) rfl u7 u8 l7 l8 hp hr λ_ _=>hF;exact abR (news':=[.b]) dI.lv Az hc rfl h6.b0 rfl rfl λj hj=>by
  obtain rfl:j=0:=by grind
  exact .inl ⟨rfl,aa5⟩
theorem ahY{kk:Int}{gP gR:Option Nat}{Φ Ψ:Nat->Fk}{p r:Nat->cD}(hws:ws6.length<=1)(h1:1<=n)(hn:n<=N)(h6:bu Tryz.prog cfg 6 [a6] ws6 (.g (fS kk (.b (14+ws6.length) 0 L.length M) ea la)) [.a (dp L) true (some 21)])(u7:abf 7 [.g (fS kk (.b 14 0 L.length (xe M)) ea la)] [.a (dp L) false none] n (.b n) gP Φ p)(u8:abf 8 [.g (fS kk (.b 14 0 L.length (xe M)) ea la)] [.a (dp L) false none] n K gR Ψ r)(l7:adb Φ n)(l8:adb Ψ n)(hp:∀j,j<5->cR 14 (p j))(hr:∀j,j<5->cR 14 (r j))(hF:∀i,i<n->ab0 p r (Φ i) (Ψ i)):bu Tryz.prog cfg 3 [kE k e0 e1 b sX] [.a w false none] (.e true) []:=by
 obtain⟨szs,hc⟩:=hI.a0;have e:ws6.length=0\/ws6.length=1:=by omega
 have hcan:∀o:aB,fB (Cw cfg [.a w false none]) o 16=.a (dp L) true (some 21)->nC (nX 14 (Cw cfg [.a w false none]) o 20) [.g (aaa kk gL 0 gL 0 gL (.b 16 0 L.length M) ea la)] ⟨[21],[],true⟩=some ([.g (aaa kk gL 0 gL 0 gL (.b 14 0 L.length (xe M)) ea la)],⟨[],[.a (dp L) false none],true⟩):=λo hg=>by
  grind [nC,ajb,ac4,lh,lU,ob]
 refine anT (I:=.a (dp L) true (some 21)) (E:=aaa kk gL 0 gL 0 gL (.b 16 0 L.length M) ea la) (szs:=[21]) (q:=⟨[],[.a (dp L) false none],true⟩) f12 hI.hw (λQ=>hI.d1 (okC Tryz.prog cfg) _ L.length M kk gL 0 gL 0 gL ea la n K _ _ gP gR p r Q h1 hn) ?_ (hcan _ rfl) (hcan _ rfl) rfl u7 u8 l7 l8 hp hr hF;refine abR (news':=[.a (dp L) true (some 21)]) dI.lv Az hc rfl h6 ?_ rfl λj hj=>by
  obtain rfl:j=0:=by grind
  exact .inl ⟨rfl,aan⟩
 show kG 14 (VV (14+ws6.length) 16 1) 20 _=_;rcases e with e|e<;>rw[e]<;>rfl
end
theorem abn(h:cR 14 B):∀j,j<5->cR 14 (xq B j)
 | 0,_=>h
 | _+1,_=>aa5
theorem acK(h:φ.s=none):adb (λ_=>φ) 1:=λi hi j q K hs=>by grind
theorem adK{q:Nat}(h:φ.s=some (0,q,K)):adb (λ_=>φ) 1:=λi hi j q K hs=>by grind
theorem afu:∀{R acc:List Rn},(R.foldl q8 acc).length<=acc.length+R.length/\(1<=acc.length+R.length->1<=(R.foldl q8 acc).length)
 | [],acc=>⟨ξ _,λh=>h⟩
 | r::R,acc=>by
   have:=@afu R (q8 acc r);have h2:(q8 acc r).length<=acc.length+1/\1<=(q8 acc r).length:=by
    unfold q8;grind
   grind
theorem afI:∀{L acc:List Rn},(L.foldl (λacc x=>aaI x acc) acc).length=acc.length+L.length
 | [],acc=>rfl
 | x::L,acc=>by simp only[List.foldl_cons,zAd,afI,adg];omega
theorem akN{R:List Rn}(h:1<=R.length):1<=(rF R).length/\(rF R).length<=R.length:=by
 grind [aa8,aeI,afI,afu,rF,aaO,abL]
section
variable{w:List AV}{k e0 e1 b:Int}{sX:AV}{ws6:List cD}{a6:AV}{N:Nat}(hI:sJ w k e0 e1 b sX ws6 a6 N)(f12:bu Tryz.prog cfg 12 [] [] (.e true) [])
include hI f12
theorem ahO(h6:bu Tryz.prog cfg 6 [a6] ws6 (.g (acB x)) [])(hv:dF x):bu Tryz.prog cfg 3 [kE k e0 e1 b sX] [.a w false none] (.e true) []:=by
 have h6:bu Tryz.prog cfg 6 [a6] ws6 (.g (aaa 1 x 0 gL 0 gL .d false false)) []:=h6;cases hg:ab 1 x.g with
 | true=>
   rw[aq]at hg;exact adL hI f12 h6 (φ:=⟨3,none,gL,1,0,_,0,_⟩) (ψ:=⟨3,none,gL,1,0,_,0,_⟩) (u1 rfl ((zS hv).1 hg)) (u1 rfl ((zT hv).1 hg)) (acK rfl) (acK rfl) (λ_ _=>aa5) (λ_ _=>aa5) (afD hv hg)
 | false=>
   cases hn:fy x with
   | true=>
     obtain⟨b1,b2,b3⟩:=abC (qd (show wa _ _ _ _ _ _ _ _ _ _=true from hv) hn);exact adL hI f12 h6 (φ:=⟨1,some (0,1,.b 1),gL,0,0,0,0,0⟩) (ψ:=⟨1,some (0,1,.b 1),gL,0,0,0,0,0⟩) (u2 (λ_ h=>by grind) (ν _) rfl aac ((zS hv).2.2 hn)) (u2 (λ_ h=>by grind) (ν _) rfl aac ((zT hv).2.2 hn)) (adK rfl) (adK rfl) (abn aac) (abn aac) (adY (by decide) rfl rfl ⟨gA.2 ⟨.inl rfl,.inl rfl,.inr ⟨rfl,b2⟩⟩,by grind,by grind,by grind,by grind⟩)
   | false=>
     have g0:x.g=0:=by
      rw[bF]at hg;obtain⟨_,_,_,_,_,_,h0⟩:=SA.1 (show wa _ _ _ _ _ _ _ _ _ _=true from hv);have hk:=(acz (Cc h0)).2;grind [oc,aV]
     have hx:eA (x.s++x.mo++x.da)=true:=by
      simp_all [fy,cK,aa]
     exact adL hI f12 h6 (φ:=⟨2,none,⟨x.ng,x.lg,x.s,x.e,0,x.mo,x.da,0,0,0⟩,0,0,0,0,0⟩) (ψ:=⟨2,none,⟨x.ng,x.lg,x.s,x.e,0,x.mo,x.da,0,0,0⟩,0,0,0,0,0⟩) (u1 rfl ((zS hv).2.1 g0 hx)) (u1 rfl ((zT hv).2.1 g0 hx)) (acK rfl) (acK rfl) (λ_ _=>aa5) (λ_ _=>aa5) (afX hv g0 hx)
theorem anu(hws:ws6.length<=1)(hL:nI 3 ea la L)(h5:L.length<=5)(hN:L.length<=N)(h6:bu Tryz.prog cfg 6 [a6] ws6 (.g (fS 3 (.b (14+ws6.length) 0 L.length M) ea la)) [.a (dp L) true (some 21)]):bu Tryz.prog cfg 3 [kE k e0 e1 b sX] [.a w false none] (.e true) []:=by
 have f7:=@Q9 ea la L (xe M) hL h5;have f8:=@wt ea la L (xe M) hL h5;unfold aia at f7 f8;rw[aev]at f7 f8;exact ahY hI f12 hws hL.n1 hN h6 (p:=qb ea la L L.length) (r:=qb ea la L L.length) f7 f8 (af9 h5) (af9 h5) (λ_ _=>fK) (λ_ _=>fK) λi hi=>ahU hL h5 hi
theorem anS(hws:ws6.length<=1)(hL:nI 4 ea la L)(h5:L.length<=5)(hN:1<=N)(h6:bu Tryz.prog cfg 6 [a6] ws6 (.g (fS 4 (.b (14+ws6.length) 0 L.length M) ea la)) [.a (dp L) true (some 21)]):bu Tryz.prog cfg 3 [kE k e0 e1 b sX] [.a w false none] (.e true) []:=by
 have f7:=@aqh ea la L (xe M) hL h5;have f8:=@Q2 ea la L (xe M) hL h5;obtain⟨r1,r2,r3,r4⟩:=aef hL h5;have hb:∀x∈km ea la L L.length,eo x:=λx hx=>by
  obtain⟨i,hi,rfl⟩:=List.mem_map.1 hx;have hb:=ahL (hL.it i (List.mem_range.1 hi));have hc:=r3 _ hx;refine⟨hc,?_,?_,?_,?_⟩<;>unfold W2 kW<;>dsimp only<;>(first|cases(ea&&Nat.beq i 0)|skip)<;>(first|cases(la&&Nat.beq (i+1) L.length)|skip)<;>simp only[zAj]<;>omega
 obtain⟨c1,c2,c3⟩:=amb (afK hb).1;obtain⟨l1,l2⟩:=akN r1;have lo:cR 14 (.a (bh (rF (km ea la L L.length))) true (some 4)):=hH;exact ahY hI f12 hws (ξ 1) hN h6 (Φ:=λ_=>⟨1,some (0,(rF (km ea la L L.length)).length,.b (rF (km ea la L L.length)).length),gL,0,0,0,0,0⟩) (Ψ:=λ_=>⟨1,some (0,(rF (km ea la L L.length)).length,.a 0),gL,0,0,0,0,0⟩) (u2 ir (ξ 1) rfl lo f7) (u2 ir (ξ 1) rfl lo f8) (adK rfl) (adK rfl) (abn lo) (abn lo) λ_ _=>.b (by decide) rfl rfl c1 l1 (by omega) c2 c3
end
def Bd(k:Int)(x:Da):Prop:=(k=1/\dF x/\fy x=true)\/(k=2/\x=gL)\/(k=3/\x=gL)
theorem Bd.b(h:Bd k x):dJ k x=true:=by
 rcases h with⟨rfl,h1,h2⟩|⟨rfl,rfl⟩|⟨rfl,rfl⟩
 . exact acR.2 (.inl ⟨rfl,qd h1 h2⟩)
 . rfl
 . rfl
theorem Bd.of{e:Int}{D:Dp}(hD:D.ok):Bd (w5 e) (qf e D):=by
 grind [Dp.ex,Bd,w5,qf]
section
variable{w:List AV}{k e0 e1 b:Int}{sX:AV}{ws6:List cD}{a6:AV}{N:Nat}(hI:sJ w k e0 e1 b sX ws6 a6 N)(f12:bu Tryz.prog cfg 12 [] [] (.e true) [])
include hI f12
theorem ahF{k1 k2:Int}(h6:bu Tryz.prog cfg 6 [a6] ws6 (.g (ra (sZ k1 x) (sZ k2 y))) [])(hx:Bd k1 x)(hy:Bd k2 y)(hp:jM k1 x k2 y=0):bu Tryz.prog cfg 3 [kE k e0 e1 b sX] [.a w false none] (.e true) []:=by
 have h6:bu Tryz.prog cfg 6 [a6] ws6 (.g (aaa 2 gL k1 x k2 y .d false false)) []:=h6;have bx:=hx.b;have by':=hy.b;have pS:∀{u v s t:Int},eo ⟨u,v,s,t⟩->abf 7 [.g (aaa 2 gL k1 x k2 y .d false false)] [] 1 (.b 1) none (λ_=>⟨1,some (0,1,.b 1),gL,0,0,0,0,0⟩) (xq (.a (aab u v s t) true none))->abf 8 [.g (aaa 2 gL k1 x k2 y .d false false)] [] 1 (.b 1) none (λ_=>⟨1,some (0,1,.b 1),gL,0,0,0,0,0⟩) (xq (.a (aab u v s t) true none))->bu Tryz.prog cfg 3 [kE k e0 e1 b sX] [.a w false none] (.e true) []:=λh u7 u8=>adL hI f12 h6 u7 u8 (adK rfl) (adK rfl) (abn aac) (abn aac) (adY (by decide) rfl rfl h);rcases hx with⟨rfl,x1,x2⟩|⟨rfl,rfl⟩|⟨rfl,rfl⟩<;>rcases hy with⟨rfl,y1,y2⟩|⟨rfl,rfl⟩|⟨rfl,rfl⟩
 . obtain⟨a1,a2,a3⟩:=abC (qd (show wa _ _ _ _ _ _ _ _ _ _=true from x1) x2);obtain⟨c1,c2,c3⟩:=abC (qd (show wa _ _ _ _ _ _ _ _ _ _=true from y1) y2);have hle:aP x.ng x.s x.e x.mo x.da<=bq y.ng y.s y.e y.mo y.da:=by
    unfold jM at hp;cases hl:ab (aP x.ng x.s x.e x.mo x.da) (bq y.ng y.s y.e y.mo y.da)with
    | true=>exact aq.mp hl
    | false=>grind
   exact pS (u:=0) (v:=aP x.ng x.s x.e x.mo x.da) (s:=0) (t:=bq y.ng y.s y.e y.mo y.da) ⟨gA.2 ⟨.inl rfl,.inl rfl,.inr ⟨rfl,hle⟩⟩,by grind,by grind,by grind,by grind⟩ (u2 (λ_ h=>by grind) (ν _) rfl aac (Qy x1 x2 y1 y2 hle)) (u2 (λ_ h=>by grind) (ν _) rfl aac (Rj bx by' hp))
 . obtain⟨a1,a2,a3⟩:=abC (qd (show wa _ _ _ _ _ _ _ _ _ _=true from x1) x2);exact pS (u:=0) (v:=aP x.ng x.s x.e x.mo x.da) (s:=1) (t:=0) ⟨gA.2 ⟨.inl rfl,.inr ⟨rfl,rfl⟩,.inl (by simp)⟩,by grind,by grind,by simp,by simp⟩ (u2 (λ_ h=>by grind) (ν _) rfl aac (QC x1 x2)) (u2 (λ_ h=>by grind) (ν _) rfl aac (Rk bx by' hp))
 . exact adL hI f12 h6 (φ:=⟨5,none,gL,0,0,_,1,0⟩) (ψ:=⟨5,none,gL,0,0,_,1,0⟩) (u1 rfl (QD x1 x2)) (u1 rfl (Rp bx by' hp)) (acK rfl) (acK rfl) (λ_ _=>aa5) (λ_ _=>aa5) (.a aom amG anh)
 . obtain⟨c1,c2,c3⟩:=abC (qd (show wa _ _ _ _ _ _ _ _ _ _=true from y1) y2);exact pS (u:=-1) (v:=0) (s:=0) (t:=bq y.ng y.s y.e y.mo y.da) ⟨gA.2 ⟨.inr ⟨rfl,rfl⟩,.inl rfl,.inl (by simp)⟩,by simp,by simp,by grind,by grind⟩ (u2 (λ_ h=>by grind) (ν _) rfl aac (QE y1 y2)) (u2 (λ_ h=>by grind) (ν _) rfl aac (Rq bx by' hp))
 . cases hp
 . cases hp
 . exact adL hI f12 h6 (φ:=⟨4,none,gL,0,-1,0,0,_⟩) (ψ:=⟨4,none,gL,0,-1,0,0,_⟩) (u1 rfl (QK y1 y2)) (u1 rfl (Rr bx by' hp)) (acK rfl) (acK rfl) (λ_ _=>aa5) (λ_ _=>aa5) (.a apK amL amV)
 . cases hp
 . cases hp
theorem afh{e0' e1':Int}{A B:Dp}(hA:A.ok)(hB:B.ok)(h6:bu Tryz.prog cfg 6 [a6] ws6 (.g (qP e0' e1' A B)) []):bu Tryz.prog cfg 3 [kE k e0 e1 b sX] [.a w false none] (.e true) []:=by
 have b0:=Bd.of (e:=e0') hA;have b1:=Bd.of (e:=e1') hB;obtain⟨x1,x2,-⟩:=Dp.ex hB;unfold qP at h6;cases hp:not (aa (jM (w5 e0') (qf e0' A) (w5 e1') (qf e1' B)) 0)with
 | false=>
   rw[hp,cond_false]at h6;rw[Bool.not_eq_false',ao]at hp;exact ahF hI f12 h6 b0 b1 hp
 | true=>
   rw[hp,cond_true]at h6;rw[Bool.not_eq_true',aw]at hp;cases hk:not (aa (w5 e0') 1)with
   | true=>
     rw[hk,cond_true]at h6;refine ahF hI f12 h6 b0 (.inl ⟨rfl,x1,x2⟩) ?_;rw[Bool.not_eq_true']at hk;unfold jM;rw[hk];rfl
   | false=>
     rw[hk,cond_false]at h6;rw[Bool.not_eq_false']at hk;refine ahF hI f12 h6 b1 b0 ?_;unfold jM at hp ⊢;rw[hk]at hp ⊢;rw[ao]at hk;cases hl:aa (w5 e1') 1 with
     | false=>rw[hl]at hp;exact absurd rfl hp
     | true=>
       rw[hl]at hp;rw[ao]at hl;rcases b0 with⟨-,y1,y2⟩|⟨h,-⟩|⟨h,-⟩
       . rcases b1 with⟨-,z1,z2⟩|⟨h,-⟩|⟨h,-⟩
         . obtain⟨a1,a2,a3⟩:=abC (qd (show wa _ _ _ _ _ _ _ _ _ _=true from y1) y2);obtain⟨c1,c2,c3⟩:=abC (qd (show wa _ _ _ _ _ _ _ _ _ _=true from z1) z2);cases hc:ab (aP (qf e0' A).ng (qf e0' A).s (qf e0' A).e (qf e0' A).mo (qf e0' A).da) (bq (qf e1' B).ng (qf e1' B).s (qf e1' B).e (qf e1' B).mo (qf e1' B).da)with
           | true=>rw[hc]at hp;exact absurd rfl hp
           | false=>
             rw[bF]at hc;rw[show ab (aP (qf e1' B).ng (qf e1' B).s (qf e1' B).e (qf e1' B).mo (qf e1' B).da) (bq (qf e0' A).ng (qf e0' A).s (qf e0' A).e (qf e0' A).mo (qf e0' A).da)=true from aq.mpr (by omega)];rfl
         . omega
         . omega
       . omega
       . omega
end
section
variable{k e0 e1 b:Int}(f12:bu Tryz.prog cfg 12 [] [] (.e true) [])(hk:0<=k/\k<=255)(r0:af .u8 e0)(r1:af .u8 e1)(hb:0<=b/\b<=255)
include f12 hk r0 r1 hb
theorem ahH{w:List AV}{sX:AV}{ws6:List cD}{a6:AV}{N:Nat}(hI:sJ w k e0 e1 b sX ws6 a6 N)(hws:ws6.length<=1){G:List Ip}{all:Bool}(h1:1<=G.length)(h5:G.length<=5)(hN:G.length<=N)(hG:∀i,i<G.length->(G.getD i qe).ok)(h0:ea->la->G.length≠1)(h6:bu Tryz.prog cfg 6 [a6] ws6 (.g (fS (bif all then 4 else 3) (.b (14+ws6.length) 0 G.length M) ea la)) [.a (dp (adz all ea la G)) true (some 21)]):bu Tryz.prog cfg 3 [kE k e0 e1 b sX] [.a w false none] (.e true) []:=by
 grind [aiM,FP,anS,anu]
theorem ans:bu Tryz.prog cfg 3 [kE k e0 e1 b .d] [.a [] false none] (.e true) []:=by
 have low:∀x∈([]:List cD),cR 14 x:=λx h=>by grind
 have z:qe.D.ok=true:=by decide
 have hj:∃j:Nat,k%8=(j:Int):=⟨(k%8).toNat,by omega⟩;obtain⟨j,hj⟩:=hj;by_cases h2:j<=2
 . exact ahO ahM f12 (IB hk.1 low h2 hj λQ=>(HR k e0 e1 b).1 j h2) (Dp.va z)
 . by_cases h4:j<=4
   . exact afh ahM f12 z z (Ir hk.1 low h4 hj r0 r1 λQ=>(HR k e0 e1 b).2 j (by omega) h4)
   . have h6:=IO hk.1 hb low (all:=aa (k%8) 7) (by omega) rfl λQ=>P1 k e0 e1 b _;refine ahH f12 hk r0 r1 hb ahM (ν _) (G:=[qe]) (ξ _) (by decide) (ξ _) (λi hi=>?_) (λh1 h2=>?_) h6
     . obtain rfl:i=0:=by grind
       decide
     grind
theorem ank{G:List Ip}{c:Nat}(hc:G.length<=c)(hG:∀i,i<G.length->(G.getD i qe).ok):bu Tryz.prog cfg 3 [kE k e0 e1 b (.b 14 0 G.length (.b c))] [.a (eP G) false none] (.e true) []:=by
 have z:qe.D.ok=true:=by decide
 have hj:∃j:Nat,k%8=(j:Int):=⟨(k%8).toNat,by omega⟩;obtain⟨j,hj⟩:=hj;by_cases h0:G.length=0
 . obtain rfl:G=[]:=List.length_eq_zero_iff.1 h0;have hI:=@ajC k e0 e1 b [] c;by_cases h2:j<=2
   . exact ahO hI f12 (IB hk.1 wc h2 hj λQ=>(H9 [] k e0 e1 b c).1 j h2) (Dp.va z)
   . by_cases h4:j<=4
     . exact afh hI f12 z z (Ir hk.1 wc h4 hj r0 r1 λQ=>(H9 [] k e0 e1 b c).2 j (by omega) h4)
     . have h6:=IO hk.1 hb (wc (G:=[])) (all:=aa (k%8) 7) (by omega) rfl λQ=>P3 [] c k e0 e1 b _;refine ahH f12 hk r0 r1 hb hI (ξ _) (G:=[qe]) (ξ _) (by decide) (by decide) (λi hi=>?_) (λh1 h2=>?_) h6
       . obtain rfl:i=0:=by grind
         decide
       grind
 . have h1:1<=G.length:=by omega
   have hI:=@ajC k e0 e1 b G c;have g0:=hG 0 h1;have g1:=g0;unfold Ip.ok at g1;simp only[zAa]at g1;by_cases h2:j<=2
   . exact ahO hI f12 (Qk hk.1 h1 hc g0 h2 hj) (Dp.va g1.1)
   . by_cases h4:j<=4
     . exact afh hI f12 g1.1 g1.2.2 (Qe hk.1 h1 hc g0 (by omega) h4 hj r0 r1)
     . have h6:=aqe (e0:=e0) (e1:=e1) hk.1 hb h1 hc hG (all:=aa (k%8) 7) (by omega) rfl;have hl:(G.take (min G.length 5)).length=min G.length 5:=by simp
       refine ahH f12 hk r0 r1 hb hI (ξ _) (G:=G.take (min G.length 5)) (M:=.a 0) (by omega) (by omega) (by omega) (λi hi=>?_) (λh1 h2=>?_) (by rw[hl];exact h6)
       . grind
       . rw[hl];intro h;simp_all [aa,Int.sub]
end
abbrev iA(n:Int):AV:=.a .i64 n
abbrev dA(s:List UInt8)(e g:Int)(mo da:List UInt8):AV:=.g [.e false,.e false,.f s,iA e,iA g,.f mo,.f da,.a .u8 0,.a .u8 0,.a .u8 0]
abbrev MX(a b c d:Int):AV:=.g [.a .i8 a,iA b,.a .i8 c,iA d]
def LY:List AV×AV:=([dA [48,48,48,48] 0 0 [48,50] []],iA 0)
def WG:pR eS cfg 10000 94 LY.1 LY.2=true:=by kernel_rfl
def I7:List AV×AV:=([.g [.e false,.e false,.f [48,48,48,48],iA 0,iA 0]],.c [iA 0,iA 0])
def VG:pR eS cfg 10000 146 I7.1 I7.2=true:=by kernel_rfl
def Md:List AV×AV:=([iA 0,iA 2],.c [iA 31,iA 0])
def T_:pR eS cfg 10000 293 Md.1 Md.2=true:=by kernel_rfl
def KL:List AV×AV:=([dA [48,48,48,88] 0 0 [] []],iA 0)
def VX:pR eS cfg 10000 94 KL.1 KL.2=true:=by kernel_rfl
def LU:List AV×AV:=([dA [48,48,48,50] 0 3 [] []],iA 0)
def VZ:pR eS cfg 10000 94 LU.1 LU.2=true:=by kernel_rfl
def KG:List AV×AV:=([.g [.e false,.e false,.f [48,48,48,50],iA 0,iA 3]],.c [iA 0,iA 9,iA 0])
def WQ:pR eS cfg 10000 73 KG.1 KG.2=true:=by kernel_rfl
def KN:List AV×AV:=([dA [48,48,48,48] 0 0 [] []],iA 0)
def Xt:pR eS cfg 10000 94 KN.1 KN.2=true:=by kernel_rfl
def Ma:List AV×AV:=([dA [48,48,48,49] 0 0 [48,49] []],iA 0)
def U_:pR eS cfg 10000 94 Ma.1 Ma.2=true:=by kernel_rfl
def Kv:List AV×AV:=([.g [.e false,.e false,.f [48,48,48,49],iA 0,iA 0]],.c [iA 1,iA 0])
def VJ:pR eS cfg 10000 146 Kv.1 Kv.2=true:=by kernel_rfl
def JP:List AV×AV:=([iA 1,iA 1],.c [iA 396,iA 0])
def Wy:pR eS cfg 10000 294 JP.1 JP.2=true:=by kernel_rfl
def E_:List AV×AV:=([dA [48,48,48,48] 0 0 [48,49] []],iA 0)
def Su:pR eS cfg 10000 94 E_.1 E_.2=true:=by kernel_rfl
def Fx:List AV×AV:=([dA [48,48,48,48] 0 0 [48,51] []],iA 0)
def Q8:pR eS cfg 10000 94 Fx.1 Fx.2=true:=by kernel_rfl
def EO:List AV×AV:=([dA [48,48,48,48] 0 0 [48,52] []],iA 0)
def Q3:pR eS cfg 10000 94 EO.1 EO.2=true:=by kernel_rfl
def FK:List AV×AV:=([iA 0,iA 3],.c [iA 60,iA 0])
def QX:pR eS cfg 10000 293 FK.1 FK.2=true:=by kernel_rfl
def ae7:List AV×AV:=([iA 0,iA 4],.c [iA 91,iA 0])
def alF:pR eS cfg 10000 293 ae7.1 ae7.2=true:=by kernel_rfl
def afk:List AV×AV:=([iA 0,iA 1],.c [iA 30,iA 0])
def alL:pR eS cfg 10000 294 afk.1 afk.2=true:=by kernel_rfl
def aeT:List AV×AV:=([dA [48,48,48,48] 0 0 [48,50] [48,49]],iA 0)
def akI:pR eS cfg 10000 94 aeT.1 aeT.2=true:=by kernel_rfl
def afi:List AV×AV:=([dA [48,48,48,48] 0 0 [48,50] [48,57]],iA 0)
def aki:pR eS cfg 10000 94 afi.1 afi.2=true:=by kernel_rfl
def afc:List AV×AV:=([MX 0 0 0 30,MX 0 31 0 39],.e true)
def akn:pR eS cfg 10000 93 afc.1 afc.2=true:=by kernel_rfl
def afj:List AV×AV:=([MX 0 0 0 39,MX 0 60 0 90],.e false)
def alM:pR eS cfg 10000 93 afj.1 afj.2=true:=by kernel_rfl
def afn:List AV×AV:=([iA 0],.c [iA 0,iA 0])
def akl:pR eS cfg 10000 222 afn.1 afn.2=true:=by kernel_rfl
def aeZ:List AV×AV:=([iA 31],.c [iA 0,iA 0])
def alt:pR eS cfg 10000 222 aeZ.1 aeZ.2=true:=by kernel_rfl
noncomputable def Pg:EU:=(.a0 none (.a0 none .b0 (.a0 none (.a0 none .b0 (.a0 none (.a0 none (.a0 (some [KG]) .b0 .b0) .b0) .b0)) (.a0 none (.a0 none (.a0 none .b0 (.a0 none (.a0 none (.a0 (some [Md,FK,ae7]) .b0 .b0) .b0) .b0)) .b0) (.a0 none .b0 (.a0 none (.a0 (some [afc,afj]) .b0 .b0) .b0))))) (.a0 none .b0 (.a0 none (.a0 none (.a0 none .b0 (.a0 none (.a0 none (.a0 (some [I7,Kv]) .b0 .b0) .b0) .b0)) .b0) (.a0 none (.a0 none (.a0 none .b0 (.a0 none (.a0 none (.a0 (some [JP,afk]) .b0 .b0) .b0) .b0)) .b0) (.a0 none .b0 (.a0 none (.a0 (some [LY,KL,LU,KN,Ma,E_,Fx,EO,aeT,afi]) .b0 (.a0 (some [afn,aeZ]) .b0 .b0)) .b0))))))
noncomputable def nW:cL:=EN cfg Pg
theorem Lw(g:nG Tryz.prog eS cfg):nL (λf l=>∀e∈l,gM Tryz.prog cfg f e.1 e.2) (λi=>i) Pg:=⟨aZ,⟨aZ,trivial,⟨aZ,⟨aZ,trivial,⟨aZ,⟨aZ,⟨(g7 (bD (g.a0 10000 WQ) g_)),trivial,trivial⟩,trivial⟩,trivial⟩⟩,⟨aZ,⟨aZ,⟨aZ,trivial,⟨aZ,⟨aZ,⟨(g7 (bD (g.a0 10000 T_) (bD (g.a0 10000 QX) (bD (g.a0 10000 alF) g_)))),trivial,trivial⟩,trivial⟩,trivial⟩⟩,trivial⟩,⟨aZ,trivial,⟨aZ,⟨(g7 (bD (g.a0 10000 akn) (bD (g.a0 10000 alM) g_))),trivial,trivial⟩,trivial⟩⟩⟩⟩⟩,⟨aZ,trivial,⟨aZ,⟨aZ,⟨aZ,trivial,⟨aZ,⟨aZ,⟨(g7 (bD (g.a0 10000 VG) (bD (g.a0 10000 VJ) g_))),trivial,trivial⟩,trivial⟩,trivial⟩⟩,trivial⟩,⟨aZ,⟨aZ,⟨aZ,trivial,⟨aZ,⟨aZ,⟨(g7 (bD (g.a0 10000 Wy) (bD (g.a0 10000 alL) g_))),trivial,trivial⟩,trivial⟩,trivial⟩⟩,trivial⟩,⟨aZ,trivial,⟨aZ,⟨(g7 (bD (g.a0 10000 WG) (bD (g.a0 10000 VX) (bD (g.a0 10000 VZ) (bD (g.a0 10000 Xt) (bD (g.a0 10000 U_) (bD (g.a0 10000 Su) (bD (g.a0 10000 Q8) (bD (g.a0 10000 Q3) (bD (g.a0 10000 akI) (bD (g.a0 10000 aki) g_))))))))))),trivial,⟨(g7 (bD (g.a0 10000 akl) (bD (g.a0 10000 alt) g_))),trivial,trivial⟩⟩,trivial⟩⟩⟩⟩⟩⟩
theorem Uz(g:nG Tryz.prog eS cfg):nG Tryz.prog eS nW:=g.e0 λf l h=>(Lw g).a0 f l h
def Ky:List AV×AV:=([dA [48,48,48,48] 0 0 [48,50] []],.c [MX 0 31 0 59,iA 0])
def Xp:pR eS nW 10000 75 Ky.1 Ky.2=true:=by kernel_rfl
def LW:List AV×AV:=([dA [48,48,48,48] 0 0 [] []],.c [MX 0 0 0 365,iA 0])
def Xo:pR eS nW 10000 205 LW.1 LW.2=true:=by kernel_rfl
def MD:List AV×AV:=([dA [48,48,48,49] 0 0 [48,49] []],.c [MX 0 366 0 396,iA 0])
def Wz:pR eS nW 10000 205 MD.1 MD.2=true:=by kernel_rfl
def Ki:List AV×AV:=([dA [48,48,48,48] 0 0 [] []],.c [MX 0 0 0 365,iA 0])
def Vm:pR eS nW 10000 75 Ki.1 Ki.2=true:=by kernel_rfl
def J5:List AV×AV:=([dA [48,48,48,48] 0 0 [48,51] []],.c [MX 0 60 0 90,iA 0])
def V8:pR eS nW 10000 205 J5.1 J5.2=true:=by kernel_rfl
def MO:List AV×AV:=([dA [48,48,48,48] 0 0 [48,52] []],.c [MX 0 91 0 120,iA 0])
def Xa:pR eS nW 10000 205 MO.1 MO.2=true:=by kernel_rfl
def LG:List AV×AV:=([dA [48,48,48,48] 0 0 [48,51] []],.c [MX 0 60 0 90,iA 0])
def V5:pR eS nW 10000 75 LG.1 LG.2=true:=by kernel_rfl
def LC:List AV×AV:=([dA [48,48,48,48] 0 0 [48,52] []],.c [MX 0 91 0 120,iA 0])
def Wj:pR eS nW 10000 75 LC.1 LC.2=true:=by kernel_rfl
def KC:List AV×AV:=([dA [48,48,48,48] 0 0 [48,50] [48,49]],iA 0)
def Vv:pR eS nW 10000 42 KC.1 KC.2=true:=by kernel_rfl
def Jx:List AV×AV:=([dA [48,48,48,48] 0 0 [48,50] [48,57]],iA 0)
def UL:pR eS nW 10000 42 Jx.1 Jx.2=true:=by kernel_rfl
def Fr:List AV×AV:=([iA 0],.c [iA 0,iA 1,iA 0])
def R9:pR eS nW 10000 225 Fr.1 Fr.2=true:=by kernel_rfl
def FU:List AV×AV:=([iA 31],.c [iA 0,iA 2,iA 0])
def RC:pR eS nW 10000 225 FU.1 FU.2=true:=by kernel_rfl
noncomputable def PN:EU:=(.a0 none (.a0 none (.a0 none .b0 (.a0 none .b0 (.a0 none (.a0 none (.a0 (some [Ky,Ki,LG,LC]) .b0 .b0) .b0) .b0))) (.a0 none (.a0 none (.a0 none (.a0 none .b0 (.a0 none .b0 (.a0 (some [Fr,FU]) .b0 .b0))) .b0) .b0) (.a0 none .b0 (.a0 none (.a0 none (.a0 none .b0 (.a0 (some [Ki,MD,LG,LC]) .b0 .b0)) .b0) .b0)))) (.a0 none .b0 (.a0 none (.a0 none .b0 (.a0 none (.a0 (some [KC,Jx]) .b0 .b0) .b0)) .b0)))
noncomputable def DB:cL:=EN nW PN
theorem JY(g:nG Tryz.prog eS nW):nL (λf l=>∀e∈l,gM Tryz.prog nW f e.1 e.2) (λi=>i) PN:=⟨aZ,⟨aZ,⟨aZ,trivial,⟨aZ,trivial,⟨aZ,⟨aZ,⟨(g7 (bD (g.a0 10000 Xp) (bD (g.a0 10000 Vm) (bD (g.a0 10000 V5) (bD (g.a0 10000 Wj) g_))))),trivial,trivial⟩,trivial⟩,trivial⟩⟩⟩,⟨aZ,⟨aZ,⟨aZ,⟨aZ,trivial,⟨aZ,trivial,⟨(g7 (bD (g.a0 10000 R9) (bD (g.a0 10000 RC) g_))),trivial,trivial⟩⟩⟩,trivial⟩,trivial⟩,⟨aZ,trivial,⟨aZ,⟨aZ,⟨aZ,trivial,⟨(g7 (bD (g.a0 10000 Xo) (bD (g.a0 10000 Wz) (bD (g.a0 10000 V8) (bD (g.a0 10000 Xa) g_))))),trivial,trivial⟩⟩,trivial⟩,trivial⟩⟩⟩⟩,⟨aZ,trivial,⟨aZ,⟨aZ,trivial,⟨aZ,⟨(g7 (bD (g.a0 10000 Vv) (bD (g.a0 10000 UL) g_))),trivial,trivial⟩,trivial⟩⟩,trivial⟩⟩⟩
theorem WA(g:nG Tryz.prog eS nW):nG Tryz.prog eS DB:=g.e0 λf l h=>(JY g).a0 f l h
end Go.Ev
