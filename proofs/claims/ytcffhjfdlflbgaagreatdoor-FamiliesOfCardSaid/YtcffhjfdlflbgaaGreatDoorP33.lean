import Derived.Test.YtcffhjfdlflbgaaGreatDoorP32
set_option linter.all false
open Int renaming ofNat->ν,toNat_of_nonneg->π
open Nat renaming beq->ξ
open List renaming not_mem_nil->ο,mem_cons->ς
set_option linter.all false
set_option maxRecDepth 100000
set_option maxHeartbeats 4000000
namespace Go.Ev
open Go Go.Proofs
variable{k a c g:Int}{x:Da}{i j n:Nat}{ea la ng lg all:Bool}{L:List It}{E:cD}{s mo da:List UInt8}
theorem aed{cfg:cL}{C:bg}{st:St}{kb:Nat}{o':aB}(hn:st.o.n<=o'.n)(hlen:o'.os.length=o'.n)(hle:o'.le=st.o.le)(hat:∀i,i<st.o.n->o'.at i=st.o.at i):Wk cfg C kb st λs=>s=⟨st.ts,st.tn,o',st.ds,st.ro⟩:=by
 intro D m a w hi ht;have g:∀id,D id->fB C o' id=fB C st.o id:=λid hd=>by
  have hlt:=hi.lt id hd;grind [fB,gB,jT]
 have inv:dX cfg D m C o' w:=by
  refine⟨λid hd=>by rw[g id hd];exact hi.a0 id hd,λi j h1 h2 h3 h4 h5=>hi.inj i j h1 h2 h3 (by grind) (by grind),λid hd=>by have:=hi.lt id hd;omega,hi.c0,λid h=>by rw[g id (hi.b0 id h).1];exact hi.b0 id h,λid h=>hi.le id (by grind),hi.lo,hlen⟩
 exact⟨_,D,m,rfl,⟨ht.b0,ht.d0,ht.c0,ht.a0,ht.e0,ht.f0⟩,rfl,rfl,inv,λD0 m0 o0 w0 ho hl he=>⟨inv,he.g0,he.a0,he.l0,Nat.le_trans he.o0 hn,he.os,he.j0,he.c0,he.i0,he.f0,by simp only[hle];exact he.m0,he.e0⟩⟩
theorem aa2{b:Nat}{ρ:List (Nat×Nat)}{p d e:Int}{l:Nat}{C:fg}(h:To b ρ i=some j):yw (kG b ρ 20) (ft k (.b i 0 l C) x p a c d e)=some (ft k (.b j 0 l C) x p a c d e):=by
 simp only[ft,yw,kG,h,ob]
theorem acY{b:Nat}{ρ:List (Nat×Nat)}{p d e:Int}:yw (kG b ρ 20) (ft k .d x p a c d e)=some (ft k .d x p a c d e):=by
 rfl
theorem agb{b:Nat}{ρ:List (Nat×Nat)}(h:To b ρ (16+i)=some (16+i)):yw (kG b ρ 20) (abl ea la L i)=some (abl ea la L i):=by
 grind [abl,acY,aa2]
theorem aa1{b:Nat}{ρ:List (Nat×Nat)}{ea la:Bool}{L:List It}:∀{n:Nat},(∀i,i<n->To b ρ (16+i)=some (16+i))->yw (kG b ρ 20) (aaf ea la L n)=some (aaf ea la L n)
 | 0,_=>rfl
 | n+1,h=>rB (aa1 λi hi=>h i (by omega)) (agb (h n (by omega)))
theorem acD{W:cD}(hw:∀x∈[W],cR 14 x){tn:Nat}{rel:List Nat}{vs vs':List AV}{k a0 a1 a2 a3 a4:Nat}{os:List cD}{t0 t1 t2 t3 t4:cD}{cs cs':List AV}(hsel:∀s∈[a0,a1,a2,a3,a4,k],1<=s/\s<n)(hnd:[a0,a1,a2,a3,a4,k].Nodup)
 (hE:os.getD (n-1) .b=E) (lE:cR 16 E) (h0:os.getD (n-1-a0) .b=t0) (h1:os.getD (n-1-a1) .b=t1) (h2:os.getD (n-1-a2) .b=t2) (h3:os.getD (n-1-a3) .b=t3) (h4:os.getD (n-1-a4) .b=t4) (l0:cR 16 t0) (l1:cR 16 t1) (l2:cR 16 t2) (l3:cR 16 t3) (l4:cR 16 t4)
 (hk:os.getD (n-1-k) .b=.a cs true (some 17)) (hc:yw (kG 16 (eM 15 1 [a0,a1,a2,a3,a4,k]) 20) cs=some cs') (hvs:yw (kG 16 (eM 15 1 [a0,a1,a2,a3,a4,k]) 20) vs=some vs'):VW cfg (Cw cfg [W]) 1 tn rel vs ⟨n,os,[]⟩ vs' ⟨7,[.a cs' true (some 17),t4,t3,t2,t1,t0,E],[]⟩:=by
 have hn:=hsel k (by simp);have at0:∀(os:List cD) (n i:Nat),(⟨n,os,[]⟩:aB).at i=os.getD (n-1-i) .b:=λos n i=>rfl;refine VW.d0 dI.lv (C:=Cw cfg [W]) (kb:=1) (sel:=[a0,a1,a2,a3,a4,k]) (B6 hw) (by grind) hsel hnd (λp hp=>by grind) rfl rfl rfl (λi hi=>?_) (λt ht=>?_) hvs
 . have:i=0:=by omega
   subst this;rw[at0,at0];refine⟨?_,?_⟩
   . simp_all
   . show cR 16 (os.getD (n-1) .b);grind
 . have:t=0\/t=1\/t=2\/t=3\/t=4\/t=5:=by grind
   rw[at0,at0];rcases this with rfl|rfl|rfl|rfl|rfl|rfl
   . refine .inl ⟨?_,?_⟩
     . grind
     . show cR 16 (os.getD (n-1-a0) .b);grind
   . refine .inl ⟨?_,?_⟩
     . grind
     . show cR 16 (os.getD (n-1-a1) .b);grind
   . refine .inl ⟨?_,?_⟩
     . show t2=os.getD (n-1-a2) .b;rw[h2]
     . show cR 16 (os.getD (n-1-a2) .b);rw[h2];exact l2
   . refine .inl ⟨?_,?_⟩
     . show t3=os.getD (n-1-a3) .b;rw[h3]
     . show cR 16 (os.getD (n-1-a3) .b);rw[h3];exact l3
   . refine .inl ⟨?_,?_⟩
     . show t4=os.getD (n-1-a4) .b;rw[h4]
     . show cR 16 (os.getD (n-1-a4) .b);rw[h4];exact l4
   . exact .inr ⟨_,_,_,_,hk,hc,rfl⟩
def ahJ(ea la:Bool)(L:List It)(E:cD):Nat->aB
 | 0=>⟨6,[.b,.b,.b,.b,.b,E],[]⟩
 | i+1=>⟨7,[.a (aaf ea la L (i+1)) true (some 17),qb ea la L (i+1) 4,qb ea la L (i+1) 3,qb ea la L (i+1) 2,qb ea la L (i+1) 1,qb ea la L (i+1) 0,E],[]⟩
def nv(ea la:Bool)(L:List It)(E:cD)(i:Nat):List cD:=[qb ea la L i 4,qb ea la L i 3,qb ea la L i 2,qb ea la L i 1,qb ea la L i 0,E]
theorem aeX:ahJ ea la L E (i+1)=⟨7,[.a (aaf ea la L (i+1)) true (some 17),qb ea la L (i+1) 4,qb ea la L (i+1) 3,qb ea la L (i+1) 2,qb ea la L (i+1) 1,qb ea la L (i+1) 0,E],[]⟩:=rfl
theorem fK{b:Nat}:cR b (qb ea la L n i):=by
 unfold qb;cases(aS i n&&aba ea la L i)
 . exact⟨rfl,λi hi=>by cases hi⟩
 . exact⟨rfl,λi hi=>by grind [aab,HL,bw,aC]⟩
theorem kH(h:i≠n):qb ea la L (n+1) i=qb ea la L n i:=by
 grind [qb,aU]
theorem abS(h:aba ea la L n=false):qb ea la L (n+1) i=qb ea la L n i:=by
 grind [qb,kH]
theorem ab8(h:aba ea la L n):qb ea la L (n+1) n=.a (aab 0 (oB (L.getD n fP)) 0 (mw (L.getD n fP))) true none:=by
 grind [qb,aU]
theorem aa5{b:Nat}:cR b .b:=⟨rfl,λi hi=>by cases hi⟩
theorem aac{b d:Int}{k:Nat}:cR k (.a (aab a b c d) true none):=⟨rfl,λi hi=>by grind [aab,HL,bw,aC]⟩
theorem ahm(h:aba ea la L i):abl ea la L i=ft 1 (.b (16+i) 0 1 (.b 1)) gL 0 0 0 0 0:=by
 grind [aba,fy,cK,ao,bF,abl]
theorem rc{top B:List cD}{k:Nat}(h:n-1-k=top.length+j):(top++B).getD (n-1-k) .b=B.getD j .b:=by
 grind
def apb(i j k:Nat):List Nat:=match i with
 | 0=>[j,2,3,4,5,k]
 | 1=>[1,j,3,4,5,k]
 | 2=>[1,2,j,4,5,k]
 | 3=>[1,2,3,j,5,k]
 | _=>[1,2,3,4,j,k]
section
variable{W:cD}(hw:∀x∈[W],cR 14 x){ea la:Bool}{L:List It}{E:cD}(lE:cR 16 E){i n:Nat}{top:List cD}{tn:Nat}{rel:List Nat}{vs vs':List AV}
include hw lE
theorem amD{k:Nat}(hn:n=6+top.length)(hk:6<=k)(hkn:k<n)(h5:i<5)(h:aba ea la L i=false)(hc:(top++nv ea la L E i).getD (n-1-k) .b=.a (aaf ea la L i++abl ea la L i) true (some 17))(hvs:yw (kG 16 (eM 15 1 [1,2,3,4,5,k]) 20) vs=some vs'):VW cfg (Cw cfg [W]) 1 tn rel vs ⟨n,top++nv ea la L E i,[]⟩ vs' (ahJ ea la L E (i+1)):=by
 rw[aeX,abS h,abS h,abS h,abS h,abS h];refine acD hw (a0:=1) (a1:=2) (a2:=3) (a3:=4) (a4:=5) (k:=k) (λs hs=>?_) ?_ ?_ lE (rc (j:=4) (by omega)) (rc (j:=3) (by omega)) (rc (j:=2) (by omega)) (rc (j:=1) (by omega)) (rc (j:=0) (by omega)) fK fK fK fK fK hc ?_ hvs
 . grind
 . grind
 . grind [nv]
 . have m:∀q,q<5->To 16 (eM 15 1 [1,2,3,4,5,k]) (16+q)=some (16+q):=λq hq=>by
    rcases(by omega:q=0\/q=1\/q=2\/q=3\/q=4)with rfl|rfl|rfl|rfl|rfl<;>rfl
   exact rB (aa1 λq hq=>m q (by omega)) (agb (m i h5))
theorem anr{k:Nat}(hn:n=6+top.length)(hk:6<=k)(hkn:k<n)(hj:6<=j)(hjn:j<n)(hjk:j≠k)(h5:i<5)(h:aba ea la L i)(hd:(top++nv ea la L E i).getD (n-1-j) .b=.a (aab 0 (oB (L.getD i fP)) 0 (mw (L.getD i fP))) true none)(hc:(top++nv ea la L E i).getD (n-1-k) .b=.a (aaf ea la L i++ft 1 (.b (15+j) 0 1 (.b 1)) gL 0 0 0 0 0) true (some 17))(hvs:yw (kG 16 (eM 15 1 (apb i j k)) 20) vs=some vs'):VW cfg (Cw cfg [W]) 1 tn rel vs ⟨n,top++nv ea la L E i,[]⟩ vs' (ahJ ea la L E (i+1)):=by
 have hE:(top++nv ea la L E i).getD (n-1) .b=E:=by
  grind [nv]
 have g4:(top++nv ea la L E i).getD (n-1-5) .b=qb ea la L i 4:=rc (j:=0) (by omega);have g3:(top++nv ea la L E i).getD (n-1-4) .b=qb ea la L i 3:=rc (j:=1) (by omega);have g2:(top++nv ea la L E i).getD (n-1-3) .b=qb ea la L i 2:=rc (j:=2) (by omega);have g1:(top++nv ea la L E i).getD (n-1-2) .b=qb ea la L i 1:=rc (j:=3) (by omega);have g0:(top++nv ea la L E i).getD (n-1-1) .b=qb ea la L i 0:=rc (j:=4) (by omega);have nl:aS (15+j) 16=false:=by grind [aU]
 have bj:∀q,q<=5->ξ (15+q) (15+j)=false:=λq hq=>b9.mpr (by omega);have jb:∀q,q<=5->ξ (15+j) (15+q)=false:=λq hq=>b9.mpr (by omega);have b1:=bj 1 (by omega);have b2:=bj 2 (by omega);have b3:=bj 3 (by omega);have b4:=bj 4 (by omega);have b5:=bj 5 (by omega);have c1:=jb 1 (by omega);have c2:=jb 2 (by omega);have c3:=jb 3 (by omega);have c4:=jb 4 (by omega);have c5:=jb 5 (by omega);have jj:ξ (15+j) (15+j)=true:=aJ.mpr rfl;have fa:=ahm h;rw[aeX];rcases(by omega:i=0\/i=1\/i=2\/i=3\/i=4)with rfl|rfl|rfl|rfl|rfl
 . rw[kH (n:=0) (i:=4) (by decide),kH (n:=0) (i:=3) (by decide),kH (n:=0) (i:=2) (by decide),kH (n:=0) (i:=1) (by decide),ab8 (n:=0) h];refine acD hw (a0:=j) (a1:=2) (a2:=3) (a3:=4) (a4:=5) (k:=k) (λs hs=>?_) ?_ hE lE hd g1 g2 g3 g4 aac fK fK fK fK hc ?_ hvs
   . grind
   . grind
   . have mj:To 16 (eM 15 1 [j,2,3,4,5,k]) (15+j)=some (16+0):=by
      grind [To,eM,xx]
     exact rB (aa1 λq hq=>absurd hq (Nat.not_lt_zero _)) (by rw[fa];exact aa2 mj)
 . rw[kH (n:=1) (i:=4) (by decide),kH (n:=1) (i:=3) (by decide),kH (n:=1) (i:=2) (by decide),ab8 (n:=1) h,kH (n:=1) (i:=0) (by decide)];refine acD hw (a0:=1) (a1:=j) (a2:=3) (a3:=4) (a4:=5) (k:=k) (λs hs=>?_) ?_ hE lE g0 hd g2 g3 g4 fK aac fK fK fK hc ?_ hvs
   . simp only[ς,ο,or_false]at hs;rcases hs with rfl|rfl|rfl|rfl|rfl|rfl<;>omega
   . simp;omega
   . have mj:To 16 (eM 15 1 [1,j,3,4,5,k]) (15+j)=some (16+1):=by
      simp only[To,eM,xx,nl,b1,b2,b3,b4,b5,jj,zAj]
     have m:∀q,q<1->To 16 (eM 15 1 [1,j,3,4,5,k]) (16+q)=some (16+q):=λq hq=>by
      rcases(by omega:q=0)with rfl<;>simp only[To,eM,xx]<;>rfl
     exact rB (aa1 m) (by rw[fa];exact aa2 mj)
 . rw[kH (n:=2) (i:=4) (by decide),kH (n:=2) (i:=3) (by decide),ab8 (n:=2) h,kH (n:=2) (i:=1) (by decide),kH (n:=2) (i:=0) (by decide)];refine acD hw (a0:=1) (a1:=2) (a2:=j) (a3:=4) (a4:=5) (k:=k) (λs hs=>?_) ?_ hE lE g0 g1 hd g3 g4 fK fK aac fK fK hc ?_ hvs
   . simp only[ς,ο,or_false]at hs;rcases hs with rfl|rfl|rfl|rfl|rfl|rfl<;>omega
   . simp;omega
   . have mj:To 16 (eM 15 1 [1,2,j,4,5,k]) (15+j)=some (16+2):=by
      simp only[To,eM,xx,nl,b1,b2,b3,b4,b5,jj,zAj]
     have m:∀q,q<2->To 16 (eM 15 1 [1,2,j,4,5,k]) (16+q)=some (16+q):=λq hq=>by
      rcases(by omega:q=0\/q=1)with rfl|rfl<;>simp only[To,eM,xx]<;>rfl
     exact rB (aa1 m) (by rw[fa];exact aa2 mj)
 . rw[kH (n:=3) (i:=4) (by decide),ab8 (n:=3) h,kH (n:=3) (i:=2) (by decide),kH (n:=3) (i:=1) (by decide),kH (n:=3) (i:=0) (by decide)];refine acD hw (a0:=1) (a1:=2) (a2:=3) (a3:=j) (a4:=5) (k:=k) (λs hs=>?_) ?_ hE lE g0 g1 g2 hd g4 fK fK fK aac fK hc ?_ hvs
   . simp only[ς,ο,or_false]at hs;rcases hs with rfl|rfl|rfl|rfl|rfl|rfl<;>omega
   . simp;omega
   . have mj:To 16 (eM 15 1 [1,2,3,j,5,k]) (15+j)=some (16+3):=by
      simp only[To,eM,xx,nl,b1,b2,b3,b4,b5,jj,zAj]
     have m:∀q,q<3->To 16 (eM 15 1 [1,2,3,j,5,k]) (16+q)=some (16+q):=λq hq=>by
      rcases(by omega:q=0\/q=1\/q=2)with rfl|rfl|rfl<;>simp only[To,eM,xx]<;>rfl
     exact rB (aa1 m) (by rw[fa];exact aa2 mj)
 . rw[ab8 (n:=4) h,kH (n:=4) (i:=3) (by decide),kH (n:=4) (i:=2) (by decide),kH (n:=4) (i:=1) (by decide),kH (n:=4) (i:=0) (by decide)];refine acD hw (a0:=1) (a1:=2) (a2:=3) (a3:=4) (a4:=j) (k:=k) (λs hs=>?_) ?_ hE lE g0 g1 g2 g3 hd fK fK fK fK aac hc ?_ hvs
   . simp only[ς,ο,or_false]at hs;rcases hs with rfl|rfl|rfl|rfl|rfl|rfl<;>omega
   . simp;omega
   . have mj:To 16 (eM 15 1 [1,2,3,4,j,k]) (15+j)=some (16+4):=by
      simp only[To,eM,xx,nl,b1,b2,b3,b4,b5,jj,zAj]
     have m:∀q,q<4->To 16 (eM 15 1 [1,2,3,4,j,k]) (16+q)=some (16+q):=λq hq=>by
      rcases(by omega:q=0\/q=1\/q=2\/q=3)with rfl|rfl|rfl|rfl<;>simp only[To,eM,xx]<;>rfl
     exact rB (aa1 m) (by rw[fa];exact aa2 mj)
end
theorem afr(h:nI 3 ea la L)(hi:i<L.length) :
 dF (L.getD i fP).f/\((L.getD i fP).r->fL (L.getD i fP).t.ng (L.getD i fP).t.lg (L.getD i fP).t.s (L.getD i fP).t.e (L.getD i fP).t.g (L.getD i fP).t.mo (L.getD i fP).t.da (L.getD i fP).t.a (L.getD i fP).t.b (L.getD i fP).t.c=true)/\
 (((ea&&ξ i 0) || (la&&ξ (i+1) L.length))->(L.getD i fP).r=false)/\
 (mf ea la L i=false->fL (L.getD i fP).f.ng (L.getD i fP).f.lg (L.getD i fP).f.s (L.getD i fP).f.e (L.getD i fP).f.g (L.getD i fP).f.mo (L.getD i fP).f.da (L.getD i fP).f.a (L.getD i fP).f.b (L.getD i fP).f.c/\aa (aR (L.getD i fP).f.mo) 0=true):=by
 have hit:=h.it i hi;have he:((ea&&ξ i 0) || (la&&ξ (i+1) L.length))->aaD (L.getD i fP)=true:=λhb=>by
  rw[Bool.or_eq_true,zAa,zAa,aJ,aJ]at hb;rcases hb with⟨h1,h2⟩|⟨h1,h2⟩
  . rw[h2];exact h.he h1
  . rw[show i=L.length-1 by omega];exact h.hl h1
 unfold mf;generalize L.getD i fP=x at *;have hv:=aeU hit;refine⟨hv,λhr=>?_,λhb=>?_,λhd=>?_⟩
 . unfold aap mB at hit;simp only[hr,zAa,cond_true]at hit;obtain⟨-,⟨v2,ho⟩,-⟩:=hit;unfold mV at ho;simp only[zAa]at ho;exact qd v2 (qc.1 ho.2.1).1
 . grind [aaD]
 . have hp:kZ x.f=true:=by
    cases hr:x.r with
    | true=>
      unfold aap mB at hit;simp only[hr,zAa,cond_true]at hit;obtain⟨-,⟨v2,ho⟩,-⟩:=hit;unfold mV at ho;rw[zAa]at ho;exact ho.1
    | false=>
      grind [aaD]
   obtain⟨p1,p2⟩:=qc.1 hp;exact⟨qd hv p1,p2⟩
theorem adr{ea la:Bool}{L:List It}:∀{n:Nat},(aaf ea la L n).length=n*17
 | 0=>rfl
 | n+1=>by
   rw[aaf,zAe,adr];have:(abl ea la L n).length=17:=by
    unfold abl;cases mf ea la L n<;>cases ab 1 (L.getD n fP).f.g<;>cases fy (L.getD n fP).f<;>rfl
   omega
theorem anP(h:ab 1 x.g):fy x=false:=by
 unfold fy cK;rw[aq]at h;rw[show aa x.g 0=false from aw.mpr (by omega),Bool.and_false]
theorem acZ{f:AV->Option AV}{P T:List AV}{v v':AV}(hP:yw f P=some P)(hv:f v=some v')(hT:yw f T=some T):yw f (P++v::T)=some (P++v'::T):=
 rB hP (by simp only[yw,hv,hT,ob])
def wU(ea la:Bool)(L:List It):Nat->Ac
 | 0=>none
 | i+1=>some (i+1,aaf ea la L (i+1))
def pE(ea la:Bool)(L:List It)(E:cD)(i:Nat):AV×aB:=w6 17 6 (nv ea la L E i) (wU ea la L i)
theorem aju{S:aQ}(hS:ak Tryz.prog cfg S){f tn xk:Nat}{rel:List Nat}(htn:aS tn 1000000)(hrel:nP tn rel)(h5:L.length<=5)(hE:cR 16 E){P:List AV}{T:AV->List AV}(hP:∀ρ,yw (kG 16 ρ 20) P=some P)(hT:∀ρ e,yw (kG 16 ρ 20) (T (.a .i64 e))=some (T (.a .i64 e)))
 (hr:∀i,i<=L.length->∀J (Q:VQ->Prop),(∀c B,i<L.length->(aba ea la L i=false->c=abl ea la L i/\B=[])->(aba ea la L i->c=ft 1 (.b (16+(pE ea la L E i).2.n) 0 1 (.b 1)) gL 0 0 0 0 0/\B=[.a (aab 0 (oB (L.getD i fP)) 0 (mw (L.getD i fP))) true none])->∀x,Q (.a,P++(ij 17 c (B++[x]) (pE ea la L E i)).1::T (iX i),(ij 17 c (B++[x]) (pE ea la L E i)).2))->(i=L.length->Q (.b xk,P++(pE ea la L E i).1::T (iV i),(pE ea la L E i).2))->(rT S jE [.a (dp L) false none] f 0 tn rel (P++(pE ea la L E i).1::T (iV i)) J (pE ea la L E i).2).wp Q)
 {Q:VQ->Prop} (hq:Q (.b xk,P++(pE ea la L E L.length).1::T (iV L.length),(pE ea la L E L.length).2)) (J:Nat->Value):bN Tryz.prog (cH cfg S) (Cw cfg [.a (dp L) false none]) (.loop (lb f 0)) (tr tn rel (P++.d::T (.a .i64 0)) J ⟨1,[E],[]⟩) λr=>∃ax vs' o' J',Q (ax,vs',o')/\r=(ax,tr tn rel vs' J' o'):=by
 refine ia hS htn hrel ai (ι:={i:Nat // i<=L.length}) (λx=>P++(pE ea la L E x.1).1::T (iV x.1)) (λx=>(pE ea la L E x.1).2) (λx=>L.length-x.1) 1 (λx=>Nat.le_trans (by decide) afz) (λx J=>?_) (Nat.le_refl _) (λJ=>?_) J
 . obtain⟨i,hi⟩:=x;refine eD λQ' hQ=>hr i hi J Q' (λc B hl h0 h1 x=>hQ _ ⟨⟨i+1,hl⟩,by dsimp only;omega,?_⟩) λh=>?_
   . cases h:aba ea la L i with
     | false=>
       obtain⟨rfl,rfl⟩:=h0 h;cases i with
       | zero=>exact amD (n:=9) (top:=[_,_,_]) ir hE (k:=8) rfl (by decide) (by decide) (by omega) h rfl (acZ (hP _) rfl (hT _ _))
       | succ i=>exact amD (n:=10) (top:=[_,_,_,_]) ir hE (k:=9) rfl (by decide) (by decide) (by omega) h rfl (acZ (hP _) rfl (hT _ _))
     | true=>
       obtain⟨rfl,rfl⟩:=h1 h;cases i with
       | zero=>exact anr (n:=10) (top:=[_,_,_,_]) ir hE (j:=7) (k:=9) rfl (by decide) (by decide) (by decide) (by decide) (by decide) (by omega) h rfl rfl (acZ (hP _) rfl (hT _ _))
       | succ i=>exact anr (n:=11) (top:=[_,_,_,_,_]) ir hE (j:=8) (k:=10) rfl (by decide) (by decide) (by decide) (by decide) (by decide) (by omega) h rfl rfl (acZ (hP _) (by rcases(by omega:i=0\/i=1\/i=2\/i=3)with rfl|rfl|rfl|rfl<;>rfl) (hT _ _))
   . subst h;exact hQ _ ⟨_,_,VW.a0,hq⟩
 . refine Wk.b0 (aed (o':=(pE ea la L E 0).2) (by show 1<=6;decide) rfl rfl λi hi=>?_) λs hs=>⟨⟨0,Nat.zero_le _⟩,J,hs⟩;have:i=0:=by change i<1 at hi;omega
   subst this;rfl
def rp:Nat->Bool->Bool->Prop->Prop
 | 0,_,_,X=>X
 | k+1,b,v,X=>b=v/\rp k b v X
def vZ(k l:Nat)(b:Bool)(X Y:Prop):Prop:=fk b (rp k b true X) (rp l b false Y)
def eT:Bool->(Prop->Prop->Prop)->Prop->Prop->Prop
 | true,F,X,Y=>F X Y
 | false,_,X,_=>X
def tW(x:It)(m:Nat)(lf:List AV->List cD->Prop):Prop:=dF x.f/\fk (ab 1 x.f.g) (lf (ft 3 .d gL 1 0 (bf (jI x.f.ng x.f.s x.f.e x.f.g)) 0 (bf (jL x.f.ng x.f.s x.f.e x.f.g+1)-1)) []) (fk (fy x.f) (lf (ft 1 (.b m 0 1 (.b 1)) gL 0 0 0 0 0) [.a (aab 0 (oB x) 0 (bq x.f.ng x.f.s x.f.e x.f.mo x.f.da)) true none]) (lf (ft 2 .d ⟨x.f.ng,x.f.lg,x.f.s,x.f.e,0,x.f.mo,x.f.da,0,0,0⟩ 0 0 0 0 0) []))
theorem ajt{m:Nat}{lf:List AV->List cD->Prop}(hv:dF (L.getD i fP).f)(hd:mf ea la L i)(h:∀c B,(aba ea la L i=false->c=abl ea la L i/\B=[])->(aba ea la L i->c=ft 1 (.b m 0 1 (.b 1)) gL 0 0 0 0 0/\B=[.a (aab 0 (oB (L.getD i fP)) 0 (mw (L.getD i fP))) true none])->lf c B):tW (L.getD i fP) m lf:=by
 have hr:(L.getD i fP).r=false:=by
  unfold mf at hd;grind
 refine⟨hv,λhg=>h _ _ ?_ ?_,λhg=>⟨λhn=>h _ _ ?_ ?_,λhn=>h _ _ ?_ ?_⟩⟩<;>unfold aba<;>rw[hd]
 . intro _;unfold abl;rw[hd,hg];exact⟨rfl,rfl⟩
 . rw[anP hg];nofun
 . rw[hn];nofun
 . unfold mw;rw[hr];exact λ_=>⟨rfl,rfl⟩
 . intro _;unfold abl;rw[hd,hg,hn];exact⟨rfl,rfl⟩
 . rw[hn];nofun
def cU(x:It)(r:Rn):List AV:=ft 3 .d gL (dq x.f.mo x.f.da) r.a r.b r.c r.d
theorem afv{P:Prop}(hd:mf ea la L i=false):(aba ea la L i=false->cU (L.getD i fP) (W2 ea la L i)=abl ea la L i/\([]:List cD)=[])/\(aba ea la L i->P):=by
 unfold aba abl;rw[hd];exact⟨λ_=>⟨rfl,rfl⟩,nofun⟩
theorem adV{X:Prop}(h:i<=5)(hX:X):nk 17 (wU ea la L i) X:=by
 cases i with
 | zero=>exact hX
 | succ i=>exact⟨by simp[al];omega,aJ.mpr adr,hX⟩
theorem ah9(h:nI 3 ea la L)(hi:i<L.length)(hd:mf ea la L i=false):gN (L.getD i fP).f/\aa (aR (L.getD i fP).f.mo) 0/\nD (L.getD i fP)=true:=by
 obtain⟨-,h1,-,h2⟩:=afr h hi;obtain⟨h3,h4⟩:=h2 hd;refine⟨h3,h4,?_⟩;unfold nD gN;rw[h3];cases hr:(L.getD i fP).r
 . rfl
 . rw[h1 hr];rfl
theorem amA{r i0 il:Bool}{U W:Prop}(hU:(!r&&(!(ea&&i0)&&!(la&&il)))=false->U)(hW:(!r&&(!(ea&&i0)&&!(la&&il)))->W):vZ 2 2 (not r) (eT ea (vZ 2 2 (not i0)) (eT la (fk (not il)) W U) U) U:=by
 cases r<;>cases ea<;>cases la<;>cases i0<;>cases il<;>simp_all [vZ,fk,rp,eT]
def tU(n i:Nat)(ea la:Bool)(x:It)(lf:List AV->List cD->Prop):Prop:=nE [gN x.f,aa (aR x.f.mo) 0,nD x] (lf (cU x (kW (ea&&aa (ν i) 0) (la&&aa (ν i) (Int.sub (ν n) 1)) x)) [])
def Lg(w:List AV)(n i m:Nat)(ea la:Bool)(lf:List AV->List cD->Prop):Prop:=aS i n/\nE (tg (wF w i)) (sh la n (vZ 2 2 (not (jQ (wF w i)).r) (eT ea (vZ 2 2 (not (aa (ν i) 0))) (eT la (fk (not (aa (ν i) (Int.sub (ν n) 1)))) (tW (jQ (wF w i)) m lf) (tU n i ea la (jQ (wF w i)) lf)) (tU n i ea la (jQ (wF w i)) lf)) (tU n i ea la (jQ (wF w i)) lf)))
theorem rO(w:List AV)(s0 s1 s2 s3 s4:cD)(n i:Nat)(K K1:fg)(J:Nat->Value){Q:VQ->Prop}:∀(ac:Ac) (ea la:Bool),∃D,gG Q (rT TQ jE [.a w false none] 7 0 103 [1,2,3,5,6,34,35,36] [.h 15 0,.d,.a .i64 0,(w6 17 6 [s4,s3,s2,s1,s0,ie 3 n K1 ea la] ac).1,.d,.b 14 0 n K,iV n,iV i] J (w6 17 6 [s4,s3,s2,s1,s0,ie 3 n K1 ea la] ac).2) D=ba n i (Lg w n i (16+(w6 17 6 [s4,s3,s2,s1,s0,ie 3 n K1 ea la] ac).2.n) ea la λc D=>nk 17 ac (nR i (Q (.a,[.h 15 0,.d,.a .i64 0,(ij 17 c (D++[.a (dp [jQ (wF w i)]) true none]) (w6 17 6 [s4,s3,s2,s1,s0,ie 3 n K1 ea la] ac)).1,.d,.b 14 0 n K,iV n,iX i],(ij 17 c (D++[.a (dp [jQ (wF w i)]) true none]) (w6 17 6 [s4,s3,s2,s1,s0,ie 3 n K1 ea la] ac)).2)))) (Q (.b 1,[.h 15 0,.d,.a .i64 0,(w6 17 6 [s4,s3,s2,s1,s0,ie 3 n K1 ea la] ac).1,.d,.b 14 0 n K,iV n,iV i],(w6 17 6 [s4,s3,s2,s1,s0,ie 3 n K1 ea la] ac).2))
 | none,true,true=>⟨bE 11205256622005633120525662200063312052566220061205120541205420064224224052000666662777777704,by kernel_rfl⟩
 | none,true,false=>⟨bE 11205256622005633120525662200063312051205412054200062242240005666662777777704,by kernel_rfl⟩
 | none,false,true=>⟨bE 1120525662200563312052566220061205120541205420064000224052000666662777777704,by kernel_rfl⟩
 | none,false,false=>⟨bE 1120525662200563312051205412054200562240005666662777777704,by kernel_rfl⟩
 | some (m,cs),true,true=>⟨bE 11225202566220056331225202566220006331225202566220061225201225204122520420064224224052000666662777777704,by kernel_rfl⟩
 | some (m,cs),true,false=>⟨bE 112252025662200563312252025662200063312252012252041225204200062242240005666662777777704,by kernel_rfl⟩
 | some (m,cs),false,true=>⟨bE 11225202566220056331225202566220061225201225204122520420064000224052000666662777777704,by kernel_rfl⟩
 | some (m,cs),false,false=>⟨bE 112252025662200563312252012252041225204200562240005666662777777704,by kernel_rfl⟩
theorem aog(h:nI 3 ea la L)(h5:L.length<=5):cu Tryz.prog (cH cfg TQ) (Cw cfg [.a (dp L) false none]) (lb 7 0) 103 [1,2,3,5,6,34,35,36] (D9 L ea la):=by
 intro vs o t Q hv hq J;unfold D9 at hv;split at hv
 . obtain⟨k1,m,K1,ea1,la1,rfl,rfl⟩:=aec hv;replace hq:=cO hq;obtain⟨⟨h1,h2,h3,h4,h5',h6,h7,h8,-⟩,hq⟩:=hq;rw[aJ]at h1 h2;rw[ao]at h3 h4 h5' h6;replace h7:=yl h7;replace h8:=yl h8;subst h1 h2 h3 h4 h5' h6 h7 h8;refine aju aj0 rfl rfl (ea:=ea1) (la:=la1) h5 (abX (by decide)) (P:=[_,_,_]) (T:=λe=>[_,_,_,e]) (λ_=>rfl) (λ_ _=>rfl) (λi hi J Q hX hE=>?_) (by obtain⟨m,hm⟩:∃m,L.length=m+1:=⟨L.length-1,by have:=h.n1;omega⟩;rw[hm]at hq ⊢;exact hq) J;obtain⟨D,hD⟩:=@rO (dp L) (qb ea1 la1 L i 0) (qb ea1 la1 L i 1) (qb ea1 la1 L i 2) (qb ea1 la1 L i 3) (qb ea1 la1 L i 4) L.length i _ K1 J Q (wU ea1 la1 L i) ea1 la1;refine cg (hD.mpr (abi hi (λhl=>?_) hE));obtain⟨k1,k2⟩:=afB hl;unfold Lg tU;rw[k2,show aa (ν i) (Int.sub (ν L.length) 1)=ξ (i+1) L.length by grind [aJ,ao]];refine⟨aU.2 hl,mz (aeY (by omega) (amA (λhd=>?_) λhd=>?_)) k1⟩
   . obtain⟨u1,u2,u3⟩:=ah9 h hl hd;exact mz (adV (by omega) (aaH hl (by omega) (hX _ [] hl (afv (P:=True) hd).1 (afv hd).2 _))) (bs:=[_,_,_]) ⟨u1,u2,u3,trivial⟩
   . exact ajt (afr h hl).1 hd λc B h0 h1=>adV (by omega) (aaH hl (by omega) (hX c B hl h0 h1 _))
 . cases hv
structure Dp where
 f:Int
 ng:Bool
 n:Int
 z0:Int
 z1:Int
 m:Int
 d:Int
 x:Int
 y:Int
 z:Int
def Dp.cs(D:Dp):List AV:=[.a .u8 D.f,.e D.ng,.a .u16 D.n,.a .u8 D.z0,.a .u8 D.z1,.a .u8 D.m,.a .u8 D.d,.a .u8 D.x,.a .u8 D.y,.a .u8 D.z]
def Dp.ok(D:Dp):Bool:=af .u8 D.f&&(af .u16 D.n&&(af .u8 D.z0&&(af .u8 D.z1&&(af .u8 D.m&&(af .u8 D.d&&(af .u8 D.x&&(af .u8 D.y&&af .u8 D.z)))))))
def Dp.o(D:Dp):Da:=⟨qV D.f D.ng D.n D.z0 D.z1,sY D.f,gw D.f D.n D.z0 D.z1,kQ D.f D.z1,dr D.f D.n D.z0 D.z1,jZ D.f D.n D.z0 D.z1 D.m,nY D.f D.n D.z0 D.z1 D.m D.d,Em (dq (jZ D.f D.n D.z0 D.z1 D.m) (nY D.f D.n D.z0 D.z1 D.m D.d)) 0 D.x,Em (dq (jZ D.f D.n D.z0 D.z1 D.m) (nY D.f D.n D.z0 D.z1 D.m D.d)) 1 D.y,Em (dq (jZ D.f D.n D.z0 D.z1 D.m) (nY D.f D.n D.z0 D.z1 D.m D.d)) 2 D.z⟩
def Wc(f:Int):Int:=bif aa (f%6) 3 || aa (f%6) 4 then 0 else f
def je(m:Int):Int:=bif ab (m%40) 33 then m else m%40-33
def j9(d:Int):Int:=bif ab (d%40) 31 then d else d%40/2
def rf(m:Int):Int:=bif ab (m%40) 12 then m else m%40%12+1
def Dp.e(D:Dp):Da:=⟨(Dp.o ⟨Wc D.f,D.ng,D.n,D.z0,D.z1,je D.m,j9 D.d,D.x,D.y,D.z⟩).ng,(Dp.o ⟨Wc D.f,D.ng,D.n,D.z0,D.z1,je D.m,j9 D.d,D.x,D.y,D.z⟩).lg,(Dp.o ⟨Wc D.f,D.ng,D.n,D.z0,D.z1,je D.m,j9 D.d,D.x,D.y,D.z⟩).s,(Dp.o ⟨Wc D.f,D.ng,D.n,D.z0,D.z1,je D.m,j9 D.d,D.x,D.y,D.z⟩).e,0,(Dp.o ⟨Wc D.f,D.ng,D.n,D.z0,D.z1,je D.m,j9 D.d,D.x,D.y,D.z⟩).mo,(Dp.o ⟨Wc D.f,D.ng,D.n,D.z0,D.z1,je D.m,j9 D.d,D.x,D.y,D.z⟩).da,(Dp.o ⟨Wc D.f,D.ng,D.n,D.z0,D.z1,je D.m,j9 D.d,D.x,D.y,D.z⟩).a,(Dp.o ⟨Wc D.f,D.ng,D.n,D.z0,D.z1,je D.m,j9 D.d,D.x,D.y,D.z⟩).b,(Dp.o ⟨Wc D.f,D.ng,D.n,D.z0,D.z1,je D.m,j9 D.d,D.x,D.y,D.z⟩).c⟩
def Dp.p(D:Dp):Da:=Dp.e ⟨D.f,D.ng,D.n,D.z0,D.z1,rf D.m,D.d,D.x,D.y,D.z⟩
theorem Dp.a0{D:Dp}:D.ok=true↔(0<=D.f/\D.f<=255)/\(0<=D.n/\D.n<=65535)/\(0<=D.z0/\D.z0<=255)/\(0<=D.z1/\D.z1<=255)/\(0<=D.m/\D.m<=255)/\(0<=D.d/\D.d<=255)/\(0<=D.x/\D.x<=255)/\(0<=D.y/\D.y<=255)/\(0<=D.z/\D.z<=255):=by
 grind [Dp.ok,aE,eH,eE]
theorem ami(h1:1<=c)(h3:c<=3)(x y z:Int):errMk (Em c 0 x) (Em c 1 y) (Em c 2 z) c=0:=by
 have g:∀i v:Int,Em c i v=if c<=i then 0 else v%4:=λi v=>by
  unfold Em;by_cases h:c<=i
  . rw[aq.mpr h,if_pos h];rfl
  . rw[bF.mpr (by omega),if_neg h];rfl
 grind [errMk]
theorem comps_bd(mo da:List UInt8):1<=dq mo da/\dq mo da<=3:=by grind [dq]
theorem Dp.e0{D:Dp}(h:D.ok):bW D.o.ng D.o.lg D.o.s D.o.e D.o.g D.o.mo D.o.da D.o.a D.o.b D.o.c=0:=by
 obtain⟨-,-,h1,h2,-⟩:=Dp.a0.1 h;obtain⟨c1,c2⟩:=comps_bd (jZ D.f D.n D.z0 D.z1 D.m) (nY D.f D.n D.z0 D.z1 D.m D.d);exact QB h1 h2 (ami c1 c2 _ _ _)
theorem acn{i x:Int}:af .u8 (Em c i x)=true:=by
 grind [aE,eH,eE,Em]
theorem Dp.d0{D:Dp}(h:D.ok):D.o.s.length<=1000/\af .i64 D.o.e/\af .i64 D.o.g=true:=by
 obtain⟨-,-,h1,h2,-⟩:=Dp.a0.1 h;rw[aE,aE];simp only[eH,eE];rcases @n7 D.f D.n D.z0 D.z1 h1 h2 with⟨a1,a2,a3,a4,a5,a6,a7⟩|⟨a1,a2,a3,a4,a5,a6,a7,a8,a9,a10⟩
 . show(gw D.f D.n D.z0 D.z1).length<=1000/\(_<=kQ D.f D.z1/\kQ D.f D.z1<=_)/\(_<=dr D.f D.n D.z0 D.z1/\dr D.f D.n D.z0 D.z1<=_);omega
 . show(gw D.f D.n D.z0 D.z1).length<=1000/\(_<=kQ D.f D.z1/\kQ D.f D.z1<=_)/\(_<=dr D.f D.n D.z0 D.z1/\dr D.f D.n D.z0 D.z1<=_);omega
theorem agY{e:Int}{b:Int}(h1:s.length<=1000)(h2:af .i64 e)(h3:af .i64 g)(h4:af .u8 a)(h5:af .u8 b)(h6:af .u8 c)(h7:bW ng lg s e g mo da a b c=0):wa ng lg s e g mo da a b c=true:=by
 unfold wa;rw[al.mpr h1,h2,h3,h4,h5,h6,ao.mpr h7];rfl
theorem Dp.va{D:Dp}(h:D.ok):dF D.o=true:=by
 obtain⟨l1,l2,l3⟩:=Dp.d0 h;exact agY l1 l2 l3 acn acn acn (Dp.e0 h)
theorem afO{e:Int}{b:Int}(h:bW ng lg s e g mo da a b c=0):bW ng lg s e 0 mo da a b c=0:=by
 have hd:=Cc h;have key:oc ng lg s e g mo->oc ng lg s e 0 mo=true:=λk=>by
  grind [oc,aV]
 grind [nH,bW]
theorem aaP{t:List UInt8}:eA (s++t)=(eA s || eA t):=by
 grind [eA,b9,Dj]
def ajT(k:Nat):Bool:=!(eA (Av (ν k)))&&(Nat.ble 13 k || aa (aR (Av (ν k))) 0)
theorem agC:(List.range 34).all ajT=true:=by rfl
theorem agD:(List.range 34).all (λk=>(List.range 32).all λj=>!(eA (Gt (ν j) (Av (ν k)))))=true:=by rfl
theorem akA(h:0<=k/\k<=33):eA (Av k)=false/\(k<=12->aR (Av k)=0):=by
 obtain⟨i,rfl⟩:∃i:Nat,k=ν i:=⟨k.toNat,(π h.1).symm⟩;have hi:i<34:=by grind
 have c:=List.all_eq_true.1 agC i (List.mem_range.2 hi);grind [ajT,al,ao]
theorem ahd{j:Int}(h:0<=k/\k<=33)(hj:0<=j/\j<=31):eA (Gt j (Av k))=false:=by
 obtain⟨i,rfl⟩:∃i:Nat,k=ν i:=⟨k.toNat,(π h.1).symm⟩;obtain⟨l,rfl⟩:∃l:Nat,j=ν l:=⟨j.toNat,(π hj.1).symm⟩;have e1:ν i=(i:Int):=rfl;have e2:ν l=(l:Int):=rfl;have c:=List.all_eq_true.1 (List.all_eq_true.1 agD i (List.mem_range.2 (by omega))) l (List.mem_range.2 (by omega));grind
theorem Dp.f0{f:Int}{ng:Bool}{n z0 z1 m d x y z:Int}(hz0:0<=z0/\z0<=255)(hz1:0<=z1/\z1<=255)(hf:f%6≠3)(hm:m%40<=33)(hd:d%40<=31):eA (gw f n z0 z1++jZ f n z0 z1 m++nY f n z0 z1 m d)=false/\(m%40<=12->aR (jZ f n z0 z1 m)=0):=by
 have b1:0<=m%40:=by omega
 have b2:0<=d%40:=by omega
 obtain⟨m1,m2⟩:=akA ⟨b1,hm⟩;have hs:eA (gw f n z0 z1)=false:=by
  unfold eA;rw[Bool.not_eq_false',aJ];rcases @n7 f n z0 z1 hz0 hz1 with⟨a1,a2,a3,a4,a5,a6,a7⟩|⟨a1,a2,a3,a4,a5,a6,a7,a8,a9,a10⟩
  . have e5:aa (f%6) 5=false:=a1;have e3:aa (f%6) 3=false:=aw.mpr hf;grind [gw,G8,B9]
  . exact B9 a2
 have hmo:eA (jZ f n z0 z1 m)=false/\(m%40<=12->aR (jZ f n z0 z1 m)=0):=by
  unfold jZ;cases aa (dr f n z0 z1) 0 with
  | true=>grind
  | false=>exact⟨rfl,λ_=>rfl⟩
 have hda:eA (nY f n z0 z1 m d)=false:=by
  unfold nY;cases hb:(!(ae (jZ f n z0 z1 m) [])&&aa (aR (jZ f n z0 z1 m)) 0)with
  | false=>rfl
  | true=>
    rw[cond_true];unfold jZ;cases aa (dr f n z0 z1) 0 with
    | true=>exact ahd ⟨b1,hm⟩ ⟨b2,hd⟩
    | false=>exact ahd (k:=0) (by decide) ⟨b2,hd⟩
 rw[aaP,aaP,hs,hmo.1,hda];exact⟨rfl,hmo.2⟩
theorem ald{f m d:Int}(hm:0<=m)(hd:0<=d):Wc f%6≠3/\je m%40<=33/\j9 d%40<=31/\(m%40<=12->je m%40<=12):=by
 grind [Wc,aw,je,bF,j9]
theorem agV{f m d:Int}(hf:0<=f/\f<=255)(hm:0<=m/\m<=255)(hd:0<=d/\d<=255):(0<=Wc f/\Wc f<=255)/\(0<=je m/\je m<=255)/\(0<=j9 d/\j9 d<=255)/\(0<=rf m/\rf m<=255)/\rf m%40<=12:=by
 grind [Wc,je,j9,rf,aq]
theorem Dp.c0{D:Dp}(h:D.ok):Dp.ok ⟨Wc D.f,D.ng,D.n,D.z0,D.z1,je D.m,j9 D.d,D.x,D.y,D.z⟩=true:=by
 grind [Dp.a0,agV]
theorem Dp.b0{D:Dp}(h:D.ok):Dp.ok ⟨D.f,D.ng,D.n,D.z0,D.z1,rf D.m,D.d,D.x,D.y,D.z⟩=true:=by
 obtain⟨h1,h2,h3,h4,h5,h6,h7,h8,h9⟩:=Dp.a0.1 h;obtain⟨-,-,-,e4,-⟩:=agV h1 h5 h6;grind [Dp.a0]
theorem Dp.ex{D:Dp}(h:D.ok):dF D.e/\fy D.e/\(D.m%40<=12->kZ D.e=true):=by
 obtain⟨h1,h2,h3,h4,h5,h6,h7,h8,h9⟩:=Dp.a0.1 h;obtain⟨b1,b2,b3,b4⟩:=ald (f:=D.f) h5.1 h6.1;obtain⟨l1,l2,l3⟩:=Dp.d0 (Dp.c0 h);have nx:=@Dp.f0 (Wc D.f) D.ng D.n D.z0 D.z1 (je D.m) (j9 D.d) D.x D.y D.z h3 h4 b1 b2 b3;have n0:fy D.e=true:=by
  unfold fy cK;rw[zAa,Bool.not_eq_true'];exact⟨nx.1,rfl⟩
 refine⟨agY l1 l2 rfl acn acn acn (afO (Dp.e0 (Dp.c0 h))),n0,λhm=>?_⟩;unfold kZ;exact qc.2 ⟨n0,ao.mpr (nx.2 (b4 hm))⟩
theorem Dp.pl{D:Dp}(h:D.ok):dF D.p/\fy D.p/\kZ D.p=true:=by
 obtain⟨h1,h2,h3,h4,h5,h6,h7,h8,h9⟩:=Dp.a0.1 h;obtain⟨-,-,-,-,e4⟩:=agV h1 h5 h6;obtain⟨a,b,c⟩:=Dp.ex (Dp.b0 h);exact⟨a,b,c e4⟩
theorem agi(h:ae mo []):dq mo da=1+(bif ae da []then 0 else 1):=by grind [dq]
theorem agq{e:Int}{b:Int}(hb:0<=b)(h:nH ng lg s e g mo da a b c=0):nH ng lg s e g mo [] a b 0=0:=by
 grind [nH,ae,dq,errMk]
theorem agl{e:Int}{b:Int}(h:nH ng lg s e g mo da a b c=0):nH ng lg s e g [] [] a 0 0=0:=by
 have hk:=(acz h).2;have hk':oc ng lg s e g []=true:=by
  unfold oc at hk ⊢;rw[zAc]at hk ⊢;exact⟨hk.1,λq=>absurd q.2 (by decide),.inl (by decide)⟩
 grind [nH,ae,errMk,dq]
def acC(x:Da)(n:Int):Da:=⟨x.ng,x.lg,x.s,x.e,x.g,bif ab 2 n then x.mo else[],bif ab 3 n then x.da else[],x.a,bif ab 2 n then x.b else 0,bif ab 3 n then x.c else 0⟩
theorem SA{e:Int}{b:Int}:wa ng lg s e g mo da a b c=true↔s.length<=1000/\af .i64 e/\af .i64 g/\af .u8 a/\af .u8 b/\af .u8 c/\bW ng lg s e g mo da a b c=0:=by
 grind [wa,al,ao]
theorem aeP{e:Int}{b:Int}(h:nH ng lg s e g mo [] a b c=0):bW ng lg s e g mo [] a b c=0:=by
 unfold bW;rw[h];rfl
theorem ahb{n:Int}(h1:1<=n)(hn:n<=dq x.mo x.da)(hv:dF x)(hp:kZ x):dF (acC x n)/\kZ (acC x n)/\dq (acC x n).mo (acC x n).da=n:=by
 obtain⟨ng,lg,s,e,g,mo,da,a,b,c⟩:=x;have hv:wa ng lg s e g mo da a b c=true:=hv;have hp:eX s g mo da=true:=hp;have hn:n<=dq mo da:=hn;obtain⟨v1,v2,v3,v4,v5,v6,v7⟩:=SA.1 hv;obtain⟨p1,p2⟩:=qc.1 hp;have q1:=p1;unfold cK at q1;rw[zAa,Bool.not_eq_true',aaP,aaP,Bool.or_eq_false_iff,Bool.or_eq_false_iff]at q1;obtain⟨⟨⟨x1,x2⟩,x3⟩,x4⟩:=q1;have hd:=Cc v7;have hb0:0<=b:=by rw[aE]at v5;exact v5.1
 have z0:af .u8 0=true:=by decide
 have c3:=comps_bd mo da;have no:∀m d:List UInt8,eA m=false->eA d=false->cK s g m d=true:=λm d k1 k2=>by
  grind [cK,aaP]
 unfold acC;show wa ng lg s e g (bif ab 2 n then mo else[]) (bif ab 3 n then da else[]) a (bif ab 2 n then b else 0) (bif ab 3 n then c else 0)/\eX s g (bif ab 2 n then mo else[]) (bif ab 3 n then da else[])/\dq (bif ab 2 n then mo else[]) (bif ab 3 n then da else[])=n;have hs0:aR []=0:=rfl;rcases(by omega:n=1\/n=2\/n=3)with rfl|rfl|rfl
 . rw[show ab 2 1=false from rfl,show ab 3 1=false from rfl];simp only[cond_false];exact⟨SA.2 ⟨v1,v2,v3,v4,z0,z0,aeP (agl hd)⟩,qc.2 ⟨no _ _ rfl rfl,rfl⟩,rfl⟩
 . rw[show ab 2 2=true from rfl,show ab 3 2=false from rfl];simp only[zAj];refine⟨SA.2 ⟨v1,v2,v3,v4,v5,z0,aeP (agq hb0 hd)⟩,qc.2 ⟨no _ _ x2 rfl,p2⟩,?_⟩;have hm:ae mo []=false:=by
    rw[<-Bool.not_eq_true];intro k;obtain⟨_,_,_,_,hda⟩:=dC hd dE;grind [agi]
   unfold dq;rw[hm];rfl
 . rw[show ab 2 3=true from rfl,show ab 3 3=true from rfl];grind
structure Ip where
 D:Dp
 r:Int
 T:Dp
def Ip.ok(x:Ip):Bool:=x.D.ok&&(af .u8 x.r&&x.T.ok)
def Ip.cs(x:Ip):List AV:=x.D.cs++.a .u8 x.r::x.T.cs
def eP:List Ip->List AV
 | []=>[]
 | x::xs=>x.cs++eP xs
def qk(x:Ip):Int:=gY (dq x.D.p.mo x.D.p.da) (dq x.T.p.mo x.T.p.da)
def pV(x:Ip):Da:=acC x.D.p (qk x)
def p_(x:Ip):Da:=acC x.T.p (qk x)
def kD(y:Da):Int:=aP y.ng y.s y.e y.mo y.da
def abu(all:Bool)(x:Ip):It:=bif aa (x.r%2) 1 then(bif ab (kD (pV x)) (kD (p_ x))then⟨pV x,true,p_ x⟩else⟨p_ x,true,pV x⟩)else bif all then⟨x.D.e,false,gL⟩else⟨x.D.o,false,gL⟩
theorem ajw{x:Ip}(h:x.ok):(dF (pV x)/\kZ (pV x)=true)/\(dF (p_ x)/\kZ (p_ x)=true)/\dq (pV x).mo (pV x).da=dq (p_ x).mo (p_ x).da:=by
 unfold Ip.ok at h;simp only[zAa]at h;obtain⟨h1,h2,h3⟩:=h;obtain⟨a1,a2,a3⟩:=Dp.pl h1;obtain⟨b1,b2,b3⟩:=Dp.pl h3;have c1:=comps_bd x.D.p.mo x.D.p.da;have c2:=comps_bd x.T.p.mo x.T.p.da;have hm:1<=qk x/\qk x<=dq x.D.p.mo x.D.p.da/\qk x<=dq x.T.p.mo x.T.p.da:=by
  grind [qk,gY,bF]
 obtain⟨p1,p2,p3⟩:=ahb hm.1 hm.2.1 a1 a3;obtain⟨q1,q2,q3⟩:=ahb hm.1 hm.2.2 b1 b3;exact⟨⟨p1,p2⟩,⟨q1,q2⟩,p3.trans q3.symm⟩
theorem anm{y:Da}(hx:kZ x)(hy:kZ y)(hc:dq x.mo x.da=dq y.mo y.da)(hl:ab (kD x) (kD y)):mV x.s x.ng x.e x.g x.mo x.da y.s y.ng y.e y.g y.mo y.da=true:=by
 unfold mV;rw[show eX x.s x.g x.mo x.da=true from hx,show eX y.s y.g y.mo y.da=true from hy,ao.mpr hc,show ab (aP x.ng x.s x.e x.mo x.da) (aP y.ng y.s y.e y.mo y.da)=true from hl];rfl
theorem afE:dZ gL.ng gL.lg gL.s gL.e gL.g gL.mo gL.da gL.a gL.b gL.c=true:=by decide
theorem ak7(hk:k=bif all then 4 else 3){x:Ip}(h:x.ok):aap k (abu all x)=true:=by
 obtain⟨⟨a1,a2⟩,⟨b1,b2⟩,hc⟩:=ajw h;have ha:=(qc.1 (show eX _ _ _ _=true from a2)).1;have hb:=(qc.1 (show eX _ _ _ _=true from b2)).1;unfold Ip.ok at h;simp only[zAa]at h;obtain⟨h1,h2,h3⟩:=h;unfold abu;cases hr:aa (x.r%2) 1 with
 | true=>
   grind [aap,mB,anm,fy,aq]
 | false=>
   simp only[cond_false];cases all with
   | true=>
     grind [Dp.ex,aap,mB,afE]
   | false=>
     simp only[cond_false]at hk ⊢;subst hk;unfold aap mB;dsimp only;rw[Dp.va h1,afE];rfl
theorem ahj{D:Dp}(h:D.ok):aaD ⟨D.p,false,gL⟩=true/\∀k,aap k ⟨D.p,false,gL⟩=true:=by
 grind [Dp.pl,aaD,aap,mB,afE]
def adz(all ea la:Bool)(G:List Ip):List It:=(List.range G.length).map λi=>bif (ea&&ξ i 0) || (la&&ξ (i+1) G.length)then⟨(G.getD i ⟨⟨0,false,0,0,0,0,0,0,0,0⟩,0,⟨0,false,0,0,0,0,0,0,0,0⟩⟩).D.p,false,gL⟩else abu all (G.getD i ⟨⟨0,false,0,0,0,0,0,0,0,0⟩,0,⟨0,false,0,0,0,0,0,0,0,0⟩⟩)
theorem FP{G:List Ip}:(adz all ea la G).length=G.length:=by unfold adz;simp
def qe:Ip:=⟨⟨0,false,0,0,0,0,0,0,0,0⟩,0,⟨0,false,0,0,0,0,0,0,0,0⟩⟩
theorem acW{all ea la:Bool}{G:List Ip}{i:Nat}(h:i<G.length):(adz all ea la G).getD i fP=bif (ea&&ξ i 0) || (la&&ξ (i+1) G.length)then⟨(G.getD i qe).D.p,false,gL⟩else abu all (G.getD i qe):=by
 grind [adz]
theorem aiM{G:List Ip}(h1:1<=G.length)(h5:G.length<=5)(hG:∀i,i<G.length->(G.getD i qe).ok)(h0:ea->la->G.length≠1):nI (bif all then 4 else 3) ea la (adz all ea la G):=by
 have hd:∀i,i<G.length->(G.getD i qe).D.ok=true:=λi hi=>by
  grind [Ip.ok]
 refine⟨by cases all<;>rfl,by rw[FP];omega,by rw[FP];omega,λi hi=>?_,λhe=>?_,λhl=>?_,λhe hl=>by grind [FP]⟩
 . grind [FP,acW,ahj,ak7]
 . subst he;rw[acW (by omega)];exact(ahj (hd 0 (by omega))).1
 . subst hl;rw[FP,acW (by omega),show ξ (G.length-1+1) G.length=true from aJ.mpr (by omega)];grind [ahj]
end Go.Ev
