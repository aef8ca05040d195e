import Derived.Test.YtcffhjfdlflbgaaGreatDoorP32
set_option linter.all false
open Int renaming ofNat->ν,add->ξ,mul->ο,sub->π
open Nat renaming le_refl->ς,ble->σ
set_option linter.all false
set_option maxRecDepth 100000
set_option maxHeartbeats 4000000
namespace Go.Ev
open Go Go.Proofs
variable{ea la:Bool}{L:List It}{i:Nat}{S:aQ}
theorem afr(h:nI 3 ea la L)(hi:i<L.length) :
 dF (L.getD i fP).f/\((L.getD i fP).r->fL (L.getD i fP).t.ng (L.getD i fP).t.lg (L.getD i fP).t.s (L.getD i fP).t.e (L.getD i fP).t.g (L.getD i fP).t.mo (L.getD i fP).t.da (L.getD i fP).t.a (L.getD i fP).t.b (L.getD i fP).t.c=true)/\
 (((ea&&Nat.beq i 0) || (la&&Nat.beq (i+1) L.length))->(L.getD i fP).r=false)/\
 (mf ea la L i=false->fL (L.getD i fP).f.ng (L.getD i fP).f.lg (L.getD i fP).f.s (L.getD i fP).f.e (L.getD i fP).f.g (L.getD i fP).f.mo (L.getD i fP).f.da (L.getD i fP).f.a (L.getD i fP).f.b (L.getD i fP).f.c/\aa (aR (L.getD i fP).f.mo) 0=true):=by
 have hit:=h.it i hi;have he:((ea&&Nat.beq i 0) || (la&&Nat.beq (i+1) L.length))->aaD (L.getD i fP)=true:=λhb=>by
  rw[Bool.or_eq_true,zAa,zAa,aJ,aJ]at hb;rcases hb with⟨h1,h2⟩|⟨h1,h2⟩
  . rw[h2];exact h.he h1
  . rw[show i=L.length-1 by omega];exact h.hl h1
 unfold mf;generalize L.getD i fP=x at *;have hv:=aeU hit;refine⟨hv,λhr=>?_,λhb=>?_,λhd=>?_⟩
 . unfold aap mB at hit;simp only[hr,zAa,cond_true]at hit;obtain⟨-,⟨v2,ho⟩,-⟩:=hit;unfold mV at ho;simp only[zAa]at ho;exact qd v2 (qc.1 ho.2.1).1
 . grind [aaD]
 . have hp:kZ x.f=true:=by
    cases hr:x.r with
    | true=>
      unfold aap mB at hit;simp only[hr,zAa,cond_true]at hit;obtain⟨-,⟨v2,ho⟩,-⟩:=hit;unfold mV at ho;rw[zAa]at ho;exact ho.1
    | false=>
      grind [aaD]
   obtain⟨p1,p2⟩:=qc.1 hp;exact⟨qd hv p1,p2⟩
theorem adr{ea la:Bool}{L:List It}:∀{n:Nat},(aaf ea la L n).length=n*17
 | 0=>rfl
 | n+1=>by
   rw[aaf,zAe,adr];have:(abl ea la L n).length=17:=by
    unfold abl;cases mf ea la L n<;>cases ab 1 (L.getD n fP).f.g<;>cases fy (L.getD n fP).f<;>rfl
   omega
theorem anP{x:Da}(h:ab 1 x.g):fy x=false:=by
 unfold fy cK;rw[aq]at h;rw[show aa x.g 0=false from aw.mpr δ,Bool.and_false]
theorem acZ{f:AV->Option AV}{P T:List AV}{v v':AV}(hP:yw f P=some P)(hv:f v=some v')(hT:yw f T=some T):yw f (P++v::T)=some (P++v'::T):=
 rB hP (by simp only[yw,hv,hT,ob])
def wU(ea la:Bool)(L:List It):Nat->Ac
 | 0=>none
 | i+1=>some (i+1,aaf ea la L (i+1))
def pE(ea la:Bool)(L:List It)(E:cD)(i:Nat):AV×aB:=w6 17 7 (nv ea la L E i) (wU ea la L i)
theorem aju(hS:ak Tryz.prog cfg S){f tn xk:Nat}{rel:List Nat}(htn:aS tn 1000000)(hrel:nP tn rel)(h5:L.length<=6){E:cD}(hE:cR 16 E){P:List AV}{T:AV->List AV}(hP:∀ρ,yw (kG 16 ρ 20) P=some P)(hT:∀ρ e,yw (kG 16 ρ 20) (T (.a .i64 e))=some (T (.a .i64 e)))
 (hr:∀i,i<=L.length->∀J (Q:VQ->Prop),(∀c B,i<L.length->(aba ea la L i=false->c=abl ea la L i/\B=[])->(aba ea la L i->c=eb 1 (.c (16+(pE ea la L E i).2.n) 0 1 (.a 1)) rb 0 0 0 0 0/\B=[.a (aab 0 (oB (L.getD i fP)) 0 (mw (L.getD i fP))) true none])->∀x,Q (.a,P++(ij 17 c (B++[x]) (pE ea la L E i)).1::T (iX i),(ij 17 c (B++[x]) (pE ea la L E i)).2))->(i=L.length->Q (.b xk,P++(pE ea la L E i).1::T (iV i),(pE ea la L E i).2))->(rT S jE [.a (dp L) false none] f 0 tn rel (P++(pE ea la L E i).1::T (iV i)) J (pE ea la L E i).2).wp Q)
 {Q:VQ->Prop} (hq:Q (.b xk,P++(pE ea la L E L.length).1::T (iV L.length),(pE ea la L E L.length).2)) (J:Nat->Value):bN Tryz.prog (cH cfg S) (Cw cfg [.a (dp L) false none]) (.loop (lb f 0)) (tr tn rel (P++.f::T (.a .i64 0)) J ⟨1,[E],[]⟩) λr=>∃ax vs' o' J',Q (ax,vs',o')/\r=(ax,tr tn rel vs' J' o'):=by
 refine ia hS htn hrel ai (ι:={i:Nat // i<=L.length}) (λx=>P++(pE ea la L E x.1).1::T (iV x.1)) (λx=>(pE ea la L E x.1).2) (λx=>L.length-x.1) 1 (λx=>Nat.le_trans ζ afz) (λx J=>?_) (ς _) (λJ=>?_) J
 . obtain⟨i,hi⟩:=x;refine bb λQ' hQ=>hr i hi J Q' (λc B hl h0 h1 x=>hQ _ ⟨⟨i+1,hl⟩,by dsimp only;omega,?_⟩) λh=>?_
   . cases h:aba ea la L i with
     | false=>
       obtain⟨rfl,rfl⟩:=h0 h;cases i with
       | zero=>exact amD (n:=10) (top:=[_,_,_]) i7 hE (k:=9) rfl ζ ζ δ h rfl (acZ (hP _) rfl (hT _ _))
       | succ i=>exact amD (n:=11) (top:=[_,_,_,_]) i7 hE (k:=10) rfl ζ ζ δ h rfl (acZ (hP _) rfl (hT _ _))
     | true=>
       obtain⟨rfl,rfl⟩:=h1 h;cases i with
       | zero=>exact anr (n:=11) (top:=[_,_,_,_]) i7 hE (j:=8) (k:=10) rfl ζ ζ ζ ζ ζ δ h rfl rfl (acZ (hP _) rfl (hT _ _))
       | succ i=>exact anr (n:=12) (top:=[_,_,_,_,_]) i7 hE (j:=9) (k:=11) rfl ζ ζ ζ ζ ζ δ h rfl rfl (acZ (hP _) (by rcases(by omega:i=0\/i=1\/i=2\/i=3\/i=4)with rfl|rfl|rfl|rfl|rfl<;>rfl) (hT _ _))
   . subst h;exact hQ _ ⟨_,_,VW.a0,hq⟩
 . refine Wk.b0 (aed (o':=(pE ea la L E 0).2) (by show 1<=7;decide) rfl rfl λi hi=>?_) λs hs=>⟨⟨0,Nat.zero_le _⟩,J,hs⟩;have:i=0:=by change i<1 at hi;omega
   subst this;rfl
def rp:Nat->Bool->Bool->Prop->Prop
 | 0,_,_,X=>X
 | k+1,b,v,X=>b=v/\rp k b v X
def vZ(k l:Nat)(b:Bool)(X Y:Prop):Prop:=fk b (rp k b true X) (rp l b false Y)
def eT:Bool->(Prop->Prop->Prop)->Prop->Prop->Prop
 | true,F,X,Y=>F X Y
 | false,_,X,_=>X
def tW(x:It)(m:Nat)(lf:List AV->List cD->Prop):Prop:=dF x.f/\fk (ab 1 x.f.g) (lf (eb 3 .f rb 1 0 (bf (jI x.f.ng x.f.s x.f.e x.f.g)) 0 (bf (jL x.f.ng x.f.s x.f.e x.f.g+1)-1)) []) (fk (fy x.f) (lf (eb 1 (.c m 0 1 (.a 1)) rb 0 0 0 0 0) [.a (aab 0 (oB x) 0 (bq x.f.ng x.f.s x.f.e x.f.mo x.f.da)) true none]) (lf (eb 2 .f ⟨x.f.ng,x.f.lg,x.f.s,x.f.e,0,x.f.mo,x.f.da,0,0,0⟩ 0 0 0 0 0) []))
theorem ajt{m:Nat}{lf:List AV->List cD->Prop}(hv:dF (L.getD i fP).f)(hd:mf ea la L i)(h:∀c B,(aba ea la L i=false->c=abl ea la L i/\B=[])->(aba ea la L i->c=eb 1 (.c m 0 1 (.a 1)) rb 0 0 0 0 0/\B=[.a (aab 0 (oB (L.getD i fP)) 0 (mw (L.getD i fP))) true none])->lf c B):tW (L.getD i fP) m lf:=by
 have hr:(L.getD i fP).r=false:=by
  unfold mf at hd;grind
 refine⟨hv,λhg=>h _ _ ?_ ?_,λhg=>⟨λhn=>h _ _ ?_ ?_,λhn=>h _ _ ?_ ?_⟩⟩<;>unfold aba<;>rw[hd]
 . intro _;unfold abl;rw[hd,hg];exact⟨rfl,rfl⟩
 . rw[anP hg];nofun
 . rw[hn];nofun
 . unfold mw;rw[hr];exact λ_=>⟨rfl,rfl⟩
 . intro _;unfold abl;rw[hd,hg,hn];exact⟨rfl,rfl⟩
 . rw[hn];nofun
def cU(x:It)(r:Rn):List AV:=eb 3 .f rb (dq x.f.mo x.f.da) r.a r.b r.c r.d
theorem afv{P:Prop}(hd:mf ea la L i=false):(aba ea la L i=false->cU (L.getD i fP) (W2 ea la L i)=abl ea la L i/\([]:List cD)=[])/\(aba ea la L i->P):=by
 unfold aba abl;rw[hd];exact⟨λ_=>⟨rfl,rfl⟩,nofun⟩
theorem adV{X:Prop}(h:i<=6)(hX:X):nk 17 (wU ea la L i) X:=by
 cases i with
 | zero=>exact hX
 | succ i=>exact⟨by simp[al];omega,aJ.mpr adr,hX⟩
theorem ah9(h:nI 3 ea la L)(hi:i<L.length)(hd:mf ea la L i=false):gN (L.getD i fP).f/\aa (aR (L.getD i fP).f.mo) 0/\exI (L.getD i fP)=true:=by
 obtain⟨-,h1,-,h2⟩:=afr h hi;obtain⟨h3,h4⟩:=h2 hd;refine⟨h3,h4,?_⟩;unfold exI gN;rw[h3];cases hr:(L.getD i fP).r
 . rfl
 . rw[h1 hr];rfl
theorem amA{r i0 il:Bool}{U W:Prop}(hU:(!r&&(!(ea&&i0)&&!(la&&il)))=false->U)(hW:(!r&&(!(ea&&i0)&&!(la&&il)))->W):vZ 2 2 (not r) (eT ea (vZ 2 2 (not i0)) (eT la (fk (not il)) W U) U) U:=by
 cases r<;>cases ea<;>cases la<;>cases i0<;>cases il<;>simp_all [vZ,fk,rp,eT]
def tU(n i:Nat)(ea la:Bool)(x:It)(lf:List AV->List cD->Prop):Prop:=XK [gN x.f,aa (aR x.f.mo) 0,exI x] (lf (cU x (kW (ea&&aa (ν i) 0) (la&&aa (ν i) (π (ν n) 1)) x)) [])
def Lg(w:List AV)(n i m:Nat)(ea la:Bool)(lf:List AV->List cD->Prop):Prop:=aS i n/\XK (tg (wF w i)) (sh la n (vZ 2 2 (not (jQ (wF w i)).r) (eT ea (vZ 2 2 (not (aa (ν i) 0))) (eT la (fk (not (aa (ν i) (π (ν n) 1)))) (tW (jQ (wF w i)) m lf) (tU n i ea la (jQ (wF w i)) lf)) (tU n i ea la (jQ (wF w i)) lf)) (tU n i ea la (jQ (wF w i)) lf)))
theorem rO(w:List AV)(s0 s1 s2 s3 s4 s5:cD)(n i:Nat)(K K1:fg)(J:Nat->Value){Q:VQ->Prop}:∀(ac:Ac) (ea la:Bool),∃D,gG Q (rT TQ jE [.a w false none] 7 0 103 [1,2,3,5,6,34,35,36] [.h 15 0,.f,.a .i64 0,(w6 17 7 [s5,s4,s3,s2,s1,s0,ie 3 n K1 ea la] ac).1,.f,.c 14 0 n K,iV n,iV i] J (w6 17 7 [s5,s4,s3,s2,s1,s0,ie 3 n K1 ea la] ac).2) D=ba n i (Lg w n i (16+(w6 17 7 [s5,s4,s3,s2,s1,s0,ie 3 n K1 ea la] ac).2.n) ea la λc D=>nk 17 ac (nR i (Q (.a,[.h 15 0,.f,.a .i64 0,(ij 17 c (D++[.a (dp [jQ (wF w i)]) true none]) (w6 17 7 [s5,s4,s3,s2,s1,s0,ie 3 n K1 ea la] ac)).1,.f,.c 14 0 n K,iV n,iX i],(ij 17 c (D++[.a (dp [jQ (wF w i)]) true none]) (w6 17 7 [s5,s4,s3,s2,s1,s0,ie 3 n K1 ea la] ac)).2)))) (Q (.b 1,[.h 15 0,.f,.a .i64 0,(w6 17 7 [s5,s4,s3,s2,s1,s0,ie 3 n K1 ea la] ac).1,.f,.c 14 0 n K,iV n,iV i],(w6 17 7 [s5,s4,s3,s2,s1,s0,ie 3 n K1 ea la] ac).2))
 | none,true,true=>⟨bE 11205256622005633120525662200063312052566220061205120541205420064224224052000666662777777704,by kernel_rfl⟩
 | none,true,false=>⟨bE 11205256622005633120525662200063312051205412054200062242240005666662777777704,by kernel_rfl⟩
 | none,false,true=>⟨bE 1120525662200563312052566220061205120541205420064000224052000666662777777704,by kernel_rfl⟩
 | none,false,false=>⟨bE 1120525662200563312051205412054200562240005666662777777704,by kernel_rfl⟩
 | some (m,cs),true,true=>⟨bE 11225202566220056331225202566220006331225202566220061225201225204122520420064224224052000666662777777704,by kernel_rfl⟩
 | some (m,cs),true,false=>⟨bE 112252025662200563312252025662200063312252012252041225204200062242240005666662777777704,by kernel_rfl⟩
 | some (m,cs),false,true=>⟨bE 11225202566220056331225202566220061225201225204122520420064000224052000666662777777704,by kernel_rfl⟩
 | some (m,cs),false,false=>⟨bE 112252025662200563312252012252041225204200562240005666662777777704,by kernel_rfl⟩
theorem aog(h:nI 3 ea la L)(h5:L.length<=6):cu Tryz.prog (cH cfg TQ) (Cw cfg [.a (dp L) false none]) (lb 7 0) 103 [1,2,3,5,6,34,35,36] (D9 L ea la):=by
 intro vs o t Q hv hq J;unfold D9 at hv;split at hv
 . obtain⟨k1,m,K1,ea1,la1,rfl,rfl⟩:=aec hv;replace hq:=cO hq;obtain⟨⟨h1,h2,h3,h4,h5',h6,h7,h8,-⟩,hq⟩:=hq;rw[aJ]at h1 h2;rw[ao]at h3 h4 h5' h6;replace h7:=yl h7;replace h8:=yl h8;subst h1 h2 h3 h4 h5' h6 h7 h8;refine aju aj0 rfl rfl (ea:=ea1) (la:=la1) h5 (abX ζ) (P:=[_,_,_]) (T:=λe=>[_,_,_,e]) (λ_=>rfl) (λ_ _=>rfl) (λi hi J Q hX hE=>?_) (by obtain⟨m,hm⟩:∃m,L.length=m+1:=⟨L.length-1,by have:=h.n1;omega⟩;rw[hm]at hq ⊢;exact hq) J;obtain⟨D,hD⟩:=@rO (dp L) (qb ea1 la1 L i 0) (qb ea1 la1 L i 1) (qb ea1 la1 L i 2) (qb ea1 la1 L i 3) (qb ea1 la1 L i 4) (qb ea1 la1 L i 5) L.length i _ K1 J Q (wU ea1 la1 L i) ea1 la1;refine cg (hD.mpr (abi hi (λhl=>?_) hE));obtain⟨k1,k2⟩:=afB hl;unfold Lg tU;rw[k2,show aa (ν i) (π (ν L.length) 1)=Nat.beq (i+1) L.length by grind [aJ,ao]];refine⟨aU.2 hl,rR (aeY δ (amA (λhd=>?_) λhd=>?_)) k1⟩
   . obtain⟨u1,u2,u3⟩:=ah9 h hl hd;exact rR (adV δ (aaH hl δ (hX _ [] hl (afv (P:=True) hd).1 (afv hd).2 _))) (bs:=[_,_,_]) ⟨u1,u2,u3,trivial⟩
   . exact ajt (afr h hl).1 hd λc B h0 h1=>adV δ (aaH hl δ (hX c B hl h0 h1 _))
 . cases hv
structure Dp where
 f:Int
 ng:Bool
 n:Int
 z0:Int
 z1:Int
 m:Int
 d:Int
 x:Int
 y:Int
 z:Int
def Dp.cs(D:Dp):List AV:=[.a .u8 D.f,.b D.ng,.a .u16 D.n,.a .u8 D.z0,.a .u8 D.z1,.a .u8 D.m,.a .u8 D.d,.a .u8 D.x,.a .u8 D.y,.a .u8 D.z]
def Dp.ok(D:Dp):Bool:=af .u8 D.f&&(af .u16 D.n&&(af .u8 D.z0&&(af .u8 D.z1&&(af .u8 D.m&&(af .u8 D.d&&(af .u8 D.x&&(af .u8 D.y&&af .u8 D.z)))))))
def Dp.o(D:Dp):Da:=⟨qV D.f D.ng D.n D.z0 D.z1,sY D.f,gw D.f D.n D.z0 D.z1,kQ D.f D.z1,dr D.f D.n D.z0 D.z1,jZ D.f D.n D.z0 D.z1 D.m,nY D.f D.n D.z0 D.z1 D.m D.d,Em (dq (jZ D.f D.n D.z0 D.z1 D.m) (nY D.f D.n D.z0 D.z1 D.m D.d)) 0 D.x,Em (dq (jZ D.f D.n D.z0 D.z1 D.m) (nY D.f D.n D.z0 D.z1 D.m D.d)) 1 D.y,Em (dq (jZ D.f D.n D.z0 D.z1 D.m) (nY D.f D.n D.z0 D.z1 D.m D.d)) 2 D.z⟩
def Wc(f:Int):Int:=bif aa (f%6) 3 || aa (f%6) 4 then 0 else f
def je(m:Int):Int:=bif ab (m%40) 33 then m else m%40-33
def j9(d:Int):Int:=bif ab (d%40) 31 then d else d%40/2
def rf(m:Int):Int:=bif ab (m%40) 12 then m else m%40%12+1
def Dp.e(D:Dp):Da:=⟨(Dp.o ⟨Wc D.f,D.ng,D.n,D.z0,D.z1,je D.m,j9 D.d,D.x,D.y,D.z⟩).ng,(Dp.o ⟨Wc D.f,D.ng,D.n,D.z0,D.z1,je D.m,j9 D.d,D.x,D.y,D.z⟩).lg,(Dp.o ⟨Wc D.f,D.ng,D.n,D.z0,D.z1,je D.m,j9 D.d,D.x,D.y,D.z⟩).s,(Dp.o ⟨Wc D.f,D.ng,D.n,D.z0,D.z1,je D.m,j9 D.d,D.x,D.y,D.z⟩).e,0,(Dp.o ⟨Wc D.f,D.ng,D.n,D.z0,D.z1,je D.m,j9 D.d,D.x,D.y,D.z⟩).mo,(Dp.o ⟨Wc D.f,D.ng,D.n,D.z0,D.z1,je D.m,j9 D.d,D.x,D.y,D.z⟩).da,(Dp.o ⟨Wc D.f,D.ng,D.n,D.z0,D.z1,je D.m,j9 D.d,D.x,D.y,D.z⟩).a,(Dp.o ⟨Wc D.f,D.ng,D.n,D.z0,D.z1,je D.m,j9 D.d,D.x,D.y,D.z⟩).b,(Dp.o ⟨Wc D.f,D.ng,D.n,D.z0,D.z1,je D.m,j9 D.d,D.x,D.y,D.z⟩).c⟩
def Dp.p(D:Dp):Da:=Dp.e ⟨D.f,D.ng,D.n,D.z0,D.z1,rf D.m,D.d,D.x,D.y,D.z⟩
theorem Dp.a0{D:Dp}:D.ok=true↔(0<=D.f/\D.f<=255)/\(0<=D.n/\D.n<=65535)/\(0<=D.z0/\D.z0<=255)/\(0<=D.z1/\D.z1<=255)/\(0<=D.m/\D.m<=255)/\(0<=D.d/\D.d<=255)/\(0<=D.x/\D.x<=255)/\(0<=D.y/\D.y<=255)/\(0<=D.z/\D.z<=255):=by
 grind [Dp.ok,aE,eH,eE]
theorem comps_bd(mo da:List UInt8):1<=dq mo da/\dq mo da<=3:=by grind [dq]
theorem Dp.len{D:Dp}(h:D.ok):D.o.s.length<=1000/\af .i64 D.o.e/\af .i64 D.o.g=true:=by
 obtain⟨-,-,h1,h2,-⟩:=Dp.a0.1 h;rw[aE,aE];simp only[eH,eE];rcases @alR D.f D.n D.z0 D.z1 h1 h2 with⟨a1,a2,a3,a4,a5,a6,a7⟩|⟨a1,a2,a3,a4,a5,a6,a7,a8,a9,a10⟩
 . show(gw D.f D.n D.z0 D.z1).length<=1000/\(_<=kQ D.f D.z1/\kQ D.f D.z1<=_)/\(_<=dr D.f D.n D.z0 D.z1/\dr D.f D.n D.z0 D.z1<=_);omega
 . show(gw D.f D.n D.z0 D.z1).length<=1000/\(_<=kQ D.f D.z1/\kQ D.f D.z1<=_)/\(_<=dr D.f D.n D.z0 D.z1/\dr D.f D.n D.z0 D.z1<=_);omega
theorem afO{ng lg:Bool}{s:List UInt8}{e g:Int}{mo da:List UInt8}{a b c:Int}(h:bW ng lg s e g mo da a b c=0):bW ng lg s e 0 mo da a b c=0:=by
 have hd:=Cc h;have key:oc ng lg s e g mo->oc ng lg s e 0 mo=true:=λk=>by
  grind [oc,aV]
 grind [nH,bW]
theorem SA{ng lg:Bool}{s:List UInt8}{e g:Int}{mo da:List UInt8}{a b c:Int}:wa ng lg s e g mo da a b c=true↔s.length<=1000/\af .i64 e/\af .i64 g/\af .u8 a/\af .u8 b/\af .u8 c/\bW ng lg s e g mo da a b c=0:=by
 grind [wa,al,ao]
structure Ip where
 D:Dp
 r:Int
 T:Dp
def Ip.ok(x:Ip):Bool:=x.D.ok&&(af .u8 x.r&&x.T.ok)
def Ip.cs(x:Ip):List AV:=x.D.cs++.a .u8 x.r::x.T.cs
def kD(y:Da):Int:=aP y.ng y.s y.e y.mo y.da
def yX:aQ:=aK gZ 203 SF
def aaZ(y:Int):Bool:=ab (-10000000000000000) y&&ab y 10000000000000001
def alx:dW:=λ
 | [.a .i64 y,.a .i64 d,.a .i64 z],⟨0,[],[]⟩=>some (aH [aaZ y,aa d (bf z),ab (-10000000000000000) z,ab z y] (.a0 (.b 0,[.a .i64 y,.a .i64 (bf y),.a .i64 y],dO)))
 | _,_=>none
def aop:cx:=iz jE 0 (d9 30 [0,4,5] alx)
def aiw:dP:=λ
 | [.a .i64 y]=>some (aH [aaZ y] (.a0 (.a .i64 (bf y))))
 | _=>none
def amf:aQ:=aK yX 128 aiw
def akx:dW:=λ
 | [.a .i64 y,.a .i64 m,.a .i64 d,.a .i64 i],⟨0,[],[]⟩=>some (aH [aaZ y,aa d (aG y i),aa i 1,ab 1 m,ab m 12] (.a0 (.b 0,[.a .i64 y,.a .i64 m,.a .i64 (aG y m),.a .i64 m],dO)))
 | _,_=>none
def apo:cx:=iz jE 0 (d9 27 [0,1,5,6] akx)
def o4(y m:Int):Int:=bif ab m 12 then aG y m else aG (y+1) (m-12)
def abt(y m:Int):Bool:=ab 1 m&&(ab m 24&&(aaZ y&&(ab m 12 || aaZ (y+1))))
def ahf:dP:=λ
 | [.a .i64 y,.a .i64 m]=>some (aH [aaZ y,ab 1 m,ab m 12] (.a0 (.a .i64 (aG y m))))
 | _=>none
def ak8:dP:=λ
 | [.a .i64 y,.a .i64 m]=>some (aH [abt y m] (.a0 (.a .i64 (o4 y m))))
 | _=>none
def apt:aQ:=aK gZ 130 ahf
theorem ai_:aY tab 128=some (dH 128,aL 128):=κ
theorem air:aY tab 130=some (dH 130,aL 130):=κ
theorem ag4:(bz (aL 128)).map (·.1)=[0]:=κ
theorem ahq:(bz (aL 130)).map (·.1)=[0]:=κ
theorem aeg:ak Tryz.prog cfg yX:=Sh aW
theorem xC{y:Int}:aaZ y=true↔-10000000000000000<=y/\y<=10000000000000001:=by grind [aaZ,aq]
theorem aei{y:Int}(h : -10000000000000000<=y/\y<=10000000000000001) : -3652425000000000001<=bf y/\bf y<=3652425000000000400:=Go.Proofs.YtcffhjfdlflbgaaGreatDoor.yst_bd y h.1 h.2
theorem amq{y:Int}:aa (bP y 2) 29=aa (iE y) 1/\(iE y=0\/iE y=1):=by
 have h1:bP y 2=28+iE y:=κ
 have h2:=Go.Proofs.YtcffhjfdlflbgaaGreatDoor.lp_01 y;grind [iE,ao]
theorem amB:cu Tryz.prog (cH cfg yX) (Cw cfg []) (lb 128 0) 30 [0,4,5] alx:=by
 intro vs o t Q hv hq J;unfold alx at hv;split at hv
 . rename_i y d z;cases hv;replace hq:=cO hq;obtain⟨⟨h1,h2,h3,h4,-⟩,hq⟩:=hq;obtain⟨y1,y2⟩:=xC.1 h1;rw[ao]at h2;rw[aq]at h3 h4;subst h2;simp only[aH,Tr.wp]at hq;refine ia aeg rfl rfl ai (ι:={z:Int // -10000000000000000<=z/\z<=y}) (λx=>[.a .i64 y,.a .i64 (bf x.1),.a .i64 x.1]) (λ_=>dO) (λx=>(y-x.1).toNat) 0 (λ_=>Nat.zero_le _) (λx J=>?_) (ς _) (λJ=>Wk.a0 ⟨⟨z,h3,h4⟩,J,rfl⟩) J;obtain⟨z,z1,z2⟩:=x;dsimp only;refine jJ (bE 11212242024) (R:=λQ=>(λ(B:AV)(C E:Bool)(A F:Int)=>(λ(I:AV)(H:Bool)(G:Int)=>(C->af .i64 A/\af .i64 z/\(E->af .i64 G/\H/\Q (.a,[B,.a .i64 G,I],⟨0,[],[]⟩))/\(E=false->H/\Q (.a,[B,.a .i64 A,I],⟨0,[],[]⟩)))/\(C=false->Q (.b 0,[B,.a .i64 (bf z),.a .i64 z],⟨0,[],[]⟩))) (.a .i64 F) (af .i64 F) (ξ A 1)) (.a .i64 y) (not (ab y z)) (aa (bP z 2) 29) (ξ (bf z) 365) (ξ z 1)) (λ_=>by rfl) λQ' hQ=>?_;try dsimp only
   by_cases hlt:z<y
   . have ys:bf (z+1)=bf z+365+iE z:=Go.Proofs.YtcffhjfdlflbgaaGreatDoor.yst_succ z;obtain⟨m1,m2⟩:=@amq z;have b1:=@aei z ⟨z1,by omega⟩;have j1:ab y z=false:=bF.mpr δ;have j2:af .i64 (ξ (bf z) 365)=true:=by grind [aE,eH,eE]
     have j3:af .i64 z=true:=by grind [aE,eH,eE]
     have j4:af .i64 (ξ (ξ (bf z) 365) 1)=true:=by grind [aE,eE]
     have j5:af .i64 (ξ z 1)=true:=by grind [aE,eE]
     have go:∀v,v=bf (z+1)->Q' (AX.a,([.a .i64 y,.a .i64 v,.a .i64 (ξ z 1)],dO)):=λv hv=>by
      subst hv;exact hQ _ ⟨⟨z+1,by omega,by omega⟩,by grind,VW.b0 rfl rfl⟩
     have g1:=go (ξ (ξ (bf z) 365) 1);have g0:=go (ξ (bf z) 365);rw[m1];rcases m2 with m2|m2
     . simp_all [aa]
     . rw[m2,show aa 1 1=true from rfl];grind
   . obtain rfl:z=y:=δ
     have j1:ab z z=true:=aq.mpr (Int.le_refl _);grind [VW.a0]
 grind
theorem ahy(hS:ak Tryz.prog cfg S):ak Tryz.prog cfg (aK S 128 aiw):=by
 refine au hS λargs t v he hv=>?_;unfold aiw at he;split at he
 . rename_i y;cases he;replace hv:=aF hv;obtain⟨⟨h1,-⟩,hv⟩:=hv;cases hv;obtain⟨y1,y2⟩:=xC.1 h1;refine kA aeg (L:=aop) ai_ θ (dv ag4 λi hi e he st Q hw=>?_) (jJ (bE 131341324131341324131341324440131341112244241313413241313411122442444040) (R:=λQ=>(λ(H I:Bool)(B:Int)(Y:Prop)=>(λ(Z:Bool)(C E N u2:Int)(u0 u1:Prop)=>(λ(O P u3 u6 u7 u8:Bool)(F G u4 u5:Int)(A:Prop)=>(λ(T U V u9 ua ub uc ud:Bool)(ue:Int)=>(λ(W uf:Bool)=>(Z->(H->(u3->(u9->T/\(I->(ua->ab (Neg.neg 10000000000000000) F/\ab F y/\Y)/\(ua=false->False))/\(u0->False))/\(u9=false->(T->A)/\(T=false->A)))/\(u3=false->(ub->U/\A)/\(ub=false->(U->A)/\(U=false->A))))/\(u1->(u6->O/\(I->(u7->ab (Neg.neg 10000000000000000) E/\ab E y/\Y)/\(u7=false->False))/\(u0->False))/\(u6=false->(O->A)/\(O=false->A))))/\(Z=false->(H->(uc->(ud->V/\A)/\(ud=false->(V->A)/\(V=false->A)))/\(uc=false->(uf->W/\A)/\(uf=false->(W->A)/\(W=false->A))))/\(u1->(u8->P/\A)/\(u8=false->(P->A)/\(P=false->A))))) (af .i64 (ο ue 400)) (af .i64 (ο ue 146097))) (af .i64 F) (af .i64 (ο u5 400)) (af .i64 (ο G 400)) (af .i64 u4) (aa u4 (bf F)) (af .i64 (ο u5 146097)) (af .i64 G) (af .i64 (ο G 146097)) (IntKind.wrap .i64 G)) (af .i64 E) (af .i64 (ο N 400)) (af .i64 C) (af .i64 u2) (aa u2 (bf E)) (af .i64 (ο N 146097)) (ο C 400) (π N 1) (ο C 146097) (IntKind.wrap .i64 C) (u0/\False)) (af .i64 B) (π B 1) (ο B 400) (IntKind.wrap .i64 B) (ο B 146097) (I=false) (H=false)) (not (ab 0 (Int.tmod y 400))) (and (ab (Neg.neg 10000000000000000) y) (ab y 10000000000000001)) (Int.tdiv y 400) (∀J1:Nat->Value,Q (.a .i64 (bf y)))) (λ_=>by rfl) λQ' hQ=>?_) κ
   . have hi:i=0:=η
     subst hi;cases he;exact bR (cC.a0 aeg) ζ rfl amB hw
   . try dsimp only
     have hQ:=hQ _ rfl;have cy:∀q:Int,bf (q*400)=q*146097:=λq=>by
      have:=Go.Proofs.YtcffhjfdlflbgaaGreatDoor.yst_cycle q 0;rw[show 400*q+0=q*400 by omega,show Go.Proofs.YtcffhjfdlflbgaaGreatDoor.yst 0=0 by decide]at this;show Go.Proofs.YtcffhjfdlflbgaaGreatDoor.yst (q*400)=_;omega
     have t1:y.tdiv 400*400+y.tmod 400=y:=η
     have t2:=Int.tmod_lt_of_pos y (show(0:Int)<400 by decide);have t3 : -400<y.tmod 400:=by
      grind
     have cy0:=cy (y.tdiv 400);have cy1:=cy (y.tdiv 400-1);have t4:0<=y->0<=y.tmod 400:=λh=>Int.tmod_nonneg 400 h;try dsimp only
     have mulE:∀a b:Int,ο a b=a*b:=λ_ _=>rfl;simp_all [az];omega
 . cases he
theorem adW:ak Tryz.prog cfg amf:=ahy aeg
theorem ad1{y i:Int}(hy : -10000000000000000<=y/\y<=10000000000000001)(h1:1<=i)(h2:i<=12) : -3652425000000000001<=aG y i/\aG y i<=3652425000000000766:=by
 have b:=@aei y hy;unfold aG Go.Proofs.YtcffhjfdlflbgaaGreatDoor.mst;have:(0:Int)<=Go.Proofs.YtcffhjfdlflbgaaGreatDoor.mcum y i/\Go.Proofs.YtcffhjfdlflbgaaGreatDoor.mcum y i<=366:=by
  have hl:=Go.Proofs.YtcffhjfdlflbgaaGreatDoor.lp_01 y;grind [Go.Proofs.YtcffhjfdlflbgaaGreatDoor.mcum]
 grind [bf]
theorem amx:cu Tryz.prog (cH cfg amf) (Cw cfg []) (lb 130 0) 27 [0,1,5,6] akx:=by
 intro vs o t Q hv hq J;unfold akx at hv;split at hv
 . rename_i y m d i;cases hv;replace hq:=cO hq;obtain⟨⟨h1,h2,h3,h4,h5,-⟩,hq⟩:=hq;have hy:=xC.1 h1;rw[ao]at h2 h3;rw[aq]at h4 h5;subst h2 h3;simp only[aH,Tr.wp]at hq;refine ia adW rfl rfl ai (ι:={i:Int // 1<=i/\i<=m}) (λx=>[.a .i64 y,.a .i64 m,.a .i64 (aG y x.1),.a .i64 x.1]) (λ_=>dO) (λx=>(m-x.1).toNat) 0 (λ_=>Nat.zero_le _) (λx J=>?_) (ς _) (λJ=>Wk.a0 ⟨⟨1,Int.le_refl _,h4⟩,J,rfl⟩) J;obtain⟨i,z1,z2⟩:=x;dsimp only;refine jJ (bE 11704) (R:=λQ=>(λ(E F:AV)(A:Bool)(B C:Int)=>(A->af .i64 y/\af .i64 B/\af .i64 C/\Q (.a,[E,F,.a .i64 B,.a .i64 C],⟨0,[],[]⟩))/\(A=false->Q (.b 0,[E,F,.a .i64 (aG y i),.a .i64 i],⟨0,[],[]⟩))) (.a .i64 y) (.a .i64 m) (not (ab m i)) (ξ (aG y i) (bP y i)) (ξ i 1)) (λ_=>by rfl) λQ' hQ=>?_;try dsimp only
   by_cases hlt:i<m
   . have ms:=@p9 y i z1 δ;have ml:=jk y i;have b1:=@ad1 y i hy z1 δ;have j1:ab m i=false:=bF.mpr δ;have j2:af .i64 (ξ (aG y i) (bP y i))=true:=by rw[aE];simp only[eH,eE];show _<=aG y i+d6 y i/\aG y i+d6 y i<=_;omega
     have j3:af .i64 y=true:=by grind [aE,eH,eE]
     have j5:af .i64 (ξ i 1)=true:=by grind [aE,eH,eE]
     simp only[j1,j2,j3,j5,Bool.not_false,true_and,and_true,true_imp_iff,reduceCtorEq,false_imp_iff];refine hQ _ ⟨⟨i+1,by omega,by omega⟩,by grind,VW.b0 ?_ rfl⟩;dsimp only;rw[ms];rfl
   . obtain rfl:i=m:=δ
     have j1:ab i i=true:=aq.mpr (Int.le_refl _);grind [VW.a0]
 grind
theorem aj1{y m:Int}(h1:aaZ y)(h2:ab 1 m)(h3:ab m 12):bu Tryz.prog cfg 130 [.a .i64 y,.a .i64 m] [] (.a .i64 (aG y m)) []:=by
 refine kA adW (L:=apo) air θ (dv ahq λi hi e he st Q hw=>?_) (jJ (bE 1220703) (R:=λQ=>not (ab m 12)=false/\aaZ y/\aaZ y/\aa (bf y) (aG y 1)/\ab 1 m/\ab m 12/\(∀J1:Nat->Value,Q (.a .i64 (aG y m)))) (λ_=>by rfl) λQ' hQ=>?_) κ
 . have hi:i=0:=η
   subst hi;cases he;exact bR (cC.a0 adW) ζ rfl amx hw
 . have hQ:=hQ _ rfl;try dsimp only
   rw[<-mst_1 y];have e0:∀x:Int,aa x x=true:=λx=>ao.mpr rfl;grind
theorem aiI(hS:ak Tryz.prog cfg S):ak Tryz.prog cfg (aK S 130 ahf):=by
 refine au hS λargs t v he hv=>?_;unfold ahf at he;split at he
 . cases he;replace hv:=aF hv;obtain⟨⟨h1,h2,h3,-⟩,hv⟩:=hv;cases hv;exact aj1 h1 h2 h3
 grind
theorem aje:ak Tryz.prog cfg apt:=aiI aW
theorem aks(hS:ak Tryz.prog cfg S):ak Tryz.prog cfg (aK S 130 ak8):=by
 refine au hS λargs t v he hv=>?_;unfold ak8 at he;split at he
 . rename_i y m;cases he;replace hv:=aF hv;obtain⟨⟨h1,-⟩,hv⟩:=hv;cases hv;unfold abt at h1;rw[zAa,zAa,zAa,aq,aq]at h1;obtain⟨m1,m2,y1,y2⟩:=h1;unfold o4;by_cases hm:m<=12
   . have hm':ab m 12=true:=aq.mpr hm;rw[hm',cond_true];exact aj1 y1 (aq.mpr m1) hm'
   . have hm':ab m 12=false:=bF.mpr δ;rw[hm',Bool.false_or]at y2;rw[hm',cond_false];refine nF aje ai (bE 1707) (R:=λQ=>(λ(A B:Int)=>not (ab m 12)/\af .i64 B/\af .i64 A/\aaZ B/\ab 1 A/\ab A 12/\Q (.a .i64 (aG B A))) (π m 12) (ξ y 1)) (λ_=>by rfl) λQ' hQ=>?_;try dsimp only
     obtain⟨q1,q2⟩:=xC.1 y1;have j1:af .i64 (ξ y 1)=true:=by grind [aE,eH,eE]
     have j2:af .i64 (π m 12)=true:=by grind [aE,eH,eE]
     have j3:ab 1 (π m 12)=true:=aq.mpr η;have j4:ab (π m 12) 12=true:=aq.mpr η;grind
 grind
def ak0:dW:=λvs o=>match vs,o with
 | [.h 14 0,.a .i64 z,.e t,.a .i64 i],⟨1,[.a [.b ng,.b lg,.e s,.a .i64 e,.a .i64 g,.e mo,.e da,.a .u8 a,.a .u8 b,.a .u8 c] true none],[]⟩=>
   some (aH [aa z 0,aa i 0,σ t.length 1000000] (.d0 (eA t) λx=>bif x then .e0 λJ=>.a0 (.c,[.h 14 0,.a .i64 0,.e t,.j (J 0)],o)else .a0 (.b 0,[.h 14 0,.a .i64 0,.e t,.a .i64 (ν t.length)],o)))
 | _,_=>none
def apE:cx:=iz jE 0 (d9 28 [1,2,3,4] ak0)
def ag_:dP:=λ
 | [.g [.b ng,.b lg,.e s,.a .i64 e,.a .i64 g,.e mo,.e da,.a .u8 a,.a .u8 b,.a .u8 c]]=>some (aH [σ s.length 1000,σ mo.length 1000,σ da.length 1000] (.a0 (.a .i64 (bI (cK s g mo da)))))
 | _=>none
def akZ:dP:=λ
 | [.a .i64 c]=>some (aH [zI c] (.a0 (.d [.a .i64 (fR c),.a .i64 (mR c)])))
 | _=>none
def alH:dP:=λ
 | [.e [a,b]]=>some (aH [dB a&&dB b] (.a0 (.a .i64 (ko a b))))
 | _=>none
theorem ai4:aY tab 126=some (dH 126,aL 126):=κ
theorem ah5:(bz (aL 126)).map (·.1)=[0]:=κ
theorem anY:cu Tryz.prog (cH cfg gZ) (Cw cfg []) (lb 126 0) 28 [1,2,3,4] ak0:=by
 intro vs o t Q hv hq J;unfold ak0 at hv;split at hv
 . rename_i z t i ng lg s e g mo da a b c;cases hv;replace hq:=cO hq;obtain⟨⟨k1,k2,k3,-⟩,hq⟩:=hq;rw[ao]at k1 k2;rw[al]at k3;subst k1 k2;simp only[aH,Tr.wp]at hq;refine ia aW rfl rfl ai (ι:={i:Nat // i<=t.length/\∀k,k<i->(t.getD k 0).toNat≠88}) (λx=>[.h 14 0,.a .i64 0,.e t,.a .i64 (ν x.1)]) (λ_=>⟨1,[bB ng lg s e g mo da a b c],[]⟩) (λx=>t.length-x.1) 1 (λ_=>ς _) (λx J=>?_) (ς _) (λJ=>Wk.a0 ⟨⟨0,Nat.zero_le _,λk hk=>absurd hk (Nat.not_lt_zero _)⟩,J,rfl⟩) J;obtain⟨i,hi,hz⟩:=x;dsimp only;refine jJ (bE 111414204) (R:=λQ=>(λ(B C E:AV)(H:Bool)(A:Int)(G:Nat)=>(λ(I:Bool)(F:Int)=>(λ(N:Bool)=>(I->aS i G/\(H->Q (.c,[B,C,E,.a .i64 A],⟨1,[.a [.b ng,.b lg,.e s,.a .i64 e,.a .i64 g,.e mo,.e da,.a .u8 a,.a .u8 b,.a .u8 c] true none],[]⟩))/\(H=false->(N->Q (.a,[B,C,E,.a .i64 F],⟨1,[.a [.b ng,.b lg,.e s,.a .i64 e,.a .i64 g,.e mo,.e da,.a .u8 a,.a .u8 b,.a .u8 c] true none],[]⟩))/\(N=false->Q (.a,[B,C,E,.a .i64 (IntKind.wrap .i64 F)],⟨1,[.a [.b ng,.b lg,.e s,.a .i64 e,.a .i64 g,.e mo,.e da,.a .u8 a,.a .u8 b,.a .u8 c] true none],[]⟩))))/\(I=false->Q (.b 0,[B,C,E,.a .i64 A],⟨1,[.a [.b ng,.b lg,.e s,.a .i64 e,.a .i64 g,.e mo,.e da,.a .u8 a,.a .u8 b,.a .u8 c] true none],[]⟩))) (af .i64 F)) (not (ab (ν G) A)) (ξ A 1)) (.h 14 0) (.a .i64 0) (.e t) (aa (ν (UInt8.toNat (List.getD t i (UInt8.ofNat 0)))) 88) (ν i) t.length) (λ_=>by rfl) λQ' hQ=>?_;try dsimp only
   try dsimp only
   have ret:i<t.length->(t.getD i 0).toNat=88->Q' (.c,[.h 14 0,.a .i64 0,.e t,.a .i64 (ν i)],⟨1,[bB ng lg s e g mo da a b c],[]⟩):=λh1 h2=>hQ _ ⟨_,_,VW.c0 (.a0 (.a0 (.a0 (.b0 .c0)))) rfl,by
    rw[O8 h1 h2]at hq;exact hq (jv [_])⟩
   have fin:i=t.length->Q' (.b 0,[.h 14 0,.a .i64 0,.e t,.a .i64 (ν i)],⟨1,[bB ng lg s e g mo da a b c],[]⟩):=λh=>hQ _ ⟨_,_,VW.a0,by
    rw[HQ hz δ]at hq;subst h;exact hq⟩
   have go:i<t.length->(t.getD i 0).toNat≠88->Q' (.a,[.h 14 0,.a .i64 0,.e t,.a .i64 (ν (i+1))],⟨1,[bB ng lg s e g mo da a b c],[]⟩):=λh1 h2=>hQ _ ⟨⟨i+1,by omega,λk hk=>by
    grind⟩,by grind,VW.b0 rfl rfl⟩
   clear hQ hq hz;rw[show(UInt8.ofNat 0)=(0:UInt8)from rfl];generalize (t.getD i 0).toNat=cn at *;simp only[az,reduceCtorEq];grind
 grind
theorem afa(hS:ak Tryz.prog cfg S):ak Tryz.prog cfg (aK S 126 ag_):=by
 refine au hS λargs t v he hv=>?_;unfold ag_ at he;split at he
 . rename_i ng lg s e g mo da a b c;cases he;replace hv:=aF hv;obtain⟨⟨h1,h2,h3,-⟩,hv⟩:=hv;cases hv;rw[al]at h1 h2 h3;refine kA aW (L:=apE) ai4 θ (dv ah5 λi hi e he st Q hw=>?_) (jJ (bE 11111401440040400) (R:=λQ=>(λ(A E:Bool)(B:List UInt8)(C:Prop)=>(λ(F:Bool)(G:List UInt8)=>(λ(H:Bool)=>(A->(F->(H->(eA G->(∀J1 J2:Nat->Value,C))/\(eA G=false->(∀J1:Nat->Value,(E->C)/\(E=false->Q (.a .i64 1)))))/\(H=false->False))/\(F=false->False))/\(A=false->False)) (σ G.length 1000000)) (σ (HAdd.hAdd B.length da.length) 1000000) (B++da)) (σ (HAdd.hAdd s.length mo.length) 1000000) (not (aa g 0)) (s++mo) (Q (.a .i64 0))) (λ_=>by rfl) λQ' hQ=>?_) κ
   . have hi:i=0:=η
     subst hi;cases he;exact bR (cC.a0 aW) ζ rfl anY hw
   . try dsimp only
     have l1:(s++mo).length=s.length+mo.length:=List.length_append;have l2:(s++mo++da).length=s.length+mo.length+da.length:=η
     have y:∀x:Int,(eA (s++mo++da)->x=0)->(eA (s++mo++da)=false->(g=0->x=1)/\(g≠0->x=0))->Q' (.a .i64 x):=λx h1 h2=>hQ _ (by
      have:x=bI (cK s g mo da):=by
       unfold cK;cases hx:eA (s++mo++da)with
       | true=>exact h1 hx
       | false=>
         by_cases hg:g=0
         . rw[(h2 hx).1 hg,ao.mpr hg];rfl
         . rw[(h2 hx).2 hg,aw.mpr hg];rfl
      grind)
     simp_all [az];omega
 grind
theorem akv(hS:ak Tryz.prog cfg S):ak Tryz.prog cfg (aK S 131 alH):=by
 refine au hS λargs t v he hv=>?_;unfold alH at he;split at he
 . rename_i a b;cases he;replace hv:=aF hv;obtain⟨⟨h1,-⟩,hv⟩:=hv;cases hv;unfold dB at h1;simp only[zAa,zAc]at h1;refine jD aW ai (bE 1700700) (R:=λQ=>(λ(A B:Int)=>(λ(C:Int)=>(λ(E:Int)=>af .u8 A/\af .i64 A/\af .i64 C/\af .u8 B/\af .i64 B/\af .i64 E/\Q (.a .i64 E)) (ξ C B)) (ο 10 A)) (π (ν a.toNat) 48) (π (ν b.toNat) 48)) (λ_=>by rfl) λQ' hQ=>?_;simp_all [ko,az];omega
 grind
theorem aai{x:Int}(h:0<=x/\x<=255):af .u8 x=true:=by rw[aE];exact h
end Go.Ev
