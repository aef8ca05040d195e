import Derived.Test.YtcffhjfdlflbgaaGreatDoorP39
set_option linter.all false
open Int renaming ofNat->ν
open Nat renaming le_refl->ξ,beq->ς
open Bool renaming not_eq_false'->ο,not_eq_true'->π
set_option linter.all false
set_option maxRecDepth 100000
set_option maxHeartbeats 4000000
namespace Go.Ev
open Go Go.Proofs
variable{b:Int}{x:Da}
theorem VW.f0{cfg:cL}{C:bg}{kb tn:Nat}{rel:List Nat}{vs:List AV}{o o':aB}(hn:o'.n=o.n)(hle:o'.le=o.le)(hlen:o'.os.length=o'.n)(h:∀i,i<o.n->o'.at i=o.at i\/o'.at i=.b):VW cfg C kb tn rel vs o vs o':=λJ=>(afx (st:=tr tn rel vs J o) hn hle hlen h).b0 λs hs=>⟨J,by rw[hs];rfl⟩
theorem ap2{x:cD}{T B:List cD}{n i:Nat}:(⟨n,x::(gP T.length++B),[]⟩:aB).at i=(⟨n,x::(T++B),[]⟩:aB).at i\/(⟨n,x::(gP T.length++B),[]⟩:aB).at i=.b:=by
 have key:∀q:Nat,(x::(gP T.length++B)).getD q .b=(x::(T++B)).getD q .b\/(x::(gP T.length++B)).getD q .b=.b:=λq=>by
  cases q with
  | zero=>exact .inl rfl
  | succ j=>
    simp only[List.getD_cons_succ,gP];by_cases h:j<T.length
    . right;grind
    . left;grind
 exact key (n-1-i)
section
variable{z:Bool}{L:List It}{E:List AV}{F:Nat->Fm}{n:Nat}{g:Option Nat}{pp:Nat->cD}{G:List AV->Nat}{H:Nat->Nat}{T:FG}{m:Int}(hT:tD Tryz.prog cfg 7 T)(h1:1<=n)(h6:n<=6)(hz:z=false->n=1)(hF:∀i,i<n->shF (F i))(hH:∀i,i<n->H i=G [.g (F i).cs,.a .i64 m])(hc:∀i,i<n->rL Tryz.prog cfg 61 (Cw cfg (ox z L)) [.g (F i).cs,.a .i64 m] (c9E H (b0 z) i (F i).cs (oC E F n g pp).os) (cl (G [.g (F i).cs,.a .i64 m]) (b0 z+9+5*i),cXE H (b0 z) i (F i).cs (oC E F n g pp).os))
include hT h1 h6 hz hF hH hc
theorem atN:cu Tryz.prog (cH cfg (TEt (okC Tryz.prog cfg) G T)) (Cw cfg (ox z L)) (lb 18 0) 36 [1,8,21,22,23] (vEq eqC (vwE (b0 z) n m 0,oC E F n g pp) (.b 0,vwE (b0 z) n m n,oEi H (b0 z) n (oC E F n g pp).os)):=by
 intro vs o t Q hv hq J;cases hv;replace hq:=We hq;obtain⟨he,hq⟩:=hq;cases Yt.1 he;refine ia (acj hT) rfl rfl ai (ι:={i:Nat // i<=n}) (λi=>vwE (b0 z) n m i.1) (λi=>oEi H (b0 z) i.1 (oC E F n g pp).os) (λi=>n-i.1) 8 (λ_=>Nat.le_add_right _ _) (λi J=>?_) (ξ _) (λJ=>Wk.a0 ⟨⟨0,Nat.zero_le _⟩,J,rfl⟩) J;obtain⟨i,hi⟩:=i;refine bb λQ' hQ=>?_;by_cases hl:i<n
 . obtain⟨b,id,q,K,hd⟩:=hF i hl;have ef:F i=⟨(F i).k,Yc b id q K,(F i).x,(F i).p,(F i).a,(F i).b,(F i).c,(F i).e⟩:=by rw[<-hd]
   have ec:(F i).cs=eb (F i).k (Yc b id q K) (F i).x (F i).p (F i).a (F i).b (F i).c (F i).e:=by rw[ef];rfl
   have hR:tRe (okC Tryz.prog cfg) G H m L (Q:=Q') z n i (eb (F i).k (Yc b id q K) (F i).x (F i).p (F i).a (F i).b (F i).c (F i).e) (oC E (upF F i ⟨(F i).k,Yc b id q K,(F i).x,(F i).p,(F i).a,(F i).b,(F i).c,(F i).e⟩) n g pp).os:=by
    unfold tRe;rw[<-ef,UD,<-ec];refine⟨aa3.2 (hc i hl),hQ _ ⟨⟨i+1,hl⟩,by dsimp only;omega,?_⟩⟩;have hg:gsE H (b0 z) i++[cl (G [.g (F i).cs,.a .i64 m]) (b0 z+9+5*i)]=gsE H (b0 z) (i+1):=by rw[<-hH i hl];rfl
    have e2:oEi H (b0 z) (i+1) (oC E F n g pp).os=⟨13+5*i,.a (gsE H (b0 z) (i+1)) true (some 1)::(gP (bx [cl (G [.g (F i).cs,.a .i64 m]) (b0 z+9+5*i)]::.b::.b::bx (F i).cs::gP (5*i)).length++(oC E F n g pp).os),[]⟩:=by
     unfold oEi aok;simp only[zAd,gP,List.length_replicate,List.cons_append];rw[show 8+5*(i+1)=13+5*i by omega]
    dsimp only[cZE];rw[e2,hg];exact VW.f0 rfl rfl (by simp[gP,oC];omega) λj _=>ap2
   have main:∃D,gG Q' (rT (TEt (okC Tryz.prog cfg) G T) jE (ox z L) 18 0 36 [1,8,21,22,23] (vwE (b0 z) n m i) J (oEi H (b0 z) i (oC E F n g pp).os)) D:=by
    cases z
    . cases hz rfl;obtain rfl:i=0:=δ
      have:=(rEz (okC Tryz.prog cfg) G H T E F g pp (F 0).k (F 0).x (F 0).p (F 0).a (F 0).b (F 0).c (F 0).e m id q K J L (Q:=Q') b).mpr hR;rw[<-ef,UD]at this;exact⟨_,this⟩
    . have:=(rEs (okC Tryz.prog cfg) G H T E F g pp (F i).k (F i).x (F i).p (F i).a (F i).b (F i).c (F i).e m id q K J L (Q:=Q') n i h1 h6 hl b).mpr hR;rw[<-ef,UD]at this;exact⟨_,this⟩
   obtain⟨D,hD⟩:=main;exact cg hD
 . obtain rfl:i=n:=δ
   exact cg ((rEe (okC Tryz.prog cfg) G H T E F g pp m J L (Q:=Q') i h1 h6 z).mpr (hQ _ ⟨_,_,VW.a0,hq⟩))
end
noncomputable def L18(eqv:EqT)(a:List AV×aB)(r:AX×List AV×aB):cx:=iz jE 0 (d9 36 [1,8,21,22,23] (vEq eqv a r))
section
variable(ok:qp)(eqv:EqT)(a:List AV×aB)(G:List AV->Nat)(e m:Int)(k:Int)(d x y:Da)(k1 k2:Int)(ea la:Bool)(u:Nat)(OS:List cD)(F:Nat->Fm)(g:Option Nat)(p:Nat->cD)(L:List It)(c:Nat){Q:EQ->Prop}
theorem bGo:∀n:Nat,1<=n->n<=6->∀z:Bool,gG Q (bT (TEt ok G (Lh ok 7 n (.a n) (nK F n) g p)) (L18 eqv a (.b 0,[.a .i64 m,.c u 0 n (.b 0),.c (b0 z+7) 0 n (.a n),iV n,iV n],⟨8+5*n,OS,[]⟩)) (ox z L) 18 [.g (aaa k d k1 x k2 y (kR z L c) ea la),.a .i64 m]) (bE 1202666614)=fk (not (ab 0 m)) (Q (Xl .l 4,oE (aaa k d k1 x k2 y (kR z L c) ea la))) (ok 7 (Cw cfg (ox z L)) [.g (aaa k d k1 x k2 y (kR z L c) ea la)] (oE (aaa k d k1 x k2 y (kR z L c) ea la)) (.d [.c (b0 z+7) 0 n (.a n),.a .i64 0],oC (aaa k d k1 x k2 y (kR z L c) ea la) F n g p)/\eqv (vwE (b0 z) n m 0,oC (aaa k d k1 x k2 y (kR z L c) ea la) F n g p) a/\(∀_:Nat->Value,Q (Xl (.i 122 [] [.h (b0 z+(8+5*n)) 0]) 0,⟨9+5*n,bx [.c u 0 n (.b 0)]::OS,[]⟩))):=by
 intro n h1 h6 z;have hn:n=1\/n=2\/n=3\/n=4\/n=5\/n=6:=δ
 rcases hn with rfl|rfl|rfl|rfl|rfl|rfl<;>cases z<;>show _=_<;>kernel_rfl
theorem bGe(z:Bool):gG Q (bT (apl ok e) jE (ox z L) 18 [.g (aaa k d k1 x k2 y (kR z L c) ea la),.a .i64 m]) (bE 10142666614)=fk (not (ab 0 m)) (Q (Xl .l 4,oE (aaa k d k1 x k2 y (kR z L c) ea la))) (ok 7 (Cw cfg (ox z L)) [.g (aaa k d k1 x k2 y (kR z L c) ea la)] (oE (aaa k d k1 x k2 y (kR z L c) ea la)) (.d [.f,.a .i64 e],oE (aaa k d k1 x k2 y (kR z L c) ea la))/\fk (not (aa e 0)) (Q (Xl .l e,oE (aaa k d k1 x k2 y (kR z L c) ea la))) (Q (Xl (.i 122 [] [.h (b0 z+1) 0]) 0,⟨2,[bx [.f],bx (aaa k d k1 x k2 y (kR z L c) ea la)],[]⟩))):=by cases z<;>kernel_rfl
end
theorem aoh:(bz (aL 18)).map (·.1)=[0]:=κ
theorem ZY:aY tab 18=some (dH 18,aL 18):=κ
def gKf:List AV->Nat
 | [.g (.a .u8 k::_),_]=>gK k
 | _=>0
section
variable{k:Int}{d x y:Da}{k1 k2 m:Int}{ea la z:Bool}{L:List It}{c:Nat}
theorem fEr{n:Nat}{g:Option Nat}{Φ:Nat->Fk}{p:Nat->cD}(h1:1<=n)(h6:n<=6)(hz:z=false->n=1)(hm:0<=m)(u7:abf 7 [.g (aaa k d k1 x k2 y (kR z L c) ea la)] (ox z L) n (.a n) g Φ p)(l7:adb Φ n)(hp:∀j,j<6->cR 14 (p j))(hW:∀i,i<n->Ve p (Φ i)):bu Tryz.prog cfg 18 [.g (aaa k d k1 x k2 y (kR z L c) ea la),.a .i64 m] (ox z L) (Xl (.i 122 [] [.h (b0 z) 0]) 0) (gP 1):=by
 obtain⟨n,rfl⟩:∃i,n=i+1:=⟨n-1,by omega⟩;refine abj (acj sf) (L:=L18 eqC (vwE (b0 z) (n+1) m 0,oC (aaa k d k1 x k2 y (kR z L c) ea la) (λi=>(Φ i).at (b0 z+1)) (n+1) g p) (.b 0,vwE (b0 z) (n+1) m (n+1),oEi (λi=>gK (Φ i).k) (b0 z) (n+1) (oC (aaa k d k1 x k2 y (kR z L c) ea la) (λi=>(Φ i).at (b0 z+1)) (n+1) g p).os)) ZY θ (dv aoh λi hi e he st Q hw=>?_) (λ_=>bGo (okC Tryz.prog cfg) eqC _ gKf m k d x y k1 k2 ea la _ _ (λi=>(Φ i).at (b0 z+1)) g p L c (n+1) h1 h6 z) λQ hQ=>⟨λh=>?_,λ_=>⟨aa3.2 (aoD u7 l7 hp),Yt.2 rfl,λ_=>hQ _ (dL.a0 j0 [8+5*(n+1)] (λk hk=>by simp at hk;omega) θ ?_)⟩⟩
 . have hi:i=0:=by simp at hi;exact hi
   subst hi;cases he;refine bR (cC.a0 (acj sf)) ζ rfl (atN sf h1 h6 hz (λi _=>aeQ (P:=p)) (λi hi=>rfl) λi hi=>?_) hw;have hcall:=(YP (C:=Cw cfg (ox z L)) (o:=c9E (λi=>gK (Φ i).k) (b0 z) i ((Φ i).at (b0 z+1)).cs (oC (aaa k d k1 x k2 y (kR z L c) ea la) (λi=>(Φ i).at (b0 z+1)) (n+1) g p).os) (u:=b0 z+1) (hW i hi) (λj hj=>?_) m).2
   . have eC:(Cw cfg (ox z L)).lo+(c9E (λi=>gK (Φ i).k) (b0 z) i ((Φ i).at (b0 z+1)).cs (oC (aaa k d k1 x k2 y (kR z L c) ea la) (λi=>(Φ i).at (b0 z+1)) (n+1) g p).os).n=b0 z+9+5*i:=by
      show 14+(ox z L).length+(9+5*i)=_;cases z<;>simp[ox,b0]<;>omega
     rw[eC]at hcall;have e11:2+(9+5*i)=11+5*i:=δ
     have e2:(⟨2+(9+5*i),gP 2++(c9E (λi=>gK (Φ i).k) (b0 z) i ((Φ i).at (b0 z+1)).cs (oC (aaa k d k1 x k2 y (kR z L c) ea la) (λi=>(Φ i).at (b0 z+1)) (n+1) g p).os).os,[]⟩:aB)=cXE (λi=>gK (Φ i).k) (b0 z) i ((Φ i).at (b0 z+1)).cs (oC (aaa k d k1 x k2 y (kR z L c) ea la) (λi=>(Φ i).at (b0 z+1)) (n+1) g p).os:=by
      rw[e11];rfl
     rw[show(⟨2+(c9E (λi=>gK (Φ i).k) (b0 z) i ((Φ i).at (b0 z+1)).cs (oC (aaa k d k1 x k2 y (kR z L c) ea la) (λi=>(Φ i).at (b0 z+1)) (n+1) g p).os).n,gP 2++(c9E (λi=>gK (Φ i).k) (b0 z) i ((Φ i).at (b0 z+1)).cs (oC (aaa k d k1 x k2 y (kR z L c) ea la) (λi=>(Φ i).at (b0 z+1)) (n+1) g p).os).os,(c9E (λi=>gK (Φ i).k) (b0 z) i ((Φ i).at (b0 z+1)).cs (oC (aaa k d k1 x k2 y (kR z L c) ea la) (λi=>(Φ i).at (b0 z+1)) (n+1) g p).os).le⟩:aB)=_ from e2]at hcall;exact hcall
   . have sx:j=0\/j=1\/j=2\/j=3\/j=4\/j=5:=δ
     have si:i=0\/i=1\/i=2\/i=3\/i=4\/i=5:=δ
     cases z<;>rcases si with rfl|rfl|rfl|rfl|rfl|rfl<;>rcases sx with rfl|rfl|rfl|rfl|rfl|rfl<;>rfl
 . rw[π,bF]at h;omega
 . have hb:14+(ox z L).length=b0 z:=by cases z<;>rfl
   rw[hb];have h0:To (b0 z) (fY (b0 z) 0 [8+5*(n+1)]) (b0 z+(8+5*(n+1)))=some (b0 z):=by
    simp only[To,fY,xx,ou.2 (show b0 z<=b0 z+(8+5*(n+1))by omega),rY (rfl:b0 z+(8+5*(n+1))=_),zAj,Nat.add_zero]
   simp only[Xl,kG,yw,h0,ob]
theorem fEm(hm:m<0):bu Tryz.prog cfg 18 [.g (aaa k d k1 x k2 y (kR z L c) ea la),.a .i64 m] (ox z L) (Xl .l 4) []:=
 abj (ZW (e:=0)) (L:=jE) ZY θ ai (λ_=>bGe (okC Tryz.prog cfg) 0 m k d x y k1 k2 ea la L c z) λQ hQ=>⟨λ_=>hQ _ (dL.a0 j0 [] θ θ κ),λh=>by
  rw[ο,aq]at h;omega⟩
theorem fEe{e:Int}(hm:0<=m)(he:e≠0)(h7:bu Tryz.prog cfg 7 [.g (aaa k d k1 x k2 y (kR z L c) ea la)] (ox z L) (.d [.f,.a .i64 e]) []):bu Tryz.prog cfg 18 [.g (aaa k d k1 x k2 y (kR z L c) ea la),.a .i64 m] (ox z L) (Xl .l e) []:=
 abj (ZW (e:=e)) (L:=jE) ZY θ ai (λ_=>bGe (okC Tryz.prog cfg) e m k d x y k1 k2 ea la L c z) λQ hQ=>⟨λh=>by
  rw[π,bF]at h;omega,λ_=>⟨aa3.2 (YO X7 (λ_=>rfl) h7),λ_=>hQ _ (dL.a0 j0 [] θ θ κ),λh=>by
  rw[ο,ao]at h;exact absurd h he⟩⟩
end
theorem ape{a c d:Int}{K:fg}{j:Nat}{P:Nat->cD}{x:Bool}{g:Option Nat}(hj:j<6)(hP:P j=.a (aab a b c d) x g)(h:Ye ⟨a,b,c,d⟩):Ve P ⟨1,some (j,1,K),rb,0,0,0,0,0⟩:=
 .b (R:=[⟨a,b,c,d⟩]) hj hP (ξ _) (amb (apB h)).2.1
section
variable{P:Nat->cD}
theorem apd(hv:dF x)(hg:x.g=0)(hx:eA (x.s++x.mo++x.da)):Ve P ⟨2,none,⟨x.ng,x.lg,x.s,x.e,0,x.mo,x.da,0,0,0⟩,0,0,0,0,0⟩:=by
 obtain⟨n1,n2,n3⟩:=aej hv;obtain⟨h6,i1,i2,i3,i4,i5,h0⟩:=SA.1 (show wa _ _ _ _ _ _ _ _ _ _=true from hv);have e:=afO (ak5 h0);have hg0:UI ⟨x.ng,x.lg,x.s,x.e,0,x.mo,x.da,0,0,0⟩=0:=by grind [UI]
 rw[al]at n1 n2 n3;refine .a ?_ aqE ?_
 . unfold rM;simp only[zAa,al];exact⟨by omega,by omega,by omega,i1,rfl,rfl,rfl,rfl⟩
 . unfold K2 iT;rw[if_neg δ,if_neg δ,if_pos rfl,if_pos ⟨rfl,rfl,rfl⟩,if_pos hg0,if_pos ⟨rfl,hx,rfl⟩]
theorem w_u{p a c d:Int}(hp:1<=p/\p<=3)(ha:af .i8 a)(hb:af .i64 b)(hc:af .i8 c)(hd:af .i64 d)(hf:i6 a b c d p):Ve P ⟨3,none,rb,p,a,b,c,d⟩:=by
 refine .a aob ?_ ?_
 . unfold Zf;rw[ha,hb,hc,hd,show af .u8 p=true by grind [aE,eH,eE]];rfl
 . unfold K2 iT;rw[if_neg δ,if_neg δ,if_neg δ,if_pos rfl,if_pos ⟨rfl,rfl⟩,if_pos hp,if_pos hf]
theorem as5{p d:Int}(hp:1<=p/\p<=3)(hb:af .i64 b/\lT b p/\CK b p=b)(hd:af .i64 d/\lT d p/\PU d p=d)(hl:b<=d):Ve P ⟨3,none,rb,p,0,b,0,d⟩:=
 w_u hp rfl hb.1 rfl hd.1 (zi.2 ⟨.inl rfl,gA.2 ⟨.inl rfl,.inl rfl,.inr ⟨rfl,hl⟩⟩,λ_=>hb.2,λ_=>hd.2⟩)
theorem aul{p d:Int}(hp:1<=p/\p<=3)(hd:af .i64 d/\lT d p/\PU d p=d):Ve P ⟨3,none,rb,p,-1,0,0,d⟩:=
 w_u hp rfl rfl rfl hd.1 (zi.2 ⟨.inr rfl,gA.2 ⟨.inr ⟨rfl,rfl⟩,.inl rfl,.inl ζ⟩,λh=>absurd h ζ,λ_=>hd.2⟩)
theorem aum{p:Int}(hp:1<=p/\p<=3)(hb:af .i64 b/\lT b p/\CK b p=b):Ve P ⟨3,none,rb,p,0,b,1,0⟩:=
 w_u hp rfl hb.1 rfl rfl (zi.2 ⟨.inl rfl,gA.2 ⟨.inl rfl,.inr ⟨rfl,rfl⟩,.inl ζ⟩,λ_=>hb.2,λh=>absurd h ζ⟩)
theorem w_4{d:Int}(hd:af .i64 d):Ve P ⟨4,none,rb,0,-1,0,0,d⟩:=by
 refine .a aob ?_ ?_
 . unfold Zf;rw[hd];rfl
 . unfold K2 iT;rw[if_neg δ,if_neg δ,if_neg δ,if_neg δ,if_pos ⟨rfl,rfl,rfl⟩,if_pos ⟨gA.2 ⟨.inr ⟨rfl,rfl⟩,.inl rfl,.inl ζ⟩,.inl ⟨rfl,rfl,rfl⟩⟩]
theorem w_5(hb:af .i64 b):Ve P ⟨5,none,rb,0,0,b,1,0⟩:=by
 refine .a aob ?_ ?_
 . unfold Zf;rw[hb];rfl
 . unfold K2 iT;rw[if_neg δ,if_neg δ,if_neg δ,if_neg δ,if_pos ⟨rfl,rfl,rfl⟩,if_pos ⟨gA.2 ⟨.inl rfl,.inr ⟨rfl,rfl⟩,.inl ζ⟩,.inr ⟨rfl,rfl,rfl⟩⟩]
theorem apf(hv:dF x)(hg:1<=x.g):Ve P ⟨3,none,rb,1,0,bf (jI x.ng x.s x.e x.g),0,bf (jL x.ng x.s x.e x.g+1)-1⟩:=by
 obtain⟨_,_,_,_,_,_,h0⟩:=SA.1 (show wa _ _ _ _ _ _ _ _ _ _=true from hv);have hk:=(acz (Cc h0)).2;unfold oc at hk;rw[zAc]at hk;obtain⟨a1,a2,a3⟩:=ahZ hk.1 hg;obtain⟨⟨b1,b2⟩,-,b3,b4,b5⟩:=@afo _ 0 0 1 a1 (.inl ⟨rfl,rfl⟩);obtain⟨-,⟨c1,c2⟩,c3,c4,c5⟩:=@afo _ 0 0 1 a2 (.inl ⟨rfl,rfl⟩);have m:=eF a3;have e1:∀y,iO y 0 0=bf y:=λ_=>rfl;have e2:∀y,iD y 0 0=bf (y+1)-1:=λ_=>rfl;grind [as5,abP]
theorem arr{j:Nat}{g:Option Nat}{t:Bool}(hv:dF x)(hj:j<6)(hP:fy x->P j=.a (aab 0 (kD x) 0 (bq x.ng x.s x.e x.mo x.da)) t g):Ve P (sU x j):=by
 unfold sU;cases hg:ab 1 x.g with
 | true=>exact apf hv (aq.mp hg)
 | false=>
   rw[bF]at hg;cases hn:fy x with
   | true=>
     have e1:=hP hn;obtain⟨b1,b2,b3⟩:=abC (qd (show wa _ _ _ _ _ _ _ _ _ _=true from hv) hn);exact ape hj e1 ⟨gA.2 ⟨.inl rfl,.inl rfl,.inr ⟨rfl,b2⟩⟩,by grind [kD],by grind [kD],by grind,by grind⟩
   | false=>
     have g0:x.g=0:=by
      obtain⟨_,_,_,_,_,_,h0⟩:=SA.1 (show wa _ _ _ _ _ _ _ _ _ _=true from hv);have hk:=(acz (Cc h0)).2;grind [oc,aV]
     simp_all [apd,fy,cK,aa]
end
theorem ars{ea la:Bool}{L:List It}(h:nI 3 ea la L)(h5:L.length<=6){i:Nat}(hi:i<L.length):Ve (qb ea la L L.length) (qG ea la L i):=by
 have hit:=h.it i hi;have hE:ea->i=0->aaD (L.getD i fP)=true:=λh1 h2=>by subst h2;exact h.he h1
 have hL:la->i+1=L.length->aaD (L.getD i fP)=true:=λh1 h2=>by
  have:=h.hl h1;grind
 unfold qG;unfold aap mB at hit;simp only[zAa]at hit;obtain⟨v1,v2,-⟩:=hit;cases hd:mf ea la L i with
 | true=>
   rw[cond_true];refine arr (t:=true) (g:=none) v1 δ λhn=>?_;grind [aba,mf,qb,kD,aU,oB,mw]
 | false=>
   rw[cond_false];unfold W2;unfold mf at hd;generalize L.getD i fP=x at *;unfold kW;have cp:=comps_bd x.f.mo x.f.da;have hp:1<=dq x.f.mo x.f.da/\dq x.f.mo x.f.da<=3:=cp;cases hr:x.r with
   | true=>
     rw[hr,cond_true,zAa]at v2;obtain⟨w1,w2⟩:=v2;unfold mV at w2;simp only[zAa]at w2;obtain⟨p1,p2,p3,p4⟩:=w2;rw[ao]at p3;rw[aq]at p4;have ne:∀b,aaD x=b->b=false:=λb hb=>by
      grind [aaD]
     have e1:(ea&&ς i 0)=false:=by
      rw[<-Bool.not_eq_true,zAa];simp_all
     have e2:(la&&ς (i+1) L.length)=false:=by
      rw[<-Bool.not_eq_true,zAa];simp_all
     obtain⟨⟨b1,b2⟩,-,b3,b4,b5⟩:=ad4 v1 p1;obtain⟨-,⟨c1,c2⟩,c3,c4,c5⟩:=ad4 w1 p2;rw[<-p3]at c1 c2;have eh:mw x=bq x.t.ng x.t.s x.t.e x.t.mo x.t.da:=by grind [mw]
     rw[e1,e2,eh];have p4:kD x.f<=kD x.t:=p4;exact as5 (b:=kD x.f) (d:=bq x.t.ng x.t.s x.t.e x.t.mo x.t.da) hp ⟨abP δ δ,b1,b2⟩ ⟨abP δ δ,c1,c2⟩ δ
   | false=>
     rw[hr]at hd;have plx:aaD x->kZ x.f=true:=λk=>by
      grind [aaD]
     have eh:mw x=bq x.f.ng x.f.s x.f.e x.f.mo x.f.da:=by grind [mw]
     rw[eh];cases e1:(ea&&ς i 0)<;>cases e2:(la&&ς (i+1) L.length)<;>rw[e1,e2]at hd
     . grind
     . rw[zAa]at e2;obtain⟨⟨b1,b2⟩,-,b3,b4,b5⟩:=ad4 v1 (plx (hL e2.1 (aJ.mp e2.2)));exact aum (b:=kD x.f) hp ⟨abP δ δ,b1,b2⟩
     . rw[zAa]at e1;obtain⟨-,⟨c1,c2⟩,b3,b4,b5⟩:=ad4 v1 (plx (hE e1.1 (aJ.mp e1.2)));grind [aul,abP]
     . rw[zAa]at e1 e2;have:=aJ.mp e1.2;have:=aJ.mp e2.2;exact absurd δ (h.h1 e1.1 e2.1)
def R7w(z:Bool)(L:List It)(E:List AV):Prop:=∃(n:Nat) (g:Option Nat) (Φ:Nat->Fk) (p:Nat->cD),1<=n/\n<=6/\(z=false->n=1)/\abf 7 [.g E] (ox z L) n (.a n) g Φ p/\adb Φ n/\(∀j,j<6->cR 14 (p j))/\∀i,i<n->Ve p (Φ i)
section
variable{z:Bool}{c:Nat}
theorem wN{E:List AV}{φ:Fk}(hs:φ.s=none)(h7:bu Tryz.prog cfg 7 [.g E] (ZT z) (.d [.c (b0 z) 0 1 (.a 1),.a .i64 0]) [.a (φ.at (b0 z)).cs true none])(hF:Ve (λ_=>.b) φ):R7w z [] E:=⟨1,none,λ_=>φ,λ_=>.b,ξ 1,by decide,λ_=>rfl,uN hs h7,acK hs,λ_ _=>aa5,λ_ _=>hF⟩
theorem wR{E:List AV}{u v s t:Int}(ho:Ye ⟨u,v,s,t⟩)(h7:bu Tryz.prog cfg 7 [.g E] (ZT z) (j7 z u v s t).1 (j7 z u v s t).2):R7w z [] E:=⟨1,none,λ_=>⟨1,some (0,1,.a 1),rb,0,0,0,0,0⟩,xq (.a (aab u v s t) true none),ξ 1,by decide,λ_=>rfl,uR rfl aac h7,adK rfl,abn aac,λ_ _=>ape ζ rfl ho⟩
theorem sgW(hv:dF x):R7w z [] (aaa 1 x 0 rb 0 rb (kR z [] c) false false):=by
 cases hg:ab 1 x.g with
 | true=>
   rw[aq]at hg;exact wN (φ:=⟨3,none,rb,1,0,_,0,_⟩) rfl ((zS hv).1 hg) (apf hv hg)
 | false=>
   cases hn:fy x with
   | true=>
     obtain⟨b1,b2,b3⟩:=abC (qd (show wa _ _ _ _ _ _ _ _ _ _=true from hv) hn);exact wR (u:=0) (v:=jc x) (s:=0) (t:=iQ x) ⟨gA.2 ⟨.inl rfl,.inl rfl,.inr ⟨rfl,b2⟩⟩,by grind,by grind,by grind,by grind⟩ ((zS hv).2.2 hn)
   | false=>
     have g0:x.g=0:=by
      rw[bF]at hg;obtain⟨_,_,_,_,_,_,h0⟩:=SA.1 (show wa _ _ _ _ _ _ _ _ _ _=true from hv);have hk:=(acz (Cc h0)).2;grind [oc,aV]
     have hx:eA (x.s++x.mo++x.da)=true:=by
      simp_all [fy,cK,aa]
     exact wN (φ:=⟨2,none,⟨x.ng,x.lg,x.s,x.e,0,x.mo,x.da,0,0,0⟩,0,0,0,0,0⟩) rfl ((zS hv).2.1 g0 hx) (apd hv g0 hx)
theorem ivW{k1 k2:Int}{y:Da}(hx:Bd k1 x)(hy:Bd k2 y)(hp:jM k1 x k2 y=0):R7w z [] (aaa 2 rb k1 x k2 y (kR z [] c) false false):=by
 rcases hx with⟨rfl,x1,x2⟩|⟨rfl,rfl⟩|⟨rfl,rfl⟩<;>rcases hy with⟨rfl,y1,y2⟩|⟨rfl,rfl⟩|⟨rfl,rfl⟩
 . obtain⟨a1,a2,a3⟩:=abC (qd (show wa _ _ _ _ _ _ _ _ _ _=true from x1) x2);obtain⟨c1,c2,c3⟩:=abC (qd (show wa _ _ _ _ _ _ _ _ _ _=true from y1) y2);have hle:jc x<=iQ y:=by
    unfold jM at hp;cases hl:ab (aP x.ng x.s x.e x.mo x.da) (bq y.ng y.s y.e y.mo y.da)with
    | true=>exact aq.mp hl
    | false=>grind
   exact wR (u:=0) (v:=jc x) (s:=0) (t:=iQ y) ⟨gA.2 ⟨.inl rfl,.inl rfl,.inr ⟨rfl,hle⟩⟩,by grind,by grind,by grind,by grind⟩ (Qy x1 x2 y1 y2 hle)
 . obtain⟨a1,a2,a3⟩:=abC (qd (show wa _ _ _ _ _ _ _ _ _ _=true from x1) x2);exact wR (u:=0) (v:=jc x) (s:=1) (t:=0) ⟨gA.2 ⟨.inl rfl,.inr ⟨rfl,rfl⟩,.inl θ⟩,by grind,by grind,by simp,by simp⟩ (QC x1 x2)
 . obtain⟨a1,a2,a3⟩:=abC (qd (show wa _ _ _ _ _ _ _ _ _ _=true from x1) x2);exact wN (φ:=⟨5,none,rb,0,0,jc x,1,0⟩) rfl (QD x1 x2) (w_5 (abP (d:=aP x.ng x.s x.e x.mo x.da) δ δ))
 . obtain⟨c1,c2,c3⟩:=abC (qd (show wa _ _ _ _ _ _ _ _ _ _=true from y1) y2);exact wR (u:=-1) (v:=0) (s:=0) (t:=iQ y) ⟨gA.2 ⟨.inr ⟨rfl,rfl⟩,.inl rfl,.inl θ⟩,by simp,by simp,by grind,by grind⟩ (QE y1 y2)
 . cases hp
 . cases hp
 . obtain⟨c1,c2,c3⟩:=abC (qd (show wa _ _ _ _ _ _ _ _ _ _=true from y1) y2);exact wN (φ:=⟨4,none,rb,0,-1,0,0,iQ y⟩) rfl (QK y1 y2) (w_4 (abP (d:=bq y.ng y.s y.e y.mo y.da) δ δ))
 . cases hp
 . cases hp
end
section
variable{c:Nat}{ea la:Bool}{L:List It}
theorem aoW(hL:nI 4 ea la L)(h6:L.length<=6):R7w true L (aaa 4 rb 0 rb 0 rb (kR true L c) ea la):=by
 have f7:=@aqh ea la L (.a c) hL h6;obtain⟨r1,r2,r3,r4⟩:=aef hL h6;have hb:∀x∈pB ea la L L.length,Ye x:=λx hx=>by
  obtain⟨i,hi,rfl⟩:=List.mem_map.1 hx;have hb:=ahL (hL.it i (List.mem_range.1 hi));have hc:=r3 _ hx;refine⟨hc,?_,?_,?_,?_⟩<;>unfold W2 kW<;>dsimp only<;>(first|cases(ea&&ς i 0)|skip)<;>(first|cases(la&&ς (i+1) L.length)|skip)<;>simp only[zAj]<;>omega
 obtain⟨c1,c2,c3⟩:=amb (afK hb).1;obtain⟨l1,l2⟩:=asX r1;have lo:cR 14 (.a (bh (rF (pB ea la L L.length))) true (some 4)):=tm;exact⟨1,none,λ_=>⟨1,some (0,(rF (pB ea la L L.length)).length,.a (rF (pB ea la L L.length)).length),rb,0,0,0,0,0⟩,_,ξ 1,by decide,nofun,u2 i7 (ξ 1) rfl lo f7,adK rfl,abn lo,λ_ _=>.b ζ rfl l1 c2⟩
theorem ooW(hL:nI 3 ea la L)(h6:L.length<=6):R7w true L (aaa 3 rb 0 rb 0 rb (kR true L c) ea la):=by
 have f7:=@Q9 ea la L (.a c) hL h6;unfold aia at f7;rw[aev]at f7;exact⟨L.length,_,qG ea la L,qb ea la L L.length,hL.n1,h6,nofun,f7,af9 h6,λ_ _=>fK,λi hi=>ars hL h6 hi⟩
end
section
variable{k:Int}{d x y:Da}{k1 k2:Int}{ea la z:Bool}{L:List It}{c:Nat}
theorem r7w(hm:L.length<=6)(hz:z=false->L=[])(hd:rM d)(hx:rM x)(hy:rM y)(hg:GdL L)(h0:Tt k d k1 x k2 y ea la L=0):R7w z L (aaa k d k1 x k2 y (kR z L c) ea la):=by
 unfold Tt at h0;cases hk:(ab 1 k&&ab k 4)<;>rw[hk]at h0
 . cases h0
 cases hu:usE k d k1 x k2 y ea la L.length<;>rw[hu]at h0
 . rw[zAa,aq,aq]at hk;have hu':=hu;unfold usE YN at hu';rw[ο]at hu';simp only[zAa,Bool.or_eq_true,ao,aJ,π,and_true]at hu';obtain⟨⟨a1,a2⟩,a3⟩:=hu';cases h1:aa k 1<;>rw[h1]at h0
   . rw[aw]at h1;obtain rfl:=Uq (a1.resolve_left h1);cases h2:aa k 2<;>rw[h2]at h0
     . rw[aw]at h2;obtain⟨⟨rfl,b1⟩,rfl,b2⟩:=a2.resolve_left h2;obtain rfl:=Uq b1;obtain rfl:=Uq b2;cases hl:ς L.length 0<;>rw[hl]at h0
       . rw[b9]at hl;have z1:z=true:=by
          cases z
          . rw[hz rfl]at hl;exact absurd rfl hl
          . rfl
         subst z1;have h34:k=3\/k=4:=δ
         rcases h34 with rfl|rfl
         . exact ooW (apc rfl δ hm hg h0) hm
         . exact aoW (apc rfl δ hm hg h0) hm
       . cases h0
     . rw[ao]at h2;subst h2;obtain⟨⟨hl,rfl⟩,rfl⟩:=a3.resolve_left ζ;obtain rfl:=List.length_eq_zero_iff.1 hl;have h0:prE k1 x k2 y=0:=h0;unfold prE at h0;cases e1:aa (Yf k1 x) 0<;>rw[e1]at h0
       . rw[aw]at e1;exact absurd h0 e1
       cases e2:aa (Yf k2 y) 0<;>rw[e2]at h0
       . rw[aw]at e2;exact absurd h0 e2
       exact ivW (arT hx (ao.mp e1)) (arT hy (ao.mp e2)) h0
   . rw[ao]at h1;subst h1;obtain⟨⟨rfl,b1⟩,rfl,b2⟩:=a2.resolve_left ζ;obtain rfl:=Uq b1;obtain rfl:=Uq b2;obtain⟨⟨hl,rfl⟩,rfl⟩:=a3.resolve_left ζ;obtain rfl:=List.length_eq_zero_iff.1 hl;exact sgW (Vd hd h0)
 . cases h0
end
def ws5(z y:Bool)(R:List Rn)(L:List It):List cD:=UO z R++ox y L
def slY(z y:Bool)(L:List It)(c:Nat):AV:=bif y then .c (b0 z) 0 L.length (.a c)else .f
def v17(w:Bool)(g:Nat)(e:Int)(b:Nat):AV:=bif w then Xl .l e else Xl (cl g b) e
def acU(w:Bool):List cD:=bif w then[]else gP 2
def v18(w:Bool)(e:Int)(b:Nat):AV:=bif w then Xl .l e else Xl (.i 122 [] [.h b 0]) e
def amm(w:Bool):List cD:=bif w then[]else gP 1
noncomputable def an1:aQ:=aK gZ 13 Bn
noncomputable def TW5(ok:qp)(e u N1 a N2 b e17 e18:Int)(B1 B2 w v:Bool)(g:Nat):aQ:=eQ (eQ (eQ (eQ (eQ (eQ (eQ an1 11 (vv ok 11 (λ_=>.a .i64 e) [])) 14 (vv ok 14 (λ_=>.a .i64 u) [])) 15 (vv ok 15 (λ_=>t3 N1 B1 a) [])) 16 (vv ok 16 (λ_=>t3 N2 B2 b) [])) 10 (vv ok 10 (λ_=>.a .i64 e) [])) 17 (vv ok 17 (v17 w g e17) (acU w))) 18 (vv ok 18 (v18 v e18) (amm v))
def eI(b:Bool)(E:Nat):Int:=bif b then ν (E+1)else 0
def oI(b o:Bool)(E:Nat):Int:=bif b then ν (E+1)else bif o then 15 else 0
def mI(b:Bool)(M:Nat):Int:=bif b then Int.negSucc M else ν M
def tl(ok:qp)(f:Nat)(C:bg)(args:List AV)(o:aB)(v:Nat->AV)(news:List cD)(X:Prop):Prop:=ok f C args o (v (C.lo+o.n),⟨news.length+o.n,news++o.os,o.le⟩)/\X
def cI(b:Bool)(k:Nat)(q v w:Bool)(X:Prop):Prop:=bif b then rp k (not (not q)) v (bif w then not q=(not v)/\X else X)else X
def cJ(b:Bool)(k:Nat)(q:Bool)(X:Prop):Prop:=bif b then rp k q true X else X
def dSf(z y:Bool)(b:Nat):Nat:=bif z then(bif y then b*1000000000000000+633220273220220 else b*100000000000+63553220220)else(bif y then b*1000000000000+633220270005 else b*1000000+630056)
def wY(fe ue mn:Bool):Nat:=bif fe then(bif ue then(bif mn then 1066266662006666332755623020007526666255626666255 else 162277766662006666332755623020007526666255626666255)else(bif mn then 1066266662006666300020663020007526666255626666255 else 1005622766662006666300020663020007526666255626666255))else(bif ue then(bif mn then 1066266662000666632755625626666255626666255 else 16775266662000666632755625626666255626666255)else 1066266662005666620566626666255626666255)
section
variable(ok:qp)(E U M:Nat)(N1 N2:Int)(B1 B2:Bool)(g:Nat)(m:Int)(k1:Int)(x1:Da)(p a1 b1 c1 d1:Int)(R:List Rn)(n:Nat)(K:fg)(k:Int)(d x y:Da)(k2 k3:Int)(ea la:Bool)(L:List It)(c:Nat){Q:AV->Prop}
def tLw(z yy fe fo ue uo mn:Bool)(C:bg)(A B:List AV)(o:aB)(m:Int)(X:Prop):Prop:=
 cI z 4 (ab (ν n) 8) true true <| cI yy 6 (ab (ν L.length) 6) true true (not (ab (ν x1.s.length) 30)=false/\
 (tl ok 11 C [.g A] o (λ_=>.a .i64 (eI fe E)) [] <| tl ok 14 C [.g B] o (λ_=>.a .i64 (eI ue U)) [] <| tl ok 15 C [.g A] o (λ_=>t3 N1 B1 (oI fe fo E)) [] <| tl ok 16 C [.g B] o (λ_=>t3 N2 B2 (oI ue uo U)) [] <|
 cI fe 4 (aa (ν (E+1)) (ν (E+1))) true true <| cI ue 2 (aa (ν (U+1)) (ν (U+1))) true false <| tl ok 10 C [.g A] o (λ_=>.a .i64 (eI fe E)) [] <|
 cI ue 2 (aa (ν (U+1)) (ν (U+1))) true true <| cI fe 0 (aa (ν (E+1)) (ν (E+1))) true true <|
 tl ok 17 C [.g A,.a .i64 m] o (v17 (mn || fe) g (bif mn then 4 else eI fe E)) (acU (mn || fe)) <| tl ok 18 C [.g B,.a .i64 m] ⟨(acU (mn || fe)).length+o.n,acU (mn || fe)++o.os,o.le⟩ (v18 (mn || ue) (bif mn then 4 else eI ue U)) (amm (mn || ue)) <|
 cJ (fe&&not mn) 4 (aa (ν (E+1)) (ν (E+1))) <| cJ (ue&&not mn) 6 (aa (ν (U+1)) (ν (U+1))) X))
def o5(A B:List AV):aB:=⟨2,[.a B true none,.a A true none],[]⟩
theorem bLw(z yy fe fo ue uo mn:Bool):gG Q (pW (TW5 ok (eI fe E) (eI ue U) N1 (oI fe fo E) N2 (oI ue uo U) (bif mn then 4 else eI fe E) (bif mn then 4 else eI ue U) B1 B2 (mn || fe) (mn || ue) g) jE (ws5 z yy R L) 5 [.g (eb k1 (Th z n K) x1 p a1 b1 c1 d1),.g (aaa k d k2 x k3 y (slY z yy L c) ea la),.a .i64 (mI mn M)]) (bE (dSf z yy (wY fe ue mn)))=tLw ok E U N1 N2 B1 B2 g x1 n L z yy fe fo ue uo mn (Cw cfg (ws5 z yy R L)) (eb k1 (Th z n K) x1 p a1 b1 c1 d1) (aaa k d k2 x k3 y (slY z yy L c) ea la) (o5 (eb k1 (Th z n K) x1 p a1 b1 c1 d1) (aaa k d k2 x k3 y (slY z yy L c) ea la)) (mI mn M) (Q (.b true)):=by
 cases z<;>cases yy<;>cases fe<;>cases fo<;>cases ue<;>cases uo<;>cases mn<;>show _=_<;>kernel_rfl
theorem bL1(yy:Bool):gG Q (pW an1 jE (ws5 true yy R L) 5 [.g (eb k1 (Th true n K) x1 p a1 b1 c1 d1),.g (aaa k d k2 x k3 y (slY true yy L c) ea la),.a .i64 m]) (bE 162380)=rp 4 (not (not (ab (ν n) 8))) false (not (ab (ν n) 8)/\Q (.b true)):=by cases yy<;>kernel_rfl
theorem bL2(z:Bool):gG Q (pW an1 jE (ws5 z true R L) 5 [.g (eb k1 (Th z n K) x1 p a1 b1 c1 d1),.g (aaa k d k2 x k3 y (slY z true L c) ea la),.a .i64 m]) (bE (bif z then 1002388220220 else 1002880005))=cI z 4 (ab (ν n) 8) true true (rp 6 (not (not (ab (ν L.length) 6))) false (not (ab (ν L.length) 6)/\Q (.b true))):=by cases z<;>kernel_rfl
theorem bL3(z yy:Bool):gG Q (pW an1 jE (ws5 z yy R L) 5 [.g (eb k1 (Th z n K) x1 p a1 b1 c1 d1),.g (aaa k d k2 x k3 y (slY z yy L c) ea la),.a .i64 m]) (bE (bif z then(bif yy then 1023220273220220 else 102553220220)else(bif yy then 1023220270005 else 1020056)))=cI z 4 (ab (ν n) 8) true true (cI yy 6 (ab (ν L.length) 6) true true (not (ab (ν x1.s.length) 30)/\Q (.b true))):=by cases z<;>cases yy<;>kernel_rfl
end
theorem ady:aY tab 5=some (dH 5,aL 5):=κ
end Go.Ev
