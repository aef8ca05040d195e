import Derived.Test.YtcffhjfdlflbgaaGreatDoorP38
set_option linter.all false
open Int renaming sub->ν,add->σ
open Nat renaming le_refl->ξ,ble->ο
open List renaming take->π,drop->ς
set_option linter.all false
set_option maxRecDepth 100000
set_option maxHeartbeats 4000000
namespace Go.Ev
open Go Go.Proofs
variable{n g β:Nat}{v:AV}{R:List Rn}{k a b c m s:Int}{K:fg}{x:Da}{C:bg}{T:FG}{φ:Fk}{Φ:Nat->Fk}
section
variable{cfg:cL}{C:bg}
theorem afx{kb:Nat}{st:St}{o':aB}(hn:o'.n=st.o.n)(hle:o'.le=st.o.le)(hlen:o'.os.length=o'.n)(h:∀i,i<st.o.n->o'.at i=st.o.at i\/o'.at i=.b):Wk cfg C kb st λs=>s=⟨st.ts,st.tn,o',st.ds,st.ro⟩:=by
 intro D m a w hi ht;have hg:∀id,D id->get C o' id=get C st.o id\/get C o' id=.b:=λid hd=>by
  have hl:=hi.lt id hd;unfold get gB;cases hb:ο C.lo id with
  | true=>
    rw[eK]at hb;simp only[cond_true];exact h _ δ
  | false=>
    simp only[cond_false];rw[hle];exact .inl rfl
 have hinv:dX cfg D m C o' w:=by
  refine⟨λid hd=>?_,λi j hdi hdj hij hl hr=>?_,λid hd=>by rw[hn];exact hi.lt id hd,hi.c0,λid hid=>?_,λid hid=>hi.le id (by rw[<-hle];exact hid),hi.lo,hlen⟩
  . rcases hg id hd with e|e<;>rw[e]
    . exact hi.a0 id hd
    . trivial
  . rcases hg i hdi with e|e
    . rcases hg j hdj with f|f
      . rw[e]at hl;rw[f]at hr;exact hi.inj i j hdi hdj hij hl hr
      . rw[f]at hr;cases hr
    . rw[e]at hl;cases hl
  . obtain⟨r1,r2⟩:=hi.b0 id hid;refine⟨r1,?_⟩;rw[<-r2];have:=hi.lo;unfold get gB;rw[jT δ,cond_false,cond_false,hle]
 exact⟨_,D,m,rfl,⟨ht.b0,ht.c0,ht.d0,ht.a0,ht.e0,ht.f0⟩,rfl,rfl,hinv,λD0 m0 o0 w0 _ _ hx=>⟨hinv,hx.g0,hx.a0,hx.l0,by rw[hn];exact hx.o0,hx.os,hx.j0,hx.c0,hx.i0,hx.f0,by rw[hle];exact hx.m0,hx.e0⟩⟩
end
def gP(n:Nat):List cD:=List.replicate n .b
theorem Us{i:Nat}{le:List (Nat×cD)}:(⟨n,gP n,le⟩:aB).at i=.b:=by
 unfold aB.at gP;grind
theorem dL.a0{ws:List cD}(hw:∀x∈ws,cR 14 x){v':AV}{os:List cD}(ks:List Nat)(hk:∀k∈ks,k<n)(hnd:ks.Nodup)(hv:kG (14+ws.length) (fY (14+ws.length) 0 ks) 20 v'=some v):dL ws v (gP ks.length) (v',⟨n,os,[]⟩):=by
 refine(afx (st:=⟨.c0 v' .a0 .a0,1,⟨n,os,[]⟩,[],none⟩) (o':=⟨n,gP n,[]⟩) rfl rfl (by simp[gP]) λi _=>.inr Us).c0 λs hs=>?_;subst hs;have hv':kG ((Cw cfg ws).lo+0) (fY (Cw cfg ws).lo 0 ks) 20 v'=some v:=hv;refine(oX gR.lv (C:=Cw cfg ws) (kb:=0) (sel:=ks) (ts':=.c0 v .a0 .a0) (o':=⟨ks.length,gP ks.length,[]⟩) (B6 hw) (Nat.zero_le _) (λs hs=>⟨Nat.zero_le _,hk s hs⟩) hnd (λp hp=>by cases hp) rfl θ (by simp[gP]) (λi hi=>absurd hi (Nat.not_lt_zero i)) (λt ht=>?_) ?_ (λd hd=>by cases hd) (λi hi=>by cases hi)).b0 λs hs=>?_
 . refine .inl ⟨?_,?_⟩
   . rw[Us,Us]
   . rw[Us];exact⟨rfl,λi hi=>by cases hi⟩
 . simp only[xB,hv',ob]
 . rw[hs];exact⟨by simp[gP],rfl⟩
def TEa:aQ:=aK gZ 97 Sf
theorem YC:ak Tryz.prog cfg TEa:=RG aW
def cl(g β:Nat):AV:=.i g [] [.h (β+1) 0,.h β 0]
def bx(c:List AV):cD:=.a c true none
def rX(l h:Int):List AV:=[.a .i8 0,.a .i64 l,.a .i8 0,.a .i64 h]
def oU(β:Nat)(F:List AV)(m p a b c d e l h:Int)(f1 f2:AV):aB:=⟨10,[bx [f2],bx [f1],bx [.a .u8 p],bx [.a .i64 e],bx (rX l h),bx (rX l h),bx [.a .i8 a,.a .i64 b,.a .i8 c,.a .i64 d],bx [.i 256 [] [.h (β+5) 0,.h (β+6) 0,.h (β+9) 0,.h (β+8) 0,.h (β+7) 0]],bx [.a .i64 m],bx F],[]⟩
def tUn(β:Nat)(F:List AV)(m p a b c d y:Int)(f1 f2:AV)(Q:EQ->Prop):Prop:=af .i64 y/\fk (ab 1 p&&ab p 3) (fk (lT y p) (Q (cl 120 (β+1),oU β F m p a b c d 0 (CK y p) (PU y p) f1 f2)) (Q (cl 120 (β+1),oU β F m p a b c d 6 0 0 f1 f2))) (Q (cl 120 (β+1),oU β F m p a b c d 18 0 0 f1 f2))
section
variable(m:Int)(x:Da)(p a b c d:Int)(R:List Rn)(n:Nat)(K:fg){Q:EQ->Prop}
theorem bE1(z:Bool):gG Q (bT TEa jE (UO z R) 61 [.g (eb 1 (Th z n K) x p a b c d),.a .i64 m]) (bE 100)=Q (cl 114 (b0 z),⟨3,[bx [.l],bx [.a .i64 m],bx (eb 1 (Th z n K) x p a b c d)],[]⟩):=by cases z<;>kernel_rfl
theorem bE2(z:Bool):gG Q (bT TEa jE (UO z R) 61 [.g (eb 2 (Th z n K) x p a b c d),.a .i64 m]) (bE 1056)=Q (cl 120 (b0 z+1),⟨4,[bx x.cs,bx [.i 190 [] [.h (b0 z+3) 0]],bx [.a .i64 m],bx (eb 2 (Th z n K) x p a b c d)],[]⟩):=by cases z<;>kernel_rfl
theorem bE3(z:Bool):gG Q (bT TEa jE (UO z R) 61 [.g (eb 3 (Th z n K) x p a b c d),.a .i64 m]) (bE 1005100510054420010051005100544200406)=fk (not (aa a 0)) (tUn (b0 z) (eb 3 (Th z n K) x p a b c d) m p a b c d d (.i 197 [] []) (.i 198 [] []) Q) (tUn (b0 z) (eb 3 (Th z n K) x p a b c d) m p a b c d b (.i 199 [] []) (.i 200 [] [.h (b0 z+3) 0]) Q):=by cases z<;>kernel_rfl
theorem bE4(z:Bool):gG Q (bT TEa jE (UO z R) 61 [.g (eb 4 (Th z n K) x p a b c d),.a .i64 m]) (bE 10005)=Q (cl 120 (b0 z+1),⟨5,[bx [.b true],bx [.a .i64 d],bx [.i 201 [] [.h (b0 z+3) 0,.h (b0 z+4) 0]],bx [.a .i64 m],bx (eb 4 (Th z n K) x p a b c d)],[]⟩):=by cases z<;>kernel_rfl
theorem bE5(z:Bool):gG Q (bT TEa jE (UO z R) 61 [.g (eb 5 (Th z n K) x p a b c d),.a .i64 m]) (bE 10005)=Q (cl 120 (b0 z+1),⟨5,[bx [.b false],bx [.a .i64 b],bx [.i 201 [] [.h (b0 z+3) 0,.h (b0 z+4) 0]],bx [.a .i64 m],bx (eb 5 (Th z n K) x p a b c d)],[]⟩):=by cases z<;>kernel_rfl
end
theorem YI:aY tab 61=some (dH 61,aL 61):=κ
theorem ajs{z:Bool}:14+(UO z R).length=b0 z:=by cases z<;>rfl
theorem arV{k:Nat}:kG β (fY β 0 [k,k+1]) 20 (cl g (β+k))=some (cl g β):=by
 have h1:To β (fY β 0 [k,k+1]) (β+k+1)=some (β+1):=by
  simp only[To,fY,xx,ou.2 (show β<=β+k+1 by omega),ic (show β+k≠β+k+1 by omega),show β+(k+1)=β+k+1 by omega,rY (rfl:β+k+1=β+k+1),zAj]
 have h2:To β (fY β 0 [k,k+1]) (β+k)=some (β+0):=by
  simp only[To,fY,xx,ou.2 (show β<=β+k by omega),rY (rfl:β+k=β+k),zAj]
 show ob (yw (kG β (fY β 0 [k,k+1]) 19) []) (λx'=>ob (yw (kG β (fY β 0 [k,k+1]) 19) [.h (β+k+1) 0,.h (β+k) 0]) λy'=>some (AV.i g x' y'))=_;simp only[yw,kG,h1,h2,ob];rfl
theorem fEa{z:Bool}{p d:Int}(hk:1<=k/\k<=5)(gp:Zf p a b c d):bu Tryz.prog cfg 61 [.g (eb k (Th z n K) x p a b c d),.a .i64 m] (UO z R) (cl (bif aa k 1 then 114 else 120) (b0 z)) (gP 2):=by
 have W:∀{j g N:Nat} {os:List cD} {q:EQ->Prop},j+1<N->(∀r,dL (UO z R) (cl g (b0 z)) (gP 2) r->q r)->q (cl g (b0 z+j),⟨N,os,[]⟩):=λ{j g N os q} hj h=>h _ (dL.a0 x8 [j,j+1] (λk hk=>by simp at hk;omega) θ (by rw[ajs];exact arV));have hU:∀{F:List AV} {y:Int} {f1 f2:AV} {q:EQ->Prop},af .i64 y->(∀r,dL (UO z R) (cl 120 (b0 z)) (gP 2) r->q r)->tUn (b0 z) F m p a b c d y f1 f2 q:=λhy h=>⟨hy,λ_=>⟨λ_=>W (j:=1) ζ h,λ_=>W (j:=1) ζ h⟩,λ_=>W (j:=1) ζ h⟩;unfold Zf at gp;simp only[zAa]at gp;have hk:k=1\/k=2\/k=3\/k=4\/k=5:=δ
 rcases hk with rfl|rfl|rfl|rfl|rfl
 . exact abj YC (L:=jE) YI θ ai (λ_=>bE1 m x p a b c d R n K z) λq h=>W (j:=0) ζ h
 . exact abj YC (L:=jE) YI θ ai (λ_=>bE2 m x p a b c d R n K z) λq h=>W (j:=1) ζ h
 . exact abj YC (L:=jE) YI θ ai (λ_=>bE3 m x p a b c d R n K z) λq h=>⟨λ_=>hU gp.2.2.2.2 h,λ_=>hU gp.2.2.1 h⟩
 . exact abj YC (L:=jE) YI θ ai (λ_=>bE4 m x p a b c d R n K z) λq h=>W (j:=1) ζ h
 . exact abj YC (L:=jE) YI θ ai (λ_=>bE5 m x p a b c d R n K z) λq h=>W (j:=1) ζ h
def TFw(ok:qp)(e:Int)(g:Nat):aQ:=eQ (eQ gZ 10 (vv ok 10 (λ_=>.a .i64 e) [])) 61 (vv ok 61 (λb=>cl g b) (gP 2))
theorem aio{e:Int}:ak Tryz.prog cfg (TFw (okC Tryz.prog cfg) e g):=bm (bm aW sf) sf
def Xl(v:AV)(e:Int):AV:=.d [v,.a .i64 e]
def cpy(n:Nat)(w:List AV):List AV:=JL (mX [.a .i8 0,.a .i64 0,.a .i8 0,.a .i64 0] n) 0 (π (n*4) (ς 0 w))
def oW(E:List AV)(D:List cD):aB:=⟨D.length+1,D++[bx E],[]⟩
def oW4(E E2:List AV)(n:Nat)(w:List AV):List cD:=[bx (cpy n w),bx E2,bx E2]
def arc(ok:qp)(C:bg)(E E2:List AV)(D:List cD)(β:Nat)(g:Nat)(m:Int)(Q:EQ->Prop):Prop:=ok 61 C [.g E2,.a .i64 m] (oW E D) (cl g (β+D.length+1),oW E (gP 2++D))/\Q (Xl (cl g (β+D.length+1)) 0,oW E (gP 2++D))
def tFw(ok:qp)(C:bg)(E:List AV)(e m:Int)(X:Prop)(Q:EQ->Prop):Prop:=fk (not (ab 0 m)) (Q (Xl .l 4,oE E)) (ok 10 C [.g E] (oE E) (.a .i64 e,oE E)/\fk (not (aa e 0)) (Q (Xl .l e,oE E)) X)
section
variable(ok:qp)(e m:Int)(g:Nat)(k:Int)(x:Da)(p a b c d:Int)(R:List Rn)(n:Nat)(K:fg){Q:EQ->Prop}
def atq:gG Q (bT (TFw ok e g) jE [] 17 [.g (eb k .f x p a b c d),.a .i64 m]) (bE 1200666614255614)=tFw ok (Cw cfg []) (eb k .f x p a b c d) e m (arc ok (Cw cfg []) (eb k .f x p a b c d) (eb k .f x p a b c d) [] 14 g m Q) Q:=ε
def atr:gG Q (bT (TFw ok e g) jE [.a (bh R) false none] 17 [.g (eb k (.c 14 0 n K) x p a b c d),.a .i64 m]) (bE 12066770201206646614255614)=tFw ok (Cw cfg [.a (bh R) false none]) (eb k (.c 14 0 n K) x p a b c d) e m (fk (aa (Int.ofNat n) 0) (arc ok (Cw cfg [.a (bh R) false none]) (eb k (.c 14 0 n K) x p a b c d) (eb k .f x p a b c d) [] 15 g m Q) (XK [ο n 10000,ο n n,ο n n,ο n n,ο (0+n*4) (bh R).length,dM (π (n*4) (ς 0 (bh R))),ο (0+(π (n*4) (ς 0 (bh R))).length) (mX [.a .i8 0,.a .i64 0,.a .i8 0,.a .i64 0] n).length] (arc ok (Cw cfg [.a (bh R) false none]) (eb k (.c 14 0 n K) x p a b c d) (eb k (.c 18 0 n (.a n)) x p a b c d) (oW4 (eb k (.c 14 0 n K) x p a b c d) (eb k (.c 18 0 n (.a n)) x p a b c d) n (bh R)) 15 g m Q))) Q:=ε
end
theorem asZ{n:Nat}:(mX [AV.a .i8 0,AV.a .i64 0,AV.a .i8 0,AV.a .i64 0] n).length=n*4:=by rw[zu];rfl
theorem ak2:cpy R.length (bh R)=bh R:=by
 have h:π (R.length*4) (ς 0 (bh R))=bh R:=by rw[List.drop_zero,List.take_of_length_le (by rw[kz];exact ξ _)]
 unfold cpy;rw[h];have hr:=@asZ R.length;grind [JL.eq_def,aeC,kz]
theorem aqv{β':Nat}:kG 14 (VV (14+β) β' 2) 20 (cl g (14+β))=some (cl g β'):=by
 have h:∀j,j<2->To 14 (VV (14+β) β' 2) (14+β+j)=some (β'+j):=λj hj=>by
  rw[To,ou.2 δ,cond_false];exact aem hj
 have h1:=h 1 ζ;have h0:To 14 (VV (14+β) β' 2) (14+β)=some β':=h 0 ζ;show ob (yw (kG 14 (VV (14+β) β' 2) 19) []) (λx'=>ob (yw (kG 14 (VV (14+β) β' 2) 19) [.h (14+β+1) 0,.h (14+β) 0]) λy'=>some (AV.i g x' y'))=_;simp only[yw,kG,h1,h0,ob];rfl
def gK(k:Int):Nat:=bif aa k 1 then 114 else 120
theorem ajF{o:aB}{args args':List AV}{szs:List Nat}{q:Aq}(hcan:nC (nX 14 C o 20) args ⟨szs,[],true⟩=some (args',q))(hq:q.ok)(h:bu Tryz.prog cfg 61 args' q.ws (cl g (14+q.ws.length)) (gP 2)):rL Tryz.prog cfg 61 C args o (cl g (C.lo+o.n),⟨2+o.n,gP 2++o.os,o.le⟩):=
 abR (news':=gP 2) gR.lv Az hcan hq h aqv rfl λj hj=>.inl ⟨rfl,by
  have:(⟨(gP 2).length,gP 2,[]⟩:aB).at j=.b:=Us;rw[this];exact⟨rfl,λi hi=>by cases hi⟩⟩
theorem aco{o:aB}{p d:Int}(hk:1<=k/\k<=5)(gp:Zf p a b c d):rL Tryz.prog cfg 61 C [.g (eb k .f x p a b c d),.a .i64 m] o (cl (gK k) (C.lo+o.n),⟨2+o.n,gP 2++o.os,o.le⟩):=by
 have hc:nC (nX 14 C o 20) [.g (eb k .f x p a b c d),.a .i64 m] ⟨[],[],true⟩=some ([.g (eb k .f x p a b c d),.a .i64 m],⟨[],[],true⟩):=by
  have hn:∀q,nX 14 C o 19 .f q=some (.f,q):=λ_=>rfl;have hm:∀q,nX 14 C o 20 (.a .i64 m) q=some (.a .i64 m,q):=λ_=>rfl;simp only[nC,agd,hn,hm,ob]
 exact ajF hc rfl (fEa (z:=false) (R:=[]) (n:=0) (K:=.a 0) hk gp)
theorem ajH{o:aB}{p d:Int}{id:Nat}{rw:Bool}{gr:Option Nat}(hg:get C o id=.a (bh R) rw gr)(hk:1<=k/\k<=5)(gp:Zf p a b c d):rL Tryz.prog cfg 61 C [.g (eb k (.c id 0 R.length K) x p a b c d),.a .i64 m] o (cl (gK k) (C.lo+o.n),⟨2+o.n,gP 2++o.os,o.le⟩):=by
 have hc:nC (nX 14 C o 20) [.g (eb k (.c id 0 R.length K) x p a b c d),.a .i64 m] ⟨[4],[],true⟩=some ([.g (eb k (.c 14 0 R.length (xe K)) x p a b c d),.a .i64 m],⟨[],[.a (bh R) false none],true⟩):=by
  have hm:∀q,nX 14 C o 20 (.a .i64 m) q=some (.a .i64 m,q):=λ_=>rfl;simp only[nC,agd,ac4 hg kC ma,hm,ob,List.length_nil,Nat.add_zero,List.nil_append]
 exact ajF hc rfl (fEa (z:=true) (R:=R) (n:=R.length) (K:=xe K) hk gp)
theorem adx:aY tab 17=some (dH 17,aL 17):=κ
section
variable{z:Bool}{k:Int}{R:List Rn}{K:fg}{x:Da}{p a b c d m:Int}(hz:z=false->R=[])(hR:Nx R)(hn:R.length<=1000)(gx:rM x)(gp:Zf p a b c d)
include hz hR hn gx gp
theorem fFw{news:List cD}(h:∀Q:EQ->Prop,(∀q,dL (UO z R) v news q->Q q)->(not (ab 0 m)->Q (Xl .l 4,oE (eb k (Th z R.length K) x p a b c d)))/\(not (ab 0 m)=false->K2 k R x p a b c d≠0->Q (Xl .l (K2 k R x p a b c d),oE (eb k (Th z R.length K) x p a b c d)))/\(not (ab 0 m)=false->K2 k R x p a b c d=0->∀D,Q (Xl (cl (gK k) (b0 z+D.length+1)) 0,oW (eb k (Th z R.length K) x p a b c d) (gP 2++D)))):bu Tryz.prog cfg 17 [.g (eb k (Th z R.length K) x p a b c d),.a .i64 m] (UO z R) v news:=by
 have c10:okC Tryz.prog cfg 10 (Cw cfg (UO z R)) [.g (eb k (Th z R.length K) x p a b c d)] (oE (eb k (Th z R.length K) x p a b c d)) (.a .i64 (K2 k R x p a b c d),oE (eb k (Th z R.length K) x p a b c d))=true:=aa3.2 (acA (λ_=>rfl) alN (λ_=>rfl) λK=>aqB hz hR hn gx gp);have hk:K2 k R x p a b c d=0->1<=k/\k<=5:=λh=>by rcases acN h with h|h|h|h|h<;>omega
 have main:∀{E:List AV} {X:Prop} {Q:EQ->Prop},E=eb k (Th z R.length K) x p a b c d->(∀q,dL (UO z R) v news q->Q q)->(K2 k R x p a b c d=0->(∀D,Q (Xl (cl (gK k) (b0 z+D.length+1)) 0,oW E (gP 2++D)))->X)->tFw (okC Tryz.prog cfg) (Cw cfg (UO z R)) E (K2 k R x p a b c d) m X Q:=λhE hQ hX=>by
  subst hE;obtain⟨h1,h2,h3⟩:=h _ hQ;refine⟨h1,λem=>⟨c10,λe=>h2 em ?_,λe=>?_⟩⟩
  . rw[Bool.not_eq_true',aw]at e;exact e
  . rw[Bool.not_eq_false',ao]at e;exact hX e (h3 em e)
 cases z
 . exact abj aio (L:=jE) adx θ ai (λ_=>atq (okC Tryz.prog cfg) _ m (gK k) k x p a b c d) λq hQ=>main rfl hQ λe hD=>⟨aa3.2 (aco (hk e) gp),hD []⟩
 . refine abj aio (L:=jE) adx θ ai (λ_=>atr (okC Tryz.prog cfg) _ m (gK k) k x p a b c d R R.length K) λq hQ=>main rfl hQ λe hD=>⟨λ_=>⟨aa3.2 (aco (hk e) gp),hD []⟩,λ_=>rR ⟨aa3.2 (ajH (R:=R) (rw:=true) (gr:=none) (congrArg (λw=>cD.a w true none) ak2) (hk e) gp),hD (oW4 _ _ _ _)⟩ ?_⟩;have hl:(π (R.length*4) (ς 0 (bh R)))=bh R:=by rw[List.drop_zero,List.take_of_length_le (by rw[kz];exact ξ _)]
   rw[hl];have l1:=ξ R.length;refine⟨al.mpr δ,al.mpr l1,al.mpr l1,al.mpr l1,al.mpr (by rw[kz];omega),X6,?_,trivial⟩;rw[al,asZ,kz];omega
end
def tlA(ok:qp)(f:Nat)(V:List AV->AV):FG:=λC args o=>some (lu (ok f C args o (V args,o)) (.a0 (V args,o)))
theorem as3{f:Nat}{V:List AV->AV}:tD Tryz.prog cfg f (tlA (okC Tryz.prog cfg) f V):=by
 intro C args o t r ht hr;cases ht;obtain⟨h,hr⟩:=bG hr;cases hr;exact aa3.1 h
def v2(N:Int)(B:Bool):AV:=.d [.a .i64 N,.b B]
def TCt(ok:qp)(nN:List AV->Int)(nB:List AV->Bool)(T:FG):aQ:=eQ (eQ gZ 60 (tlA ok 60 λl=>v2 (nN l) (nB l))) 7 T
theorem aci{nN:List AV->Int}{nB:List AV->Bool}(hT:tD Tryz.prog cfg 7 T):ak Tryz.prog cfg (TCt (okC Tryz.prog cfg) nN nB T):=bm (bm aW as3) hT
def upF(F:Nat->Fm)(i:Nat)(f:Fm):Nat->Fm:=λj=>bif Nat.beq j i then f else F j
def Yc(b:Bool)(id q:Nat)(K:fg):AV:=bif b then .c id 0 q K else .f
def oC(E:List AV)(F:Nat->Fm)(n:Nat)(g:Option Nat)(p:Nat->cD):aB:=⟨8,[.a (nK F n) true g,p 5,p 4,p 3,p 2,p 1,p 0,bx E],[]⟩
def oC9(c E:List AV)(F:Nat->Fm)(n:Nat)(g:Option Nat)(p:Nat->cD):aB:=⟨9,[bx c,.a (nK F n) true g,p 5,p 4,p 3,p 2,p 1,p 0,bx E],[]⟩
abbrev mxI:Int:=9223372036854775807
def tOv(ov:Bool)(s N:Int)(X:Int->Bool->Prop):Prop:=fk (not ov) (not ov/\not ov/\fk (af .i64 (ν mxI N)) (not ov/\ov=false/\fkR (σ s N) λt=>X t (not (ab s (ν mxI N)))) (not ov/\ov=false/\fkR (σ s N) λt=>X t (not (ab s (wr (ν mxI N)))))) (rp 3 (not ov) false (ov/\fkR (σ s N) λt=>X t true))
def tCr(inf ov:Bool)(s N:Int)(B:Bool)(X:Bool->Int->Bool->Prop):Prop:=fk (not inf) (inf=false/\tOv ov s N (X B)) (inf/\tOv ov s N (X true))
def vwC(β n i:Nat)(inf ov:Bool)(s:Int):List AV:=[.b inf,.a .i64 s,.b ov,.c (β+7) 0 n (.a n),iV n,iV i]
section
variable(ok:qp)(nN:List AV->Int)(nB:List AV->Bool)(T:FG)(E:List AV)(F:Nat->Fm)(g:Option Nat)(pp:Nat->cD)(k:Int)(x:Da)(p a c d e s:Int)(inf ov:Bool)(id q:Nat)(K:fg)(J:Nat->Value)(L:List It){Q:VQ->Prop}
def tRc(z:Bool)(n i:Nat)(b:Bool):Prop:=ok 60 (Cw cfg (ox z L)) [.g (eb k (Yc b id q K) x p a c d e)] (oC9 (eb k (Yc b id q K) x p a c d e) E (upF F i ⟨k,Yc b id q K,x,p,a,c,d,e⟩) n g pp) (v2 (nN [.g (eb k (Yc b id q K) x p a c d e)]) (nB [.g (eb k (Yc b id q K) x p a c d e)]),oC9 (eb k (Yc b id q K) x p a c d e) E (upF F i ⟨k,Yc b id q K,x,p,a,c,d,e⟩) n g pp)/\tCr inf ov s (nN [.g (eb k (Yc b id q K) x p a c d e)]) (nB [.g (eb k (Yc b id q K) x p a c d e)]) λf t w=>Q (.a,vwC (b0 z) n (i+1) f w t,oC9 (eb k (Yc b id q K) x p a c d e) E (upF F i ⟨k,Yc b id q K,x,p,a,c,d,e⟩) n g pp)
theorem rCz(b:Bool):gG Q (rT (TCt ok nN nB T) jE (ox false L) 16 0 52 [3,7,8,21,22,23] (vwC 14 1 0 inf ov s) J (oC E (upF F 0 ⟨k,Yc b id q K,x,p,a,c,d,e⟩) 1 g pp)) (bE 101042810104321010432422421010428101043210104324224342006666)=tRc ok nN nB E F g pp k x p a c d e s inf ov id q K L (Q:=Q) false 1 0 b:=by cases b<;>kernel_rfl
theorem rCs:∀n i:Nat,1<=n->n<=6->i<n->∀b:Bool,gG Q (rT (TCt ok nN nB T) jE (ox true L) 16 0 52 [3,7,8,21,22,23] (vwC 15 n i inf ov s) J (oC E (upF F i ⟨k,Yc b id q K,x,p,a,c,d,e⟩) n g pp)) (bE 101042810104321010432422421010428101043210104324224342006666)=tRc ok nN nB E F g pp k x p a c d e s inf ov id q K L (Q:=Q) true n i b:=by
 intro n i h1 h6 hi b;have hn:n=1\/n=2\/n=3\/n=4\/n=5\/n=6:=δ
 have h:i=0\/i=1\/i=2\/i=3\/i=4\/i=5:=δ
 rcases hn with rfl|rfl|rfl|rfl|rfl|rfl<;>rcases h with rfl|rfl|rfl|rfl|rfl|rfl<;>first|(exfalso;omega)|(cases b<;>show _=_<;>kernel_rfl)
theorem rCe:∀n:Nat,1<=n->n<=6->∀z:Bool,gG Q (rT (TCt ok nN nB T) jE (ox z L) 16 0 52 [3,7,8,21,22,23] (vwC (b0 z) n n inf ov s) J (oC E F n g pp)) (bE 10)=Q (.b 0,vwC (b0 z) n n inf ov s,oC E F n g pp):=by
 intro n h1 h6 z;have hn:n=1\/n=2\/n=3\/n=4\/n=5\/n=6:=δ
 rcases hn with rfl|rfl|rfl|rfl|rfl|rfl<;>cases z<;>show _=_<;>kernel_rfl
end
abbrev EqT:Type:=List AV×aB->List AV×aB->Bool
def vEq(eqv:EqT)(a:List AV×aB)(r:AX×List AV×aB):dW:=λvs o=>some (lu (eqv (vs,o) a) (.a0 r))
noncomputable def eqC:EqT:=λa b=>@decide (a=b) (Classical.propDecidable _)
theorem Yt{a b:List AV×aB}:eqC a b=true↔a=b:=@decide_eq_true_iff _ (Classical.propDecidable _)
def cS(N:Nat->Int)(B:Nat->Bool):Nat->Int×Bool×Bool
 | 0=>(0,false,false)
 | i+1=>(wr (σ (cS N B i).1 (N i)),(cS N B i).2.1 || not (ab (cS N B i).1 (wr (ν mxI (N i)))),(cS N B i).2.2 || B i)
theorem ani{ov:Bool}{N:Int}{X:Int->Bool->Prop}(h:X (wr (σ s N)) (ov || not (ab s (wr (ν mxI N))))):tOv ov s N X:=by
 cases ov
 . refine⟨λ_=>⟨rfl,rfl,λhr=>⟨rfl,rfl,YU (X:=λt=>X t (not (ab s (ν mxI N)))) ?_⟩,λ_=>⟨rfl,rfl,YU (X:=λt=>X t (not (ab s (wr (ν mxI N))))) h⟩⟩,nofun⟩;rw[aE]at hr;have e:wr (ν mxI N)=ν mxI N:=Bx .i64 _ hr.1 hr.2;rw[e]at h;exact h
 . exact⟨nofun,λ_=>⟨rfl,rfl,rfl,rfl,YU (X:=λt=>X t true) h⟩⟩
theorem ara{inf ov:Bool}{N:Int}{B:Bool}{X:Bool->Int->Bool->Prop}(h:X (inf || B) (wr (σ s N)) (ov || not (ab s (wr (ν mxI N))))):tCr inf ov s N B X:=by
 cases inf
 . exact⟨λ_=>⟨rfl,ani h⟩,nofun⟩
 . exact⟨nofun,λ_=>⟨rfl,ani h⟩⟩
theorem UD{F:Nat->Fm}{i:Nat}:upF F i (F i)=F:=by
 funext j
 unfold upF;cases h:Nat.beq j i
 . rfl
 . rw[aJ]at h;subst h;rfl
def shF(f:Fm):Prop:=∃b id q K,f.d=Yc b id q K
section
variable{z:Bool}{L:List It}{E:List AV}{F:Nat->Fm}{n:Nat}{g:Option Nat}{pp:Nat->cD}{nN:List AV->Int}{nB:List AV->Bool}{T:FG}(hT:tD Tryz.prog cfg 7 T)(h1:1<=n)(h6:n<=6)(hz:z=false->n=1)(hF:∀i,i<n->shF (F i))(hlow:∀b∈(oC E F n g pp).os,cR (14+(ox z L).length+8) b)(hc:∀i,i<n->rL Tryz.prog cfg 60 (Cw cfg (ox z L)) [.g (F i).cs] (oC9 (F i).cs E F n g pp) (v2 (nN [.g (F i).cs]) (nB [.g (F i).cs]),oC9 (F i).cs E F n g pp))
include hT h1 h6 hz hF hlow hc
theorem atM:cu Tryz.prog (cH cfg (TCt (okC Tryz.prog cfg) nN nB T)) (Cw cfg (ox z L)) (lb 16 0) 52 [3,7,8,21,22,23] (vEq eqC (vwC (b0 z) n 0 false false 0,oC E F n g pp) (.b 0,vwC (b0 z) n n (cS (λi=>nN [.g (F i).cs]) (λi=>nB [.g (F i).cs]) n).2.2 (cS (λi=>nN [.g (F i).cs]) (λi=>nB [.g (F i).cs]) n).2.1 (cS (λi=>nN [.g (F i).cs]) (λi=>nB [.g (F i).cs]) n).1,oC E F n g pp)):=by
 intro vs o t Q hv hq J;cases hv;replace hq:=We hq;obtain⟨he,hq⟩:=hq;cases Yt.1 he;generalize hc':cS (λi=>nN [.g (F i).cs]) (λi=>nB [.g (F i).cs])=S at hq ⊢;have hs:∀i,S (i+1)=(wr (σ (S i).1 (nN [.g (F i).cs])),(S i).2.1 || not (ab (S i).1 (wr (ν mxI (nN [.g (F i).cs])))),(S i).2.2 || nB [.g (F i).cs]):=λi=>by rw[<-hc'];rfl
 have h0:S 0=(0,false,false):=by rw[<-hc'];rfl
 refine ia (aci hT) rfl rfl ai (ι:={i:Nat // i<=n}) (λi=>vwC (b0 z) n i.1 (S i.1).2.2 (S i.1).2.1 (S i.1).1) (λ_=>oC E F n g pp) (λi=>n-i.1) 8 (λ_=>ξ _) (λi J=>?_) (ξ _) (λJ=>Wk.a0 ⟨⟨0,Nat.zero_le _⟩,J,by rw[h0]⟩) J;obtain⟨i,hi⟩:=i;refine bb λQ' hQ=>?_;by_cases hl:i<n
 . obtain⟨b,id,q,K,hd⟩:=hF i hl;have ef:F i=⟨(F i).k,Yc b id q K,(F i).x,(F i).p,(F i).a,(F i).b,(F i).c,(F i).e⟩:=by rw[<-hd]
   have ec:(F i).cs=eb (F i).k (Yc b id q K) (F i).x (F i).p (F i).a (F i).b (F i).c (F i).e:=by rw[ef];rfl
   have hR:tRc (okC Tryz.prog cfg) nN nB E F g pp (F i).k (F i).x (F i).p (F i).a (F i).b (F i).c (F i).e (S i).1 (S i).2.2 (S i).2.1 id q K L (Q:=Q') z n i b:=by
    have hcall:=hc i hl;unfold tRc;rw[<-ef,UD,<-ec];refine⟨aa3.2 hcall,ara (hQ _ ⟨⟨i+1,hl⟩,by dsimp only;omega,?_⟩)⟩;dsimp only;rw[hs i];exact ad6 (top:=[bx (F i).cs]) j0 rfl rfl hlow (by cases z<;>rfl)
   have main:∃D,gG Q' (rT (TCt (okC Tryz.prog cfg) nN nB T) jE (ox z L) 16 0 52 [3,7,8,21,22,23] (vwC (b0 z) n i (S i).2.2 (S i).2.1 (S i).1) J (oC E F n g pp)) D:=by
    cases z
    . cases hz rfl;obtain rfl:i=0:=δ
      have:=(rCz (okC Tryz.prog cfg) nN nB T E F g pp (F 0).k (F 0).x (F 0).p (F 0).a (F 0).b (F 0).c (F 0).e (S 0).1 (S 0).2.2 (S 0).2.1 id q K J L (Q:=Q') b).mpr hR;rw[<-ef,UD]at this;exact⟨_,this⟩
    . have:=(rCs (okC Tryz.prog cfg) nN nB T E F g pp (F i).k (F i).x (F i).p (F i).a (F i).b (F i).c (F i).e (S i).1 (S i).2.2 (S i).2.1 id q K J L (Q:=Q') n i h1 h6 hl b).mpr hR;rw[<-ef,UD]at this;exact⟨_,this⟩
   obtain⟨D,hD⟩:=main;exact cg hD
 . obtain rfl:i=n:=δ
   exact cg ((rCe (okC Tryz.prog cfg) nN nB T E F g pp (S i).1 (S i).2.2 (S i).2.1 J L (Q:=Q') i h1 h6 z).mpr (hQ _ ⟨_,_,VW.a0,hq⟩))
end
noncomputable def L16(eqv:EqT)(a:List AV×aB)(r:AX×List AV×aB):cx:=iz jE 0 (d9 52 [3,7,8,21,22,23] (vEq eqv a r))
def apl(ok:qp)(e:Int):aQ:=eQ gZ 7 (vv ok 7 (λ_=>.d [.f,.a .i64 e]) [])
def ctV(f w:Bool)(s:Int):AV:=bif f then t3 0 true 0 else bif w then t3 0 false 15 else t3 s false 0
section
variable(ok:qp)(eqv:EqT)(a:List AV×aB)(f w:Bool)(s e:Int)(k:Int)(d x y:Da)(k1 k2:Int)(ea la:Bool)(n:Nat)(F:Nat->Fm)(g:Option Nat)(p:Nat->cD)(nN:List AV->Int)(nB:List AV->Bool)(L:List It)(c:Nat){Q:AV->Prop}
theorem bCo(z:Bool):gG Q (pW (TCt ok nN nB (Lh ok 7 n (.a n) (nK F n) g p)) (L16 eqv a (.b 0,vwC (b0 z) n n f w s,oC (aaa k d k1 x k2 y (kR z L c) ea la) F n g p)) (ox z L) 16 [.g (aaa k d k1 x k2 y (kR z L c) ea la)]) (bE 114142026666)=(ok 7 (Cw cfg (ox z L)) [.g (aaa k d k1 x k2 y (kR z L c) ea la)] (oE (aaa k d k1 x k2 y (kR z L c) ea la)) (.d [.c (b0 z+7) 0 n (.a n),.a .i64 0],oC (aaa k d k1 x k2 y (kR z L c) ea la) F n g p)/\eqv (vwC (b0 z) n 0 false false 0,oC (aaa k d k1 x k2 y (kR z L c) ea la) F n g p) a/\∀J1:Nat->Value,fk f (Q (t3 0 true 0)) (fk w (Q (t3 0 false 15)) (Q (t3 s false 0)))):=by cases z<;>kernel_rfl
theorem bCe(z:Bool):gG Q (pW (apl ok e) jE (ox z L) 16 [.g (aaa k d k1 x k2 y (kR z L c) ea la)]) (bE 10001426666)=(ok 7 (Cw cfg (ox z L)) [.g (aaa k d k1 x k2 y (kR z L c) ea la)] (oE (aaa k d k1 x k2 y (kR z L c) ea la)) (.d [.f,.a .i64 e],oE (aaa k d k1 x k2 y (kR z L c) ea la))/\fk (not (aa e 0)) (Q (t3 0 false e)) (Q (t3 0 false 0))):=by cases z<;>kernel_rfl
end
theorem aof:(bz (aL 16)).map (·.1)=[0]:=κ
theorem ajz:aY tab 16=some (dH 16,aL 16):=κ
inductive Ve(P:Nat->cD):Fk->Prop
 | b {j:Nat} {R:List Rn} {K:fg} {b:Bool} {g:Option Nat}:j<6->P j=.a (bh R) b g->1<=R.length->jo R=0->Ve P ⟨1,some (j,R.length,K),rb,0,0,0,0,0⟩
 | a {k:Int} {x:Da} {p a b c d:Int}:rM x->Zf p a b c d->K2 k [] x p a b c d=0->Ve P ⟨k,none,x,p,a,b,c,d⟩
noncomputable def nNf:List AV->Int
 | [.g [.a .u8 k,D,.b ng,.b lg,.e s,.a .i64 e,.a .i64 g,.e mo,.e da,.a .u8 x,.a .u8 y,.a .u8 z,.a .u8 p,.a .i8 a,.a .i64 b,.a .i8 c,.a .i64 d]]=>mnN k ⟨ng,lg,s,e,g,mo,da,x,y,z⟩ p a b c d
 | _=>0
def nBf:List AV->Bool
 | [.g [.a .u8 k,D,.b ng,.b lg,.e s,.a .i64 e,.a .i64 g,.e mo,.e da,.a .u8 x,.a .u8 y,.a .u8 z,.a .u8 p,.a .i8 a,.a .i64 b,.a .i8 c,.a .i64 d]]=>mnB k a c
 | _=>false
theorem aqE:Zf 0 0 0 0 0=true:=κ
theorem aob:rM rb=true:=κ
theorem ajO(h1:1<=R.length)(h:jo R=0):K2 1 R rb 0 0 0 0 0=0:=by
 unfold K2 iT;rw[if_neg δ,if_pos rfl,if_pos ⟨rfl,rfl,rfl⟩,if_neg δ];exact h
theorem YP{P:Nat->cD}(h:Ve P φ){o:aB}{u:Nat}(hp:∀j,j<6->get C o (u+j)=P j)(m:Int):rL Tryz.prog cfg 60 C [.g (φ.at u).cs] o (v2 (nNf [.g (φ.at u).cs]) (nBf [.g (φ.at u).cs]),o)/\rL Tryz.prog cfg 61 C [.g (φ.at u).cs,.a .i64 m] o (cl (gK φ.k) (C.lo+o.n),⟨2+o.n,gP 2++o.os,o.le⟩):=by
 cases h with
 | @b j R K b g hj hP h1 h0=>
   have hg:=(hp _ hj).trans hP;have h15:(1:Int)<=1/\(1:Int)<=5:=ζ
   have hc:nC (nX 14 C o 20) [.g (eb 1 (.c (u+j) 0 R.length K) rb 0 0 0 0 0)] ⟨[4],[],true⟩=some ([.g (eb 1 (.c 14 0 R.length (xe K)) rb 0 0 0 0 0)],⟨[],[.a (bh R) false none],true⟩):=by
    simp only[nC,agd,ac4 hg kC ma,ob,List.length_nil,Nat.add_zero,List.nil_append]
   exact⟨Ww hc rfl (λ_=>rfl) (fMn (z:=true) (R:=R) (K:=xe K) aob aqE (ajO h1 h0)),ajH hg h15 aqE⟩
 | @a k x p a b c d gx gp h0=>
   have hk:1<=k/\k<=5:=by rcases acN h0 with h|h|h|h|h<;>omega
   have hc:nC (nX 14 C o 20) [.g (eb k .f x p a b c d)] ⟨[],[],true⟩=some ([.g (eb k .f x p a b c d)],⟨[],[],true⟩):=by
    have hn:∀q,nX 14 C o 19 .f q=some (.f,q):=λ_=>rfl;simp only[nC,agd,hn,ob]
   exact⟨Ww hc rfl (λ_=>rfl) (fMn (z:=false) (R:=[]) (K:=.a 0) gx gp h0),aco hk gp⟩
theorem aeQ{P:Nat->cD}{u:Nat}:shF (φ.at u):=by
 unfold shF;obtain⟨k,s,x,p,a,b,c,e⟩:=φ;cases s with
 | none=>exact⟨false,0,0,.a 0,rfl⟩
 | some t=>obtain⟨j,q,K⟩:=t;exact⟨true,u+j,q,K,rfl⟩
theorem aeR{Φ:Nat->Fk}{β b:Nat}(hb:β+6<=b):∀{n:Nat},adb Φ n->∀i∈bw (nK (λi=>(Φ i).at β) n),i.1<b
 | 0,_,i,hi=>by cases hi
 | n+1,h,i,hi=>by
   have ap:∀{l r:List AV},bw (l++r)=bw l++bw r:=λ{l r}=>by
    induction l with
    | nil=>rfl
    | cons v l ih=>simp only[List.cons_append,bw,ih,List.append_assoc]
   rw[nK,ap,List.mem_append]at hi;rcases hi with hi|hi
   . exact aeR hb (λi hi=>h i δ) i hi
   . have hl:=h n (Nat.lt_succ_self n);have:bw ((Φ n).at β).cs=aC ((Φ n).d β):=by simp[Fm.cs,eb,bw,aC,Fk.at]
     rw[this]at hi;unfold Fk.d at hi;cases hs:(Φ n).s with
     | none=>rw[hs]at hi;cases hi
     | some t=>
       obtain⟨j,q,K⟩:=t;rw[hs]at hi;simp only[aC,List.mem_singleton]at hi;have:=hl j q K hs;rw[hi];show β+j<b;omega
section
variable{k:Int}{d x y:Da}{k1 k2:Int}{ea la z:Bool}{L:List It}{c:Nat}
noncomputable def cF(Φ:Nat->Fk)(β n:Nat):Int×Bool×Bool:=cS (λi=>nNf [.g ((Φ i).at β).cs]) (λi=>nBf [.g ((Φ i).at β).cs]) n
noncomputable def aqz(Φ:Nat->Fk)(β n:Nat):AV:=ctV (cF Φ β n).2.2 (cF Φ β n).2.1 (cF Φ β n).1
theorem aoa{f w:Bool}:aC (ctV f w s)=[]:=by cases f<;>cases w<;>rfl
theorem alB{b:Nat}(hb:15<=b):cR b (bx (aaa k d k1 x k2 y (kR z L c) ea la)):=by
 refine⟨rfl,λi hi=>?_⟩;cases z
 . simp[bx,HL,aaa,bw,aC,kR]at hi
 . simp[bx,HL,aaa,bw,aC,kR]at hi;rw[hi];show 14<b;omega
theorem aq1{g:Option Nat}{p:Nat->cD}(l7:adb Φ n)(hp:∀j,j<6->cR 14 (p j)):∀b∈(oC (aaa k d k1 x k2 y (kR z L c) ea la) (λi=>(Φ i).at (b0 z+1)) n g p).os,cR (14+(ox z L).length+8) b:=by
 have hb:b0 z+1+6<=14+(ox z L).length+8:=by cases z<;>simp[b0,ox]
 intro b hx;simp only[oC,List.mem_cons,List.not_mem_nil,or_false]at hx;rcases hx with rfl|rfl|rfl|rfl|rfl|rfl|rfl|rfl
 . exact⟨rfl,λi hi=>aeR hb l7 i hi⟩
 . exact(hp 5 ζ).a0 δ
 . exact(hp 4 ζ).a0 δ
 . exact(hp 3 ζ).a0 δ
 . exact(hp 2 ζ).a0 δ
 . exact(hp 1 ζ).a0 δ
 . exact(hp 0 ζ).a0 δ
 . exact alB (by cases z<;>simp[ox])
theorem aoD{g:Option Nat}{p:Nat->cD}(u7:abf 7 [.g (aaa k d k1 x k2 y (kR z L c) ea la)] (ox z L) n (.a n) g Φ p)(l7:adb Φ n)(hp:∀j,j<6->cR 14 (p j)):rL Tryz.prog cfg 7 (Cw cfg (ox z L)) [.g (aaa k d k1 x k2 y (kR z L c) ea la)] (oE (aaa k d k1 x k2 y (kR z L c) ea la)) (.d [.c (b0 z+7) 0 n (.a n),.a .i64 0],oC (aaa k d k1 x k2 y (kR z L c) ea la) (λi=>(Φ i).at (b0 z+1)) n g p):=by
 have:=ajD (aoL (c:=c) (k:=k) (d:=d) (x:=x) (y:=y) (k1:=k1) (k2:=k2) (ea:=ea) (la:=la) (C:=Cw cfg (ox z L)) (o:=oE (aaa k d k1 x k2 y (kR z L c) ea la)) X7) rfl u7 l7 hp;cases z<;>exact this
theorem atH{g:Option Nat}{p:Nat->cD}(h1:1<=n)(h6:n<=6)(hz:z=false->n=1)(u7:abf 7 [.g (aaa k d k1 x k2 y (kR z L c) ea la)] (ox z L) n (.a n) g Φ p)(l7:adb Φ n)(hp:∀j,j<6->cR 14 (p j))(hW:∀i,i<n->Ve p (Φ i)):bu Tryz.prog cfg 16 [.g (aaa k d k1 x k2 y (kR z L c) ea la)] (ox z L) (aqz Φ (b0 z+1) n) []:=by
 refine P0 (aci sf) (L:=L16 eqC (vwC (b0 z) n 0 false false 0,oC (aaa k d k1 x k2 y (kR z L c) ea la) (λi=>(Φ i).at (b0 z+1)) n g p) (.b 0,vwC (b0 z) n n (cF Φ (b0 z+1) n).2.2 (cF Φ (b0 z+1) n).2.1 (cF Φ (b0 z+1) n).1,oC (aaa k d k1 x k2 y (kR z L c) ea la) (λi=>(Φ i).at (b0 z+1)) n g p)) j0 ajz θ (dv aof λi hi e he st Q hw=>?_) (bb λQ' hQ=>cg ((bCo (okC Tryz.prog cfg) eqC _ (cF Φ (b0 z+1) n).2.2 (cF Φ (b0 z+1) n).2.1 (cF Φ (b0 z+1) n).1 k d x y k1 k2 ea la n (λi=>(Φ i).at (b0 z+1)) g p nNf nBf L c z).mpr ⟨aa3.2 (aoD u7 l7 hp),Yt.2 rfl,λJ=>?_⟩)) aoa
 . have hi:i=0:=by simp at hi;exact hi
   subst hi;cases he;refine bR (cC.a0 (aci sf)) ζ rfl (atM sf h1 h6 hz (λi _=>aeQ (P:=p)) (aq1 l7 hp) λi hi=>?_) hw;refine(YP (hW i hi) (λj hj=>?_) 0).1;have sx:j=0\/j=1\/j=2\/j=3\/j=4\/j=5:=δ
   cases z<;>rcases sx with rfl|rfl|rfl|rfl|rfl|rfl<;>rfl
 . have hQ:=hQ _ rfl;unfold aqz ctV at hQ;refine⟨λe=>?_,λe=>⟨λe2=>?_,λe2=>?_⟩⟩
   . rw[e]at hQ;exact hQ
   . rw[e,e2]at hQ;exact hQ
   . rw[e,e2]at hQ;exact hQ
theorem ZW{e:Int}:ak Tryz.prog cfg (apl (okC Tryz.prog cfg) e):=bm aW sf
theorem atG{e:Int}(he:e≠0)(h7:bu Tryz.prog cfg 7 [.g (aaa k d k1 x k2 y (kR z L c) ea la)] (ox z L) (.d [.f,.a .i64 e]) []):bu Tryz.prog cfg 16 [.g (aaa k d k1 x k2 y (kR z L c) ea la)] (ox z L) (t3 0 false e) []:=by
 refine P0 ZW (L:=jE) j0 ajz θ ai (bb λQ' hQ=>cg ((bCe (okC Tryz.prog cfg) e k d x y k1 k2 ea la L c z).mpr ⟨aa3.2 (YO X7 (λ_=>rfl) h7),λ_=>hQ _ rfl,λh=>?_⟩)) κ;rw[Bool.not_eq_false',ao]at h;exact absurd h he
end
def tlG(ok:qp)(f:Nat)(G:List AV->Nat):FG:=λC args o=>some (lu (ok f C args o (cl (G args) (C.lo+o.n),⟨2+o.n,gP 2++o.os,o.le⟩)) (.a0 (cl (G args) (C.lo+o.n),⟨2+o.n,gP 2++o.os,o.le⟩)))
theorem as4{f:Nat}{G:List AV->Nat}:tD Tryz.prog cfg f (tlG (okC Tryz.prog cfg) f G):=by
 intro C args o t r ht hr;cases ht;obtain⟨h,hr⟩:=bG hr;cases hr;exact aa3.1 h
def TEt(ok:qp)(G:List AV->Nat)(T:FG):aQ:=eQ (eQ gZ 61 (tlG ok 61 G)) 7 T
theorem acj{G:List AV->Nat}(hT:tD Tryz.prog cfg 7 T):ak Tryz.prog cfg (TEt (okC Tryz.prog cfg) G T):=bm (bm aW as4) hT
def gsE(H:Nat->Nat)(β:Nat):Nat->List AV
 | 0=>[]
 | i+1=>gsE H β i++[cl (H i) (β+9+5*i)]
def atU(β:Nat):Nat->AV
 | 0=>.f
 | i+1=>.c (β+12+5*i) 0 (i+1) (.b 0)
def aok(H:Nat->Nat)(β:Nat):Nat->List cD
 | 0=>[]
 | i+1=>.a (gsE H β (i+1)) true (some 1)::gP (5*i+4)
def oEi(H:Nat->Nat)(β i:Nat)(B:List cD):aB:=⟨8+5*i,aok H β i++B,[]⟩
def vwE(β n:Nat)(m:Int)(i:Nat):List AV:=[.a .i64 m,atU β i,.c (β+7) 0 n (.a n),iV n,iV i]
section
variable(ok:qp)(G:List AV->Nat)(H:Nat->Nat)(T:FG)(E:List AV)(F:Nat->Fm)(g:Option Nat)(pp:Nat->cD)(k:Int)(x:Da)(p a c d e m:Int)(id q:Nat)(K:fg)(J:Nat->Value)(L:List It){Q:VQ->Prop}
def c9E(β i:Nat)(c:List AV)(B:List cD):aB:=⟨9+5*i,bx c::aok H β i++B,[]⟩
def cXE(β i:Nat)(c:List AV)(B:List cD):aB:=⟨11+5*i,.b::.b::bx c::aok H β i++B,[]⟩
def cZE(β i g:Nat)(c:List AV)(B:List cD):aB:=⟨13+5*i,.a (gsE H β i++[cl g (β+9+5*i)]) true (some 1)::bx [cl g (β+9+5*i)]::.b::.b::bx c::gP (5*i)++B,[]⟩
def tRe(z:Bool)(n i:Nat)(c:List AV)(B:List cD):Prop:=ok 61 (Cw cfg (ox z L)) [.g c,.a .i64 m] (c9E H (b0 z) i c B) (cl (G [.g c,.a .i64 m]) (b0 z+9+5*i),cXE H (b0 z) i c B)/\Q (.a,[.a .i64 m,.c (b0 z+12+5*i) 0 (i+1) (.b 0),.c (b0 z+7) 0 n (.a n),iV n,iV (i+1)],cZE H (b0 z) i (G [.g c,.a .i64 m]) c B)
theorem rEz(b:Bool):gG Q (rT (TEt ok G T) jE (ox false L) 18 0 36 [1,8,21,22,23] (vwE 14 1 m 0) J (oEi H 14 0 (oC E (upF F 0 ⟨k,Yc b id q K,x,p,a,c,d,e⟩) 1 g pp).os)) (bE 10052006666)=tRe ok G H m L (Q:=Q) false 1 0 (eb k (Yc b id q K) x p a c d e) (oC E (upF F 0 ⟨k,Yc b id q K,x,p,a,c,d,e⟩) 1 g pp).os:=by cases b<;>kernel_rfl
theorem rEs:∀n i:Nat,1<=n->n<=6->i<n->∀b:Bool,gG Q (rT (TEt ok G T) jE (ox true L) 18 0 36 [1,8,21,22,23] (vwE 15 n m i) J (oEi H 15 i (oC E (upF F i ⟨k,Yc b id q K,x,p,a,c,d,e⟩) n g pp).os)) (bE (bif Nat.beq i 0 then 10052006666 else 1552006666))=tRe ok G H m L (Q:=Q) true n i (eb k (Yc b id q K) x p a c d e) (oC E (upF F i ⟨k,Yc b id q K,x,p,a,c,d,e⟩) n g pp).os:=by
 intro n i h1 h6 hi b;have hn:n=1\/n=2\/n=3\/n=4\/n=5\/n=6:=δ
 have h:i=0\/i=1\/i=2\/i=3\/i=4\/i=5:=δ
 rcases hn with rfl|rfl|rfl|rfl|rfl|rfl<;>rcases h with rfl|rfl|rfl|rfl|rfl|rfl<;>first|(exfalso;omega)|(cases b<;>show _=_<;>kernel_rfl)
theorem rEe:∀n:Nat,1<=n->n<=6->∀z:Bool,gG Q (rT (TEt ok G T) jE (ox z L) 18 0 36 [1,8,21,22,23] (vwE (b0 z) n m n) J (oEi H (b0 z) n (oC E F n g pp).os)) (bE 10)=Q (.b 0,vwE (b0 z) n m n,oEi H (b0 z) n (oC E F n g pp).os):=by
 intro n h1 h6 z;have hn:n=1\/n=2\/n=3\/n=4\/n=5\/n=6:=δ
 rcases hn with rfl|rfl|rfl|rfl|rfl|rfl<;>cases z<;>show _=_<;>kernel_rfl
end
end Go.Ev
