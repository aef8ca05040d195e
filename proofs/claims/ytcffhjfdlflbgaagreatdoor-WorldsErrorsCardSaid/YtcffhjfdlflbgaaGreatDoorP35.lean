import Derived.Test.YtcffhjfdlflbgaaGreatDoorCards
import Derived.Test.YtcffhjfdlflbgaaGreatDoorTie
import Derived.ProofKit
import Derived.OpenShut
import Derived.Deep.DeepHandedRow
import Derived.RowKitTokens
import Derived.WideKeyArgs
import Derived.Deep.DeepWitnessRowRef
import Derived.Test.YtcffhjfdlflbgaaGreatDoorP34
set_option linter.all false
open Bool renaming not_eq_false'->ν
open Int renaming ofNat->ξ
open Option.some renaming inj->ο
set_option linter.all false
set_option maxRecDepth 100000
set_option maxHeartbeats 4000000
section
namespace Go.Ev
open Go Go.Proofs Go.ChangeShapes Go.WideShapes Go.ChangeAt Go.RowKit
theorem post_of_below{H:Type}{enc:TypeId×Value->H}{P:Program}{f:Func}{s:ChangeSpec}{apart fresh handsOn again:Bool}{W W':World}{args:Array Value}{v:Value}{ds gs:List (DataW H)}{before pa pv:List MemPlace}
 (hW:DataW.Whole enc P f.params.toList s.vars apart W args.toList ds gs before)
 (hres:∀(b:Nat) (sp:Nat->Bool) (hd:Bool),DataW.TrodAll enc P W' b sp hd f.resultTypes.toList (v.resultList f.resultTypes.size) (s.fn H (ds++gs)).results [])
 (hargs:∀sp:Nat->Bool,(∀p∈before,sp p.block=true)->DataW.TrodAll enc P W' 0 sp true f.params.toList args.toList (s.fn H (ds++gs)).args pa)
 (hvars:∀sp:Nat->Bool,(∀p∈before,sp p.block=true)->DataW.TrodVars enc P W' sp s.vars (s.fn H (ds++gs)).vars pv)
 (hps:before=pa++pv) (hb:Below W.heap.size W W')
 (hok:∀(j:Nat) (t:TypeId) (r:Value),f.resultTypes[j]? = some t->(v.resultList f.resultTypes.size)[j]? = some r->Value.okWide P W' .any 0 t r) :
 s.post enc P f apart fresh handsOn again W args v W':=by
 have hold:∀p∈before,(λb=>decide (b<W.heap.size)) p.block=true:=λp hp=>by simpa using hW.lt p hp
 have hlt:∀p∈before,p.block<W.heap.size:=λp hp=>hW.lt p hp;refine⟨ds,gs,before,[],pa,pv,hW,hres _ _ _,hargs _ hold,hvars _ hold,World.keptBut_mono (λp hp=>⟨hp,?_⟩) (hb.frame (·∈before)),λ_=>?_⟩
 . rw[hps,List.mem_append]at hp;exact Or.inr hp
 . obtain⟨_,_,_,_,_,hz,hn⟩:=hW;refine⟨hok,_,_,([]++pa)++pv,⟨[]++pa,pv,trodAll_append (hargs _ (λ_ _=>rfl)) (hres _ _ true),hvars _ (λ_ _=>rfl),rfl,?_,?_⟩,?_⟩
   . intro b off hp;have hp':MemPlace.cell b off∈before:=by rw[hps];simpa using hp
     have e:W'.frozen? ⟨b,off,none⟩=W.frozen? ⟨b,off,none⟩:=by
      unfold World.frozen?;rw[hb.block b (hlt _ hp')]
     rw[e];exact hz b off hp'
   . intro ha;have:=hn ha;rw[hps]at this;simpa using this
   . intro p hp _;rw[hps];simpa using hp
def laidOut:laidOutB Tryz.prog=true:=ε
theorem below_place{W W':World}{x:MemPlace}(hb:Below W.heap.size W W')(hlt:x.block<W.heap.size):W.sameAt W' x:=by
 cases x with
 | cell b off=>show W'.cell? _=W.cell? _;unfold World.cell?;rw[hb.block b hlt]
 | map b=>exact hb.block b hlt
section
variable{P:Program}{w:World}{r:Reach}{b0:Nat}
def akj(P:Program)(w:World)(r:Reach)(b0:Nat):List TypeId->List Value->Prop
 | [],[]=>True
 | t::ts,v::vs=>Cell.okWide P w r b0 t v/\akj P w r b0 ts vs
 | _,_=>False
theorem Gc:∀{ts:List TypeId} {l:List Value},l.length=ts.length->(∀(i:Nat) (c:Value),l[i]? = some c->∃u,ts[i]? = some u/\Cell.okWide P w r b0 u c)->akj P w r b0 ts l
 | [],[],_,_=>trivial
 | t::ts,v::vs,h,hall=>by
   refine⟨?_,Gc (by simpa using h) λi c hc=>hall (i+1) c hc⟩;obtain⟨u,hu,hc⟩:=hall 0 v rfl;cases hu;exact hc
theorem IH{t:TypeId}{v:Value}{fs}(ht:P.underlying t=some (.struct fs)){ts:List TypeId}(hc:P.cellTypes P.depth t=some ts)(hn:P.cellsOf t=ts.length)(h:Value.okWide P w r b0 t v):∃l:List Value,v=.agg ⟨l⟩/\akj P w r b0 ts l:=by
 unfold Value.okWide at h;rw[ht]at h;obtain⟨⟨l⟩,rfl,hsz,ts',hts,_,hall⟩:=h;rw[hc]at hts;cases hts;have hl:l.length=ts.length:=hsz.trans hn;refine⟨l,rfl,Gc hl λi c hi=>?_⟩;have hlt:=(List.getElem?_eq_some_iff.1 hi).1;have:=hall i c (by simpa using hi)
 rwa [Nat.mod_eq_of_lt δ]at this
end
end Go.Ev
end
section
namespace Go.Ev
open Go Go.Proofs
variable{v:AV}{K:fg}{ws:List cD}{f:Nat}{args:List AV}{c:Fk}
section
variable{C:bg}{o:aB}{k p a b c e:Int}{x:Da}
theorem agd{d:Nat}{q:Aq}:nX 14 C o (d+2) (.g (eb k v x p a b c e)) q=ob (nX 14 C o (d+1) v q) λr=>some (.g (eb k r.1 x p a b c e),r.2):=by
 show ob (nC (nX 14 C o (d+1)) (eb k v x p a b c e) q) (λp=>some (AV.g p.1,p.2))=_;have hi:∀k n q,nX 14 C o (d+1) (.a k n) q=some (.a k n,q):=λ_ _ _=>rfl;have hb:∀b q,nX 14 C o (d+1) (.b b) q=some (.b b,q):=λ_ _=>rfl;have hs:∀s q,nX 14 C o (d+1) (.e s) q=some (.e s,q):=λ_ _=>rfl;cases h:nX 14 C o (d+1) v q<;>simp only[eb,nC,hi,hb,hs,h,ob]
theorem ac4{d id q:Nat}{w:List AV}{rw:Bool}{g:Option Nat}{sz:List Nat}{t:Bool}{z:Nat}(hg:get C o id=.a w rw g)(hl:w.length=q*z)(hb:bc 14 w):nX 14 C o (d+1) (.c id 0 q K) ⟨z::sz,ws,t⟩=some (.c (14+ws.length) 0 q (xe K),⟨sz,ws++[.a w false none],t⟩):=by
 grind [nX,cellsOf,ob,b_,eK]
section
variable{R:List Rn}{id:Nat}{K:fg}{rw:Bool}{g:Option Nat}(hg:get C o id=.a (bh R) rw g)
include hg
end
end
theorem ae_{y m:Int}(h:1<=m/\m<=12):bf y<=aG y m/\aG y m<aG y (m+1)/\aG y (m+1)<=bf (y+1)/\aG y m+d6 y m=aG y (m+1):=by
 have ys:bf (y+1)=bf y+365+iE y:=Go.Proofs.YtcffhjfdlflbgaaGreatDoor.yst_succ y;have bl:0<=iE y/\iE y<=1:=Go.Proofs.YtcffhjfdlflbgaaGreatDoor.lp_01 y;have e:=@p9 y m h.1 δ;have hn:=jk y m;have key:∀k:Int,1<=k->k<=13->bf y<=aG y k/\aG y k<=bf y+365+iE y:=λk h1 h2=>by
  have:aG y k=bf y+Go.Proofs.YtcffhjfdlflbgaaGreatDoor.mcum y k:=rfl;grind [iE,Go.Proofs.YtcffhjfdlflbgaaGreatDoor.mcum]
 grind
theorem ahn{y m d:Int}(h:1<=m/\m<=12)(h1:aG y m<=d)(h2:d<aG y (m+1)):aN d=y/\bZ d=m:=by
 obtain⟨a,b,c,e⟩:=@ae_ y m h;have hy:aN d=y:=Go.Proofs.YtcffhjfdlflbgaaGreatDoor.yOf_unique (show bf y<=d by omega) (show d<bf (y+1)by omega);have hy':Go.Proofs.YtcffhjfdlflbgaaGreatDoor.yOf d=y:=hy;refine⟨hy,Go.Proofs.YtcffhjfdlflbgaaGreatDoor.mOf_unique h.1 ?_ ?_⟩
 . rw[hy'];exact h1
 . rw[hy'];exact h2
theorem afo{y m d p:Int}(hy : -10000000000000000<=y/\y<=10000000000000000)(h:(p=1/\m=0)\/(p=2/\(1<=m/\m<=12)/\d=0)\/(p=3/\(1<=m/\m<=12)/\1<=d/\d<=d6 y m)):(lT (iO y m d) p/\CK (iO y m d) p=iO y m d)/\(lT (iD y m d) p/\PU (iD y m d) p=iD y m d)/\-3652425000000000000<=iO y m d/\iO y m d<=iD y m d/\iD y m d<=3652425000000000365:=by
 obtain⟨e1,e2⟩:=Ze;have m1:=eF hy.1;have m2:=eF hy.2;have ys:∀z,bf (z+1)=bf z+365+iE z:=Go.Proofs.YtcffhjfdlflbgaaGreatDoor.yst_succ;have bl:∀z,0<=iE z/\iE z<=1:=Go.Proofs.YtcffhjfdlflbgaaGreatDoor.lp_01;have l1:=bl y;have y1:=ys y;have y2:iE 10000000000000000=1:=ζ
 have y3:=ys 10000000000000000;have m3:=eF (show y+1<=10000000000000000+1 by omega);rcases h with⟨rfl,rfl⟩|⟨rfl,hm,rfl⟩|⟨rfl,hm,hd⟩
 . have a1:iO y 0 d=bf y:=rfl;have a2:iD y 0 d=bf (y+1)-1:=rfl;rw[a1,a2];refine⟨⟨Pa (dR.2 δ),?_⟩,⟨Pa (dR.2 δ),?_⟩,by omega,by omega,by omega⟩
   . show bf (aN (bf y))=_;rw[yR.1]
   . show bf (aN (bf (y+1)-1))+364+iE (aN (bf (y+1)-1))=_;grind [yR]
 . obtain⟨a,b,c,e⟩:=@ae_ y m hm;have k0:aa m 0=false:=aw.mpr δ;have k1:ab 13 m=false:=bF.mpr δ;have a1:iO y m 0=aG y m:=by unfold iO;rw[k0,k1];rfl
   have a2:iD y m 0=aG y (m+1)-1:=by unfold iD;rw[k0,k1];rfl
   rw[a1,a2];obtain⟨q1,q2⟩:=ahn hm (Int.le_refl _) b;obtain⟨q3,q4⟩:=ahn (y:=y) (d:=aG y (m+1)-1) hm δ δ;refine⟨⟨Pa (dR.2 δ),?_⟩,⟨Pa (dR.2 δ),?_⟩,by omega,by omega,by omega⟩
   . show aG (aN _) (bZ _)=_;grind
   . show aG (aN _) (bZ _)+d6 (aN _) (bZ _)-1=_;grind
 . obtain⟨a,b,c,e⟩:=@ae_ y m hm;have k0:aa m 0=false:=aw.mpr δ;have k1:ab 13 m=false:=bF.mpr δ;have k2:aa d 0=false:=aw.mpr δ;have a1:iO y m d=aG y m+d-1:=by grind [iO]
   have a2:iD y m d=aG y m+d-1:=by grind [iD]
   rw[a1,a2];exact⟨⟨rfl,rfl⟩,⟨rfl,rfl⟩,by omega,by omega,by omega⟩
theorem ad4{x:Da}(hv:dF x)(hp:kZ x):(lT (kD x) (dq x.mo x.da)/\CK (kD x) (dq x.mo x.da)=kD x)/\(lT (bq x.ng x.s x.e x.mo x.da) (dq x.mo x.da)/\PU (bq x.ng x.s x.e x.mo x.da) (dq x.mo x.da)=bq x.ng x.s x.e x.mo x.da)/\-3652425000000000000<=kD x/\kD x<=bq x.ng x.s x.e x.mo x.da/\bq x.ng x.s x.e x.mo x.da<=3652425000000000365:=by
 obtain⟨ng,lg,s,e,g,mo,da,a,b,c⟩:=x;have hp:eX s g mo da=true:=hp;have hv:wa ng lg s e g mo da a b c=true:=hv;obtain⟨p1,p2⟩:=qc.1 hp;obtain⟨h6,i1,i2,i3,i4,e0,nx,-⟩:=U9.1 (qd hv p1);obtain⟨_,_,_,_,u1,u2,u3⟩:=aaj e0 nx h6;rw[ao]at p2;unfold kY at u1;simp only[zAa]at u1;have hy : -10000000000000000<=dY ng s e/\dY ng s e<=10000000000000000:=by
  grind [eO,aq]
 refine afo hy ?_;unfold dq;dsimp only;cases hm:ae mo []with
 | true=>
   have hd:ae da []=true:=by
    cases hd:ae da []with
    | true=>rfl
    | false=>
      have:=aaR e0 nx hd;rw[hm]at u2;have:=ao.mp u2.symm;omega
   rw[hm]at u2;rw[hd];exact .inl ⟨rfl,ao.mp u2.symm⟩
 | false=>
   have hs:=aaU e0 nx hm p2;cases hd:ae da []with
   | true=>
     rw[hd]at u3;exact .inr (.inl ⟨rfl,hs,ao.mp u3.symm⟩)
   | false=>exact .inr (.inr ⟨rfl,hs,(aaR e0 nx hd).2.2⟩)
theorem bu.dead(h:bu Tryz.prog cfg f args ws v []):bu Tryz.prog cfg f args ws v [.b]:=
 h.a0 ((aed (C:=Cw cfg ws) (st:=⟨.c0 v .a0 .a0,1,⟨0,[],[]⟩,[],none⟩) (kb:=0) (o':=⟨1,[.b],[]⟩) (Nat.zero_le _) rfl rfl λi hi=>absurd hi (Nat.not_lt_zero i)).b0 λs hs=>by rw[hs];exact⟨rfl,rfl⟩)
def xq(B:cD):Nat->cD
 | 0=>B
 | _=>.b
theorem u1{g:Option Nat}(hw:∀x∈ws,cR 14 x)(hl:ws.length<=1)(hs:c.s=none)(h:bu Tryz.prog cfg f args ws (.d [.c (14+ws.length) 0 1 K,.a .i64 0]) [.a (c.at (14+ws.length)).cs true g]):abf f args ws 1 K g (λ_=>c) λ_=>.b:=by
 have e:ws.length=0\/ws.length=1:=δ
 refine h.a0 (dL.u (sel:=[1,2,3,4,5,6,0]) hw rfl θ ζ ζ rfl rfl (by rcases e with e|e<;>rw[e]<;>rfl) λt ht=>?_);rcases(by omega:t=0\/t=1\/t=2\/t=3\/t=4\/t=5\/t=6)with rfl|rfl|rfl|rfl|rfl|rfl|rfl
 . exact .inl ⟨rfl,aa5⟩
 . exact .inl ⟨rfl,aa5⟩
 . exact .inl ⟨rfl,aa5⟩
 . exact .inl ⟨rfl,aa5⟩
 . exact .inl ⟨rfl,aa5⟩
 . exact .inl ⟨rfl,aa5⟩
 . refine .inr ⟨_,_,_,_,rfl,?_,rfl⟩;show yw _ (eb c.k (c.d (14+ws.length)) c.x c.p c.a c.b c.c c.e)=some (eb c.k (c.d (14+ws.length)) c.x c.p c.a c.b c.c c.e);grind [Fk.d,acY]
theorem u2{K':fg}{q:Nat}{g:Option Nat}{B:cD}(hw:∀x∈ws,cR 14 x)(hl:ws.length<=1)(hs:c.s=some (0,q,K'))(hB:cR 14 B)(h:bu Tryz.prog cfg f args ws (.d [.c (14+ws.length+1) 0 1 K,.a .i64 0]) [.a (c.at (14+ws.length)).cs true g,B]):abf f args ws 1 K g (λ_=>c) (xq B):=by
 have hB':cR (14+ws.length) B:=⟨hB.1,λi hi=>Nat.lt_of_lt_of_le (hB.2 i hi) (Nat.le_add_right _ _)⟩;have e:ws.length=0\/ws.length=1:=δ
 refine h.a0 (dL.u (sel:=[0,2,3,4,5,6,1]) hw rfl θ ζ ζ rfl rfl (by rcases e with e|e<;>rw[e]<;>rfl) λt ht=>?_);rcases(by omega:t=0\/t=1\/t=2\/t=3\/t=4\/t=5\/t=6)with rfl|rfl|rfl|rfl|rfl|rfl|rfl
 . exact .inl ⟨rfl,hB'⟩
 . exact .inl ⟨rfl,aa5⟩
 . exact .inl ⟨rfl,aa5⟩
 . exact .inl ⟨rfl,aa5⟩
 . exact .inl ⟨rfl,aa5⟩
 . exact .inl ⟨rfl,aa5⟩
 . refine .inr ⟨_,_,_,_,rfl,?_,rfl⟩;show yw _ (eb c.k (c.d (14+ws.length)) c.x c.p c.a c.b c.c c.e)=some (eb c.k (c.d (14+ws.length)) c.x c.p c.a c.b c.c c.e);unfold Fk.d;rw[hs];exact aa2 (by rcases e with e|e<;>rw[e]<;>rfl)
theorem amb{R:List Rn}(h:aaw R):Nx R/\jo R=0/\abH R=0:=by
 have hi:∀i,i<R.length->IJ (R.getD i x9).b/\IJ (R.getD i x9).d:=λi hi=>by
  have ho:=h.o (R.getD i x9) η;obtain⟨-,a,b,c,d⟩:=ho;exact⟨⟨by omega,by omega⟩,⟨by omega,by omega⟩⟩
 have hc:=ai7 h;exact⟨hi,hc,by grind [ai3]⟩
theorem apB{r:Rn}(h:Ye r):aaw [r]:=⟨λx hx=>by grind,List.pairwise_singleton _ _⟩
section
variable{P S:Nat->cD}
section
variable{p b d:Int}(hp:1<=p/\p<=3)
include hp
end
theorem abP{d:Int}(h1 : -3652425000000000002<=d)(h2:d<=3652425000000002000):af .i64 d=true:=by
 grind [aE,eH,eE]
def sU(x:Da)(j:Nat):Fk:=bif ab 1 x.g then⟨3,none,rb,1,0,bf (jI x.ng x.s x.e x.g),0,bf (jL x.ng x.s x.e x.g+1)-1⟩else bif fy x then⟨1,some (j,1,.a 1),rb,0,0,0,0,0⟩else⟨2,none,⟨x.ng,x.lg,x.s,x.e,0,x.mo,x.da,0,0,0⟩,0,0,0,0,0⟩
end
def qG(ea la:Bool)(L:List It)(i:Nat):Fk:=bif mf ea la L i then sU (L.getD i fP).f i else⟨3,none,rb,dq (L.getD i fP).f.mo (L.getD i fP).f.da,(W2 ea la L i).a,(W2 ea la L i).b,(W2 ea la L i).c,(W2 ea la L i).d⟩
theorem aev{b:Nat}{ea la:Bool}{L:List It}:∀{n:Nat},aeF b ea la L n=nK (λi=>(qG ea la L i).at b) n
 | 0=>rfl
 | n+1=>by
   show aeF b ea la L n++af0 b ea la L n=nK _ n++((qG ea la L n).at b).cs;rw[aev];congr 1
   unfold af0 qG sU;cases mf ea la L n<;>cases ab 1 (L.getD n fP).f.g<;>cases fy (L.getD n fP).f<;>rfl
theorem af9{ea la:Bool}{L:List It}{n:Nat}(h5:n<=6):adb (qG ea la L) n:=λi hi j q K h=>by
 grind [qG,sU]
end Go.Ev
end
section
namespace Go.Ev.Wit
open Go Go.Proofs
def bh:Nat->DataW Unit->List Value
 | 0,_=>[]
 | d+1,.agg xs=>xs.flatMap (bh d)
 | _,.lit (.int k n)=>[.int k n]
 | _,_=>[]
def Y_(h:Array Obj)(b:Nat)(c:List Value):Array Obj:=h.modify b λ
 | .cells _ t frozen=>.cells c.toArray t frozen
 | o=>o
def Zd(B:Nat):List (Nat×List Value):=[(9,[.int .u8 (0),.int .u8 (1),.int .u8 (28),.int .u8 (2),.int .u8 (29),.int .u8 (14),.int .u8 (24),.int .u8 (3),.int .u8 (30),.int .u8 (22),.int .u8 (20),.int .u8 (15),.int .u8 (25),.int .u8 (17),.int .u8 (4),.int .u8 (8),.int .u8 (31),.int .u8 (27),.int .u8 (13),.int .u8 (23),.int .u8 (21),.int .u8 (19),.int .u8 (16),.int .u8 (7),.int .u8 (26),.int .u8 (12),.int .u8 (18),.int .u8 (6),.int .u8 (11),.int .u8 (5),.int .u8 (10),.int .u8 (9)]),
 (10,[.int .u8 (0),.int .u8 (1),.int .u8 (56),.int .u8 (2),.int .u8 (57),.int .u8 (49),.int .u8 (28),.int .u8 (3),.int .u8 (61),.int .u8 (58),.int .u8 (42),.int .u8 (50),.int .u8 (38),.int .u8 (29),.int .u8 (17),.int .u8 (4),.int .u8 (62),.int .u8 (47),.int .u8 (59),.int .u8 (36),.int .u8 (45),.int .u8 (43),.int .u8 (51),.int .u8 (22),.int .u8 (53),.int .u8 (39),.int .u8 (33),.int .u8 (30),.int .u8 (24),.int .u8 (18),.int .u8 (12),.int .u8 (5),.int .u8 (63),.int .u8 (55),.int .u8 (48),.int .u8 (27),.int .u8 (60),.int .u8 (41),.int .u8 (37),.int .u8 (16),.int .u8 (46),.int .u8 (35),.int .u8 (44),.int .u8 (21),.int .u8 (52),.int .u8 (32),.int .u8 (23),.int .u8 (11),.int .u8 (54),.int .u8 (26),.int .u8 (40),.int .u8 (15),.int .u8 (34),.int .u8 (20),.int .u8 (31),.int .u8 (10),.int .u8 (25),.int .u8 (14),.int .u8 (19),.int .u8 (9),.int .u8 (13),.int .u8 (8),.int .u8 (7),.int .u8 (6)]),
 (8,[.int .u64 (1),.int .u64 (10),.int .u64 (100),.int .u64 (1000),.int .u64 (10000),.int .u64 (100000),.int .u64 (1000000),.int .u64 (10000000),.int .u64 (100000000),.int .u64 (1000000000),.int .u64 (10000000000),.int .u64 (100000000000),.int .u64 (1000000000000),.int .u64 (10000000000000),.int .u64 (100000000000000),.int .u64 (1000000000000000),.int .u64 (10000000000000000),.int .u64 (100000000000000000),.int .u64 (1000000000000000000),.int .u64 (10000000000000000000)]),
 (7,[.int .u8 (128),.int .u8 (191),.int .u8 (160),.int .u8 (191),.int .u8 (128),.int .u8 (159),.int .u8 (144),.int .u8 (191),.int .u8 (128),.int .u8 (143),.int .u8 (0),.int .u8 (0),.int .u8 (0),.int .u8 (0),.int .u8 (0),.int .u8 (0),.int .u8 (0),.int .u8 (0),.int .u8 (0),.int .u8 (0),.int .u8 (0),.int .u8 (0),.int .u8 (0),.int .u8 (0),.int .u8 (0),.int .u8 (0),.int .u8 (0),.int .u8 (0),.int .u8 (0),.int .u8 (0),.int .u8 (0),.int .u8 (0)]),
 (4,[.iface 376 (.pointer (some ⟨B+0,0,none⟩))]),
 (3,[.iface 376 (.pointer (some ⟨B+1,0,none⟩))]),
 (5,[.slice (some ⟨B+2,0,none⟩) 3 3]),
 (1,[.int .i64 (31),.int .i64 (28),.int .i64 (31),.int .i64 (30),.int .i64 (31),.int .i64 (30),.int .i64 (31),.int .i64 (31),.int .i64 (30),.int .i64 (31),.int .i64 (30),.int .i64 (31)]),
 (2,[.int .i64 (3),.int .i64 (3),.int .i64 (6),.int .i64 (3),.int .i64 (9),.int .i64 (3),.int .i64 (12),.int .i64 (3),.int .i64 (3),.int .i64 (3),.int .i64 (6),.int .i64 (3),.int .i64 (9),.int .i64 (3),.int .i64 (12),.int .i64 (3),.int .i64 (9),.int .i64 (3),.int .i64 (12),.int .i64 (3),.int .i64 (3),.int .i64 (3),.int .i64 (6),.int .i64 (3),.int .i64 (1),.int .i64 (3),.int .i64 (4),.int .i64 (3),.int .i64 (7),.int .i64 (3),.int .i64 (10),.int .i64 (3),.int .i64 (1),.int .i64 (4),.int .i64 (5),.int .i64 (4),.int .i64 (9),.int .i64 (4),.int .i64 (1),.int .i64 (6),.int .i64 (7),.int .i64 (6)]),
 (6,bh 9 Go.Pinned.utf8First)]
def Zq(B:Nat):List Obj:=[.cells #[.string ⟨#[118,97,108,117,101,32,111,117,116,32,111,102,32,114,97,110,103,101]⟩] 378 (0,0),.cells #[.string ⟨#[105,110,118,97,108,105,100,32,115,121,110,116,97,120]⟩] 378 (0,0),.cells #[.int .i64 (4),.int .i64 (1),.int .i64 (100),.int .i64 (-1),.int .i64 (400),.int .i64 (1)] 368 (0,0)]
noncomputable def LI(h:Array Obj):Array Obj:=((Zd h.size).foldl (λh p=>Y_ h p.1 p.2) h)++(Zq h.size).toArray
noncomputable def laidWorld(os:Os):World:={ World.holding Tryz.prog os ⟨#[],#[],[]⟩with heap:=LI (World.holding Tryz.prog os ⟨#[],#[],[]⟩).heap }
end Go.Ev.Wit
end
section
namespace Go.Ev
open Go Go.Proofs
variable{args:List AV}{t:Tr AV}{S:aQ}{n i:Nat}
def sD(F:Da->Tr AV):dP:=λ
 | [.g [.b ng,.b lg,.e s,.a .i64 e,.a .i64 g,.e mo,.e da,.a .u8 a,.a .u8 b,.a .u8 c]]=>some (F ⟨ng,lg,s,e,g,mo,da,a,b,c⟩)
 | _=>none
def sDD(F:Da->Da->Tr AV):dP:=λ
 | [.g [.b ng,.b lg,.e s,.a .i64 e,.a .i64 g,.e mo,.e da,.a .u8 a,.a .u8 b,.a .u8 c],.g [.b ng',.b lg',.e s',.a .i64 e',.a .i64 g',.e mo',.e da',.a .u8 a',.a .u8 b',.a .u8 c']]=>some (F ⟨ng,lg,s,e,g,mo,da,a,b,c⟩ ⟨ng',lg',s',e',g',mo',da',a',b',c'⟩)
 | _=>none
def sIK(F:It->AV->Tr AV):dP:=λ
 | [.g [.b ng,.b lg,.e s,.a .i64 e,.a .i64 g,.e mo,.e da,.a .u8 a,.a .u8 b,.a .u8 c,.b r,.b ng',.b lg',.e s',.a .i64 e',.a .i64 g',.e mo',.e da',.a .u8 a',.a .u8 b',.a .u8 c'],k]=>some (F ⟨⟨ng,lg,s,e,g,mo,da,a,b,c⟩,r,⟨ng',lg',s',e',g',mo',da',a',b',c'⟩⟩ k)
 | _=>none
theorem ao9{F:Da->Tr AV}(h:sD F args=some t):∃x:Da,args=[.g x.cs]/\F x=t:=by
 unfold sD at h;split at h
 . exact⟨⟨_,_,_,_,_,_,_,_,_,_⟩,rfl,ο h⟩
 . cases h
theorem aq8{F:Da->Da->Tr AV}(h:sDD F args=some t):∃x y:Da,args=[.g x.cs,.g y.cs]/\F x y=t:=by
 unfold sDD at h;split at h
 . exact⟨⟨_,_,_,_,_,_,_,_,_,_⟩,⟨_,_,_,_,_,_,_,_,_,_⟩,rfl,ο h⟩
 . cases h
theorem amO{F:It->AV->Tr AV}(h:sIK F args=some t):∃(x:It) (k:AV),args=[.g (x.f.cs++.b x.r::x.t.cs),k]/\F x k=t:=by
 unfold sIK at h;split at h
 . exact⟨⟨⟨_,_,_,_,_,_,_,_,_,_⟩,_,⟨_,_,_,_,_,_,_,_,_,_⟩⟩,_,rfl,ο h⟩
 . cases h
def rM(x:Da):Bool:=Nat.ble x.s.length 140737488351232&&(Nat.ble x.mo.length 140737488351232&&(Nat.ble x.da.length 140737488351232&&(af .i64 x.e&&(af .i64 x.g&&(af .u8 x.a&&(af .u8 x.b&&af .u8 x.c))))))
def UI(x:Da):Int:=bW x.ng x.lg x.s x.e x.g x.mo x.da x.a x.b x.c
def XY(x:Da):Bool:=dZ x.ng x.lg x.s x.e x.g x.mo x.da x.a x.b x.c
def orD(x y:Da):Bool:=mV x.s x.ng x.e x.g x.mo x.da y.s y.ng y.e y.g y.mo y.da
def Zl(all:Bool)(x:It):Int:=bif not (aa (UI x.f) 0)then UI x.f else bif x.r then(bif not (aa (UI x.t) 0)then UI x.t else bif orD x.f x.t then bif all&&not (fy x.f)then 10 else 0 else 10)else bif XY x.t then bif all&&not (fy x.f)then 10 else 0 else 5
def Z_(x:It):Bool:=rM x.f&&rM x.t
def sGc:dP:=sD λx=>aH [rM x] (.a0 (.a .i64 (UI x)))
def sGo:dP:=sDD λx y=>aH [dF x,dF y] (.a0 (.b (orD x y)))
def TGi:aQ:=aK (aK (aK gZ 42 sGc) 262 sGo) 264 tz
def bOg(x y:Da){Q:AV->Prop}:gG Q (pT TD jE 262 [.g x.cs,.g y.cs]) (bE 10005233102381052000620061432202062202064322020642006)=(dF x/\fk (not (not (kZ x))) (not (not (kZ x))/\dF y/\not (not (kZ x))/\not (kZ x)=false/\fk (not (not (kZ y))) (not (not (kZ y))/\dF x/\rp 2 (not (not (kZ y))) true (dF y/\not (not (kZ y))/\not (kZ y)=false/\fk (not (aa (cond (aa (aR x.mo) 0) (dq x.mo x.da) 0) (cond (aa (aR y.mo) 0) (dq y.mo y.da) 0))) (Q (.b false)) (gN x/\gN y/\Q (.b (ab (gc 0 (jc x) 0 (jc y)) 0))))) (rp 4 (not (not (kZ y))) false (not (kZ y)/\Q (.b false)))) (rp 2 (not (not (kZ x))) false (not (kZ x)/\Q (.b false)))):=ε
theorem arH(hS:ak Tryz.prog cfg S):ak Tryz.prog cfg (aK S 262 sGo):=au hS λargs t v he hv=>by
 obtain⟨x,y,rfl,rfl⟩:=aq8 he;obtain⟨⟨h1,h2,-⟩,hv⟩:=aF hv;cases hv;refine kA amC (L:=jE) alu θ ai (bb λQ' hQ=>cg ((bOg x y).mpr ?_)) κ;have hQ:=hQ _ rfl;have hx:kZ x->gN x/\aa (aR x.mo) 0=true:=λh=>⟨qd h1 (qc.1 h).1,(qc.1 h).2⟩;have hy:kZ y->gN y/\aa (aR y.mo) 0=true:=λh=>⟨qd h2 (qc.1 h).1,(qc.1 h).2⟩;have e:orD x y=(kZ x&&(kZ y&&(aa (dq x.mo x.da) (dq y.mo y.da)&&ab (jc x) (jc y)))):=rfl;have c:ab (gc 0 (jc x) 0 (jc y)) 0=ab (jc x) (jc y):=by
  have:=xF 0 (jc x) 0 (jc y);rw[Bool.eq_iff_iff,aq,aq];omega
 rw[e]at hQ;rw[c,h1,h2];cases hp:kZ x<;>cases hq:kZ y<;>rw[hp,hq]at hQ<;>simp only[fk,rp,Bool.not_true,Bool.not_false,true_and,and_true,true_imp_iff,reduceCtorEq,false_imp_iff]<;>simp only[Bool.false_and,Bool.and_false,Bool.true_and]at hQ<;>first|exact hQ|skip
 rw[(hx hp).1,(hy hq).1,(hx hp).2,(hy hq).2];cases hc:aa (dq x.mo x.da) (dq y.mo y.da)<;>rw[hc]at hQ<;>simp only[cond_true,hc,Bool.not_true,Bool.not_false,true_and,and_true,true_imp_iff,reduceCtorEq,false_imp_iff]<;>simpa using hQ
theorem Vd{x:Da}(h:rM x)(h0:UI x=0):dF x=true:=by
 unfold rM at h;simp only[zAa]at h;exact yn.2 ⟨Nat.le_trans (Wi (dC (Cc h0) dE).1) ζ,h.2.2.2.1,h.2.2.2.2.1,h.2.2.2.2.2.1,h.2.2.2.2.2.2.1,h.2.2.2.2.2.2.2,h0⟩
theorem ai0(hS:ak Tryz.prog cfg S):ak Tryz.prog cfg (aK S 42 sGc):=au hS λargs t v he hv=>by
 obtain⟨x,rfl,rfl⟩:=ao9 he;obtain⟨⟨h,-⟩,hv⟩:=aF hv;cases hv;unfold rM at h;simp only[zAa]at h;obtain⟨h1,h2,h3,h4,h5,h6,h7,h8⟩:=h;rw[aE]at h4 h5 h6 h7 h8;exact zQ (al.mp h1) (al.mp h2) (al.mp h3) h4 h5 h6 h7 h8
theorem apJ:ak Tryz.prog cfg TGi:=anL (arH (ai0 aW))
def tX(all:Bool)(x:Da)(Q:AV->Prop):Prop:=bif all then dF x=true/\fk (not (fy x)) (Q (.a .i64 10)) (Q (.a .i64 0))else Q (.a .i64 0)
def tIt(all:Bool)(x:It)(Q:AV->Prop):Prop:=rM x.f/\fk (not (aa (UI x.f) 0)) (Q (.a .i64 (UI x.f))) (bif x.r then rM x.t=true/\fk (not (aa (UI x.t) 0)) (Q (.a .i64 (UI x.t))) (dF x.f/\dF x.t/\fk (not (orD x.f x.t)) (Q (.a .i64 10)) (tX all x.f Q))else fk (not (XY x.t)) (Q (.a .i64 5)) (tX all x.f Q))
theorem bIg(x y:Da){Q:AV->Prop}:∀all r:Bool,∃D,gG Q (pT TGi jE 207 [.g (x.cs++.b r::y.cs),.a .u8 (bif all then 4 else 3)]) D=tIt all ⟨x,r,y⟩ Q
 | false,false=>⟨bE 1000566610400056614200056,by kernel_rfl⟩
 | false,true=>⟨bE 155610400225666661425614200056,by kernel_rfl⟩
 | true,false=>⟨bE 10010400256666104000566142556,by kernel_rfl⟩
 | true,true=>⟨bE 1001040020566104002256666614256142556,by kernel_rfl⟩
def sIg:dP:=sIK λx k=>match k with
 | .a .u8 k=>aH [aa k 3 || aa k 4,Z_ x] (.a0 (.a .i64 (Zl (aa k 4) x)))
 | _=>.c0
theorem arG(hS:ak Tryz.prog cfg S):ak Tryz.prog cfg (aK S 207 sIg):=au hS λargs t v he hv=>by
 obtain⟨x,k,rfl,rfl⟩:=amO he;split at hv
 . rename_i k;obtain⟨⟨h0,h,-⟩,hv⟩:=aF hv;cases hv;obtain⟨all,hk,e4⟩:∃all:Bool,k=(bif all then 4 else 3)/\aa k 4=all:=by
    rw[Bool.or_eq_true,ao,ao]at h0;rcases h0 with rfl|rfl
    . exact⟨false,rfl,rfl⟩
    . exact⟨true,rfl,rfl⟩
   rw[e4];subst hk;unfold Z_ at h;rw[zAa]at h;obtain⟨g1,g2⟩:=h;refine kA apJ (L:=jE) ahI θ ai (bb λQ' hQ=>?_) κ;obtain⟨D,hD⟩:=@bIg x.f x.t Q' all x.r;refine cg (hD.mpr ?_);have hQ:=hQ _ rfl;have hX:dF x.f->Q' (.a .i64 (bif all&&not (fy x.f)then 10 else 0))->tX all x.f Q':=λh hq=>by
    unfold tX;cases all
    . exact hq
    . refine⟨h,λhn=>?_,λhn=>?_⟩<;>rw[hn]at hq<;>exact hq
   unfold Zl at hQ;refine⟨g1,λe=>?_,λe=>?_⟩<;>rw[e]at hQ
   . exact hQ
   . rw[ν,ao]at e;have v1:=Vd g1 e;dsimp only;cases hr:x.r<;>rw[hr]at hQ
     . refine⟨λe=>?_,λe=>hX v1 ?_⟩
       . rw[Bool.not_eq_true']at e;rw[e]at hQ;exact hQ
       . rw[ν]at e;rw[e]at hQ;exact hQ
     . refine⟨g2,λe=>?_,λe=>?_⟩<;>rw[e]at hQ
       . exact hQ
       . rw[ν,ao]at e;refine⟨v1,Vd g2 e,λe=>?_,λe=>hX v1 ?_⟩
         . rw[Bool.not_eq_true']at e;rw[e]at hQ;exact hQ
         . rw[ν]at e;rw[e]at hQ;exact hQ
 . cases hv
def TJg:aQ:=aK (aK gZ 265 yc) 207 sIg
theorem ack:ak Tryz.prog cfg TJg:=arG (aj2 aW)
def fBz(F:Nat->Int)(n:Nat):Bool:=(List.range n).all λi=>aa (F i) 0
def fJ(F:Nat->Int):Nat->Nat->Nat
 | 0,i=>i
 | m+1,i=>bif aa (F i) 0 then fJ F m (i+1)else i
theorem asa{F:Nat->Int}(h:∀j,j<n->F j=0):fBz F n=true:=List.all_eq_true.2 λj hj=>ao.mpr (h j (List.mem_range.1 hj))
theorem aoQ{F:Nat->Int}{i:Nat}(h:F i≠0):∀{m s:Nat},s<=i->i<s+m->(∀j,s<=j->j<i->F j=0)->fJ F m s=i
 | 0,s,h1,h2,_=>by omega
 | m+1,s,h1,h2,h3=>by
   unfold fJ;by_cases e:s=i
   . subst e;rw[aw.mpr h];rfl
   . rw[ao.mpr (h3 s (Nat.le_refl _) δ)];exact aoQ h δ δ λj h4 h5=>h3 j δ h5
theorem ar_{F:Nat->Int}(hi:i<n)(h:F i≠0)(h3:∀j,j<i->F j=0):fBz F n=false/\fJ F n 0=i:=by
 refine⟨?_,aoQ h (Nat.zero_le _) δ λj _ h5=>h3 j h5⟩;cases e:fBz F n with
 | false=>rfl
 | true=>exact absurd (ao.mp (List.all_eq_true.1 e i (List.mem_range.2 hi))) h
def bdE(ea la i0 il:Bool)(x:It):Bool:=((ea&&i0) || (la&&il))&&!(aaD x) || ((ea&&i0)&&(la&&il))
def Un(k:Int)(ea la:Bool)(L:List It)(i:Nat):Int:=bif not (aa (Zl (aa k 4) (L.getD i fP)) 0)then Zl (aa k 4) (L.getD i fP)else bif bdE ea la (Nat.beq i 0) (Nat.beq (i+1) L.length) (L.getD i fP)then 10 else 0
def tEn(b:Bool)(x:It)(R N:Prop):Prop:=vZ 2 3 (not x.r) (dF x.f/\not x.r/\rp 2 b true (fk (not (kZ x.f)) R N)) (rp 2 b true R)
def tEd:Bool->Bool->Bool->Bool->Bool->It->Prop->Prop->Prop
 | false,false,_,_,_,_,_,N=>N
 | false,true,_,il,_,x,R,N=>vZ 1 3 il (tEn il x R N) N
 | true,false,i0,_,_,x,R,N=>vZ 1 3 i0 (tEn i0 x R N) N
 | true,true,i0,il,n0,x,R,N=>vZ 1 3 i0 (vZ 2 3 (not x.r) (dF x.f/\not x.r/\rp 2 i0 true (fk (not (kZ x.f)) R (fk il (il/\rp 3 (not x.r) true (dF x.f/\not x.r/\rp 2 il true (not (kZ x.f)=false/\n0/\R))) (rp 3 il false (n0=false/\N))))) (rp 2 i0 true R)) (vZ 1 3 il (tEn il x R (n0=false/\N)) (n0=false/\N))
theorem ard{ea la i0 il n0:Bool}{x:It}{R N:Prop}(hv:dF x.f)(h0:n0=(i0&&il))(hR:bdE ea la i0 il x->R)(hN:bdE ea la i0 il x=false->N):tEd ea la i0 il n0 x R N:=by
 subst h0;cases hr:x.r<;>cases hp:kZ x.f<;>cases ea<;>cases la<;>cases i0<;>cases il<;>simp_all [tEd,tEn,bdE,aaD,vZ,fk,rp]
def tIs(w:List AV)(k:Int)(n i:Nat)(ea la:Bool)(Rt:Int->Prop)(N E:Prop):Prop:=ba n i (aS i n/\XK (tg (wF w i)) ((aa k 3 || aa k 4)/\Z_ (jQ (wF w i))/\(aa k 3 || aa k 4)/\Z_ (jQ (wF w i))/\vZ 1 0 (not (aa (Zl (aa k 4) (jQ (wF w i))) 0)) (Rt (Zl (aa k 4) (jQ (wF w i)))) (tEd ea la (aa (ξ i) 0) (aa (ξ i) (ξ n-1)) (aa (ξ n-1) 0) (jQ (wF w i)) (Rt 10) N))) E
def jbI(k:Int)(i:Nat)(x:It):List cD:=[.a [.a .i64 (Zl (aa k 4) x),.i 208 [] [.h 18 0,.h 15 0],.a .i64 10,.i 209 [] [.h 15 0,.h 17 0,.h 18 0],.a .i64 10,.i 211 [] [.h 15 0,.h 17 0,.h 16 0,.h 18 0],.a .i64 10,.i 212 [] [.h 15 0,.h 16 0]] true none,.a (dp [x]) true none,.a [iV i] true none]
def bsI(k:Int)(n:Nat)(K1:fg)(ea la:Bool):List cD:=[.a [.a .i64 (ξ n-1)] true none,ie k n K1 ea la]
theorem rIg(w:List AV)(k:Int)(n i:Nat)(K K1:fg)(J:Nat->Value){Q:VQ->Prop}:∀ea la:Bool,∃D,gG Q (rT TJg jE [.a w false none] 134 0 39 [1,2,3,4,13,14,15] [.h 15 0,.a .i64 0,.a .i64 0,.h 16 0,.c 14 0 n K,iV n,iV i] J ⟨2,bsI k n K1 ea la,[]⟩) D=tIs w k n i ea la (λe=>Q (.c,[.h 15 0,iV i,.a .i64 e,.h 16 0,.c 14 0 n K,iV n,iV i],⟨5,jbI k i (jQ (wF w i))++bsI k n K1 ea la,[]⟩)) (nR i (Q (.a,[.h 15 0,.a .i64 0,.a .i64 0,.h 16 0,.c 14 0 n K,iV n,iX i],⟨5,jbI k i (jQ (wF w i))++bsI k n K1 ea la,[]⟩))) (Q (.b 0,[.h 15 0,.a .i64 0,.a .i64 0,.h 16 0,.c 14 0 n K,iV n,iV i],⟨2,bsI k n K1 ea la,[]⟩))
 | false,false=>⟨bE 1126666661020422000666220005662777777704,by kernel_rfl⟩
 | false,true=>⟨bE 112006681522812066100042702062402000664056661020422000666220005662777777704,by kernel_rfl⟩
 | true,false=>⟨bE 112000666681522812006666100042702062402000664561020422000666220005662777777704,by kernel_rfl⟩
 | true,true=>⟨bE 1120003668152281200035561000427020624020006640005681522812000366810002556327020622020006640056100042702062402000664561020422000666220005662777777704,by kernel_rfl⟩
def Ym(k:Int)(ea la:Bool)(L:List It):Int:=bif fBz (Un k ea la L) L.length then 0 else Un k ea la L (fJ (Un k ea la L) L.length 0)
def stJ(k:Int)(ea la:Bool)(L:List It):Int:=bif fBz (Un k ea la L) L.length then 0 else ξ (fJ (Un k ea la L) L.length 0)
def vIg(L:List It)(k:Int)(ea la:Bool):dW:=λvs o=>match vs,o with
 | [.h 15 0,.a .i64 z,.a .i64 z',.h 16 0,.c 14 0 n K,.a .i64 n',.a .i64 i],⟨2,[.a [.a .i64 last] true none,b],[]⟩=>s7 ⟨1,[b],[]⟩ λk1 m K1 ea1 la1=>aH [Nat.beq L.length n,Nat.beq m n,aa z 0,aa z' 0,aa n' (ξ n),aa i 0,aa last (ξ n-1),aa k1 k,bQ ea1 ea,bQ la1 la] (.d0 (fBz (Un k ea la L) L.length) λb=>bif b then .a0 (.b 0,[.h 15 0,.a .i64 0,.a .i64 0,.h 16 0,.c 14 0 n K,iV n,iV n],⟨2,bsI k n K1 ea la,[]⟩)else .a0 (.c,[.h 15 0,iV (fJ (Un k ea la L) L.length 0),.a .i64 (Un k ea la L (fJ (Un k ea la L) L.length 0)),.h 16 0,.c 14 0 n K,iV n,iV (fJ (Un k ea la L) L.length 0)],⟨2,bsI k n K1 ea la,[]⟩))
 | _,_=>none
theorem aaG:aa (ξ i) (ξ n-1)=Nat.beq (i+1) n:=by grind [aJ,ao]
theorem aoo:aa (ξ i) 0=Nat.beq i 0:=by grind [aJ,ao]
theorem an2{k:Int}{K1:fg}{ea la:Bool}:∀b∈bsI k n K1 ea la,cR 17 b:=λx hx=>by
 simp only[bsI,List.mem_cons,List.not_mem_nil,or_false]at hx;rcases hx with rfl|rfl
 . exact⟨rfl,λi hi=>by simp[HL,bw,aC]at hi⟩
 . exact abX ζ
section
variable{k:Int}{ea la:Bool}{L:List It}(hk:(aa k 3 || aa k 4))(hn:L.length<=200)(hg:∀i,i<L.length->Z_ (L.getD i fP))
include hk hn hg
theorem atP:cu Tryz.prog (cH cfg TJg) (Cw cfg [.a (dp L) false none]) (lb 134 0) 39 [1,2,3,4,13,14,15] (vIg L k ea la):=by
 intro vs o t Q hv hq J;unfold vIg at hv;split at hv
 . rename_i z z' n K n' i last b;obtain⟨k1,m,K1,ea1,la1,ho,rfl⟩:=aec hv;obtain rfl:b=ie k1 m K1 ea1 la1:=by injection ho with _ h;injection h
   replace hq:=cO hq;obtain⟨⟨h1,h2,h3,h4,h5,h6,h7,h8,h9,h10,-⟩,hq⟩:=hq;rw[aJ]at h1 h2;rw[ao]at h3 h4 h5 h6 h7 h8;replace h9:=yl h9;replace h10:=yl h10;subst h1 h2 h3 h4 h5 h6 h7 h8 h9 h10;simp only[Tr.wp]at hq;refine ia ack rfl rfl ai (ι:={i:Nat // i<=L.length/\∀j,j<i->Un k1 ea1 la1 L j=0}) (λx=>[.h 15 0,.a .i64 0,.a .i64 0,.h 16 0,.c 14 0 L.length K,iV L.length,iV x.1]) (λ_=>⟨2,bsI k1 L.length K1 ea1 la1,[]⟩) (λx=>L.length-x.1) 2 (λ_=>Nat.le_refl _) (λx J=>?_) (Nat.le_refl _) (λJ=>Wk.a0 ⟨⟨0,Nat.zero_le _,λj hj=>absurd hj (Nat.not_lt_zero j)⟩,J,rfl⟩) J;obtain⟨i,hi,hz⟩:=x;refine bb λQ' hQ=>?_;obtain⟨D,hD⟩:=@rIg (dp L) k1 L.length i K K1 J Q' ea1 la1;have base:∀{a c:List cD} {vs:List AV},a.length=3->(∀ρ,yw (kG 17 ρ 20) vs=some vs)->VW cfg (Cw cfg [.a (dp L) false none]) 2 39 [1,2,3,4,13,14,15] vs ⟨5,a++bsI k1 L.length K1 ea1 la1,[]⟩ vs ⟨2,bsI k1 L.length K1 ea1 la1,[]⟩:=λ{a c vs} ha hv=>ad6 i7 rfl (by rw[ha]) an2 (hv []);refine cg (hD.mpr (abi hi (λhl=>?_) λh=>?_))
   . obtain⟨a1,a2⟩:=afB hl;rw[a2,aaG,aoo];have g:=hg i hl;have e:=hz;have ret:∀e,Un k1 ea1 la1 L i=e->e≠0->Q' (.c,[.h 15 0,iV i,.a .i64 e,.h 16 0,.c 14 0 L.length K,iV L.length,iV i],⟨5,jbI k1 i (L.getD i fP)++bsI k1 L.length K1 ea1 la1,[]⟩):=λe he h0=>hQ _ ⟨_,_,base (c:=[]) rfl λ_=>rfl,by
      obtain⟨f1,f2⟩:=ar_ hl (by rw[he];exact h0) hz;rw[f1,f2,he]at hq;exact hq⟩
     refine⟨aU.2 hl,rR ⟨hk,g,hk,g,⟨λh=>?_,λh=>?_⟩⟩ a1⟩
     . refine⟨h,ret _ ?_ ?_⟩
       . unfold Un;rw[h];rfl
       . simpa [aw]using h
     . have h':=h;rw[ν,ao]at h';have hv:dF (L.getD i fP).f=true:=by
        unfold Z_ at g;rw[zAa]at g;refine Vd g.1 ?_;unfold Zl at h';cases hf:aa (UI (L.getD i fP).f) 0 with
        | true=>exact ao.mp hf
        | false=>rw[hf]at h';exact h'
       refine ard hv ?_ (λhb=>ret 10 ?_ ζ) λhb=>⟨by rw[aE];simp only[eH,eE];show _<=(i:Int)+1/\(i:Int)+1<=_;omega,hQ _ ⟨⟨i+1,hl,λj hj=>?_⟩,by dsimp only;omega,base (c:=[]) rfl λ_=>rfl⟩⟩
       . grind [aJ,ao]
       . unfold Un;rw[h,hb];rfl
       . by_cases hji:j=i
         . subst hji;unfold Un;rw[h,hb];rfl
         . exact hz j δ
   . subst h;rw[asa hz]at hq;exact hQ _ ⟨_,_,VW.a0,hq⟩
 . cases hv
end
end Go.Ev
end
