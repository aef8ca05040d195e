import Derived.LaidLaws
import Derived.Lib.LaidTab
import Derived.ChangeArms
import Derived.DataReads
import Derived.Test.YtcffhjfdlflbgaaGreatDoorCards
import Derived.Test.YtcffhjfdlflbgaaGreatDoorTie
import Derived.ProofKit
import Derived.OpenShut
import Derived.Deep.DeepHandedRow
import Derived.RowKitTokens
import Derived.WideKeyArgs
import Derived.Test.YtcffhjfdlflbgaaGreatDoorP39
set_option linter.all false
open Nat renaming ble->ν
open Bool renaming not_true->ξ,not_false->ο
set_option linter.all false
set_option maxRecDepth 100000
set_option maxHeartbeats 4000000
section
namespace Go.Ev
open Go Go.RowKit
variable{C:bg}
def Ci(P:Program)(cfg:cL)(f:FuncId)(C:bg)(args:List AV)(o:aB)(r:AV×aB):Prop:=
 (∀D m w,dX cfg D m C o w->fM D m args->jV P f (ap m args).toArray w λV w'=>∃D' m',V=aj m' r.1/\dh D' m' r.1/\dw cfg C D m o w D' m' r.2 w'/\(cI args (cfg.b0 f)=[]->aa9 D w D' m' w'))/\(o.os.length=o.n->fh C o r.2 (cI args (cfg.b0 f)))
noncomputable def okC(P:Program)(cfg:cL)(f:FuncId)(C:bg)(args:List AV)(o:aB)(r:AV×aB):Bool:=@decide _ (Classical.propDecidable (Ci P cfg f C args o r))
theorem aa3{P:Program}{cfg:cL}{f:FuncId}{args:List AV}{o:aB}{r:AV×aB}:okC P cfg f C args o r=true↔Ci P cfg f C args o r:=@decide_eq_true_iff _ (Classical.propDecidable _)
section
variable{cfg:cL}
theorem abR{P:Program}{f:FuncId}{szs:List Nat}{o:aB}{args args':List AV}{q:Aq}{v v':AV}{news news':List cD}(hK:qX cfg)(hRO:∀id,id<cfg.a0.n->Ep (cfg.a0.at id)=false)(hcan:nC (nX cfg.a0.n C o 20) args ⟨szs,[],true⟩=some (args',q))(hq:q.ok)(hfact:bu P cfg f args' q.ws v news)(hmv:kG cfg.a0.n (VV (cfg.a0.n+q.ws.length) (C.lo+o.n) news.length) 20 v=some v')(hlen:news'.length=news.length)(hnew:∀j,j<news.length->WD cfg.a0.n (VV (cfg.a0.n+q.ws.length) (C.lo+o.n) news.length) ((⟨news.length,news,[]⟩:aB).at j) ((⟨news'.length,news',[]⟩:aB).at j)):Ci P cfg f C args o (v',⟨news'.length+o.n,news'++o.os,o.le⟩):=by
 refine⟨λD m w hi hok=>?_,λhl=>?_⟩
 . have hW0:M0 cfg.a0.n D m w [] []:=⟨rfl,λj x l hj=>by simp⟩;obtain⟨L',_,hL,hS⟩:=Bo hi (d:=20) (λ{v q v' q'}=>UA hi) hcan hok hq [] hW0;have hS:=hS [];simp only[List.nil_append,List.append_nil]at hL hS;obtain⟨hc,hok'⟩:=hS;rw[<-hc];refine(hfact _ _ w (Lk hK hRO hi hL) hok').a0 ?_;rintro V w' ⟨D',m',rfl,hv',hx⟩;have hlo:=hi.lo;have hframe:∀k,k<w.heap.size->w'.heap[k]? = w.heap[k]? := λk hk=>hx.g0 k hk λi hd ho=>by
    exfalso;have hlt:i<cfg.a0.n+q.ws.length:=by
     rcases hd with⟨h1,_⟩|⟨_,h2⟩
     . omega
     . rw[<-hL.1];omega
    grind [fa,jT,Cw,fp]
   have hfresh:∀i,D' i->¬DL cfg.a0.n D L' i->w.heap.size<=(m' i).a0:=λi hd hn=>(hx.e0 i hd hn).resolve_right λ⟨j,hj,ho,_⟩=>by
    have hlt:j<cfg.a0.n+q.ws.length:=by
     rcases hj with⟨h1,_⟩|⟨_,h2⟩
     . omega
     . rw[<-hL.1];omega
    grind [fa,jT,Cw,fp]
   obtain⟨D2,hD2⟩:∃D2:Nat->Prop,D2=λid=>D id\/∃j,j<news.length/\id=C.lo+o.n+j/\D' (cfg.a0.n+q.ws.length+j):=⟨_,rfl⟩;obtain⟨m2,hm2⟩:∃m2:Nat->bv,m2=λid=>if id<C.lo+o.n then m id else m' (cfg.a0.n+q.ws.length+(id-(C.lo+o.n))):=⟨_,rfl⟩
   have m2low:∀i,i<C.lo+o.n->m2 i=m i:=λi h=>by grind
   have m2new:∀j,m2 (C.lo+o.n+j)=m' (cfg.a0.n+q.ws.length+j):=λj=>by
    grind
   have hd'low:∀i,D' i->i<cfg.a0.n->D i/\m' i=m i:=λi hd h=>by
    rcases hx.l0 i hd with h1|h1
    . have:=hx.a0 i h1;rcases h1 with⟨_,h2⟩|⟨h2,_⟩<;>grind [oI]
    grind [Cw]
   have mvok:Fl cfg.a0.n (VV (cfg.a0.n+q.ws.length) (C.lo+o.n) news.length) D' D2 m' m2:=by
    refine⟨λi hd h=>?_,λi j hl hd=>?_⟩<;>grind [C7]
   obtain⟨hcv,hokv⟩:=tG mvok hmv hv';have gold:∀i,i<C.lo+o.n->get C ⟨news'.length+o.n,news'++o.os,o.le⟩ i=get C o i:=λi h=>ta (o1:=⟨news'.length,news',[]⟩) (o:=o) rfl h;have gnew:∀j,j<news.length->get C ⟨news'.length+o.n,news'++o.os,o.le⟩ (C.lo+o.n+j)=(⟨news'.length,news',[]⟩:aB).at j:=λj h=>by
    have:=AE (C:=C) (o1:=⟨news'.length,news',[]⟩) (o:=o) (i:=C.lo+o.n+j) rfl (by omega) (by grind);rw[show C.lo+o.n+j-(C.lo+o.n)=j by omega]at this;exact this
   have hold:∀i,D i->i<C.lo+o.n:=hi.lt;have hinv:dX cfg D2 m2 C ⟨news'.length+o.n,news'++o.os,o.le⟩ w':=by
    have hi':dX cfg D m C o w':=hi.d0 λj hj hlv=>hframe _ ((hi.a0 j hj).a0 hlv);refine⟨λid hd=>?_,λi j hdi hdj hij hl hr=>?_,λid hd=>?_,λg hg=>?_,λid hid=>?_,λid hid=>hi.le id hid,hi.lo,by simp[hi.e0]⟩
    . rw[hD2]at hd;rcases hd with hd|⟨j,hj,rfl,hd⟩
      . rw[gold id (hold id hd),m2low id (hold id hd)];exact(hi'.a0 id hd).b0 (λi h=>by grind) λi h=>m2low i (hold i h)
      . rw[gnew j hj,m2new];have:=hx.b0.a0 _ hd;rw[(oR (cfg:=cfg) (id:=0) rfl).2.2 j]at this;grind [OP]
    . rw[hD2]at hdi hdj;have isnew:∀j,j<news.length->D' (cfg.a0.n+q.ws.length+j)->w.heap.size<=(m' (cfg.a0.n+q.ws.length+j)).a0:=λj hj hd=>hfresh _ hd λh=>by
       rcases h with⟨h1,_⟩|⟨_,h2⟩
       . omega
       . rw[hL.1]at h2;omega
      rcases hdi with hdi|⟨a,ha,rfl,hdi⟩<;>rcases hdj with hdj|⟨b,hb,rfl,hdj⟩
      . rw[gold i (hold i hdi)]at hl;rw[gold j (hold j hdj)]at hr;rw[m2low i (hold i hdi),m2low j (hold j hdj)];exact hi.inj i j hdi hdj hij hl hr
      . rw[gold i (hold i hdi)]at hl;rw[m2low i (hold i hdi),m2new];have h1:=(hi.a0 i hdi).a0 hl;grind
      . rw[gold j (hold j hdj)]at hr;rw[m2low j (hold j hdj),m2new];have h1:=(hi.a0 j hdj).a0 (mY hr);grind
      . rw[gnew a ha,(Lq (hnew a ha)).1]at hl;rw[gnew b hb,(Lq (hnew b hb)).2]at hr;rw[m2new,m2new];refine hx.b0.inj _ _ hdi hdj (by omega) ?_ ?_
        . rw[(oR (cfg:=cfg) (id:=0) rfl).2.2 a];omega
        . rw[(oR (cfg:=cfg) (id:=0) rfl).2.2 b];omega
    . grind
    . obtain⟨a1,a2,a3⟩:=hi.c0 g hg;grind
    . obtain⟨a1,a2⟩:=hi.b0 id hid;grind
   have hfr2:∀i,D2 i->¬D i->w.heap.size<=(m2 i).a0:=λi h hn=>by
    rw[hD2]at h;rcases h with h|⟨j,hj,rfl,hd⟩
    . exact absurd h hn
    . rw[m2new];refine hfresh _ hd λh=>?_;rcases h with⟨h1,_⟩|⟨_,h2⟩
      . omega
      . rw[hL.1]at h2;omega
   refine⟨D2,m2,hcv.symm,hokv,⟨hinv,λi h=>by rw[hD2];exact .inl h,λi h=>m2low i (hold i h),λi h=>?_,by simp only;omega,hx.os,hx.j0,hx.d0,hx.i0,λk hk _=>hframe k hk,rfl,λi h hn=>.inl (hfr2 i h hn)⟩,λ_=>⟨hframe,hfr2⟩⟩;rw[hD2]at h;rcases h with h|⟨j,hj,rfl,_⟩
   . exact .inl h
   . exact .inr (by omega)
 . exact fh.f0 (o1:=⟨news'.length,news',[]⟩) hl rfl
end
end Go.Ev
end
section
namespace Go.Ev
open Go Go.Proofs
variable{v0 v:AV}{β b' fuel:Nat}{f0 f1:Field}
def Bn:dP:=λ
 | []=>some (.a0 (.b true))
 | _=>none
def aaa(k:Int)(x:Da)(k1:Int)(y:Da)(k2:Int)(z:Da)(sl:AV)(ea la:Bool):List AV:=.a .u8 k::.b x.ng::.b x.lg::.e x.s::.a .i64 x.e::.a .i64 x.g::.e x.mo::.e x.da::.a .u8 x.a::.a .u8 x.b::.a .u8 x.c::.a .u8 k1::.b y.ng::.b y.lg::.e y.s::.a .i64 y.e::.a .i64 y.g::.e y.mo::.e y.da::.a .u8 y.a::.a .u8 y.b::.a .u8 y.c::.a .u8 k2::.b z.ng::.b z.lg::.e z.s::.a .i64 z.e::.a .i64 z.g::.e z.mo::.e z.da::.a .u8 z.a::.a .u8 z.b::.a .u8 z.c::sl::.b ea::.b la::[]
structure Fm where
 k:Int
 d:AV
 x:Da
 p:Int
 a:Int
 b:Int
 c:Int
 e:Int
def Fm.cs(f:Fm):List AV:=ft f.k f.d f.x f.p f.a f.b f.c f.e
def nK(F:Nat->Fm):Nat->List AV
 | 0=>[]
 | n+1=>nK F n++(F n).cs
abbrev qp:Type:=Nat->bg->List AV->aB->AV×aB->Bool
def vv(ok:qp)(f:Nat)(v:Nat->AV)(news:List cD):FG:=λC args o=>some (lu (ok f C args o (v (C.lo+o.n),⟨news.length+o.n,news++o.os,o.le⟩)) (.a0 (v (C.lo+o.n),⟨news.length+o.n,news++o.os,o.le⟩)))
def Lh(ok:qp)(f n:Nat)(K:fg)(c:List AV)(g:Option Nat)(p:Nat->cD):FG:=vv ok f (λb=>.d [.c (b+6) 0 n K,.a .i64 0]) [.a c true g,p 5,p 4,p 3,p 2,p 1,p 0]
noncomputable def X5(ok:qp)(n:Nat)(K:fg)(F H:Nat->Fm)(gP gR:Option Nat)(p r:Nat->cD):aQ:=eQ (eQ (eQ (d5 gZ 12 Bn) 7 (Lh ok 7 n (.b n) (nK F n) gP p)) 8 (Lh ok 8 n K (nK H n) gR r)) 9 (vv ok 9 (λ_=>.a .i64 1) [])
noncomputable def TLe(ok:qp)(e:Int):aQ:=eQ (eQ (d5 gZ 12 Bn) 7 (vv ok 7 (λ_=>.d [.f,.a .i64 e]) [])) 8 (vv ok 8 (λ_=>.d [.f,.a .i64 e]) [])
def T12:aQ:=d5 gZ 12 Bn
theorem bu.a0{P:Program}{f:FuncId}{args:List AV}{ws:List cD}{news0 news:List cD}(h:bu P cfg f args ws v0 news0)(he:dL ws v news (v0,⟨news0.length,news0,[]⟩)):bu P cfg f args ws v news:=by
 intro D m w hi hok;refine(h D m w hi hok).a0 ?_;rintro V w' ⟨D',m',rfl,hv,hx⟩;have ht:TR D' m' ⟨.c0 v0 .b0 .b0,1,⟨news0.length,news0,[]⟩,[],none⟩ ⟨#[aj m' v0],[]⟩:=by
  have h1:∀t,t≠0->(Ts.c0 v0 .b0 .b0).a0 t=bt:=λt e=>by
   rcases Nat.mod_two_eq_zero_or_one t with h2|h2
   . rw[Ts.d0 _ t e h2];rfl
   . rw[Ts.f0 _ t e h2];rfl
  refine⟨rfl,λt=>?_,λt=>?_,rfl,λd hd=>(by grind),λi hi=>(by grind)⟩
  . by_cases e:t=0
    . subst e;rfl
    grind [kq]
  . by_cases e:t=0
    . subst e;exact hv
    grind [iy]
 obtain⟨s,D2,m2,⟨ho,hvs⟩,h1,_,_,h4,h5⟩:=he D' m' _ w' hx.b0 ht;have hat:=h1.c0 0;have hok0:=h1.d0 0;rw[hvs]at hat hok0;refine⟨D2,m2,by simp_all,hok0,?_⟩;have:=h5 D m ⟨0,[],[]⟩ w (Nat.le_refl _) hi.lt hx;grind
theorem dL.u{ws:List cD}(hw:∀x∈ws,cR 14 x){n0:Nat}{os0 news:List cD}{sel:List Nat}(hlen:os0.length=n0)(hn:n0<=7)(hs:∀s∈sel,s<7)(hd:sel.Nodup)(hl:sel.length=7)(hnews:news.length=7)(hv:kG (14+ws.length) (eM (14+ws.length) 0 sel) 20 v0=some v)(hnew:∀t,t<7->WD (14+ws.length) (eM (14+ws.length) 0 sel) ((⟨7,List.replicate (7-n0) .b++os0,[]⟩:aB).at (sel.getD t 0)) ((⟨7,news,[]⟩:aB).at t)):dL ws v news (v0,⟨n0,os0,[]⟩):=by
 unfold dL;refine(aed (C:=Cw cfg ws) (st:=⟨.c0 v0 .b0 .b0,1,⟨n0,os0,[]⟩,[],none⟩) (kb:=0) (o':=⟨7,List.replicate (7-n0) .b++os0,[]⟩) hn (by grind) rfl λi hi=>?_).c0 λs hs'=>?_
 . grind [aB.at]
 . rw[hs'];refine(oX eb.lv (C:=Cw cfg ws) (st:=⟨.c0 v0 .b0 .b0,1,⟨7,List.replicate (7-n0) .b++os0,[]⟩,[],none⟩) (kb:=0) (sel:=sel) (ts':=.c0 v .b0 .b0) (o':=⟨7,news,[]⟩) (B6 hw) (Nat.zero_le _) (λs h=>⟨Nat.zero_le _,hs s h⟩) hd (λp hp=>by grind) rfl (by grind) hnews (λi hi=>absurd hi (Nat.not_lt_zero i)) (λt ht=>?_) ?_ (λd hd=>by grind) (λi hi=>by grind)).b0 λs h=>?_
   . have:=hnew t (by omega);rw[Nat.zero_add];exact this
   . have hv':kG ((Cw cfg ws).lo+0) (eM (Cw cfg ws).lo 0 sel) 20 v0=some v:=hv;grind [xB,ob]
   . rw[h];exact⟨by grind,rfl⟩
structure Fk where
 k:Int
 s:Option (Nat×Nat×fg)
 x:Da
 p:Int
 a:Int
 b:Int
 c:Int
 e:Int
def Fk.d(f:Fk)(β:Nat):AV:=match f.s with
 | none=>.f
 | some (j,q,K)=>.c (β+j) 0 q K
def Fk.at(f:Fk)(β:Nat):Fm:=⟨f.k,f.d β,f.x,f.p,f.a,f.b,f.c,f.e⟩
theorem aem{b b':Nat}:∀{n j:Nat},j<n->xx (VV b b' n) (b+j)=some (b'+j)
 | 0,_,h=>absurd h (Nat.not_lt_zero _)
 | n+1,j,h=>by
   rw[VV,xx];by_cases e:j=n
   . simp_all
   . rw[ic (by omega),cond_false];exact aem (by omega)
theorem afV{j:Nat}(hβ:14<=β)(hj:j<7):To 14 (VV β b' 7) (β+j)=some (b'+j):=by
 grind [To,aU,aem]
def adb(Φ:Nat->Fk)(n:Nat):Prop:=∀i,i<n->∀j q K,(Φ i).s=some (j,q,K)->j<6
theorem amg{f:Fk}(hβ:14<=β)(h:∀j q K,f.s=some (j,q,K)->j<6):yw (kG 14 (VV β b' 7) 20) (f.at β).cs=some (f.at b').cs:=by
 show yw _ (ft f.k (f.d β) f.x f.p f.a f.b f.c f.e)=some (ft f.k (f.d b') f.x f.p f.a f.b f.c f.e);unfold Fk.d;cases hs:f.s<;>grind [acY,aa2,afV]
theorem ag7{Φ:Nat->Fk}{β b':Nat}(hβ:14<=β):∀{n:Nat},adb Φ n->yw (kG 14 (VV β b' 7) 20) (nK (λi=>(Φ i).at β) n)=some (nK (λi=>(Φ i).at b') n)
 | 0,_=>rfl
 | n+1,h=>rB (ag7 hβ λi hi=>h i (by omega)) (amg hβ (h n (by omega)))
def abf(f:Nat)(args:List AV)(ws:List cD)(n:Nat)(K:fg)(g:Option Nat)(Φ:Nat->Fk)(p:Nat->cD):Prop:=bu Tryz.prog cfg f args ws (.d [.c (14+ws.length+6) 0 n K,.a .i64 0]) [.a (nK (λi=>(Φ i).at (14+ws.length)) n) true g,p 5,p 4,p 3,p 2,p 1,p 0]
theorem ajD{f n:Nat}{szs:List Nat}{C:bg}{o:aB}{args args':List AV}{q:Aq}{K:fg}{g:Option Nat}{Φ:Nat->Fk}{p:Nat->cD}(hcan:nC (nX 14 C o 20) args ⟨szs,[],true⟩=some (args',q))(hq:q.ok)(h:abf f args' q.ws n K g Φ p)(hl:adb Φ n)(hp:∀j,j<6->cR 14 (p j)):Ci Tryz.prog cfg f C args o (.d [.c (C.lo+o.n+6) 0 n K,.a .i64 0],⟨7+o.n,[.a (nK (λi=>(Φ i).at (C.lo+o.n)) n) true g,p 5,p 4,p 3,p 2,p 1,p 0]++o.os,o.le⟩):=by
 refine abR (news':=[.a (nK (λi=>(Φ i).at (C.lo+o.n)) n) true g,p 5,p 4,p 3,p 2,p 1,p 0]) eb.lv Az hcan hq h ?_ rfl λj hj=>?_
 . show kG 14 (VV (14+q.ws.length) (C.lo+o.n) 7) 20 _=_;simp[kG,yw,afV,ob]
 . have hj:j<7:=hj;rcases(by omega:j=0\/j=1\/j=2\/j=3\/j=4\/j=5\/j=6)with rfl|rfl|rfl|rfl|rfl|rfl|rfl
   . exact .inl ⟨rfl,hp 0 (by decide)⟩
   . exact .inl ⟨rfl,hp 1 (by decide)⟩
   . exact .inl ⟨rfl,hp 2 (by decide)⟩
   . exact .inl ⟨rfl,hp 3 (by decide)⟩
   . exact .inl ⟨rfl,hp 4 (by decide)⟩
   . exact .inl ⟨rfl,hp 5 (by decide)⟩
   . exact .inr ⟨_,_,_,_,rfl,ag7 (Nat.le_add_right _ _) hl,rfl⟩
section
variable{H:Type}{enc:TypeId×Value->H}{P:Program}{w:World}{base:Nat}{sp:Nat->Bool}{held:Bool}
theorem sF{e t0 t1:TypeId}{cs:List Value}{k:IntKind}{d:DataW H}{p:List MemPlace}(he:P.underlying e=some (.struct #[f0,f1]))(e0:f0.type=t0)(e1:f1.type=t1)(h0:P.underlying t0=some (.int k))(h1:P.underlying t1=some (.int k))
 (o0:f0.offset=0) (o1:f1.offset=1) (c0:P.cellsOf t0=1) (c1:P.cellsOf t1=1) (hc:P.cellsOf e=2) (h:DataW.trod enc P w base sp held fuel e cs=some (d,p)) :
 ∃a b,cs=[.int k a,.int k b]/\d=.agg [.lit (.int k a),.lit (.int k b)]:=by
 cases fuel with
 | zero=>simp[DataW.trod]at h
 | succ fuel=>
   unfold DataW.trod at h;simp only[he,hc]at h;split at h
   . rename_i hl
     match cs,hl with
     | [x,y],_=>
       simp only[List.mapM_cons,List.mapM_nil,o0,o1,e0,e1,c0,c1,List.drop_zero,List.drop_succ_cons,List.take_succ_cons,List.take_zero,Option.map_eq_some_iff,Option.bind_eq_bind,Option.bind_eq_some_iff,Option.pure_def,zAb]at h;obtain⟨xs,⟨r0,hr0,ys,⟨r1,hr1,zs,rfl,rfl⟩,rfl⟩,hx⟩:=h;obtain⟨n0,q0,rfl,_⟩:=DataW.trod_int h0 hr0;obtain⟨n1,q1,rfl,_⟩:=DataW.trod_int h1 hr1;simp only[List.cons.injEq,and_true]at q0 q1;subst q0 q1;refine⟨n0,n1,rfl,?_⟩;have:=congrArg Prod.fst hx;simpa using this.symm
   . cases h
theorem D8{n:Nat}{t e t0 t1:TypeId}{cs:List Value}{k:IntKind}{ds:List (DataW H)}{p:List MemPlace}(ht:P.underlying t=some (.array n e))(he:P.underlying e=some (.struct #[f0,f1]))(e0:f0.type=t0)(e1:f1.type=t1)(h0:P.underlying t0=some (.int k))(h1:P.underlying t1=some (.int k))
 (o0:f0.offset=0) (o1:f1.offset=1) (c0:P.cellsOf t0=1) (c1:P.cellsOf t1=1) (hc:P.cellsOf e=2) (h:DataW.trod enc P w base sp held fuel t cs=some (.agg ds,p)) :
 ∀i d,ds[i]? = some d->∃a b,d=.agg [.lit (.int k a),.lit (.int k b)]/\cs[2*i]? = some (.int k a)/\cs[2*i+1]? = some (.int k b):=by
 cases fuel with
 | zero=>simp[DataW.trod]at h
 | succ fuel=>
   unfold DataW.trod at h;simp only[ht,hc]at h;split at h
   . rename_i hl;obtain⟨xs,hm,hx⟩:=Option.map_eq_some_iff.1 h;have hxs:xs.map (·.1)=ds:=by
      have:=congrArg Prod.fst hx;simpa using this
     intro i d hd;have hxl:xs.length=n:=by simpa using Lib.mapM_length hm
     have hi:i<n:=by
      have:=(List.getElem?_eq_some_iff.1 hd).1;rw[<-hxs]at this;simp at this;omega
     obtain⟨b,hb,hf⟩:=Lib.mapM_at hm i i (by simp[hi]);obtain⟨x,y,hc1,hc2⟩:=sF (d:=b.1) (p:=b.2) he e0 e1 h0 h1 o0 o1 c0 c1 hc (by rw[hf]);refine⟨x,y,?_,?_,?_⟩
     . rw[<-hxs]at hd;simp only[List.getElem?_map,hb,Option.map_some,zAb]at hd;rw[<-hd,hc2]
     . have:=congrArg (·[0]?) hc1;simp only[List.getElem?_take,List.getElem?_drop,List.getElem?_cons_zero]at this;rw[show 2*i=i*2+0 by omega];simpa using this
     . have:=congrArg (·[1]?) hc1;simp only[List.getElem?_take,List.getElem?_drop]at this;rw[show 2*i+1=i*2+1 by omega];simpa using this
   . cases h
theorem zK{t e t0 t1:TypeId}{cs:List Value}{k:IntKind}{ds:List (DataW H)}{p:List MemPlace}(ht:P.underlying t=some (.slice e))(he:P.underlying e=some (.struct #[f0,f1]))(e0:f0.type=t0)(e1:f1.type=t1)(h0:P.underlying t0=some (.int k))(h1:P.underlying t1=some (.int k))
 (o0:f0.offset=0) (o1:f1.offset=1) (c0:P.cellsOf t0=1) (c1:P.cellsOf t1=1) (hc:P.cellsOf e=2) (hne:0<ds.length) (h:DataW.trod enc P w base (λ_=>true) held fuel t cs=some (.slice ds [],p)) :
 ∃b o,cs=[.slice (some ⟨b,o,none⟩) ds.length ds.length]/\∀i d,ds[i]? = some d->∃x y,d=.agg [.lit (.int k x),.lit (.int k y)]/\w.cell? ⟨b,o+2*i,none⟩=some (.int k x)/\w.cell? ⟨b,o+(2*i+1),none⟩=some (.int k y):=by
 rcases DataW.trod_slice ht h with⟨_,hx⟩|⟨a,len,cap,elems,rest,n,rfl,rfl,hx,hb,hle,hmax,hel,hat,hrest,_⟩
 . cases hx
 . simp only[Prod.mk.injEq,DataW.slice.injEq]at hx;obtain⟨⟨hds,hrs⟩,_⟩:=hx;have hr0:rest.length=0:=by
    have:=congrArg List.length hrs;simpa using this.symm
   have hcap:cap=len:=by
    have:=(hrest rfl).1;omega
   have hlen:ds.length=len:=by rw[hds];simpa using hel
   subst hcap;have main:∀i d,ds[i]? = some d->∃x y,d=.agg [.lit (.int k x),.lit (.int k y)]/\w.cell? (a.add (i*2))=some (.int k x)/\w.cell? ((a.add (i*2)).add 1)=some (.int k y):=by
    intro i d hd;have hi:i<cap:=by
     have:=(List.getElem?_eq_some_iff.1 hd).1;omega
    have h3:=hat i hi;rw[hds,List.getElem?_map]at hd;obtain⟨b,hb',rfl⟩:=Option.map_eq_some_iff.1 hd;rw[hb',hc]at h3;obtain⟨cs',hcs,htr⟩:=Option.bind_eq_some_iff.1 h3;obtain⟨x,y,rfl,hd2⟩:=sF (d:=b.1) (p:=b.2) he e0 e1 h0 h1 o0 o1 c0 c1 hc htr;obtain⟨_,_,hcell⟩:=World.cells?_some hcs;refine⟨x,y,hd2,?_,?_⟩
    . have:=hcell 0 (by omega);simpa [Addr.add]using this
    . exact hcell 1 (by omega)
   obtain⟨b,o,sp⟩:=a;have hsp:sp=none:=by
    obtain⟨x,y,_,hx0,_⟩:=main 0 (ds[0]'hne) (by simp[hne]);simp only[Nat.zero_mul,Addr.add,if_true]at hx0;unfold World.cell? at hx0;cases sp with
    | none=>rfl
    | some v=>split at hx0<;>simp at hx0
   subst hsp;refine⟨b,o,by rw[hlen],λi d hd=>?_⟩;obtain⟨x,y,h4,h5,h6⟩:=main i d hd;refine⟨x,y,h4,?_,?_⟩
   . by_cases e:i=0
     . subst e;simpa [Addr.add]using h5
     . rw[show o+2*i=o+i*2 by omega];have e2:¬i*2=0:=by omega
       rw[Addr.add,if_neg e2]at h5;exact h5
   . by_cases e:i=0
     . subst e;simpa [Addr.add]using h6
     . rw[show o+(2*i+1)=o+i*2+1 by omega];have e2:¬i*2=0:=by omega
       rw[Addr.add,if_neg (by omega),Addr.add,if_neg e2]at h6;exact h6
end
end Go.Ev
end
section
namespace Go.Ev
open Go Go.Proofs Go.ChangeShapes Go.WideShapes Go.ChangeAt Go.RowKit
theorem post_of_below{H:Type}{enc:TypeId×Value->H}{P:Program}{f:Func}{s:ChangeSpec}{apart fresh handsOn again:Bool}{W W':World}{args:Array Value}{v:Value}{ds gs:List (DataW H)}{before pa pv:List MemPlace}
 (hW:DataW.Whole enc P f.params.toList s.vars apart W args.toList ds gs before)
 (hres:∀(b:Nat) (sp:Nat->Bool) (hd:Bool),DataW.TrodAll enc P W' b sp hd f.resultTypes.toList (v.resultList f.resultTypes.size) (s.fn H (ds++gs)).results [])
 (hargs:∀sp:Nat->Bool,(∀p∈before,sp p.block=true)->DataW.TrodAll enc P W' 0 sp true f.params.toList args.toList (s.fn H (ds++gs)).args pa)
 (hvars:∀sp:Nat->Bool,(∀p∈before,sp p.block=true)->DataW.TrodVars enc P W' sp s.vars (s.fn H (ds++gs)).vars pv)
 (hps:before=pa++pv) (hb:Below W.heap.size W W')
 (hok:∀(j:Nat) (t:TypeId) (r:Value),f.resultTypes[j]? = some t->(v.resultList f.resultTypes.size)[j]? = some r->Value.okWide P W' .any 0 t r) :
 s.post enc P f apart fresh handsOn again W args v W':=by
 have hold:∀p∈before,(λb=>decide (b<W.heap.size)) p.block=true:=λp hp=>by simpa using hW.lt p hp
 have hlt:∀p∈before,p.block<W.heap.size:=λp hp=>hW.lt p hp;refine⟨ds,gs,before,[],pa,pv,hW,hres _ _ _,hargs _ hold,hvars _ hold,World.keptBut_mono (λp hp=>⟨hp,?_⟩) (hb.frame (·∈before)),λ_=>?_⟩
 . rw[hps,List.mem_append]at hp;exact Or.inr hp
 . obtain⟨_,_,_,_,_,hz,hn⟩:=hW;refine⟨hok,_,_,([]++pa)++pv,⟨[]++pa,pv,trodAll_append (hargs _ (λ_ _=>rfl)) (hres _ _ true),hvars _ (λ_ _=>rfl),rfl,?_,?_⟩,?_⟩
   . intro b off hp;have hp':MemPlace.cell b off∈before:=by rw[hps];simpa using hp
     have e:W'.frozen? ⟨b,off,none⟩=W.frozen? ⟨b,off,none⟩:=by
      unfold World.frozen?;rw[hb.block b (hlt _ hp')]
     rw[e];exact hz b off hp'
   . intro ha;have:=hn ha;rw[hps]at this;simpa using this
   . intro p hp _;rw[hps];simpa using hp
def laidOut:laidOutB Tryz.prog=true:=by kernel_rfl
theorem below_place{W W':World}{x:MemPlace}(hb:Below W.heap.size W W')(hlt:x.block<W.heap.size):W.sameAt W' x:=by
 cases x with
 | cell b off=>show W'.cell? _=W.cell? _;unfold World.cell?;rw[hb.block b hlt]
 | map b=>exact hb.block b hlt
section
variable{P:Program}{w:World}{r:Reach}{b0:Nat}
def akj(P:Program)(w:World)(r:Reach)(b0:Nat):List TypeId->List Value->Prop
 | [],[]=>True
 | t::ts,v::vs=>Cell.okWide P w r b0 t v/\akj P w r b0 ts vs
 | _,_=>False
theorem Gc:∀{ts:List TypeId} {l:List Value},l.length=ts.length->(∀(i:Nat) (c:Value),l[i]? = some c->∃u,ts[i]? = some u/\Cell.okWide P w r b0 u c)->akj P w r b0 ts l
 | [],[],_,_=>trivial
 | t::ts,v::vs,h,hall=>by
   refine⟨?_,Gc (by simpa using h) λi c hc=>hall (i+1) c hc⟩;obtain⟨u,hu,hc⟩:=hall 0 v rfl;cases hu;exact hc
theorem IH{t:TypeId}{v:Value}{fs}(ht:P.underlying t=some (.struct fs)){ts:List TypeId}(hc:P.cellTypes P.depth t=some ts)(hn:P.cellsOf t=ts.length)(h:Value.okWide P w r b0 t v):∃l:List Value,v=.agg ⟨l⟩/\akj P w r b0 ts l:=by
 unfold Value.okWide at h;rw[ht]at h;obtain⟨⟨l⟩,rfl,hsz,ts',hts,_,hall⟩:=h;rw[hc]at hts;cases hts;have hl:l.length=ts.length:=hsz.trans hn;refine⟨l,rfl,Gc hl λi c hi=>?_⟩;have hlt:=(List.getElem?_eq_some_iff.1 hi).1;have:=hall i c (by simpa using hi)
 rwa [Nat.mod_eq_of_lt (by omega)]at this
end
end Go.Ev
end
section
namespace Go.Ev
open Go Go.Proofs
variable{X:Prop}{q:Aq}{f:Nat}{z:Int}
def wk(w:List AV)(n:Nat):List AV:=b_ w 0 (n*4)
def rU(w:List AV)(n:Nat):Bool:=and (ν (0+n*4) w.length) (bc 14 (wk w n))
def Bi(w:List AV)(n:Nat)(F:List Rn->Int)(Q:AV->Prop):Prop:=(aa (Int.ofNat n) 0->Q (.a .i64 17))/\(aa (Int.ofNat n) 0=false->fu [and true (rU w n),eJ (wk w n),Nat.beq (g8 (wk w n)).length n,ν n 1000] (Q (.a .i64 (F (g8 (wk w n))))))
def aiy(ng lg:Bool)(s:List UInt8)(e:Int)(mo da:List UInt8):AV:=.h (ft 2 .f ⟨ng,lg,s,e,0,mo,da,0,0,0⟩ 0 0 0 0 0)
def agt(p a b c d:Int):AV:=.h (ft 3 .f gL p a b c d)
def ni(b:Bool)(X Y:Prop):Prop:=(b->X)/\(b=false->Y)
theorem agJ{b:Bool}{Y:Prop}(hb:b=false)(h:Y):ni b X Y:=⟨λk=>(by grind),λ_=>h⟩
section
variable{R:List Rn}{K K':fg}(hR:Nx R)(h1:1<=R.length)(hn:R.length<=1000)
include hR h1 hn
theorem ajM:aa (Int.ofNat R.length) 0=false/\rU (bh R) R.length/\eJ (wk (bh R) R.length)/\Nat.beq (g8 (wk (bh R) R.length)).length R.length/\ν R.length 1000/\g8 (wk (bh R) R.length)=R:=by
 have e:wk (bh R) R.length=bh R:=l_;unfold rU;rw[e,iJ,kC,ma,aw,al];refine⟨by grind,?_,pD hR,aJ.mpr rfl,hn,rfl⟩;simp
theorem ahw{F:List Rn->Int}{Q:AV->Prop}(h:Q (.a .i64 (F R))):Bi (bh R) R.length F Q:=by
 obtain⟨a1,a2,a3,a4,a5,a6⟩:=ajM hR h1 hn;have y:Tk [and true (rU (bh R) R.length),eJ (wk (bh R) R.length),Nat.beq (g8 (wk (bh R) R.length)).length R.length,ν R.length 1000]:=⟨by grind,a3,a4,a5,trivial⟩;exact⟨λk=>(by grind),λ_=>j6 (by grind) y⟩
theorem ana(hc:jo R=0):bu Tryz.prog cfg 10 [.h (ft 1 (.c 14 0 R.length K) gL 0 0 0 0 0)] [.a (bh R) false none] (.a .i64 0) []:=by
 refine ns jG jz ai (bE 111114444014666666) (R:=λQ=>Bi (bh R) R.length jo Q) (λ_=>by kernel_rfl) λQ hQ=>ahw hR h1 hn (by grind)
theorem amY(hc:abH R=0):bu Tryz.prog cfg 11 [.h (ft 1 (.c 14 0 R.length K) gL 0 0 0 0 0)] [.a (bh R) false none] (.a .i64 0) []:=by
 refine ns abK jz ai (bE 11111444401456666666) (R:=λQ=>Bi (bh R) R.length abH Q) (λ_=>by kernel_rfl) λQ hQ=>ahw hR h1 hn (by grind)
theorem apH:bu Tryz.prog cfg 9 [.h (ft 1 (.c 14 0 R.length K) gL 0 0 0 0 0),.h (ft 1 (.c 15 0 R.length K') gL 0 0 0 0 0)] [.a (bh R) false none,.a (bh R) false none] (.a .i64 1) []:=by
 refine ns adf acl ai (bE 1111124242445566666) (R:=λQ=>fu [and (and true (rU (bh R) R.length)) (rU (bh R) R.length),eJ (wk (bh R) R.length)] (eJ (wk (bh R) R.length)/\fu [Nat.beq (g8 (wk (bh R) R.length)).length R.length] (Nat.beq (g8 (wk (bh R) R.length)).length R.length/\fu [ν R.length 1000] (ν R.length 1000/\Q (.a .i64 (bI (mh (g8 (wk (bh R) R.length)) (g8 (wk (bh R) R.length))))))))) (λ_=>by kernel_rfl) λQ hQ=>?_;obtain⟨a1,a2,a3,a4,a5,a6⟩:=ajM hR h1 hn;have y:Tk [and (and true (rU (bh R) R.length)) (rU (bh R) R.length),eJ (wk (bh R) R.length)]:=⟨by grind,a3,trivial⟩;have y2:Tk [Nat.beq (g8 (wk (bh R) R.length)).length R.length]:=⟨a4,trivial⟩;have y3:Tk [ν R.length 1000]:=⟨a5,trivial⟩;refine j6 ⟨a3,j6 ⟨a4,j6 ⟨a5,?_⟩ y3⟩ y2⟩ y;rw[a6,aeo];exact hQ
end
section
variable{ng lg:Bool}{s:List UInt8}{e:Int}{mo da:List UInt8}
section
variable(h1:ν s.length 1000)(h2:ν mo.length 1000)(h3:ν da.length 1000)(h4:af .i64 e)(h5:bW ng lg s e 0 mo da 0 0 0=0)(h6:eA (s++mo++da))
include h1 h2 h3 h4 h5 h6
theorem anC:bu Tryz.prog cfg 10 [aiy ng lg s e mo da] [] (.a .i64 0) []:=by
 refine ns jG (λ_ h=>by grind) ai (bE 107000707005635270006666666) (R:=λQ=>nE [ν s.length 1000,ν mo.length 1000,ν da.length 1000,af .i64 e] (not (aa (bW ng lg s e 0 mo da 0 0 0) 0)=false/\nE [ν s.length 1000,ν mo.length 1000,ν da.length 1000,eA (s++mo++da),eA (s++mo++da),eA (s++mo++da),eA (s++mo++da),eA (s++mo++da),eA (s++mo++da)] (Q (.a .i64 0)))) (λ_=>by kernel_rfl) λQ hQ=>?_;simp_all [nE,aa]
theorem ano:bu Tryz.prog cfg 11 [aiy ng lg s e mo da] [] (.a .i64 0) []:=by
 refine ns abK (λ_ h=>by grind) ai (bE 103220007007005632200056666666) (R:=λQ=>nE [ν s.length 1000,af .i64 e] (not (ab (bW ng lg s e 0 mo da 0 0 0) 0)=false/\nE [ν s.length 1000,ν mo.length 1000,ν da.length 1000,not (aa (cond (eA (s++mo++da)) 1 0) 0),not (aa (cond (eA (s++mo++da)) 1 0) 0),not (aa (cond (eA (s++mo++da)) 1 0) 0),not (aa (cond (eA (s++mo++da)) 1 0) 0),not (aa (cond (eA (s++mo++da)) 1 0) 0)] (aa (cond (eA (s++mo++da)) 1 0) 0=false/\Q (.a .i64 0)))) (λ_=>by kernel_rfl) λQ hQ=>?_;simp only[nE,h1,h2,h3,h4,h5,h6,show ab 0 0=true from rfl,show aa 1 0=false from rfl,cond_true,ξ,ο,true_and,and_true,reduceCtorEq,false_imp_iff,true_imp_iff];omega
end
theorem aql:bu Tryz.prog cfg 9 [aiy ng lg s e mo da,aiy ng lg s e mo da] [] (.a .i64 1) []:=by
 refine ns adf (λ_ h=>by grind) ai (bE 10005238166320220240666) (R:=λQ=>(λ(u0:Bool)=>(not u0->nE [not u0,not u0,not u0,not u0] (u0=false/\Q (.a .i64 1)))/\(not u0=false->not u0=false/\not u0=false/\not u0=false/\not u0=false/\u0/\Q (.a .i64 0))) (not (and (and (bQ ng ng) (and (bQ lg lg) (and (ae s s) (and (aa e e) true)))) (and (ae mo mo) (and (ae da da) true))))) (λ_=>by rfl) λQ hQ=>?_;have b:∀b,bQ b b=true:=λb=>by cases b<;>rfl
 have l:∀l,ae l l=true:=λl=>by rw[bV];simp
 simp only[b,l,show aa e e=true from ao.mpr rfl,nE,Bool.and_true,ξ,ο,true_and,and_true,reduceCtorEq,false_imp_iff,true_imp_iff];omega
end
section
variable{p a b c d:Int}
theorem ako:bu Tryz.prog cfg 9 [agt p a b c d,agt p a b c d] [] (.a .i64 1) []:=by
 refine ns adf (λ_ h=>by grind) ai (bE 100014325225226666) (R:=λQ=>(λ(u0 u1:Bool)=>nE [not u0,not u0,not u0,not u0,not u0] (u0=false/\(u1->Q (.a .i64 0))/\(u1=false->Q (.a .i64 1)))) (not (aa p p)) (not (and (and (aa a a) (and (aa b b) true)) (and (and (aa c c) (and (aa d d) true)) true)))) (λ_=>by kernel_rfl) λQ hQ=>?_;have i:∀x:Int,aa x x=true:=λx=>ao.mpr rfl;simp_all [nE]
theorem apK:bu Tryz.prog cfg 9 [.h (ft 4 .f gL 0 (-1) 0 0 d),.h (ft 4 .f gL 0 (-1) 0 0 d)] [] (.a .i64 1) []:=by
 refine ns adf (λ_ h=>by grind) ai (bE 1000140566666) (R:=λQ=>ni (not (and true (and (and true (and (aa d d) true)) true))) (Q (.a .i64 0)) (Q (.a .i64 1))) (λ_=>by kernel_rfl) λQ hQ=>agJ ?_ hQ;rw[show aa d d=true from ao.mpr rfl];rfl
theorem aom:bu Tryz.prog cfg 9 [.h (ft 5 .f gL 0 0 b 1 0),.h (ft 5 .f gL 0 0 b 1 0)] [] (.a .i64 1) []:=by
 refine ns adf (λ_ h=>by grind) ai (bE 1000140566666) (R:=λQ=>ni (not (and (and true (and (aa b b) true)) true)) (Q (.a .i64 0)) (Q (.a .i64 1))) (λ_=>by kernel_rfl) λQ hQ=>agJ ?_ hQ;rw[show aa b b=true from ao.mpr rfl];rfl
theorem amL:bu Tryz.prog cfg 10 [.h (ft 4 .f gL 0 (-1) 0 0 d)] [] (.a .i64 0) []:=by
 refine ns jG (λ_ h=>by grind) ai (bE 1066666666) (R:=λQ=>Q (.a .i64 0)) (λ_=>by kernel_rfl) λQ hQ=>hQ
theorem amG:bu Tryz.prog cfg 10 [.h (ft 5 .f gL 0 0 b 1 0)] [] (.a .i64 0) []:=by
 refine ns jG (λ_ h=>by grind) ai (bE 10066666666) (R:=λQ=>Q (.a .i64 0)) (λ_=>by kernel_rfl) λQ hQ=>hQ
theorem amV:bu Tryz.prog cfg 11 [.h (ft 4 .f gL 0 (-1) 0 0 d)] [] (.a .i64 0) []:=by
 refine ns abK (λ_ h=>by grind) ai (bE 1006666666666666) (R:=λQ=>Q (.a .i64 0)) (λ_=>by kernel_rfl) λQ hQ=>hQ
theorem anh:bu Tryz.prog cfg 11 [.h (ft 5 .f gL 0 0 b 1 0)] [] (.a .i64 0) []:=by
 refine ns abK (λ_ h=>by grind) ai (bE 1006666666666666) (R:=λQ=>Q (.a .i64 0)) (λ_=>by kernel_rfl) λQ hQ=>hQ
theorem aie(hp:1<=p/\p<=3)(ha:af .i8 a)(hb:af .i64 b)(hc:af .i8 c)(hd:af .i64 d)(hf:Vo a b c d p):bu Tryz.prog cfg 10 [agt p a b c d] [] (.a .i64 0) []:=by
 refine ns jG (λ_ h=>by grind) ai (bE 1147700533202200666666) (R:=λQ=>(λ(u0:Bool)=>nE [not u0,not u0,not u0] (u0=false/\not (ab p 3)=false/\nE [af .i8 a,af .i64 b,af .i8 c,af .i64 d,ab 1 p,ab p 3] (ni (not (Vo a b c d p)) (Q (.a .i64 1)) (Q (.a .i64 0))))) (not (ab 1 p))) (λ_=>by kernel_rfl) λQ hQ=>?_;simp only[nE,aq.mpr hp.1,aq.mpr hp.2,ha,hb,hc,hd,hf,ni,ξ,ο,true_and,and_true,reduceCtorEq,false_imp_iff,true_imp_iff];omega
theorem ajX{b:Bool}(h:X):ni b X X:=⟨λ_=>h,λ_=>h⟩
def yj(b p:Int):Bool:=not (and true (and (aa (CK b p) b) true))
def wR(d p:Int):Bool:=not (and true (and (aa (PU d p) d) true))
def uP(p:Int)(X:Prop):Prop:=nE [not (not (ab 1 p)),not (not (ab 1 p)),not (not (ab 1 p))] (not (ab 1 p)=false/\not (ab p 3)=false/\X)
theorem ah2{p:Int}(hp:1<=p/\p<=3)(h:X):uP p X:=by
 simp only[uP,nE,aq.mpr hp.1,aq.mpr hp.2,ξ,ο,true_and];omega
section
variable(hp:1<=p/\p<=3)
include hp
theorem ak_:af .i64 p/\and (ab 1 p) (ab p 3)=true:=⟨by grind [aE,eH,eE],by rw[aq.mpr hp.1,aq.mpr hp.2];rfl⟩
theorem alJ(hb:af .i64 b/\lT b p/\CK b p=b)(hd:af .i64 d/\lT d p/\PU d p=d)(hr:bA 0 b 0 d=0):bu Tryz.prog cfg 11 [agt p 0 b 0 d] [] (.a .i64 0) []:=by
 refine ns abK (λ_ h=>by grind) ai (bE 11400056702001400056702063063030202200056666666) (R:=λQ=>uP p (not (ab (bA 0 b 0 d) 0)=false/\nE [af .i64 p,af .i64 b,and (ab 1 p) (ab p 3),lT b p] (ni (yj b p) (Q (.a .i64 1)) (nE [af .i64 p,af .i64 d,and (ab 1 p) (ab p 3),lT d p] (ni (wR d p) (Q (.a .i64 1)) (Q (.a .i64 0))))))) (λ_=>by kernel_rfl) λQ hQ=>ah2 hp ?_;obtain⟨f1,f2⟩:=ak_ hp;simp only[nE,f1,f2,hb,hd,hr,ni,yj,wR,show ∀x:Int,aa x x=true from λx=>ao.mpr rfl,show ab 0 0=true from rfl,Bool.and_true,Bool.and_self,ξ,ο,true_and,and_true,reduceCtorEq,false_imp_iff,true_imp_iff];omega
theorem ali(hd:af .i64 d/\lT d p/\PU d p=d):bu Tryz.prog cfg 11 [agt p (-1) 0 0 d] [] (.a .i64 0) []:=by
 refine ns abK (λ_ h=>by grind) ai (bE 1140005670205611400056702056420025663030202200056666666) (R:=λQ=>uP p (nE [af .i64 p,and (ab 1 p) (ab p 3)] (ni (lT 0 p) (nE [af .i64 p,af .i64 d,and (ab 1 p) (ab p 3),lT d p] (ni (wR d p) (Q (.a .i64 1)) (Q (.a .i64 0)))) (nE [af .i64 p,af .i64 d,and (ab 1 p) (ab p 3),lT d p] (ni (wR d p) (Q (.a .i64 1)) (Q (.a .i64 0))))))) (λ_=>by kernel_rfl) λQ hQ=>ah2 hp ?_;obtain⟨f1,f2⟩:=ak_ hp;refine⟨f1,f2,ajX ?_⟩;simp only[nE,f1,f2,hd,ni,wR,show ∀x:Int,aa x x=true from λx=>ao.mpr rfl,Bool.and_true,Bool.and_self,ξ,true_and,and_true,reduceCtorEq,false_imp_iff,true_imp_iff];omega
theorem akq(hb:af .i64 b/\lT b p/\CK b p=b):bu Tryz.prog cfg 11 [agt p 0 b 1 0] [] (.a .i64 0) []:=by
 refine ns abK (λ_ h=>by grind) ai (bE 100061000642002001400056702000663030202200056666666) (R:=λQ=>uP p (nE [af .i64 p,af .i64 b,and (ab 1 p) (ab p 3),lT b p] (ni (yj b p) (Q (.a .i64 1)) (nE [af .i64 p,and (ab 1 p) (ab p 3)] (ni (lT 0 p) (Q (.a .i64 0)) (Q (.a .i64 0))))))) (λ_=>by kernel_rfl) λQ hQ=>ah2 hp ?_;obtain⟨f1,f2⟩:=ak_ hp;refine⟨f1,hb.1,f2,hb.2.1,agJ ?_ ⟨f1,f2,ajX hQ⟩⟩;unfold yj;rw[hb.2.2,show aa b b=true from ao.mpr rfl];rfl
end
end
section
variable{C:bg}{o:aB}{k p a b c e:Int}{x:Da}
theorem agd{d:Nat}{v:AV}:nX 14 C o (d+2) (.h (ft k v x p a b c e)) q=ob (nX 14 C o (d+1) v q) λr=>some (.h (ft k r.1 x p a b c e),r.2):=by
 show ob (nC (nX 14 C o (d+1)) (ft k v x p a b c e) q) (λp=>some (AV.h p.1,p.2))=_;have hi:∀k n q,nX 14 C o (d+1) (.a k n) q=some (.a k n,q):=λ_ _ _=>rfl;have hb:∀b q,nX 14 C o (d+1) (.b b) q=some (.b b,q):=λ_ _=>rfl;have hs:∀s q,nX 14 C o (d+1) (.e s) q=some (.e s,q):=λ_ _=>rfl;cases h:nX 14 C o (d+1) v q<;>simp only[ft,nC,hi,hb,hs,h,ob]
theorem ac4{d id q:Nat}{K:fg}{w:List AV}{rw:Bool}{g:Option Nat}{sz:List Nat}{ws:List cD}{t:Bool}{z:Nat}(hg:get C o id=.a w rw g)(hl:w.length=q*z)(hb:bc 14 w):nX 14 C o (d+1) (.c id 0 q K) ⟨z::sz,ws,t⟩=some (.c (14+ws.length) 0 q (xe K),⟨sz,ws++[.a w false none],t⟩):=by
 grind [nX,cellsOf,ob,b_,eK]
theorem abY{args args':List AV}{szs:List Nat}(hcan:nC (nX 14 C o 20) args ⟨szs,[],true⟩=some (args',q))(hq:q.ok)(h:bu Tryz.prog cfg f args' q.ws (.a .i64 z) []):Ci Tryz.prog cfg f C args o (.a .i64 z,o):=by
 have:=abR (news':=[]) eb.lv Az hcan hq h rfl rfl λj hj=>absurd hj (Nat.not_lt_zero j);simp_all
theorem ahS(h:bu Tryz.prog cfg f [.h (ft k .f x p a b c e)] [] (.a .i64 z) []):Ci Tryz.prog cfg f C [.h (ft k .f x p a b c e)] o (.a .i64 z,o):=
 abY (szs:=[]) (q:=⟨[],[],true⟩) (by rfl) rfl h
theorem ajh(h:bu Tryz.prog cfg f [.h (ft k .f x p a b c e),.h (ft k .f x p a b c e)] [] (.a .i64 z) []):Ci Tryz.prog cfg f C [.h (ft k .f x p a b c e),.h (ft k .f x p a b c e)] o (.a .i64 z,o):=
 abY (szs:=[]) (q:=⟨[],[],true⟩) (by rfl) rfl h
section
variable{R:List Rn}{id:Nat}{K:fg}{rw:Bool}{g:Option Nat}(hg:get C o id=.a (bh R) rw g)
include hg
theorem ah4(h:bu Tryz.prog cfg f [.h (ft k (.c 14 0 R.length (xe K)) x p a b c e)] [.a (bh R) false none] (.a .i64 z) []):Ci Tryz.prog cfg f C [.h (ft k (.c id 0 R.length K) x p a b c e)] o (.a .i64 z,o):=
 abY (szs:=[4]) (q:=⟨[],[.a (bh R) false none],true⟩) (by grind [nC,agd,ac4,kC,ma,ob]) rfl h
theorem aiZ{id':Nat}{K':fg}{rw':Bool}{g':Option Nat}(hg':get C o id'=.a (bh R) rw' g')(h:bu Tryz.prog cfg f [.h (ft k (.c 14 0 R.length (xe K)) x p a b c e),.h (ft k (.c 15 0 R.length (xe K')) x p a b c e)] [.a (bh R) false none,.a (bh R) false none] (.a .i64 z) []):Ci Tryz.prog cfg f C [.h (ft k (.c id 0 R.length K) x p a b c e),.h (ft k (.c id' 0 R.length K') x p a b c e)] o (.a .i64 z,o):=
 abY (szs:=[4,4]) (q:=⟨[],[.a (bh R) false none,.a (bh R) false none],true⟩) (by simp only[nC,agd,ac4 hg kC ma,ac4 hg' kC ma,ob];rfl) rfl h
end
end
inductive ab0(P S:Nat->cD):Fk->Fk->Prop
 | b {j:Nat} {R:List Rn} {K K':fg} {b b':Bool} {g g':Option Nat}:j<6->P j=.a (bh R) b g->S j=.a (bh R) b' g'->Nx R->1<=R.length->R.length<=1000->jo R=0->abH R=0->ab0 P S ⟨1,some (j,R.length,K),gL,0,0,0,0,0⟩ ⟨1,some (j,R.length,K'),gL,0,0,0,0,0⟩
 | a {k:Int} {x:Da} {p a b c e:Int}:bu Tryz.prog cfg 9 [.h (ft k .f x p a b c e),.h (ft k .f x p a b c e)] [] (.a .i64 1) []->bu Tryz.prog cfg 10 [.h (ft k .f x p a b c e)] [] (.a .i64 0) []->bu Tryz.prog cfg 11 [.h (ft k .f x p a b c e)] [] (.a .i64 0) []->ab0 P S ⟨k,none,x,p,a,b,c,e⟩ ⟨k,none,x,p,a,b,c,e⟩
theorem ae2{P S:Nat->cD}{φ ψ:Fk}(h:ab0 P S φ ψ){C:bg}{o:aB}{u v:Nat}(hp:∀j,j<6->get C o (u+j)=P j)(hr:∀j,j<6->get C o (v+j)=S j):Ci Tryz.prog cfg 9 C [.h (φ.at u).cs,.h (ψ.at v).cs] o (.a .i64 1,o)/\Ci Tryz.prog cfg 10 C [.h (φ.at u).cs] o (.a .i64 0,o)/\Ci Tryz.prog cfg 11 C [.h (φ.at u).cs] o (.a .i64 0,o):=by
 cases h with
 | b hj h1 h2 h3 h4 h5 h6 h7=>
   have g1:=(hp _ hj).trans h1;have g2:=(hr _ hj).trans h2;exact⟨aiZ g1 g2 (apH h3 h4 h5),ah4 g1 (ana h3 h4 h5 h6),ah4 g1 (amY h3 h4 h5 h7)⟩
 | a h1 h2 h3=>exact⟨ajh h1,ahS h2,ahS h3⟩
end Go.Ev
end
