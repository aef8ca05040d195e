import Derived.LaidLaws
import Derived.Lib.LaidTab
import Derived.ChangeArms
import Derived.DataReads
import Derived.Test.YtcffhjfdlflbgaaGreatDoorCards
import Derived.Test.YtcffhjfdlflbgaaGreatDoorTie
import Derived.ProofKit
import Derived.OpenShut
import Derived.Deep.DeepHandedRow
import Derived.RowKitTokens
import Derived.WideKeyArgs
import Derived.Test.YtcffhjfdlflbgaaGreatDoorP38
set_option linter.all false
open Nat renaming ble->ν
open Bool renaming not_true->ξ,not_false->ο
set_option linter.all false
set_option maxRecDepth 100000
set_option maxHeartbeats 4000000
section
namespace Go.Ev
open Go Go.Proofs
variable{v0 v:AV}{β b' fuel:Nat}{f1:Field}
def Bn:dP:=λ
 | []=>some (.a0 true)
 | _=>none
def aaa(k:Int)(x:Da)(k1:Int)(y:Da)(k2:Int)(z:Da)(sl:AV)(ea la:Bool):List AV:=.a .u8 k::x.ng::x.lg::x.s::x.e::x.g::x.mo::x.da::.a .u8 x.a::.a .u8 x.b::.a .u8 x.c::.a .u8 k1::y.ng::y.lg::y.s::y.e::y.g::y.mo::y.da::.a .u8 y.a::.a .u8 y.b::.a .u8 y.c::.a .u8 k2::z.ng::z.lg::z.s::z.e::z.g::z.mo::z.da::.a .u8 z.a::.a .u8 z.b::.a .u8 z.c::sl::ea::la::[]
structure Fm where
 k:Int
 d:AV
 x:Da
 p:Int
 a:Int
 b:Int
 c:Int
 e:Int
def Fm.cs(f:Fm):List AV:=ft f.k f.d f.x f.p f.a f.b f.c f.e
def nK(F:Nat->Fm):Nat->List AV
 | 0=>[]
 | n+1=>nK F n++(F n).cs
abbrev qp:Type:=Nat->bg->List AV->aB->AV×aB->Bool
def vv(ok:qp)(f:Nat)(v:Nat->AV)(news:List cD):FG:=λC args o=>some (lu (ok f C args o (v (C.lo+o.n),⟨news.length+o.n,news++o.os,o.le⟩)) (.a0 (v (C.lo+o.n),⟨news.length+o.n,news++o.os,o.le⟩)))
def Lh(ok:qp)(f n:Nat)(K:fg)(c:List AV)(g:Option Nat)(p:Nat->cD):FG:=vv ok f (λb=>.c [.b (b+5) 0 n K,.a .i64 0]) [.a c true g,p 4,p 3,p 2,p 1,p 0]
noncomputable def qv(ok:qp)(E:List AV)(I:cD)(n:Nat)(K:fg)(F H:Nat->Fm)(gP gR:Option Nat)(p r:Nat->cD):aQ:=eQ (eQ (eQ (eQ (eQ (eQ (d5 gZ 12 Bn) 6 (vv ok 6 (λ_=>.g E) [I])) 7 (Lh ok 7 n (.b n) (nK F n) gP p)) 8 (Lh ok 8 n K (nK H n) gR r)) 9 (vv ok 9 (λ_=>.a .i64 1) [])) 10 (vv ok 10 (λ_=>.a .i64 0) [])) 11 (vv ok 11 (λ_=>.a .i64 0) [])
def xC(k e0 e1 b:Int)(sl:AV):List AV:=[.a .u8 k,sl,.a .u8 e0,.a .u8 e1,.a .u8 b]
section
variable(ok:qp)(C:bg)(I:cD)(X E:List AV)(n:Nat)(K:fg)(F H:Nat->Fm)(gP gR:Option Nat)(p r:Nat->cD)
def JN:aB:=⟨3,[.a E true none,I,.a X true none],[]⟩
def Af:aB:=⟨9,[.a (nK F n) true gP,p 4,p 3,p 2,p 1,p 0,.a E true none,I,.a X true none],[]⟩
def Ap:aB:=⟨15,[.a (nK H n) true gR,r 4,r 3,r 2,r 1,r 0,.a (nK F n) true gP,p 4,p 3,p 2,p 1,p 0,.a E true none,I,.a X true none],[]⟩
def Ag(o:aB):Nat->List Bool
 | 0=>[]
 | n+1=>Ag o n++[ok 9 C [.g (F n).cs,.g (H n).cs] o (.a .i64 1,o),ok 10 C [.g (F n).cs] o (.a .i64 0,o),ok 11 C [.g (F n).cs] o (.a .i64 0,o)]
def sC:List Bool:=ok 6 C [.g X] ⟨1,[.a X true none],[]⟩ (.g E,⟨2,[I,.a X true none],[]⟩)::ok 7 C [.g E] (JN I X E) (.c [.b 23 0 n (.b n),.a .i64 0],Af I X E n F gP p)::ok 8 C [.g E] (Af I X E n F gP p) (.c [.b 29 0 n K,.a .i64 0],Ap I X E n F H gP gR p r)::Ag ok C F H (Ap I X E n F H gP gR p r) n
end
section
variable(ok:qp)(w:List AV)(I:cD)(k e0 e1 b:Int)(l c m:Nat)(M:fg)(ek:Int)(x:Da)(k1:Int)(y:Da)(k2:Int)(z:Da)(ea la:Bool)(K:fg)(F H:Nat->Fm)(gP gR:Option Nat)(p r:Nat->cD){Q:AV->Prop}
noncomputable def wY:Nat->DT
 | 1=>bE 1111111005455664005664066666646666406666405
 | 2=>bE 111111111100545566400566400056666455664005664066666646666406666405
 | 3=>bE 11111111111110054556640056640005666645566400566400056666455664005664066666646666406666405
 | 4=>bE 1111111111111111005455664005664000566664556640056640005666645566400566400056666455664005664066666646666406666405
 | _=>bE 111111111111111111100545566400566400056666455664005664000566664556640056640005666645566400566400056666455664005664066666646666406666405
def apV:gG Q (pW (qv ok (aaa ek x k1 y k2 z (.d) ea la) I 1 K F H gP gR p r) jE [.a w false none] 3 [kE k e0 e1 b (.d)]) (wY 1)=fu (sC ok (Cw cfg [.a w false none]) I (xC k e0 e1 b .d) (aaa ek x k1 y k2 z (.d) ea la) 1 K F H gP gR p r) (Q true):=by kernel_rfl
def apL:gG Q (pW (qv ok (aaa ek x k1 y k2 z (.b 16 0 m M) ea la) I 1 K F H gP gR p r) jE [.a w false none] 3 [kE k e0 e1 b (.d)]) (wY 1)=fu (sC ok (Cw cfg [.a w false none]) I (xC k e0 e1 b .d) (aaa ek x k1 y k2 z (.b 16 0 m M) ea la) 1 K F H gP gR p r) (Q true):=by kernel_rfl
def aqt:gG Q (pW (qv ok (aaa ek x k1 y k2 z (.d) ea la) I 1 K F H gP gR p r) jE [.a w false none] 3 [kE k e0 e1 b (.b 14 0 l (.b c))]) (wY 1)=fu (sC ok (Cw cfg [.a w false none]) I (xC k e0 e1 b (.b 14 0 l (.b c))) (aaa ek x k1 y k2 z (.d) ea la) 1 K F H gP gR p r) (Q true):=by kernel_rfl
theorem aoq:∀n,1<=n->n<=5->gG Q (pW (qv ok (aaa ek x k1 y k2 z (.b 16 0 m M) ea la) I n K F H gP gR p r) jE [.a w false none] 3 [kE k e0 e1 b (.b 14 0 l (.b c))]) (wY n)=fu (sC ok (Cw cfg [.a w false none]) I (xC k e0 e1 b (.b 14 0 l (.b c))) (aaa ek x k1 y k2 z (.b 16 0 m M) ea la) n K F H gP gR p r) (Q true)
 | 1,_,_=>by kernel_rfl
 | 2,_,_=>by kernel_rfl
 | 3,_,_=>by kernel_rfl
 | 4,_,_=>by kernel_rfl
 | 5,_,_=>by kernel_rfl
end
theorem bu.a0{P:Program}{f:FuncId}{args:List AV}{ws:List cD}{news0 news:List cD}(h:bu P cfg f args ws v0 news0)(he:dL ws v news (v0,⟨news0.length,news0,[]⟩)):bu P cfg f args ws v news:=by
 intro D m w hi hok;refine(h D m w hi hok).a0 ?_;rintro V w' ⟨D',m',rfl,hv,hx⟩;have ht:TR D' m' ⟨.c0 v0 .a0 .a0,1,⟨news0.length,news0,[]⟩,[],none⟩ ⟨#[aj m' v0],[]⟩:=by
  have h1:∀t,t≠0->(Ts.c0 v0 .a0 .a0).b0 t=bt:=λt e=>by
   rcases Nat.mod_two_eq_zero_or_one t with h2|h2
   . rw[Ts.d0 _ t e h2];rfl
   . rw[Ts.f0 _ t e h2];rfl
  refine⟨rfl,λt=>?_,λt=>?_,rfl,λd hd=>(by grind),λi hi=>(by grind)⟩
  . by_cases e:t=0
    . subst e;rfl
    grind [sx]
  . by_cases e:t=0
    . subst e;exact hv
    grind [iy]
 obtain⟨s,D2,m2,⟨ho,hvs⟩,h1,_,_,h4,h5⟩:=he D' m' _ w' hx.b0 ht;have hat:=h1.d0 0;have hok0:=h1.c0 0;rw[hvs]at hat hok0;refine⟨D2,m2,by simp_all,hok0,?_⟩;have:=h5 D m ⟨0,[],[]⟩ w (Nat.le_refl _) hi.lt hx;grind
theorem dL.u{ws:List cD}(hw:∀x∈ws,cR 14 x){n0:Nat}{os0 news:List cD}{sel:List Nat}(hlen:os0.length=n0)(hn:n0<=6)(hs:∀s∈sel,s<6)(hd:sel.Nodup)(hl:sel.length=6)(hnews:news.length=6)(hv:kG (14+ws.length) (eM (14+ws.length) 0 sel) 20 v0=some v)(hnew:∀t,t<6->WD (14+ws.length) (eM (14+ws.length) 0 sel) ((⟨6,List.replicate (6-n0) .b++os0,[]⟩:aB).at (sel.getD t 0)) ((⟨6,news,[]⟩:aB).at t)):dL ws v news (v0,⟨n0,os0,[]⟩):=by
 unfold dL;refine(aed (C:=Cw cfg ws) (st:=⟨.c0 v0 .a0 .a0,1,⟨n0,os0,[]⟩,[],none⟩) (kb:=0) (o':=⟨6,List.replicate (6-n0) .b++os0,[]⟩) hn (by grind) rfl λi hi=>?_).c0 λs hs'=>?_
 . grind [aB.at]
 . rw[hs'];refine(oX dI.lv (C:=Cw cfg ws) (st:=⟨.c0 v0 .a0 .a0,1,⟨6,List.replicate (6-n0) .b++os0,[]⟩,[],none⟩) (kb:=0) (sel:=sel) (ts':=.c0 v .a0 .a0) (o':=⟨6,news,[]⟩) (B6 hw) (Nat.zero_le _) (λs h=>⟨Nat.zero_le _,hs s h⟩) hd (λp hp=>by grind) rfl (by grind) hnews (λi hi=>absurd hi (Nat.not_lt_zero i)) (λt ht=>?_) ?_ (λd hd=>by grind) (λi hi=>by grind)).b0 λs h=>?_
   . have:=hnew t (by omega);rw[Nat.zero_add];exact this
   . have hv':kG ((Cw cfg ws).lo+0) (eM (Cw cfg ws).lo 0 sel) 20 v0=some v:=hv;grind [xB,ob]
   . rw[h];exact⟨by grind,rfl⟩
structure Fk where
 k:Int
 s:Option (Nat×Nat×fg)
 x:Da
 p:Int
 a:Int
 b:Int
 c:Int
 e:Int
def Fk.d(f:Fk)(β:Nat):AV:=match f.s with
 | none=>.d
 | some (j,q,K)=>.b (β+j) 0 q K
def Fk.at(f:Fk)(β:Nat):Fm:=⟨f.k,f.d β,f.x,f.p,f.a,f.b,f.c,f.e⟩
theorem aem{b b':Nat}:∀{n j:Nat},j<n->xx (VV b b' n) (b+j)=some (b'+j)
 | 0,_,h=>absurd h (Nat.not_lt_zero _)
 | n+1,j,h=>by
   rw[VV,xx];by_cases e:j=n
   . simp_all
   . rw[ic (by omega),cond_false];exact aem (by omega)
theorem afV{j:Nat}(hβ:14<=β)(hj:j<6):To 14 (VV β b' 6) (β+j)=some (b'+j):=by
 grind [To,aU,aem]
def adb(Φ:Nat->Fk)(n:Nat):Prop:=∀i,i<n->∀j q K,(Φ i).s=some (j,q,K)->j<5
theorem amg{f:Fk}(hβ:14<=β)(h:∀j q K,f.s=some (j,q,K)->j<5):yw (kG 14 (VV β b' 6) 20) (f.at β).cs=some (f.at b').cs:=by
 show yw _ (ft f.k (f.d β) f.x f.p f.a f.b f.c f.e)=some (ft f.k (f.d b') f.x f.p f.a f.b f.c f.e);unfold Fk.d;cases hs:f.s<;>grind [acY,aa2,afV]
theorem ag7{Φ:Nat->Fk}{β b':Nat}(hβ:14<=β):∀{n:Nat},adb Φ n->yw (kG 14 (VV β b' 6) 20) (nK (λi=>(Φ i).at β) n)=some (nK (λi=>(Φ i).at b') n)
 | 0,_=>rfl
 | n+1,h=>rB (ag7 hβ λi hi=>h i (by omega)) (amg hβ (h n (by omega)))
def abf(f:Nat)(args:List AV)(ws:List cD)(n:Nat)(K:fg)(g:Option Nat)(Φ:Nat->Fk)(p:Nat->cD):Prop:=bu Tryz.prog cfg f args ws (.c [.b (14+ws.length+5) 0 n K,.a .i64 0]) [.a (nK (λi=>(Φ i).at (14+ws.length)) n) true g,p 4,p 3,p 2,p 1,p 0]
theorem ajD{f n:Nat}{szs:List Nat}{C:bg}{o:aB}{args args':List AV}{q:Aq}{K:fg}{g:Option Nat}{Φ:Nat->Fk}{p:Nat->cD}(hcan:nC (nX 14 C o 20) args ⟨szs,[],true⟩=some (args',q))(hq:q.ok)(h:abf f args' q.ws n K g Φ p)(hl:adb Φ n)(hp:∀j,j<5->cR 14 (p j)):Ci Tryz.prog cfg f C args o (.c [.b (C.lo+o.n+5) 0 n K,.a .i64 0],⟨6+o.n,[.a (nK (λi=>(Φ i).at (C.lo+o.n)) n) true g,p 4,p 3,p 2,p 1,p 0]++o.os,o.le⟩):=by
 refine abR (news':=[.a (nK (λi=>(Φ i).at (C.lo+o.n)) n) true g,p 4,p 3,p 2,p 1,p 0]) dI.lv Az hcan hq h ?_ rfl λj hj=>?_
 . show kG 14 (VV (14+q.ws.length) (C.lo+o.n) 6) 20 _=_;simp[kG,yw,afV,ob]
 . have hj:j<6:=hj;rcases(by omega:j=0\/j=1\/j=2\/j=3\/j=4\/j=5)with rfl|rfl|rfl|rfl|rfl|rfl
   . exact .inl ⟨rfl,hp 0 (by decide)⟩
   . exact .inl ⟨rfl,hp 1 (by decide)⟩
   . exact .inl ⟨rfl,hp 2 (by decide)⟩
   . exact .inl ⟨rfl,hp 3 (by decide)⟩
   . exact .inl ⟨rfl,hp 4 (by decide)⟩
   . exact .inr ⟨_,_,_,_,rfl,ag7 (Nat.le_add_right _ _) hl,rfl⟩
section
variable{H:Type}{enc:TypeId×Value->H}{P:Program}{w:World}{base:Nat}{sp:Nat->Bool}{held:Bool}
theorem sF{e t0 t1:TypeId}{f0:Field}{cs:List Value}{k:IntKind}{d:DataW H}{p:List MemPlace}(he:P.underlying e=some (.struct #[f0,f1]))(e0:f0.type=t0)(e1:f1.type=t1)(h0:P.underlying t0=some (.int k))(h1:P.underlying t1=some (.int k))
 (o0:f0.offset=0) (o1:f1.offset=1) (c0:P.cellsOf t0=1) (c1:P.cellsOf t1=1) (hc:P.cellsOf e=2) (h:DataW.trod enc P w base sp held fuel e cs=some (d,p)) :
 ∃a b,cs=[.int k a,.int k b]/\d=.agg [.lit (.int k a),.lit (.int k b)]:=by
 cases fuel with
 | zero=>simp[DataW.trod]at h
 | succ fuel=>
   unfold DataW.trod at h;simp only[he,hc]at h;split at h
   . rename_i hl
     match cs,hl with
     | [x,y],_=>
       simp only[List.mapM_cons,List.mapM_nil,o0,o1,e0,e1,c0,c1,List.drop_zero,List.drop_succ_cons,List.take_succ_cons,List.take_zero,Option.map_eq_some_iff,Option.bind_eq_bind,Option.bind_eq_some_iff,Option.pure_def,zAb]at h;obtain⟨xs,⟨r0,hr0,ys,⟨r1,hr1,zs,rfl,rfl⟩,rfl⟩,hx⟩:=h;obtain⟨n0,q0,rfl,_⟩:=DataW.trod_int h0 hr0;obtain⟨n1,q1,rfl,_⟩:=DataW.trod_int h1 hr1;simp only[List.cons.injEq,and_true]at q0 q1;subst q0 q1;refine⟨n0,n1,rfl,?_⟩;have:=congrArg Prod.fst hx;simpa using this.symm
   . cases h
theorem D8{n:Nat}{t e t0 t1:TypeId}{f0:Field}{cs:List Value}{k:IntKind}{ds:List (DataW H)}{p:List MemPlace}(ht:P.underlying t=some (.array n e))(he:P.underlying e=some (.struct #[f0,f1]))(e0:f0.type=t0)(e1:f1.type=t1)(h0:P.underlying t0=some (.int k))(h1:P.underlying t1=some (.int k))
 (o0:f0.offset=0) (o1:f1.offset=1) (c0:P.cellsOf t0=1) (c1:P.cellsOf t1=1) (hc:P.cellsOf e=2) (h:DataW.trod enc P w base sp held fuel t cs=some (.agg ds,p)) :
 ∀i d,ds[i]? = some d->∃a b,d=.agg [.lit (.int k a),.lit (.int k b)]/\cs[2*i]? = some (.int k a)/\cs[2*i+1]? = some (.int k b):=by
 cases fuel with
 | zero=>simp[DataW.trod]at h
 | succ fuel=>
   unfold DataW.trod at h;simp only[ht,hc]at h;split at h
   . rename_i hl;obtain⟨xs,hm,hx⟩:=Option.map_eq_some_iff.1 h;have hxs:xs.map (·.1)=ds:=by
      have:=congrArg Prod.fst hx;simpa using this
     intro i d hd;have hxl:xs.length=n:=by simpa using Lib.mapM_length hm
     have hi:i<n:=by
      have:=(List.getElem?_eq_some_iff.1 hd).1;rw[<-hxs]at this;simp at this;omega
     obtain⟨b,hb,hf⟩:=Lib.mapM_at hm i i (by simp[hi]);obtain⟨x,y,hc1,hc2⟩:=sF (d:=b.1) (p:=b.2) he e0 e1 h0 h1 o0 o1 c0 c1 hc (by rw[hf]);refine⟨x,y,?_,?_,?_⟩
     . rw[<-hxs]at hd;simp only[List.getElem?_map,hb,Option.map_some,zAb]at hd;rw[<-hd,hc2]
     . have:=congrArg (·[0]?) hc1;simp only[List.getElem?_take,List.getElem?_drop,List.getElem?_cons_zero]at this;rw[show 2*i=i*2+0 by omega];simpa using this
     . have:=congrArg (·[1]?) hc1;simp only[List.getElem?_take,List.getElem?_drop]at this;rw[show 2*i+1=i*2+1 by omega];simpa using this
   . cases h
theorem zK{t e t0 t1:TypeId}{f0:Field}{cs:List Value}{k:IntKind}{ds:List (DataW H)}{p:List MemPlace}(ht:P.underlying t=some (.slice e))(he:P.underlying e=some (.struct #[f0,f1]))(e0:f0.type=t0)(e1:f1.type=t1)(h0:P.underlying t0=some (.int k))(h1:P.underlying t1=some (.int k))
 (o0:f0.offset=0) (o1:f1.offset=1) (c0:P.cellsOf t0=1) (c1:P.cellsOf t1=1) (hc:P.cellsOf e=2) (hne:0<ds.length) (h:DataW.trod enc P w base (λ_=>true) held fuel t cs=some (.slice ds [],p)) :
 ∃b o,cs=[.slice (some ⟨b,o,none⟩) ds.length ds.length]/\∀i d,ds[i]? = some d->∃x y,d=.agg [.lit (.int k x),.lit (.int k y)]/\w.cell? ⟨b,o+2*i,none⟩=some (.int k x)/\w.cell? ⟨b,o+(2*i+1),none⟩=some (.int k y):=by
 rcases DataW.trod_slice ht h with⟨_,hx⟩|⟨a,len,cap,elems,rest,n,rfl,rfl,hx,hb,hle,hmax,hel,hat,hrest,_⟩
 . cases hx
 . simp only[Prod.mk.injEq,DataW.slice.injEq]at hx;obtain⟨⟨hds,hrs⟩,_⟩:=hx;have hr0:rest.length=0:=by
    have:=congrArg List.length hrs;simpa using this.symm
   have hcap:cap=len:=by
    have:=(hrest rfl).1;omega
   have hlen:ds.length=len:=by rw[hds];simpa using hel
   subst hcap;have main:∀i d,ds[i]? = some d->∃x y,d=.agg [.lit (.int k x),.lit (.int k y)]/\w.cell? (a.add (i*2))=some (.int k x)/\w.cell? ((a.add (i*2)).add 1)=some (.int k y):=by
    intro i d hd;have hi:i<cap:=by
     have:=(List.getElem?_eq_some_iff.1 hd).1;omega
    have h3:=hat i hi;rw[hds,List.getElem?_map]at hd;obtain⟨b,hb',rfl⟩:=Option.map_eq_some_iff.1 hd;rw[hb',hc]at h3;obtain⟨cs',hcs,htr⟩:=Option.bind_eq_some_iff.1 h3;obtain⟨x,y,rfl,hd2⟩:=sF (d:=b.1) (p:=b.2) he e0 e1 h0 h1 o0 o1 c0 c1 hc htr;obtain⟨_,_,hcell⟩:=World.cells?_some hcs;refine⟨x,y,hd2,?_,?_⟩
    . have:=hcell 0 (by omega);simpa [Addr.add]using this
    . exact hcell 1 (by omega)
   obtain⟨b,o,sp⟩:=a;have hsp:sp=none:=by
    obtain⟨x,y,_,hx0,_⟩:=main 0 (ds[0]'hne) (by simp[hne]);simp only[Nat.zero_mul,Addr.add,if_true]at hx0;unfold World.cell? at hx0;cases sp with
    | none=>rfl
    | some v=>split at hx0<;>simp at hx0
   subst hsp;refine⟨b,o,by rw[hlen],λi d hd=>?_⟩;obtain⟨x,y,h4,h5,h6⟩:=main i d hd;refine⟨x,y,h4,?_,?_⟩
   . by_cases e:i=0
     . subst e;simpa [Addr.add]using h5
     . rw[show o+2*i=o+i*2 by omega];have e2:¬i*2=0:=by omega
       rw[Addr.add,if_neg e2]at h5;exact h5
   . by_cases e:i=0
     . subst e;simpa [Addr.add]using h6
     . rw[show o+(2*i+1)=o+i*2+1 by omega];have e2:¬i*2=0:=by omega
       rw[Addr.add,if_neg (by omega),Addr.add,if_neg e2]at h6;exact h6
end
end Go.Ev
end
section
namespace Go.Ev
open Go Go.Proofs Go.ChangeShapes Go.WideShapes Go.ChangeAt Go.RowKit
theorem post_of_below{H:Type}{enc:TypeId×Value->H}{P:Program}{f:Func}{s:ChangeSpec}{apart fresh handsOn again:Bool}{W W':World}{args:Array Value}{v:Value}{ds gs:List (DataW H)}{before pa pv:List MemPlace}
 (hW:DataW.Whole enc P f.params.toList s.vars apart W args.toList ds gs before)
 (hres:∀(b:Nat) (sp:Nat->Bool) (hd:Bool),DataW.TrodAll enc P W' b sp hd f.resultTypes.toList (v.resultList f.resultTypes.size) (s.fn H (ds++gs)).results [])
 (hargs:∀sp:Nat->Bool,(∀p∈before,sp p.block=true)->DataW.TrodAll enc P W' 0 sp true f.params.toList args.toList (s.fn H (ds++gs)).args pa)
 (hvars:∀sp:Nat->Bool,(∀p∈before,sp p.block=true)->DataW.TrodVars enc P W' sp s.vars (s.fn H (ds++gs)).vars pv)
 (hps:before=pa++pv) (hb:Below W.heap.size W W')
 (hok:∀(j:Nat) (t:TypeId) (r:Value),f.resultTypes[j]? = some t->(v.resultList f.resultTypes.size)[j]? = some r->Value.okWide P W' .any 0 t r) :
 s.post enc P f apart fresh handsOn again W args v W':=by
 have hold:∀p∈before,(λb=>decide (b<W.heap.size)) p.block=true:=λp hp=>by simpa using hW.lt p hp
 have hlt:∀p∈before,p.block<W.heap.size:=λp hp=>hW.lt p hp;refine⟨ds,gs,before,[],pa,pv,hW,hres _ _ _,hargs _ hold,hvars _ hold,World.keptBut_mono (λp hp=>⟨hp,?_⟩) (hb.frame (·∈before)),λ_=>?_⟩
 . rw[hps,List.mem_append]at hp;exact Or.inr hp
 . obtain⟨_,_,_,_,_,hz,hn⟩:=hW;refine⟨hok,_,_,([]++pa)++pv,⟨[]++pa,pv,trodAll_append (hargs _ (λ_ _=>rfl)) (hres _ _ true),hvars _ (λ_ _=>rfl),rfl,?_,?_⟩,?_⟩
   . intro b off hp;have hp':MemPlace.cell b off∈before:=by rw[hps];simpa using hp
     have e:W'.frozen? ⟨b,off,none⟩=W.frozen? ⟨b,off,none⟩:=by
      unfold World.frozen?;rw[hb.block b (hlt _ hp')]
     rw[e];exact hz b off hp'
   . intro ha;have:=hn ha;rw[hps]at this;simpa using this
   . intro p hp _;rw[hps];simpa using hp
def laidOut:laidOutB Tryz.prog=true:=by kernel_rfl
theorem below_place{W W':World}{x:MemPlace}(hb:Below W.heap.size W W')(hlt:x.block<W.heap.size):W.sameAt W' x:=by
 cases x with
 | cell b off=>show W'.cell? _=W.cell? _;unfold World.cell?;rw[hb.block b hlt]
 | map b=>exact hb.block b hlt
section
variable{P:Program}{w:World}{r:Reach}{b0:Nat}
def akj(P:Program)(w:World)(r:Reach)(b0:Nat):List TypeId->List Value->Prop
 | [],[]=>True
 | t::ts,v::vs=>Cell.okWide P w r b0 t v/\akj P w r b0 ts vs
 | _,_=>False
theorem Gc:∀{ts:List TypeId} {l:List Value},l.length=ts.length->(∀(i:Nat) (c:Value),l[i]? = some c->∃u,ts[i]? = some u/\Cell.okWide P w r b0 u c)->akj P w r b0 ts l
 | [],[],_,_=>trivial
 | t::ts,v::vs,h,hall=>by
   refine⟨?_,Gc (by simpa using h) λi c hc=>hall (i+1) c hc⟩;obtain⟨u,hu,hc⟩:=hall 0 v rfl;cases hu;exact hc
theorem IH{t:TypeId}{v:Value}{fs}(ht:P.underlying t=some (.struct fs)){ts:List TypeId}(hc:P.cellTypes P.depth t=some ts)(hn:P.cellsOf t=ts.length)(h:Value.okWide P w r b0 t v):∃l:List Value,v=.agg ⟨l⟩/\akj P w r b0 ts l:=by
 unfold Value.okWide at h;rw[ht]at h;obtain⟨⟨l⟩,rfl,hsz,ts',hts,_,hall⟩:=h;rw[hc]at hts;cases hts;have hl:l.length=ts.length:=hsz.trans hn;refine⟨l,rfl,Gc hl λi c hi=>?_⟩;have hlt:=(List.getElem?_eq_some_iff.1 hi).1;have:=hall i c (by simpa using hi)
 rwa [Nat.mod_eq_of_lt (by omega)]at this
end
end Go.Ev
end
section
namespace Go.Ev
open Go Go.Proofs
variable{X:Prop}{q:Aq}{f:Nat}{z:Int}
def wk(w:List AV)(n:Nat):List AV:=b_ w 0 (n*4)
def rU(w:List AV)(n:Nat):Bool:=and (ν (0+n*4) w.length) (bc 14 (wk w n))
def Bi(w:List AV)(n:Nat)(F:List Rn->Int)(Q:AV->Prop):Prop:=(aa (Int.ofNat n) 0->Q (.a .i64 17))/\(aa (Int.ofNat n) 0=false->fu [and true (rU w n),eJ (wk w n),Nat.beq (g8 (wk w n)).length n,ν n 1000] (Q (.a .i64 (F (g8 (wk w n))))))
def aiy(ng lg:Bool)(s:List UInt8)(e:Int)(mo da:List UInt8):AV:=.g (ft 2 .d ⟨ng,lg,s,e,0,mo,da,0,0,0⟩ 0 0 0 0 0)
def agt(p a b c d:Int):AV:=.g (ft 3 .d gL p a b c d)
def ni(b:Bool)(X Y:Prop):Prop:=(b->X)/\(b=false->Y)
theorem agJ{b:Bool}{Y:Prop}(hb:b=false)(h:Y):ni b X Y:=⟨λk=>(by grind),λ_=>h⟩
section
variable{R:List Rn}{K K':fg}(hR:Nx R)(h1:1<=R.length)(hn:R.length<=1000)
include hR h1 hn
theorem ajM:aa (Int.ofNat R.length) 0=false/\rU (bh R) R.length/\eJ (wk (bh R) R.length)/\Nat.beq (g8 (wk (bh R) R.length)).length R.length/\ν R.length 1000/\g8 (wk (bh R) R.length)=R:=by
 have e:wk (bh R) R.length=bh R:=l_;unfold rU;rw[e,iJ,kC,ma,aw,al];refine⟨by grind,?_,pD hR,aJ.mpr rfl,hn,rfl⟩;simp
theorem ahw{F:List Rn->Int}{Q:AV->Prop}(h:Q (.a .i64 (F R))):Bi (bh R) R.length F Q:=by
 obtain⟨a1,a2,a3,a4,a5,a6⟩:=ajM hR h1 hn;have y:Tk [and true (rU (bh R) R.length),eJ (wk (bh R) R.length),Nat.beq (g8 (wk (bh R) R.length)).length R.length,ν R.length 1000]:=⟨by grind,a3,a4,a5,trivial⟩;exact⟨λk=>(by grind),λ_=>j6 (by grind) y⟩
theorem ana(hc:jo R=0):bu Tryz.prog cfg 10 [.g (ft 1 (.b 14 0 R.length K) gL 0 0 0 0 0)] [.a (bh R) false none] (.a .i64 0) []:=by
 refine ns jG jz ai (bE 111114444014666666) (R:=λQ=>Bi (bh R) R.length jo Q) (λ_=>by kernel_rfl) λQ hQ=>ahw hR h1 hn (by grind)
theorem amY(hc:abH R=0):bu Tryz.prog cfg 11 [.g (ft 1 (.b 14 0 R.length K) gL 0 0 0 0 0)] [.a (bh R) false none] (.a .i64 0) []:=by
 refine ns abK jz ai (bE 11111444401456666666) (R:=λQ=>Bi (bh R) R.length abH Q) (λ_=>by kernel_rfl) λQ hQ=>ahw hR h1 hn (by grind)
theorem apH:bu Tryz.prog cfg 9 [.g (ft 1 (.b 14 0 R.length K) gL 0 0 0 0 0),.g (ft 1 (.b 15 0 R.length K') gL 0 0 0 0 0)] [.a (bh R) false none,.a (bh R) false none] (.a .i64 1) []:=by
 refine ns adf acl ai (bE 1111124242445566666) (R:=λQ=>fu [and (and true (rU (bh R) R.length)) (rU (bh R) R.length),eJ (wk (bh R) R.length)] (eJ (wk (bh R) R.length)/\fu [Nat.beq (g8 (wk (bh R) R.length)).length R.length] (Nat.beq (g8 (wk (bh R) R.length)).length R.length/\fu [ν R.length 1000] (ν R.length 1000/\Q (.a .i64 (bI (mh (g8 (wk (bh R) R.length)) (g8 (wk (bh R) R.length))))))))) (λ_=>by kernel_rfl) λQ hQ=>?_;obtain⟨a1,a2,a3,a4,a5,a6⟩:=ajM hR h1 hn;have y:Tk [and (and true (rU (bh R) R.length)) (rU (bh R) R.length),eJ (wk (bh R) R.length)]:=⟨by grind,a3,trivial⟩;have y2:Tk [Nat.beq (g8 (wk (bh R) R.length)).length R.length]:=⟨a4,trivial⟩;have y3:Tk [ν R.length 1000]:=⟨a5,trivial⟩;refine j6 ⟨a3,j6 ⟨a4,j6 ⟨a5,?_⟩ y3⟩ y2⟩ y;rw[a6,aeo];exact hQ
end
section
variable{ng lg:Bool}{s:List UInt8}{e:Int}{mo da:List UInt8}
section
variable(h1:ν s.length 1000)(h2:ν mo.length 1000)(h3:ν da.length 1000)(h4:af .i64 e)(h5:bW ng lg s e 0 mo da 0 0 0=0)(h6:eA (s++mo++da))
include h1 h2 h3 h4 h5 h6
theorem anC:bu Tryz.prog cfg 10 [aiy ng lg s e mo da] [] (.a .i64 0) []:=by
 refine ns jG (λ_ h=>by grind) ai (bE 107000707005635270006666666) (R:=λQ=>nE [ν s.length 1000,ν mo.length 1000,ν da.length 1000,af .i64 e] (not (aa (bW ng lg s e 0 mo da 0 0 0) 0)=false/\nE [ν s.length 1000,ν mo.length 1000,ν da.length 1000,eA (s++mo++da),eA (s++mo++da),eA (s++mo++da),eA (s++mo++da),eA (s++mo++da),eA (s++mo++da)] (Q (.a .i64 0)))) (λ_=>by kernel_rfl) λQ hQ=>?_;simp_all [nE,aa]
theorem ano:bu Tryz.prog cfg 11 [aiy ng lg s e mo da] [] (.a .i64 0) []:=by
 refine ns abK (λ_ h=>by grind) ai (bE 103220007007005632200056666666) (R:=λQ=>nE [ν s.length 1000,af .i64 e] (not (ab (bW ng lg s e 0 mo da 0 0 0) 0)=false/\nE [ν s.length 1000,ν mo.length 1000,ν da.length 1000,not (aa (cond (eA (s++mo++da)) 1 0) 0),not (aa (cond (eA (s++mo++da)) 1 0) 0),not (aa (cond (eA (s++mo++da)) 1 0) 0),not (aa (cond (eA (s++mo++da)) 1 0) 0),not (aa (cond (eA (s++mo++da)) 1 0) 0)] (aa (cond (eA (s++mo++da)) 1 0) 0=false/\Q (.a .i64 0)))) (λ_=>by kernel_rfl) λQ hQ=>?_;simp only[nE,h1,h2,h3,h4,h5,h6,show ab 0 0=true from rfl,show aa 1 0=false from rfl,cond_true,ξ,ο,true_and,and_true,reduceCtorEq,false_imp_iff,true_imp_iff];omega
end
theorem aql:bu Tryz.prog cfg 9 [aiy ng lg s e mo da,aiy ng lg s e mo da] [] (.a .i64 1) []:=by
 refine ns adf (λ_ h=>by grind) ai (bE 10005238166320220240666) (R:=λQ=>(λ(u0:Bool)=>(not u0->nE [not u0,not u0,not u0,not u0] (u0=false/\Q (.a .i64 1)))/\(not u0=false->not u0=false/\not u0=false/\not u0=false/\not u0=false/\u0/\Q (.a .i64 0))) (not (and (and (bQ ng ng) (and (bQ lg lg) (and (ae s s) (and (aa e e) true)))) (and (ae mo mo) (and (ae da da) true))))) (λ_=>by rfl) λQ hQ=>?_;have b:∀b,bQ b b=true:=λb=>by cases b<;>rfl
 have l:∀l,ae l l=true:=λl=>by rw[bV];simp
 simp only[b,l,show aa e e=true from ao.mpr rfl,nE,Bool.and_true,ξ,ο,true_and,and_true,reduceCtorEq,false_imp_iff,true_imp_iff];omega
end
section
variable{p a b c d:Int}
theorem ako:bu Tryz.prog cfg 9 [agt p a b c d,agt p a b c d] [] (.a .i64 1) []:=by
 refine ns adf (λ_ h=>by grind) ai (bE 100014325225226666) (R:=λQ=>(λ(u0 u1:Bool)=>nE [not u0,not u0,not u0,not u0,not u0] (u0=false/\(u1->Q (.a .i64 0))/\(u1=false->Q (.a .i64 1)))) (not (aa p p)) (not (and (and (aa a a) (and (aa b b) true)) (and (and (aa c c) (and (aa d d) true)) true)))) (λ_=>by kernel_rfl) λQ hQ=>?_;have i:∀x:Int,aa x x=true:=λx=>ao.mpr rfl;simp_all [nE]
theorem apK:bu Tryz.prog cfg 9 [.g (ft 4 .d gL 0 (-1) 0 0 d),.g (ft 4 .d gL 0 (-1) 0 0 d)] [] (.a .i64 1) []:=by
 refine ns adf (λ_ h=>by grind) ai (bE 1000140566666) (R:=λQ=>ni (not (and true (and (and true (and (aa d d) true)) true))) (Q (.a .i64 0)) (Q (.a .i64 1))) (λ_=>by kernel_rfl) λQ hQ=>agJ ?_ hQ;rw[show aa d d=true from ao.mpr rfl];rfl
theorem aom:bu Tryz.prog cfg 9 [.g (ft 5 .d gL 0 0 b 1 0),.g (ft 5 .d gL 0 0 b 1 0)] [] (.a .i64 1) []:=by
 refine ns adf (λ_ h=>by grind) ai (bE 1000140566666) (R:=λQ=>ni (not (and (and true (and (aa b b) true)) true)) (Q (.a .i64 0)) (Q (.a .i64 1))) (λ_=>by kernel_rfl) λQ hQ=>agJ ?_ hQ;rw[show aa b b=true from ao.mpr rfl];rfl
theorem amL:bu Tryz.prog cfg 10 [.g (ft 4 .d gL 0 (-1) 0 0 d)] [] (.a .i64 0) []:=by
 refine ns jG (λ_ h=>by grind) ai (bE 1066666666) (R:=λQ=>Q (.a .i64 0)) (λ_=>by kernel_rfl) λQ hQ=>hQ
theorem amG:bu Tryz.prog cfg 10 [.g (ft 5 .d gL 0 0 b 1 0)] [] (.a .i64 0) []:=by
 refine ns jG (λ_ h=>by grind) ai (bE 10066666666) (R:=λQ=>Q (.a .i64 0)) (λ_=>by kernel_rfl) λQ hQ=>hQ
theorem amV:bu Tryz.prog cfg 11 [.g (ft 4 .d gL 0 (-1) 0 0 d)] [] (.a .i64 0) []:=by
 refine ns abK (λ_ h=>by grind) ai (bE 1006666666666666) (R:=λQ=>Q (.a .i64 0)) (λ_=>by kernel_rfl) λQ hQ=>hQ
theorem anh:bu Tryz.prog cfg 11 [.g (ft 5 .d gL 0 0 b 1 0)] [] (.a .i64 0) []:=by
 refine ns abK (λ_ h=>by grind) ai (bE 1006666666666666) (R:=λQ=>Q (.a .i64 0)) (λ_=>by kernel_rfl) λQ hQ=>hQ
theorem aie(hp:1<=p/\p<=3)(ha:af .i8 a)(hb:af .i64 b)(hc:af .i8 c)(hd:af .i64 d)(hf:dN a b c d p):bu Tryz.prog cfg 10 [agt p a b c d] [] (.a .i64 0) []:=by
 refine ns jG (λ_ h=>by grind) ai (bE 1147700533202200666666) (R:=λQ=>(λ(u0:Bool)=>nE [not u0,not u0,not u0] (u0=false/\not (ab p 3)=false/\nE [af .i8 a,af .i64 b,af .i8 c,af .i64 d,ab 1 p,ab p 3] (ni (not (dN a b c d p)) (Q (.a .i64 1)) (Q (.a .i64 0))))) (not (ab 1 p))) (λ_=>by kernel_rfl) λQ hQ=>?_;simp only[nE,aq.mpr hp.1,aq.mpr hp.2,ha,hb,hc,hd,hf,ni,ξ,ο,true_and,and_true,reduceCtorEq,false_imp_iff,true_imp_iff];omega
theorem ajX{b:Bool}(h:X):ni b X X:=⟨λ_=>h,λ_=>h⟩
def yj(b p:Int):Bool:=not (and true (and (aa (CK b p) b) true))
def wR(d p:Int):Bool:=not (and true (and (aa (PU d p) d) true))
def uP(p:Int)(X:Prop):Prop:=nE [not (not (ab 1 p)),not (not (ab 1 p)),not (not (ab 1 p))] (not (ab 1 p)=false/\not (ab p 3)=false/\X)
theorem ah2{p:Int}(hp:1<=p/\p<=3)(h:X):uP p X:=by
 simp only[uP,nE,aq.mpr hp.1,aq.mpr hp.2,ξ,ο,true_and];omega
section
variable(hp:1<=p/\p<=3)
include hp
theorem ak_:af .i64 p/\and (ab 1 p) (ab p 3)=true:=⟨by grind [aE,eH,eE],by rw[aq.mpr hp.1,aq.mpr hp.2];rfl⟩
theorem alJ(hb:af .i64 b/\lT b p/\CK b p=b)(hd:af .i64 d/\lT d p/\PU d p=d)(hr:bA 0 b 0 d=0):bu Tryz.prog cfg 11 [agt p 0 b 0 d] [] (.a .i64 0) []:=by
 refine ns abK (λ_ h=>by grind) ai (bE 11400056702001400056702063063030202200056666666) (R:=λQ=>uP p (not (ab (bA 0 b 0 d) 0)=false/\nE [af .i64 p,af .i64 b,and (ab 1 p) (ab p 3),lT b p] (ni (yj b p) (Q (.a .i64 1)) (nE [af .i64 p,af .i64 d,and (ab 1 p) (ab p 3),lT d p] (ni (wR d p) (Q (.a .i64 1)) (Q (.a .i64 0))))))) (λ_=>by kernel_rfl) λQ hQ=>ah2 hp ?_;obtain⟨f1,f2⟩:=ak_ hp;simp only[nE,f1,f2,hb,hd,hr,ni,yj,wR,show ∀x:Int,aa x x=true from λx=>ao.mpr rfl,show ab 0 0=true from rfl,Bool.and_true,Bool.and_self,ξ,ο,true_and,and_true,reduceCtorEq,false_imp_iff,true_imp_iff];omega
theorem ali(hd:af .i64 d/\lT d p/\PU d p=d):bu Tryz.prog cfg 11 [agt p (-1) 0 0 d] [] (.a .i64 0) []:=by
 refine ns abK (λ_ h=>by grind) ai (bE 1140005670205611400056702056420025663030202200056666666) (R:=λQ=>uP p (nE [af .i64 p,and (ab 1 p) (ab p 3)] (ni (lT 0 p) (nE [af .i64 p,af .i64 d,and (ab 1 p) (ab p 3),lT d p] (ni (wR d p) (Q (.a .i64 1)) (Q (.a .i64 0)))) (nE [af .i64 p,af .i64 d,and (ab 1 p) (ab p 3),lT d p] (ni (wR d p) (Q (.a .i64 1)) (Q (.a .i64 0))))))) (λ_=>by kernel_rfl) λQ hQ=>ah2 hp ?_;obtain⟨f1,f2⟩:=ak_ hp;refine⟨f1,f2,ajX ?_⟩;simp only[nE,f1,f2,hd,ni,wR,show ∀x:Int,aa x x=true from λx=>ao.mpr rfl,Bool.and_true,Bool.and_self,ξ,true_and,and_true,reduceCtorEq,false_imp_iff,true_imp_iff];omega
theorem akq(hb:af .i64 b/\lT b p/\CK b p=b):bu Tryz.prog cfg 11 [agt p 0 b 1 0] [] (.a .i64 0) []:=by
 refine ns abK (λ_ h=>by grind) ai (bE 100061000642002001400056702000663030202200056666666) (R:=λQ=>uP p (nE [af .i64 p,af .i64 b,and (ab 1 p) (ab p 3),lT b p] (ni (yj b p) (Q (.a .i64 1)) (nE [af .i64 p,and (ab 1 p) (ab p 3)] (ni (lT 0 p) (Q (.a .i64 0)) (Q (.a .i64 0))))))) (λ_=>by kernel_rfl) λQ hQ=>ah2 hp ?_;obtain⟨f1,f2⟩:=ak_ hp;refine⟨f1,hb.1,f2,hb.2.1,agJ ?_ ⟨f1,f2,ajX hQ⟩⟩;unfold yj;rw[hb.2.2,show aa b b=true from ao.mpr rfl];rfl
end
end
section
variable{C:bg}{o:aB}{k p a b c e:Int}{x:Da}
theorem agd{d:Nat}{v:AV}:nX 14 C o (d+2) (.g (ft k v x p a b c e)) q=ob (nX 14 C o (d+1) v q) λr=>some (.g (ft k r.1 x p a b c e),r.2):=by
 show ob (nC (nX 14 C o (d+1)) (ft k v x p a b c e) q) (λp=>some (AV.g p.1,p.2))=_;have hi:∀k n q,nX 14 C o (d+1) (.a k n) q=some (.a k n,q):=λ_ _ _=>rfl;have hb:∀b q,nX 14 C o (d+1) (.e b) q=some (.e b,q):=λ_ _=>rfl;have hs:∀s q,nX 14 C o (d+1) (.f s) q=some (.f s,q):=λ_ _=>rfl;cases h:nX 14 C o (d+1) v q<;>simp only[ft,nC,hi,hb,hs,h,ob]
theorem ac4{d id q:Nat}{K:fg}{w:List AV}{rw:Bool}{g:Option Nat}{sz:List Nat}{ws:List cD}{t:Bool}{z:Nat}(hg:fB C o id=.a w rw g)(hl:w.length=q*z)(hb:bc 14 w):nX 14 C o (d+1) (.b id 0 q K) ⟨z::sz,ws,t⟩=some (.b (14+ws.length) 0 q (xe K),⟨sz,ws++[.a w false none],t⟩):=by
 grind [nX,cellsOf,ob,b_,eK]
theorem abY{args args':List AV}{szs:List Nat}(hcan:nC (nX 14 C o 20) args ⟨szs,[],true⟩=some (args',q))(hq:q.ok)(h:bu Tryz.prog cfg f args' q.ws (.a .i64 z) []):Ci Tryz.prog cfg f C args o (.a .i64 z,o):=by
 have:=abR (news':=[]) dI.lv Az hcan hq h rfl rfl λj hj=>absurd hj (Nat.not_lt_zero j);simp_all
theorem ahS(h:bu Tryz.prog cfg f [.g (ft k .d x p a b c e)] [] (.a .i64 z) []):Ci Tryz.prog cfg f C [.g (ft k .d x p a b c e)] o (.a .i64 z,o):=
 abY (szs:=[]) (q:=⟨[],[],true⟩) (by rfl) rfl h
theorem ajh(h:bu Tryz.prog cfg f [.g (ft k .d x p a b c e),.g (ft k .d x p a b c e)] [] (.a .i64 z) []):Ci Tryz.prog cfg f C [.g (ft k .d x p a b c e),.g (ft k .d x p a b c e)] o (.a .i64 z,o):=
 abY (szs:=[]) (q:=⟨[],[],true⟩) (by rfl) rfl h
section
variable{R:List Rn}{id:Nat}{K:fg}{rw:Bool}{g:Option Nat}(hg:fB C o id=.a (bh R) rw g)
include hg
theorem ah4(h:bu Tryz.prog cfg f [.g (ft k (.b 14 0 R.length (xe K)) x p a b c e)] [.a (bh R) false none] (.a .i64 z) []):Ci Tryz.prog cfg f C [.g (ft k (.b id 0 R.length K) x p a b c e)] o (.a .i64 z,o):=
 abY (szs:=[4]) (q:=⟨[],[.a (bh R) false none],true⟩) (by grind [nC,agd,ac4,kC,ma,ob]) rfl h
theorem aiZ{id':Nat}{K':fg}{rw':Bool}{g':Option Nat}(hg':fB C o id'=.a (bh R) rw' g')(h:bu Tryz.prog cfg f [.g (ft k (.b 14 0 R.length (xe K)) x p a b c e),.g (ft k (.b 15 0 R.length (xe K')) x p a b c e)] [.a (bh R) false none,.a (bh R) false none] (.a .i64 z) []):Ci Tryz.prog cfg f C [.g (ft k (.b id 0 R.length K) x p a b c e),.g (ft k (.b id' 0 R.length K') x p a b c e)] o (.a .i64 z,o):=
 abY (szs:=[4,4]) (q:=⟨[],[.a (bh R) false none,.a (bh R) false none],true⟩) (by simp only[nC,agd,ac4 hg kC ma,ac4 hg' kC ma,ob];rfl) rfl h
end
end
inductive ab0(P S:Nat->cD):Fk->Fk->Prop
 | b {j:Nat} {R:List Rn} {K K':fg} {b b':Bool} {g g':Option Nat}:j<5->P j=.a (bh R) b g->S j=.a (bh R) b' g'->Nx R->1<=R.length->R.length<=1000->jo R=0->abH R=0->ab0 P S ⟨1,some (j,R.length,K),gL,0,0,0,0,0⟩ ⟨1,some (j,R.length,K'),gL,0,0,0,0,0⟩
 | a {k:Int} {x:Da} {p a b c e:Int}:bu Tryz.prog cfg 9 [.g (ft k .d x p a b c e),.g (ft k .d x p a b c e)] [] (.a .i64 1) []->bu Tryz.prog cfg 10 [.g (ft k .d x p a b c e)] [] (.a .i64 0) []->bu Tryz.prog cfg 11 [.g (ft k .d x p a b c e)] [] (.a .i64 0) []->ab0 P S ⟨k,none,x,p,a,b,c,e⟩ ⟨k,none,x,p,a,b,c,e⟩
theorem ae2{P S:Nat->cD}{φ ψ:Fk}(h:ab0 P S φ ψ){C:bg}{o:aB}{u v:Nat}(hp:∀j,j<5->fB C o (u+j)=P j)(hr:∀j,j<5->fB C o (v+j)=S j):Ci Tryz.prog cfg 9 C [.g (φ.at u).cs,.g (ψ.at v).cs] o (.a .i64 1,o)/\Ci Tryz.prog cfg 10 C [.g (φ.at u).cs] o (.a .i64 0,o)/\Ci Tryz.prog cfg 11 C [.g (φ.at u).cs] o (.a .i64 0,o):=by
 cases h with
 | b hj h1 h2 h3 h4 h5 h6 h7=>
   have g1:=(hp _ hj).trans h1;have g2:=(hr _ hj).trans h2;exact⟨aiZ g1 g2 (apH h3 h4 h5),ah4 g1 (ana h3 h4 h5 h6),ah4 g1 (amY h3 h4 h5 h7)⟩
 | a h1 h2 h3=>exact⟨ajh h1,ahS h2,ahS h3⟩
theorem ae_{y m:Int}(h:1<=m/\m<=12):bf y<=aG y m/\aG y m<aG y (m+1)/\aG y (m+1)<=bf (y+1)/\aG y m+d6 y m=aG y (m+1):=by
 have ys:bf (y+1)=bf y+365+iE y:=Go.Proofs.YtcffhjfdlflbgaaGreatDoor.yst_succ y;have bl:0<=iE y/\iE y<=1:=Go.Proofs.YtcffhjfdlflbgaaGreatDoor.lp_01 y;have e:=@p9 y m h.1 (by omega);have hn:=jk y m;have key:∀k:Int,1<=k->k<=13->bf y<=aG y k/\aG y k<=bf y+365+iE y:=λk h1 h2=>by
  have:aG y k=bf y+Go.Proofs.YtcffhjfdlflbgaaGreatDoor.mcum y k:=rfl;grind [iE,Go.Proofs.YtcffhjfdlflbgaaGreatDoor.mcum]
 grind
theorem ahn{y m d:Int}(h:1<=m/\m<=12)(h1:aG y m<=d)(h2:d<aG y (m+1)):aN d=y/\bZ d=m:=by
 obtain⟨a,b,c,e⟩:=@ae_ y m h;have hy:aN d=y:=Go.Proofs.YtcffhjfdlflbgaaGreatDoor.yOf_unique (show bf y<=d by omega) (show d<bf (y+1)by omega);have hy':Go.Proofs.YtcffhjfdlflbgaaGreatDoor.yOf d=y:=hy;refine⟨hy,Go.Proofs.YtcffhjfdlflbgaaGreatDoor.mOf_unique h.1 ?_ ?_⟩
 . rw[hy'];exact h1
 . rw[hy'];exact h2
theorem afo{y m d p:Int}(hy : -10000000000000000<=y/\y<=10000000000000000)(h:(p=1/\m=0)\/(p=2/\(1<=m/\m<=12)/\d=0)\/(p=3/\(1<=m/\m<=12)/\1<=d/\d<=d6 y m)):(lT (iO y m d) p/\CK (iO y m d) p=iO y m d)/\(lT (iD y m d) p/\PU (iD y m d) p=iD y m d)/\-3652425000000000000<=iO y m d/\iO y m d<=iD y m d/\iD y m d<=3652425000000000365:=by
 obtain⟨e1,e2⟩:=n9;have m1:=eF hy.1;have m2:=eF hy.2;have ys:∀z,bf (z+1)=bf z+365+iE z:=Go.Proofs.YtcffhjfdlflbgaaGreatDoor.yst_succ;have bl:∀z,0<=iE z/\iE z<=1:=Go.Proofs.YtcffhjfdlflbgaaGreatDoor.lp_01;have l1:=bl y;have y1:=ys y;have y2:iE 10000000000000000=1:=by decide
 have y3:=ys 10000000000000000;have m3:=eF (show y+1<=10000000000000000+1 by omega);rcases h with⟨rfl,rfl⟩|⟨rfl,hm,rfl⟩|⟨rfl,hm,hd⟩
 . have a1:iO y 0 d=bf y:=rfl;have a2:iD y 0 d=bf (y+1)-1:=rfl;rw[a1,a2];refine⟨⟨Pa (dR.2 (by omega)),?_⟩,⟨Pa (dR.2 (by omega)),?_⟩,by omega,by omega,by omega⟩
   . show bf (aN (bf y))=_;rw[yR.1]
   . show bf (aN (bf (y+1)-1))+364+iE (aN (bf (y+1)-1))=_;grind [yR]
 . obtain⟨a,b,c,e⟩:=@ae_ y m hm;have k0:aa m 0=false:=aw.mpr (by omega);have k1:ab 13 m=false:=bF.mpr (by omega);have a1:iO y m 0=aG y m:=by unfold iO;rw[k0,k1];rfl
   have a2:iD y m 0=aG y (m+1)-1:=by unfold iD;rw[k0,k1];rfl
   rw[a1,a2];obtain⟨q1,q2⟩:=ahn hm (Int.le_refl _) b;obtain⟨q3,q4⟩:=ahn (y:=y) (d:=aG y (m+1)-1) hm (by omega) (by omega);refine⟨⟨Pa (dR.2 (by omega)),?_⟩,⟨Pa (dR.2 (by omega)),?_⟩,by omega,by omega,by omega⟩
   . show aG (aN _) (bZ _)=_;grind
   . show aG (aN _) (bZ _)+d6 (aN _) (bZ _)-1=_;grind
 . obtain⟨a,b,c,e⟩:=@ae_ y m hm;have k0:aa m 0=false:=aw.mpr (by omega);have k1:ab 13 m=false:=bF.mpr (by omega);have k2:aa d 0=false:=aw.mpr (by omega);have a1:iO y m d=aG y m+d-1:=by grind [iO]
   have a2:iD y m d=aG y m+d-1:=by grind [iD]
   rw[a1,a2];exact⟨⟨rfl,rfl⟩,⟨rfl,rfl⟩,by omega,by omega,by omega⟩
theorem ad4{x:Da}(hv:dF x)(hp:kZ x):(lT (kD x) (dq x.mo x.da)/\CK (kD x) (dq x.mo x.da)=kD x)/\(lT (bq x.ng x.s x.e x.mo x.da) (dq x.mo x.da)/\PU (bq x.ng x.s x.e x.mo x.da) (dq x.mo x.da)=bq x.ng x.s x.e x.mo x.da)/\-3652425000000000000<=kD x/\kD x<=bq x.ng x.s x.e x.mo x.da/\bq x.ng x.s x.e x.mo x.da<=3652425000000000365:=by
 obtain⟨ng,lg,s,e,g,mo,da,a,b,c⟩:=x;have hp:eX s g mo da=true:=hp;have hv:wa ng lg s e g mo da a b c=true:=hv;obtain⟨p1,p2⟩:=qc.1 hp;obtain⟨h6,i1,i2,i3,i4,e0,nx,-⟩:=ye.1 (qd hv p1);obtain⟨_,_,_,_,u1,u2,u3⟩:=aaj e0 nx h6;rw[ao]at p2;unfold kY at u1;simp only[zAa]at u1;have hy : -10000000000000000<=dY ng s e/\dY ng s e<=10000000000000000:=by
  grind [eO,aq]
 refine afo hy ?_;unfold dq;dsimp only;cases hm:ae mo []with
 | true=>
   have hd:ae da []=true:=by
    cases hd:ae da []with
    | true=>rfl
    | false=>
      have:=aaR e0 nx hd;rw[hm]at u2;have:=ao.mp u2.symm;omega
   rw[hm]at u2;rw[hd];exact .inl ⟨rfl,ao.mp u2.symm⟩
 | false=>
   have hs:=aaU e0 nx hm p2;cases hd:ae da []with
   | true=>
     rw[hd]at u3;exact .inr (.inl ⟨rfl,hs,ao.mp u3.symm⟩)
   | false=>exact .inr (.inr ⟨rfl,hs,(aaR e0 nx hd).2.2⟩)
end Go.Ev
end
