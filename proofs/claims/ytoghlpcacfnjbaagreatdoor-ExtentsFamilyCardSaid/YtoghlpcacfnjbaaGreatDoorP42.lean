import Derived.Laws.IdiomCopy
import Derived.Test.YtoghlpcacfnjbaaGreatDoorP41
set_option linter.all false
set_option maxRecDepth 100000
set_option maxHeartbeats 4000000
section
namespace Go.Ev
open Go Go.Proofs
variable{ng lg:Bool}{s mo da:List UInt8}{e p b c d X:Int}
theorem zn(h h':Bool):af .i64 (jc h h')=true:=by cases h<;>cases h'<;>rfl
theorem Lh(h:Bool):aa (jc h h) 2=false:=by cases h<;>rfl
def L_(k:Int)(ng lg:Bool)(s:List UInt8)(e:Int)(mo da:List UInt8)(p a b c d X:Int):Prop:=
 Y5 k ng s e 0 mo da p a b c d/\xf k ng lg s e 0 mo da p a b c d/\tR k ng s e mo da p a b c d X=ZS k ng s e mo da p a b c d X/\af .i64 (ZS k ng s e mo da p a b c d X)/\
  (Zb k a c=false->aa (VT k ng s e mo da p a b c d) 1->aa (ZS k ng s e mo da p a b c d X) 2=false)
theorem Zw{x y z a:Int}{P:List Int}(hE:bW ng lg s e 0 mo da x y z=0)(hX:bo (s++mo++da))(hy:∃k,mK ng s e k)(hs:s.length<=1000)(hP:P.length<=100)(hk:∀k,mK ng s e k->k∈P):L_ 2 ng lg s e mo da p a b c d X:=by
 obtain⟨ho,hx,_⟩:=dC (gq hE) dE;have hU:∀y m d,f_ ng s e mo da y m d->kY y m d=true:=λy m d h=>rW hE hX h;have hl:=GG (mo:=mo) (da:=da) hP hk;have h1:=xt hE hy;obtain⟨m1,m2⟩:=DJ hE hy;have ht:=HR (x:=X) hE hy hU;have hus:mh (aP ng s e mo da)=true:=by
  unfold mh;rw[List.all_eq_true];intro c hc;exact hU _ _ _ ((fy hx).1 hc)
 have md:=wD hE;refine⟨?_,?_,?_,?_,?_⟩
 . show(aa 0 0&&(Nat.ble (aP ng s e mo da).length 1000000&&ab 1 (vI ng s e mo da)))=true;rw[al.mpr hl,aq.mpr m1];rfl
 . show(aa 0 0&&(iM ng lg s e mo da&&(Nat.ble (aP ng s e mo da).length 1000000&&(!(Nat.beq (aP ng s e mo da).length 0)&&mh (aP ng s e mo da)))))=true;unfold iM;rw[ho,hx,md,al.mpr hl,al.mpr hs,hus,b9.mpr (show(aP ng s e mo da).length≠0 by omega)];rfl
 . show CH X (aP ng s e mo da)=HN ng s e mo da X;rw[ht];rfl
 . exact zn _ _
 . intro _ h;have h:aa (vI ng s e mo da) 1=true:=h;show aa (HN ng s e mo da X) 2=false;unfold HN;rw[h,Bool.and_true];exact Lh _
theorem Yh{a:Int}(hb:af .i64 b)(hd:af .i64 d)(hr:bA a b c d=0)(hu:qP a b c d p):L_ 3 ng lg s e mo da p a b c d X:=by
 refine⟨hu,?_,rfl,zn _ _,?_⟩
 . show(af .i64 b&&(af .i64 d&&(aa (bA a b c d) 0&&qP a b c d p)))=true;rw[hb,hd,hu,ao.mpr hr];rfl
 . intro h1 h2;have h1:(!(aa a 0&&aa c 0))=false:=h1;have h1:(aa a 0&&aa c 0)=true:=by simpa using h1
   have h2:aa (bif aa a 0&&aa c 0 then eo d p-eo b p+1 else 0) 1=true:=by
    unfold VT at h2;rw[show aa 3 2=false from rfl,show aa 3 3=true from rfl,Bool.true_and,cond_false]at h2;exact h2
   rw[h1,cond_true,ao]at h2;show aa (jc (cP a b c d X) (cP a b c d X&&zw a b c d p)) 2=false;unfold zw;rw[h1,ao.mpr (show eo b p=eo d p by omega),Bool.true_and,Bool.and_true];exact Lh _
theorem YN{a:Int}(hb:af .i64 b)(hd:af .i64 d)(hr:bA a b c d=0):L_ 4 ng lg s e mo da p a b c d X:=by
 refine⟨rfl,?_,rfl,zn _ _,λh=>by cases h⟩;show(af .i64 b&&(af .i64 d&&(aa (bA a b c d) 0&&true)))=true;rw[hb,hd,ao.mpr hr];rfl
theorem ZT{a:Int}(hb:af .i64 b)(hd:af .i64 d)(hr:bA a b c d=0):L_ 5 ng lg s e mo da p a b c d X:=by
 refine⟨rfl,?_,rfl,zn _ _,λh=>by cases h⟩;show(af .i64 b&&(af .i64 d&&(aa (bA a b c d) 0&&true)))=true;rw[hb,hd,ao.mpr hr];rfl
theorem WE{k op f:Int}{n z0 z1 m fr ma:Int}(hz0:0<=z0/\z0<=255)(hz1:0<=z1/\z1<=255)(hk:0<=k/\k<=255)(hp:0<=p/\p<=255)(hfr : -32768<=fr/\fr<=32767)(hma:0<=ma/\ma<=255)(h:iB k f n z0 z1 m d=false) :
 L_ (fK k f n z0 z1 m d) (wm k f ng n z0 z1 m d) (zQ k f n z0 z1 m d) (fS k f n z0 z1 m d) (fE k f n z0 z1 m d) (wt k f n z0 z1 m d) (wq k f n z0 z1 m d) (fP k p) (fA k op) (fB k p op fr) (fC k op) (fD k p op fr ma) X:=by
 obtain⟨h1,⟨_,_,_,_,hb,_,hd⟩,hl,_,_⟩:=BG (p:=p) (op:=op) (ng:=ng) hz0 hz1 hk hfr hma h;have hb:af .i64 (fB k p op fr)=true:=by rw[aE];exact hb
 have hd:af .i64 (fD k p op fr ma)=true:=by rw[aE];exact hd
 by_cases c2:k%5=2
 . have e2:=ao.mpr c2;have eK:fK k f n z0 z1 m d=3:=by unfold fK;rw[e2];rfl
   rw[eK]at h1 ⊢;have hf:=zi.1 (Xb h1);refine Yh hb hd hf.2.1 ?_;have eP:fP k p=1+p%3:=by unfold fP;rw[e2];rfl
   have hP:1<=1+p%3/\1+p%3<=3:=by omega
   obtain⟨l1,_,_⟩:=Lr (i:=fr) (by omega) hP;obtain⟨u1,_,_⟩:=Mf (i:=fr+ma) (by omega) hP;have x1:=@Ry fr _ hP;have x2:=@QM (fr+ma) _ hP;unfold fA fB fC fD qP;rw[eP,e2,cond_true,cond_true,cond_true,cond_true,aq.mpr hP.1,aq.mpr hP.2];cases o1:aa (op%4) 1<;>cases o2:aa (op%4) 2<;>simp only[zAj,l1,u1,x1,x2,aq.mpr (show fr<=fr+ma by omega),aq.mpr (show fr+ma-fr<=1000000 by omega),Bool.or_true,Bool.and_true,Bool.true_and]<;>rfl
 . have e2:=aw.mpr c2;by_cases c3:k%5=3
   . have e3:=ao.mpr c3;have eK:fK k f n z0 z1 m d=4:=by unfold fK;rw[e2,e3];rfl
     rw[eK]at h1 ⊢;exact YN hb hd (W3 h1).1
   . have e3:=aw.mpr c3;by_cases c4:k%5=4
     . have e4:=ao.mpr c4;have eK:fK k f n z0 z1 m d=5:=by unfold fK;rw[e2,e3,e4];rfl
       rw[eK]at h1 ⊢;exact ZT hb hd (Ww h1).1
     . have e4:=aw.mpr c4;have eK:fK k f n z0 z1 m d=2:=by unfold fK;rw[e2,e3,e4];rfl
       have hX:fX k f n z0 z1 m d=true:=by
        unfold iB at h;rw[e2,e3,e4]at h;simpa using h
       rw[eK]at h1 ⊢;obtain⟨_,_,_,hE,_,hXB,_⟩:=QW h1;have s1:fS k f n z0 z1 m d=gw f n z0 z1:=by unfold fS;rw[hX];rfl
       have s2:wm k f ng n z0 z1 m d=qV f ng n z0 z1:=by unfold wm;rw[hX];rfl
       have s3:fE k f n z0 z1 m d=kQ f z1:=by unfold fE;rw[hX];rfl
       obtain⟨P,hP,hm⟩:=@Jc f n z0 z1 (kQ f z1) (qV f ng n z0 z1) hz0 hz1;obtain⟨y,hy,_⟩:=@Fh f ng n z0 z1 hz0 hz1;exact Zw (P:=P) hE hXB ⟨y,by rw[s1,s2,s3];exact hy⟩ (by omega) hP (λk' hk'=>hm k' (by rw[s1,s2,s3]at hk';exact hk'))
def FP.a(q:FP)(V:AV):AV:=.h [.a .u8 q.k,.a .u8 q.p,.a .u8 q.op,.a .u8 q.f,.b q.ng,.a .u16 q.n,.a .u8 q.z0,.a .u8 q.z1,.a .u8 q.m,.a .u8 q.d,.a .u8 q.x,.a .u8 q.y,.a .u8 q.z,.a .i16 q.fr,.a .u8 q.ma,V]
theorem WV:∀x∈([]:List aD),cR 14 x:=λx hx=>by cases hx
theorem Vd{gs:List (Int×Int)}:∀x∈[aD.a (js gs) false none],cR 14 x:=λx hx=>by
 simp only[List.mem_cons,List.not_mem_nil,or_false]at hx;subst hx;exact aO pP
theorem X5:∀{R:List Rn},mV R->j9 R=true:=λ{R} h=>by
 unfold j9;rw[List.all_eq_true];intro r hr;obtain⟨i,hi,e⟩:=List.getElem_of_mem hr;have:=tg h i hi;rw[zAd,List.getElem?_eq_getElem hi,e]at this;exact ao.mpr this.1
theorem PY{R:List Rn}(hs:mV R)(hm:nD R)(hl:1<=R.length/\R.length<=4):Nat.ble (0+R.length*4) (bh R).length/\eJ (bh R)/\Nat.beq R.length R.length/\Nat.ble R.length 1000/\Nat.ble R.length 4/\Nat.ble 1 R.length/\bc 14 (bh R)/\j9 R/\
 aa (dr 1 R.length (jo R) (dZ false false [] 0 0 [] [] 0 0 0) 0 (sZ 0 0 0 0) (bW false false [] 0 0 [] [] 0 0 0) 0 (bo []) (mZ 0 0 0) (dN 0 0 0 0 0) (bA 0 0 0 0) 0 0) 0/\af .i64 (jc (bq R X) (bq R X))/\aa (jc (bq R X) (bq R X)) (jc (bq R X) (bq R X))/\aa (jc (bq R X) (bq R X)) 2=false:=by
 refine⟨by rw[al,kz];omega,pD (CW hm),gm rfl,by rw[al];omega,by rw[al];exact hl.2,by rw[al];exact hl.1,ij,X5 hs,?_,zn _ _,ao.mpr rfl,Lh _⟩;have dz:dZ false false [] 0 0 [] [] 0 0 0=true:=rfl;have sz:sZ 0 0 0 0=true:=rfl;have hn:R.length≠0:=by omega
 rw[dz,sz];unfold dr;rw[if_neg (by decide),if_pos rfl,if_pos ⟨rfl,rfl,rfl⟩,if_neg hn,M5 hs];rfl
theorem Hh{R:List Rn}:nK R=R.length:=rfl
end Go.Ev
end
section
namespace Go.Ev
open Go
abbrev EU:=Tb (List (List AV×AV))
def vL:List (List AV×AV)->List AV->Option AV
 | [],_=>none
 | e::es,args=>bif yW (CU 8) e.1 args then some e.2 else vL es args
def Sv(b:Option (AV×aB))(o:aB):Option AV->Option (AV×aB)
 | some v=>some (v,o)
 | none=>b
def YZ(M:EU)(base:FuncId->bg->List AV->aB->Option (AV×aB))(f:FuncId)(C:bg)(args:List AV)(o:aB):Option (AV×aB):=Sv (base f C args o) o (ob (M.c0 f) λl=>vL l args)
def EN(cfg:cL)(M:EU):cL:=⟨cfg.G,cfg.b0,cfg.d0,YZ M cfg.c0,cfg.a0⟩
def Tn(P:Program)(cfg:cL)(M:EU):Prop:=∀f l,M.c0 f=some l->∀e∈l,gM P cfg f e.1 e.2
theorem zh:∀{l:List (List AV×AV)} {args:List AV} {v:AV},vL l args=some v->(args,v)∈l
 | [],args,v,h=>by cases h
 | e::es,args,v,h=>by
   rw[vL]at h;cases hb:yW (CU 8) e.1 args with
   | true=>
     rw[hb,cond_true,zAc]at h;have:=rq (Bl 8) hb;rw[<-this,<-h];exact List.mem_cons_self
   | false=>rw[hb,cond_false]at h;exact List.mem_cons_of_mem _ (zh h)
theorem nG.e0{P:Program}{T:fm}{cfg:cL}(g:nG P T cfg){M:EU}(hM:Tn P cfg M):nG P T (EN cfg M):=by
 refine⟨g.d0,g.b0,⟨g.lv.a0,g.lv.G,g.lv.b0⟩,λC f args o r h D m w hi hok=>?_,λC f args o r h hl=>?_⟩
 . have h':Sv (cfg.c0 f C args o) o (ob (M.c0 f) λl=>vL l args)=some r:=h;have hi':dX cfg D m C o w:=dX.to (cfg:=EN cfg M) (cfg':=cfg) rfl rfl hi;cases hx:(ob (M.c0 f) λl=>vL l args)with
   | some v=>
     rw[hx]at h';cases h';rw[ag]at hx;obtain⟨l,hl,hv⟩:=hx;exact(hM f l hl _ (zh hv) C D m o w hi' hok).a0 λV w' ⟨h1,h2,h3,h4⟩=>⟨D,m,h1,h2,dw.to (cfg:=cfg) (cfg':=EN cfg M) rfl rfl h3,λ_ _=>h4⟩
   | none=>
     rw[hx]at h';exact(g.f0 C f args o r h' D m w hi' hok).a0 λV w' ⟨D',m',h1,h2,h3,h4⟩=>⟨D',m',h1,h2,dw.to (cfg:=cfg) (cfg':=EN cfg M) rfl rfl h3,h4⟩
 . have h':Sv (cfg.c0 f C args o) o (ob (M.c0 f) λl=>vL l args)=some r:=h;cases hx:(ob (M.c0 f) λl=>vL l args)with
   | some v=>rw[hx]at h';cases h';exact .a0 hl
   | none=>rw[hx]at h';exact g.c0 C f args o r h' hl
theorem bD{P:Program}{cfg:cL}{f:FuncId}{args:List AV}{v:AV}{l:List (List AV×AV)}(h:gM P cfg f args v)(hl:∀e∈l,gM P cfg f e.1 e.2):∀e∈(args,v)::l,gM P cfg f e.1 e.2:=λe he=>by
 grind
theorem g_{P:Program}{cfg:cL}{f:FuncId}:∀e∈([]:List (List AV×AV)),gM P cfg f e.1 e.2:=λe he=>by cases he
end Go.Ev
end
section
namespace Go.Ev
open Go Go.Proofs
variable{fuel:Nat}{f0 f1:Field}
abbrev iA(n:Int):AV:=.a .i64 n
abbrev dA(s:List UInt8)(e g:Int)(mo da:List UInt8):AV:=.h [.b false,.b false,.d s,iA e,iA g,.d mo,.d da,.a .u8 0,.a .u8 0,.a .u8 0]
abbrev MX(a b c d:Int):AV:=.h [.a .i8 a,iA b,.a .i8 c,iA d]
section
variable{H:Type}{enc:TypeId×Value->H}{P:Program}{w:World}{base:Nat}{sp:Nat->Bool}{held:Bool}
theorem sF{e t0 t1:TypeId}{cs:List Value}{k:IntKind}{d:DataW H}{p:List MemPlace}(he:P.underlying e=some (.struct #[f0,f1]))(e0:f0.type=t0)(e1:f1.type=t1)(h0:P.underlying t0=some (.int k))(h1:P.underlying t1=some (.int k))
 (o0:f0.offset=0) (o1:f1.offset=1) (c0:P.cellsOf t0=1) (c1:P.cellsOf t1=1) (hc:P.cellsOf e=2) (h:DataW.trod enc P w base sp held fuel e cs=some (d,p)) :
 ∃a b,cs=[.int k a,.int k b]/\d=.agg [.lit (.int k a),.lit (.int k b)]:=by
 cases fuel with
 | zero=>simp[DataW.trod]at h
 | succ fuel=>
   unfold DataW.trod at h;simp only[he,hc]at h;split at h
   . rename_i hl
     match cs,hl with
     | [x,y],_=>
       simp only[List.mapM_cons,List.mapM_nil,o0,o1,e0,e1,c0,c1,List.drop_zero,List.drop_succ_cons,List.take_succ_cons,List.take_zero,Option.map_eq_some_iff,Option.bind_eq_bind,Option.bind_eq_some_iff,Option.pure_def,zAc]at h;obtain⟨xs,⟨r0,hr0,ys,⟨r1,hr1,zs,rfl,rfl⟩,rfl⟩,hx⟩:=h;obtain⟨n0,q0,rfl,_⟩:=DataW.trod_int h0 hr0;obtain⟨n1,q1,rfl,_⟩:=DataW.trod_int h1 hr1;simp only[List.cons.injEq,and_true]at q0 q1;subst q0 q1;refine⟨n0,n1,rfl,?_⟩;have:=congrArg Prod.fst hx;simpa using this.symm
   . cases h
theorem D8{n:Nat}{t e t0 t1:TypeId}{cs:List Value}{k:IntKind}{ds:List (DataW H)}{p:List MemPlace}(ht:P.underlying t=some (.array n e))(he:P.underlying e=some (.struct #[f0,f1]))(e0:f0.type=t0)(e1:f1.type=t1)(h0:P.underlying t0=some (.int k))(h1:P.underlying t1=some (.int k))
 (o0:f0.offset=0) (o1:f1.offset=1) (c0:P.cellsOf t0=1) (c1:P.cellsOf t1=1) (hc:P.cellsOf e=2) (h:DataW.trod enc P w base sp held fuel t cs=some (.agg ds,p)) :
 ∀i d,ds[i]? = some d->∃a b,d=.agg [.lit (.int k a),.lit (.int k b)]/\cs[2*i]? = some (.int k a)/\cs[2*i+1]? = some (.int k b):=by
 cases fuel with
 | zero=>simp[DataW.trod]at h
 | succ fuel=>
   unfold DataW.trod at h;simp only[ht,hc]at h;split at h
   . rename_i hl;obtain⟨xs,hm,hx⟩:=Option.map_eq_some_iff.1 h;have hxs:xs.map (·.1)=ds:=by
      have:=congrArg Prod.fst hx;simpa using this
     intro i d hd;have hxl:xs.length=n:=by simpa using Lib.mapM_length hm
     have hi:i<n:=by
      have:=(List.getElem?_eq_some_iff.1 hd).1;rw[<-hxs]at this;simp at this;omega
     obtain⟨b,hb,hf⟩:=Lib.mapM_at hm i i (by simp[hi]);obtain⟨x,y,hc1,hc2⟩:=sF (d:=b.1) (p:=b.2) he e0 e1 h0 h1 o0 o1 c0 c1 hc (by rw[hf]);refine⟨x,y,?_,?_,?_⟩
     . rw[<-hxs]at hd;simp only[List.getElem?_map,hb,Option.map_some,zAc]at hd;rw[<-hd,hc2]
     . have:=congrArg (·[0]?) hc1;simp only[List.getElem?_take,List.getElem?_drop,List.getElem?_cons_zero]at this;rw[show 2*i=i*2+0 by omega];simpa using this
     . have:=congrArg (·[1]?) hc1;simp only[List.getElem?_take,List.getElem?_drop]at this;rw[show 2*i+1=i*2+1 by omega];simpa using this
   . cases h
theorem zK{t e t0 t1:TypeId}{cs:List Value}{k:IntKind}{ds:List (DataW H)}{p:List MemPlace}(ht:P.underlying t=some (.slice e))(he:P.underlying e=some (.struct #[f0,f1]))(e0:f0.type=t0)(e1:f1.type=t1)(h0:P.underlying t0=some (.int k))(h1:P.underlying t1=some (.int k))
 (o0:f0.offset=0) (o1:f1.offset=1) (c0:P.cellsOf t0=1) (c1:P.cellsOf t1=1) (hc:P.cellsOf e=2) (hne:0<ds.length) (h:DataW.trod enc P w base (λ_=>true) held fuel t cs=some (.slice ds [],p)) :
 ∃b o,cs=[.slice (some ⟨b,o,none⟩) ds.length ds.length]/\∀i d,ds[i]? = some d->∃x y,d=.agg [.lit (.int k x),.lit (.int k y)]/\w.cell? ⟨b,o+2*i,none⟩=some (.int k x)/\w.cell? ⟨b,o+(2*i+1),none⟩=some (.int k y):=by
 rcases DataW.trod_slice ht h with⟨_,hx⟩|⟨a,len,cap,elems,rest,n,rfl,rfl,hx,hb,hle,hmax,hel,hat,hrest,_⟩
 . cases hx
 . simp only[Prod.mk.injEq,DataW.slice.injEq]at hx;obtain⟨⟨hds,hrs⟩,_⟩:=hx;have hr0:rest.length=0:=by
    have:=congrArg List.length hrs;simpa using this.symm
   have hcap:cap=len:=by
    have:=(hrest rfl).1;omega
   have hlen:ds.length=len:=by rw[hds];simpa using hel
   subst hcap;have main:∀i d,ds[i]? = some d->∃x y,d=.agg [.lit (.int k x),.lit (.int k y)]/\w.cell? (a.add (i*2))=some (.int k x)/\w.cell? ((a.add (i*2)).add 1)=some (.int k y):=by
    intro i d hd;have hi:i<cap:=by
     have:=(List.getElem?_eq_some_iff.1 hd).1;omega
    have h3:=hat i hi;rw[hds,List.getElem?_map]at hd;obtain⟨b,hb',rfl⟩:=Option.map_eq_some_iff.1 hd;rw[hb',hc]at h3;obtain⟨cs',hcs,htr⟩:=Option.bind_eq_some_iff.1 h3;obtain⟨x,y,rfl,hd2⟩:=sF (d:=b.1) (p:=b.2) he e0 e1 h0 h1 o0 o1 c0 c1 hc htr;obtain⟨_,_,hcell⟩:=World.cells?_some hcs;refine⟨x,y,hd2,?_,?_⟩
    . have:=hcell 0 (by omega);simpa [Addr.add]using this
    . exact hcell 1 (by omega)
   obtain⟨b,o,sp⟩:=a;have hsp:sp=none:=by
    obtain⟨x,y,_,hx0,_⟩:=main 0 (ds[0]'hne) (by simp[hne]);simp only[Nat.zero_mul,Addr.add,if_true]at hx0;unfold World.cell? at hx0;cases sp with
    | none=>rfl
    | some v=>split at hx0<;>simp at hx0
   subst hsp;refine⟨b,o,by rw[hlen],λi d hd=>?_⟩;obtain⟨x,y,h4,h5,h6⟩:=main i d hd;refine⟨x,y,h4,?_,?_⟩
   . by_cases e:i=0
     . subst e;simpa [Addr.add]using h5
     . rw[show o+2*i=o+i*2 by omega];have e2:¬i*2=0:=by omega
       rw[Addr.add,if_neg e2]at h5;exact h5
   . by_cases e:i=0
     . subst e;simpa [Addr.add]using h6
     . rw[show o+(2*i+1)=o+i*2+1 by omega];have e2:¬i*2=0:=by omega
       rw[Addr.add,if_neg (by omega),Addr.add,if_neg e2]at h6;exact h6
end
end Go.Ev
end
section
namespace Go.Ev
open Go Go.Proofs Go.Proofs.YtoghlpcacfnjbaaGreatDoor
variable{w:World}
theorem iN{P:Program}{w:World}:∀{l:List (String×DataW Unit)} {ps:List MemPlace},DataW.LaidVars P w l ps->∀(i:Nat) (n:String) (d:DataW Unit),l[i]? = some (n,d)->
 ∃g t cs fuel p,P.globalNamed n=some g/\(P.globals[g]?).map (·.type)=some t/\w.var? P n=some cs/\DataW.trod (λ_=>()) P w 0 (λ_=>true) false fuel t cs.toList=some (d,p)/\∀x∈MemPlace.row ⟨g,0,none⟩ cs.size,x∈ps
 | [],ps,_,i,n,d,hd=>by simp at hd
 | (n0,d0)::r,ps,h,i,n,d,hd=>by
   obtain⟨g,t,cs,fuel,p,q,h1,h2,h3,h4,h5,rfl⟩:=h;cases i with
   | zero=>
     simp only[List.getElem?_cons_zero,zAc,Prod.mk.injEq]at hd;obtain⟨rfl,rfl⟩:=hd;exact⟨g,t,cs,fuel,p,h1,h2,h3,h4,λx hx=>by simp[hx]⟩
   | succ i=>
     obtain⟨g',t',cs',fuel',p',k1,k2,k3,k4,k5⟩:=iN h5 i n d (by simpa using hd);exact⟨g',t',cs',fuel',p',k1,k2,k3,k4,λx hx=>by simp[k5 x hx]⟩
def GU(x y:Int):DataW Unit:=.agg [.lit (.int .i64 x),.lit (.int .i64 y)]
def rL:List Int->List (DataW Unit)
 | x::y::r=>GU x y::rL r
 | _=>[]
theorem AJ{x y a b:Int}(h:GU x y=.agg [.lit (.int .i64 a),.lit (.int .i64 b)]):x=a/\y=b:=by
 simpa [GU]using h
theorem oq:∀{l:List Int},l.length%2=0->∀(i:Nat) (v:Int),l[i]? = some v->∃x y,(rL l)[i/2]? = some (GU x y)/\(i%2=0->v=x)/\(i%2=1->v=y)
 | [],_,i,v,h=>by simp at h
 | [x],h,i,v,_=>by simp at h
 | x::y::r,h,0,v,hv=>⟨x,y,rfl,λ_=>by simpa using hv.symm,λh=>by simp at h⟩
 | x::y::r,h,1,v,hv=>⟨x,y,rfl,λh=>by simp at h,λ_=>by simpa using hv.symm⟩
 | x::y::r,h,i+2,v,hv=>by
   obtain⟨a,b,h1,h2,h3⟩:=oq (l:=r) (by simp at h;omega) i v (by simpa using hv);refine⟨a,b,?_,λe=>h2 (by omega),λe=>h3 (by omega)⟩;rw[show(i+2)/2=i/2+1 by omega,rL,List.getElem?_cons_succ];exact h1
noncomputable def p5:List (String×DataW Unit):=Rows.membersOfRow.laid
theorem laid_met(h:laidMetH Tryz.prog p5 w):laidMet Tryz.prog p5 w:=by
 unfold laidMetH at h;have e:(p5.filter λx=>x.2.handleName?.isSome)=[]:=by kernel_rfl
 rw[e]at h;exact h
theorem N0(h:laidMet Tryz.prog p5 w):∀i v,XQ[i]? = some v->w.cell? ⟨1,i,none⟩=some (.int .i64 v):=by
 obtain⟨ps,hv,_,_⟩:=h;obtain⟨g,t,cs,fuel,p,h1,h2,h3,h4,_⟩:=iN hv 7 "circa/months.lengths" Rows.laid_circa_months_lengths rfl;obtain rfl:1=g:=Option.some.inj ((show Tryz.prog.globalNamed "circa/months.lengths" = some 1 by kernel_rfl).symm.trans h1);obtain rfl:271=t:=Option.some.inj ((show(Tryz.prog.globals[1]?).map (·.type)=some 271 by kernel_rfl).symm.trans h2);have hc:=Lib.cells_of_tab (zs:=XQ) (k:=.i64) Tryz.underlying271 Tryz.underlying3 (by kernel_rfl) (by kernel_rfl) h4;intro i v hi;rw[World.var?_cell (by kernel_rfl:Tryz.prog.globalNamed "circa/months.lengths" = some 1) h3 i,<-Array.getElem?_toList,hc,List.getElem?_map,hi];rfl
theorem KT(h:laidMet Tryz.prog p5 w):∀i v,XU[i]? = some v->w.cell? ⟨2,i,none⟩=some (.int .i64 v):=by
 obtain⟨ps,hv,_,_⟩:=h;obtain⟨g,t,cs,fuel,p,h1,h2,h3,h4,_⟩:=iN hv 8 "circa/seasons.spans" Rows.laid_circa_seasons_spans rfl;obtain rfl:2=g:=Option.some.inj ((show Tryz.prog.globalNamed "circa/seasons.spans" = some 2 by kernel_rfl).symm.trans h1);obtain rfl:292=t:=Option.some.inj ((show(Tryz.prog.globals[2]?).map (·.type)=some 292 by kernel_rfl).symm.trans h2);have h4:DataW.trod (λ_=>()) Tryz.prog w 0 (λ_=>true) false fuel 292 cs.toList=some (.agg (rL XU),p):=h4;have hc:=D8 Tryz.underlying292 Tryz.underlying291 rfl rfl Tryz.underlying3 Tryz.underlying3 rfl rfl (by kernel_rfl) (by kernel_rfl) (by kernel_rfl) h4;intro i v hi;rw[World.var?_cell (by kernel_rfl:Tryz.prog.globalNamed "circa/seasons.spans" = some 2) h3 i,<-Array.getElem?_toList];obtain⟨x,y,hd,hx,hy⟩:=oq rfl i v hi;obtain⟨a,b,he,ha,hb⟩:=hc _ _ hd;obtain⟨rfl,rfl⟩:=AJ he;rcases Nat.mod_two_eq_zero_or_one i with h2|h2
 . rw[hx h2,<-ha,show 2*(i/2)=i by omega]
 . rw[hy h2,<-hb,show 2*(i/2)+1=i by omega]
theorem My(h:laidMet Tryz.prog p5 w):∃b o,w.cell? ⟨5,0,none⟩=some (.slice (some ⟨b,o,none⟩) 3 3)/\∀i v,XP[i]? = some v->w.cell? ⟨b,o+i,none⟩=some (.int .i64 v):=by
 obtain⟨ps,hv,_,_⟩:=h;obtain⟨g,t,cs,fuel,p,h1,h2,h3,h4,_⟩:=iN hv 6 "circa/years.steps" Rows.laid_circa_years_steps rfl;obtain rfl:5=g:=Option.some.inj ((show Tryz.prog.globalNamed "circa/years.steps" = some 5 by kernel_rfl).symm.trans h1);obtain rfl:321=t:=Option.some.inj ((show(Tryz.prog.globals[5]?).map (·.type)=some 321 by kernel_rfl).symm.trans h2);have h4:DataW.trod (λ_=>()) Tryz.prog w 0 (λ_=>true) false fuel 321 cs.toList=some (.slice (rL XP) [],p):=h4;obtain⟨b,o,hcs,hc⟩:=zK Tryz.underlying321 Tryz.underlying322 rfl rfl Tryz.underlying2 Tryz.underlying2 rfl rfl (by kernel_rfl) (by kernel_rfl) (by kernel_rfl) (by decide) h4;refine⟨b,o,?_,λi v hi=>?_⟩
 . rw[World.var?_cell (by kernel_rfl:Tryz.prog.globalNamed "circa/years.steps" = some 5) h3 0,<-Array.getElem?_toList,hcs];rfl
 . obtain⟨x,y,hd,hx,hy⟩:=oq rfl i v hi;obtain⟨a,b',he,ha,hb⟩:=hc _ _ hd;obtain⟨rfl,rfl⟩:=AJ he;rcases Nat.mod_two_eq_zero_or_one i with h2|h2
   . rw[hx h2,<-ha,show 2*(i/2)=i by omega]
   . rw[hy h2,<-hb,show 2*(i/2)+1=i by omega]
theorem Mh(h:laidMet Tryz.prog p5 w){i g:Nat}{n:String}{text:List UInt8}(hi:p5[i]? = some (n,.iface "*errors.errorString" (.ptr (.agg [.lit (.string text)]))))(hg:Tryz.prog.globalNamed n=some g)(ht:(Tryz.prog.globals[g]?).map (·.type)=some 213) :
 (∃b o,w.cell? ⟨g,0,none⟩=some (.iface 345 (.pointer (some ⟨b,o,none⟩))))/\∀c e fz,w.heap[g]? = some (.cells c e fz)->c.size=1:=by
 obtain⟨ps,hv,_,hps⟩:=h;obtain⟨g',t,cs,fuel,p,h1,h2,h3,h4,h5⟩:=iN hv i n _ hi;obtain rfl:g=g':=Option.some.inj (hg.symm.trans h1);obtain rfl:213=t:=Option.some.inj (ht.symm.trans h2);obtain⟨a,s,hcs,hcell,_⟩:=errorString_of_trod Tryz.underlying213 (λu hu=>typeName_ptr_named (nm := "errors.errorString") (by kernel_rfl) (by kernel_rfl) (by decide) u hu) Tryz.underlying345 Tryz.underlying347 rfl rfl Tryz.underlying9 (by kernel_rfl) (by kernel_rfl) h4 (λu v e=>by
  have hc0:w.cell? ⟨g,0,none⟩=some (.iface u v):=by
   rw[World.var?_cell hg h3 0,<-Array.getElem?_toList,e];rfl
  have hsz:cs.size=1:=by
   have:=congrArg List.length e;simpa using this
  exact(hps g 0 (h5 _ (by rw[hsz];simp[MemPlace.row]))).2 u v hc0)
 obtain⟨b,o,sp⟩:=a;have hsp:sp=none:=by
  unfold World.cell? at hcell;cases sp with
  | none=>rfl
  | some v=>split at hcell<;>simp at hcell
 subst hsp;refine⟨⟨b,o,by rw[World.var?_cell hg h3 0,<-Array.getElem?_toList,hcs];rfl⟩,λc e fz hb=>?_⟩;have h3':=h3;unfold World.var? at h3';rw[hg]at h3';simp only[Option.bind_some,hb,zAc]at h3';have:=congrArg List.length hcs;rw[h3'];simpa using this
theorem JA(h:laidMetH Tryz.prog p5 w):Pr w:=by
 have h:=laid_met h;have hS:=Mh h (i:=5) (g:=3) (n := "strconv.ErrSyntax") rfl (by kernel_rfl) (by kernel_rfl);have hR:=Mh h (i:=4) (g:=4) (n := "strconv.ErrRange") rfl (by kernel_rfl) (by kernel_rfl);exact⟨My h,N0 h,KT h,hS.1,hR.1,hS.2,hR.2⟩
end Go.Ev
end
section
namespace Go.Ev
variable{b o cap:Nat}{ws:List aD}{m:Nat->bv}{w:World}
section
open Go Go.Proofs Go.ChangeShapes Go.WideShapes Go.ChangeAt Go.RowKit
theorem post_of_below{H:Type}{enc:TypeId×Value->H}{P:Program}{f:Func}{s:ChangeSpec}{Cz fresh handsOn again:Bool}{W W':World}{args:Array Value}{v:Value}{ds gs:List (DataW H)}{before pa pv:List MemPlace}
 (hW:DataW.Whole enc P f.params.toList s.vars Cz W args.toList ds gs before)
 (hres:∀(b:Nat) (sp:Nat->Bool) (hd:Bool),DataW.TrodAll enc P W' b sp hd f.resultTypes.toList (v.resultList f.resultTypes.size) (s.fn H (ds++gs)).results [])
 (hargs:∀sp:Nat->Bool,(∀p∈before,sp p.block=true)->DataW.TrodAll enc P W' 0 sp true f.params.toList args.toList (s.fn H (ds++gs)).args pa)
 (hvars:∀sp:Nat->Bool,(∀p∈before,sp p.block=true)->DataW.TrodVars enc P W' sp s.vars (s.fn H (ds++gs)).vars pv)
 (hps:before=pa++pv) (hb:Below W.heap.size W W')
 (hok:∀(j:Nat) (t:TypeId) (r:Value),f.resultTypes[j]? = some t->(v.resultList f.resultTypes.size)[j]? = some r->Value.okWide P W' .any 0 t r) :
 s.post enc P f Cz fresh handsOn again W args v W':=by
 have hold:∀p∈before,(λb=>decide (b<W.heap.size)) p.block=true:=λp hp=>by simpa using hW.lt p hp
 have hlt:∀p∈before,p.block<W.heap.size:=λp hp=>hW.lt p hp;refine⟨ds,gs,before,[],pa,pv,hW,hres _ _ _,hargs _ hold,hvars _ hold,World.keptBut_mono (λp hp=>⟨hp,?_⟩) (hb.frame (·∈before)),λ_=>?_⟩
 . rw[hps,List.mem_append]at hp;exact Or.inr hp
 . obtain⟨_,_,_,_,_,hz,hn⟩:=hW;refine⟨hok,_,_,([]++pa)++pv,⟨[]++pa,pv,trodAll_append (hargs _ (λ_ _=>rfl)) (hres _ _ true),hvars _ (λ_ _=>rfl),rfl,?_,?_⟩,?_⟩
   . intro b off hp;have hp':MemPlace.cell b off∈before:=by rw[hps];simpa using hp
     have e:W'.frozen? ⟨b,off,none⟩=W.frozen? ⟨b,off,none⟩:=by
      unfold World.frozen?;rw[hb.block b (hlt _ hp')]
     rw[e];exact hz b off hp'
   . intro ha;have:=hn ha;rw[hps]at this;simpa using this
   . intro p hp _;rw[hps];simpa using hp
def laidOut:laidOutB Tryz.prog=true:=by kernel_rfl
theorem below_place{W W':World}{x:MemPlace}(hb:Below W.heap.size W W')(hlt:x.block<W.heap.size):W.sameAt W' x:=by
 cases x with
 | cell b off=>show W'.cell? _=W.cell? _;unfold World.cell?;rw[hb.block b hlt]
 | map b=>exact hb.block b hlt
end
open Go Go.Proofs Go.ChangeShapes
section
variable{P:Program}{w:World}{r:Reach}{b0:Nat}{t:TypeId}{v:Value}
theorem EP{e:TypeId}(ht:P.underlying t=some (.slice e))(h:Cell.okWide P w r b0 t v):v=.slice none 0 0\/∃b o len cap c el fz,v=.slice (some ⟨b,o,none⟩) len cap/\w.heap[b]? = some (.cells c el fz):=by
 unfold Cell.okWide Cell.ok at h;rw[ht]at h;cases v<;>first|exact h.elim|skip
 rename_i a len cap;cases a with
 | none=>
   left
   cases len<;>cases cap<;>first|rfl|exact h.elim
 | some a=>
   right
   obtain⟨_,_,_,h4,row,cells,h5,_⟩:=h;obtain⟨b,o,sp⟩:=a;simp only at h4 h5;subst h4;unfold World.shape? at h5;split at h5
   . rename_i c el fz hh;exact⟨b,o,len,cap,c,el,fz,rfl,hh⟩
   . cases h5
end
theorem GT{α:Type}{d:α}{Q:Nat->α->Prop}:∀{n:Nat},(∀i,i<n->∃a,Q i a)->∃l:List α,l.length=n/\∀i,i<n->Q i (l.getD i d)
 | 0,_=>⟨[],rfl,λi hi=>absurd hi (Nat.not_lt_zero _)⟩
 | n+1,h=>by
   obtain⟨l,hl,hq⟩:=GT (n:=n) (d:=d) λi hi=>h i (by omega);obtain⟨a,ha⟩:=h n (by omega);refine⟨l++[a],by simp[hl],λi hi=>?_⟩;by_cases e:i<n
   . have:=hq i e;rw[zAd]at this ⊢
     rwa [List.getElem?_append_left (by omega)]
   . obtain rfl:i=n:=by omega
     rw[zAd,List.getElem?_append_right (by omega),hl,Nat.sub_self];exact ha
theorem K3{i:Nat}:(⟨b,o,none⟩:Addr).add i=⟨b,o+i,none⟩:=by
 unfold Addr.add;split
 . rename_i h;subst h;rfl
 . rfl
theorem Ka{k:IntKind}{n:Int}(h:(Lit.int k n).wf):k.min<=n/\n<=k.max:=by
 unfold Lit.wf at h;simpa using h
theorem KR{i:Nat}(h:i<14+ws.length):(dQ (Cw cfg ws) ⟨0,[],[]⟩ i).isSome->False:=by
 intro hs;unfold dQ at hs;have:(Cw cfg ws).lo=14+ws.length:=rfl;rw[jT (by omega),cond_false]at hs;cases hs
theorem Dk{f:FuncId}{fn:Func}{av:List AV}(hfn:Tryz.prog.funcs[f]? = some fn)(h4:(fn.name == "runtime.NumGoroutine")=false)(h5:fn.body.isNone=false)(hf:bu Tryz.prog cfg f av ws (.b true) [])(hi:dX cfg (λid=>id<14+ws.length) m (Cw cfg ws) ⟨0,[],[]⟩ w)(ho:fM (λid=>id<14+ws.length) m av) :
 Calls Tryz.prog f (ap m av).toArray w λe w'=>e=.returned (.bool true)/\RowKit.Below w.heap.size w w':=by
 rcases hf _ m w hi ho with⟨_,h⟩|⟨v,w',hv,_⟩
 . refine h.mono ?_;rintro e w' ⟨v,rfl,D',m',rfl,_,he⟩;exact⟨rfl,he.os,he.k0,he.d0,he.i0,λk hk=>he.h0 k hk λi hi ho=>(KR hi ho).elim⟩
 . exfalso;have h6:¬fn.name = "runtime.NumGoroutine" := by simpa using h4
   have h7:¬fn.body=none:=λe=>by rw[e]at h5;cases h5
   simp[callFunc,hfn,h6,h7]at hv
def TY:Tryz.prog.cellsOf 23=2:=by kernel_rfl
def co5:Tryz.prog.cellsOf 5=1:=by kernel_rfl
def Zk:Tryz.prog.cellsOf 30=1:=by kernel_rfl
theorem Ju:∀{gs:List (Int×Int)} {i:Nat},i<gs.length->(js gs).getD (i*2+0) (.e [])=.a .u8 (gs.getD i (0,0)).1/\(js gs).getD (i*2+1) (.e [])=.a .u8 (gs.getD i (0,0)).2
 | [],i,h=>absurd h (Nat.not_lt_zero i)
 | p::r,0,_=>⟨rfl,rfl⟩
 | p::r,i+1,h=>by
   have:=Ju (gs:=r) (i:=i) (by simpa using h);rw[show(i+1)*2+0=i*2+0+1+1 by omega,show(i+1)*2+1=i*2+1+1+1 by omega];simp only[js,List.getD_cons_succ];exact this
section
variable{H:Type}{enc:TypeId×Value->H}{w:World}{sp:Nat->Bool}{held:Bool}
theorem Fj{fuel len:Nat}{x:DataW H×List MemPlace}(h:DataW.trod enc Tryz.prog w 0 sp held fuel 30 [.slice (some ⟨b,o,none⟩) len cap]=some x) :
 ∃gs:List (Int×Int),gs.length=len/\(∀p∈gs,(0<=p.1/\p.1<=255)/\(0<=p.2/\p.2<=255))/\∀m i v,(js gs)[i]? = some v->w.cell? ⟨b,o+i,none⟩=some (aj m v):=by
 rcases DataW.trod_slice Tryz.underlying30 h with⟨h1,_⟩|⟨a,len',cap',elems,rest,n,_,h1,_,_,_,_,hel,hat,_⟩
 . cases h1
 . cases h1;rw[TY]at hat;have main:∀i,i<len->∃p:Int×Int,((0<=p.1/\p.1<=255)/\(0<=p.2/\p.2<=255))/\w.cell? ⟨b,o+(i*2+0),none⟩=some (.int .u8 p.1)/\w.cell? ⟨b,o+(i*2+1),none⟩=some (.int .u8 p.2):=by
    intro i hi;have h3:=hat i hi;rw[List.getElem?_eq_getElem (by omega)]at h3;obtain⟨cs',hcs,htr⟩:=Option.bind_eq_some_iff.1 h3;obtain⟨xs,m',_,_,hl,hxl,hf⟩:=DataW.trod_array Tryz.underlying23 htr;rw[TY]at hl;rw[co5]at hf
    match cs',hl with
    | [u,v],_=>
      have f0:=hf 0 (by decide);have f1:=hf 1 (by decide);rw[List.getElem?_eq_getElem (by omega)]at f0 f1;obtain⟨a,ha,_,wa⟩:=DataW.trod_int Tryz.underlying5 f0;obtain⟨c,hc,_,wc⟩:=DataW.trod_int Tryz.underlying5 f1;cases ha;cases hc;obtain⟨_,_,hcell⟩:=World.cells?_some hcs;have g:∀j,j<2->w.cell? ⟨b,o+(i*2+j),none⟩=[Value.int .u8 a,.int .u8 c][j]? := λj hj=>by
       have:=hcell j hj;rw[K3,K3,Nat.add_assoc]at this;exact this
      exact⟨(a,c),⟨Ka wa,Ka wc⟩,g 0 (by omega),g 1 (by omega)⟩
   obtain⟨gs,hR,hq⟩:=GT (d:=((0:Int),(0:Int))) main;refine⟨gs,hR,λp hp=>?_,λm i v hv=>?_⟩
   . obtain⟨i,hi,rfl⟩:=List.getElem_of_mem hp;have:=(hq i (by omega)).1;rw[zAd,List.getElem?_eq_getElem hi]at this;exact this
   . have hi:i<gs.length*2:=by
      have:=(List.getElem?_eq_some_iff.1 hv).1
      rwa [nv]at this
     have hg:(js gs).getD i (.e [])=v:=by rw[zAd,hv];rfl
     obtain⟨f0,f1⟩:=Ju (gs:=gs) (i:=i/2) (by omega);obtain⟨_,q0,q1⟩:=hq (i/2) (by omega);have hc:i=i/2*2+0\/i=i/2*2+1:=by omega
     generalize i/2=q at *;rcases hc with rfl|rfl
     . rw[<-hg,Nat.add_zero,<-Nat.add_zero (q*2),f0];exact q0
     . rw[<-hg,f1];exact q1
theorem OO{q:FP}{len:Nat}{d:DataW H}{p:List MemPlace}(ht:DataW.Trod enc Tryz.prog w 0 (λ_=>true) true 32 (q.v (.slice (some ⟨b,o,none⟩) len cap)) d p) :
 ∃gs:List (Int×Int),gs.length=len/\(∀p∈gs,(0<=p.1/\p.1<=255)/\(0<=p.2/\p.2<=255))/\∀m i v,(js gs)[i]? = some v->w.cell? ⟨b,o+i,none⟩=some (aj m v):=by
 obtain⟨fuel,ht⟩:=ht;obtain⟨xs,n,_,_,_,hlen,hf⟩:=DataW.trod_struct Tryz.underlying32 ht;have h1:=hf 6 _ rfl;have hxl:xs.length=7:=hlen;rw[List.getElem?_eq_getElem (by omega)]at h1;change DataW.trod enc Tryz.prog w 0 (λ_=>true) true n 30 (List.take (Tryz.prog.cellsOf 30) _)=_ at h1;rw[Zk]at h1;exact Fj h1
end
theorem JZ(hi:dX cfg (λid=>id<14) m C0 ⟨0,[],[]⟩ w){L:List bv}(hL:M0 cfg.a0.n (λid=>id<14) m w L ws):dX cfg (λid=>id<14+ws.length) (mL cfg.a0.n m L) (Cw cfg ws) ⟨0,[],[]⟩ w:=by
 have h:=Lk dI.lv Az hi hL;have e:DL cfg.a0.n (λid=>id<14) L=λid=>id<14+ws.length:=by
  funext id
  unfold DL;have:=hL.1;have h14:cfg.a0.n=14:=rfl;rw[h14];exact propext ⟨λk=>by omega,λk=>by omega⟩
 rw[e]at h;exact h
theorem SM{l:bv}{L:List bv}:mL cfg.a0.n m (l::L) 14=l:=rfl
theorem N8{gs:List (Int×Int)}(hb:∃c e fz,w.heap[b]? = some (.cells c e fz))(hc:∀m i v,(js gs)[i]? = some v->w.cell? ⟨b,o+i,none⟩=some (aj m v)):JU cfg.a0.n (λid=>id<14) m w (.a (js gs) false none) ⟨b,o,0⟩:=by
 obtain⟨c,el,fz,hh⟩:=hb;refine⟨_,rfl,je,?_,c,el,fz,hh,λi v hv=>?_⟩
 . intro i hi;rw[pP]at hi;cases hi
 . have:=hc m i v hv;unfold World.cell? at this;simp only[hh]at this;exact this
theorem M9{cfg':cL}{f:FuncId}{args:List AV}{v:AV}(hG:cfg.G=cfg'.G)(hr:cfg.a0=cfg'.a0)(h:gM Tryz.prog cfg' f args v):gM Tryz.prog cfg f args v:=λC D m o w hi hok=>
 (h C D m o w (dX.to (cfg:=cfg) (cfg':=cfg') hG.symm hr.symm hi) hok).a0 λV w' ⟨h1,h2,h3,h4⟩=>⟨h1,h2,dw.to (cfg:=cfg') (cfg':=cfg) hG hr h3,h4⟩
end Go.Ev
end
section
namespace Go.Ev
open Go Go.Proofs
def jI(cs:List AV):List AV:=cs.reverse
def W6(C:bg)(o:aB)(id n:Nat):aD->Option (Tr (AV×aB))
 | .a cs true g=>some (aH [cs.all (bC .i64),Nat.beq cs.length n,Nat.ble n 1000] (.a0 (.e [],ea C o id (.a (jI cs) true g))))
 | _=>none
def Nd:FG:=λC args o=>match args with
 | [.c id 0 n _]=>ob (dQ C o id) (W6 C o id n)
 | _=>none
theorem z8:∀{cs vs:List AV},vs.length=cs.length->qh cs vs=some vs
 | [],[],_=>rfl
 | [],_::_,h=>by cases h
 | _::_,[],h=>by cases h
 | c::cs,v::vs,h=>by
   unfold qh;rw[z8 (by simpa using h)];rfl
theorem JB{cs vs:List AV}(h:vs.length=cs.length):tU cs 0 vs=some vs:=by
 unfold tU;cases cs<;>exact z8 h
theorem Fc{C:bg}{o:aB}{id:Nat}{cs:List AV}{g:Option Nat}(hx:dQ C o id=some (.a cs true g)):jO C o id 0 cs.reverse=some (ea C o id (.a (jI cs) true g)):=by
 unfold jO;rw[hx];simp only[ob,yr,JB (List.length_reverse),jI]
def Qt:bj tab 131=some (dH 131,aL 131):=by kernel_rfl
theorem Rj:tD Tryz.prog cfg 131 Nd:=by
 intro C args o t r ht hr;unfold Nd at ht;split at ht
 . rename_i id n K;rw[ag]at ht;obtain⟨x,hx,ht⟩:=ht;unfold W6 at ht;split at ht
   . rename_i cs g;cases ht;obtain⟨⟨h1,h2,h3,-⟩,hr⟩:=aF hr;rw[aJ]at h2;rw[al]at h3;have hw:=Fc (C:=C) (o:=o) hx;cases hr;refine⟨λD m w hi hok=>?_,λhl=>lx hw hl (by show id∈cI [.c id 0 n K] [0];simp[cI,ob,cW])⟩;have hid:D id:=((df.1 hok _ List.mem_cons_self) (id,fi n K) (by simp[aC])).1;have hob:=hi.a0 id hid;rw[fI hx]at hob;obtain⟨c,et,fz,hb,hc⟩:=hob;obtain rfl:=hc.a0 rfl;have ecs:=gV h1;have hlen:(d7 cs).length=cs.length:=m7;have hat:∀j,j<cs.length->w.cell? ⟨(m id).a0,(m id).b0+0+j,none⟩=some (.int .i64 ((d7 cs).getD j 0)):=λj hj=>by
      have h5:cs[j]? = some (.a .i64 ((d7 cs).getD j 0)):=by
       conv=>lhs;rw[<-ecs]
       unfold aI;rw[List.getElem?_map,zAd,List.getElem?_eq_getElem (by rw[hlen];exact hj)];rfl
      have h6:=hc.c0 j _ h5;rw[Nat.add_zero,Gl hb,h6];simp[aj]
     have hcall:=Tryz.slices_Reverse_int_cells (m id).a0 ((m id).b0+0) n (iR (m id) K) (d7 cs) w (by omega) (by omega) (λj hj=>hat j (by omega)) (λj hj=>by simp[World.frozen?,hb]);have ha:(ap m [.c id 0 n K]).toArray=#[.slice (some ⟨(m id).a0,(m id).b0+0,none⟩) n (iR (m id) K)]:=by simp[ap,aj]
     rw[ha];refine .inl ⟨LZ Qt _ w,hcall.mono λe w' ⟨he,q,hw'⟩=>?_⟩;have he1:=(kk hi (show RowKit.Below w.heap.size w (w.drewN q)from⟨rfl,rfl,rfl,Nat.le_refl _,λ_ _=>rfl⟩)).1;have hrev:fM D m cs.reverse:=df.2 λv hv=>df.1 hc.b0 v (List.mem_reverse.1 hv);have hone:dM cs.reverse=true:=jj.2 λv hv=>by
      have:=List.all_eq_true.1 h1 v (List.mem_reverse.1 hv);cases v<;>first|rfl|cases this
     obtain⟨w2,hst,hext⟩:=np (P:=Tryz.prog) he1.b0 hid hrev hone hw;have hcells:ap m cs.reverse=((d7 cs).take n).reverse.map (Value.int .i64):=by
      rw[List.take_of_length_le (by omega),d_]
      conv=>lhs;rw[<-ecs]
      unfold aI;rw[<-List.map_reverse,List.map_map];exact List.map_congr_left λx _=>by simp[aj]
     have hst2:=run_storeCells_cells (P:=Tryz.prog) (m id).a0 ((m id).b0+0) (ap m cs.reverse) 0 (w.drewN q) (λj hj=>by
      rw[b7,List.length_reverse]at hj;have:=hat j hj;rw[Nat.add_zero ((m id).b0+0)];rw[show(w.drewN q).cell? ⟨(m id).a0,(m id).b0+0+j,none⟩=w.cell? ⟨(m id).a0,(m id).b0+0+j,none⟩from rfl,this];rfl) (λj hj=>by
      show(w.drewN q).frozen? _=false;simp[World.frozen?,hb,show(w.drewN q).heap=w.heap from rfl]) (λv hv=>by
      rw[d_]at hv;obtain⟨u,hu,rfl⟩:=List.mem_map.1 hv;exact tB (jj.1 hone u hu))
     rw[hst2]at hst;have hst:=(Result.ok.inj hst).2;rw[hcells]at hst;simp only[Nat.add_zero]at hst;have e2:w2=w':=by rw[hw',<-hst,Nat.add_zero]
     rw[e2]at hext;refine⟨_,he,D,m,by simp[aj,ap],bM (by simp[aC,bw]),he1.c0 hext,λh=>?_⟩;exfalso;have h:cI [.c id 0 n K] [0]=[]:=h;simp[cI,ob,cW]at h
   . cases ht
 . cases ht
theorem SG{S:aQ}(hS:ak Tryz.prog cfg S):ak Tryz.prog cfg (eQ S 131 Nd):=bm hS Rj
end Go.Ev
end
