import Derived.LoopNIn
import Derived.RangeFuncRecord
import Derived.Test.YtcffhjfdlflbgaaGreatDoorP08
set_option linter.all false
open Option.some renaming injEq->ν
open Nat renaming le_refl->ξ
open List renaming mem_cons_of_mem->ο,mem_cons_self->ς
open Array renaming replicate->π
set_option linter.all false
set_option maxRecDepth 100000
set_option maxHeartbeats 4000000
namespace Go.Ev
open Go Go.RowKit
variable{i id:Nat}{ops:Array Oper}{D:Nat->Prop}{m:Nat->bv}{st st':St}{a:Act}{w:World}{draw:Bool}{C:bg}{o1 o2:aB}{ids:List Nat}{x:cD}{fn:Func}{c:Code}{args:List AV}{r:AV×aB}
theorem Ai{p q:Nat->Bool}(h:∀i,q i->p i):∀l:List Nat,l.countP q<=l.countP p
 | []=>by simp
 | x::l=>by
   have:=Ai h l;grind
theorem Ax{p q:Nat->Bool}(h:∀i,q i->p i){e:Nat}(hp:p e)(hq:q e=false):∀{l:List Nat},e∈l->l.countP q<l.countP p
 | [],he=>by grind
 | x::l,he=>by
   rw[List.countP_cons,List.countP_cons];rcases List.mem_cons.1 he with rfl|he
   . have:=Ai h l;grind
   . have:=Ax h hp hq he;grind
def rt(listed:Array Bool)(j:Nat):Prop:=listed.getD j false=true
theorem pJ(listed:Array Bool)(h:i<listed.size):listed.getD i true=listed.getD i false:=η
theorem FV{listed:Array Bool}(h:i<listed.size)(j:Nat):rt (listed.setIfInBounds i true) j↔rt listed j\/j=i:=by
 grind [rt,Array.getInternal_eq_getElem]
theorem tt{listed:Array Bool}(hs:listed.size=ops.size):i∈Region.ready .any ops listed↔i<ops.size/\¬rt listed i/\ly ops (rt listed) i:=by
 unfold Region.ready;rw[List.mem_filter,List.mem_range];constructor
 . rintro⟨hi,h⟩;rw[pJ listed δ]at h;have hop:ops[i]? = some ops[i]:=θ
   simp only[hop,Option.map_some,Option.getD_some,Bool.and_eq_true,Bool.not_eq_true']at h;refine⟨hi,by grind [rt],λo ho e he hb=>?_⟩;rw[hop]at ho;cases ho;have:=h.2;rw[<-Array.all_toList,List.all_eq_true]at this;grind [rt]
 . rintro⟨hi,h1,h2⟩;refine⟨hi,?_⟩;have hop:ops[i]? = some ops[i]:=θ
   rw[pJ listed δ];simp only[hop,Option.map_some,Option.getD_some,Bool.and_eq_true,Bool.not_eq_true'];refine⟨by grind [rt],?_⟩;rw[<-Array.all_toList,List.all_eq_true];intro e he;cases hb:Region.binds .any e with
   | false=>simp
   | true=>have:=h2 _ hop e he hb;grind [rt]
section
variable{P:Program}{T:fm}(hT:fH P T){cfg:cL}{call:bg->FuncId->List AV->aB->Option (AV×aB)}(hcall:jH P cfg True call)(hc:b8 cfg call){C:bg}{ops:Array Oper}{S:Nat->St}(hR:nQ T cfg call C ops S)(hA:Br cfg ops S)
 {D0:Nat->Prop} {m0:Nat->bv} {w0:World}
include hT hcall hc hR hA
theorem Ss{x:Option Nat}{Q:Exit->Act->World->Prop}(hq:∀D m a w,DI cfg C ops S D0 m0 w0 (λj=>j<ops.size) D m a w->Q .normal a w):∀(fuel:Nat) (listed:Array Bool),listed.size=ops.size->((List.range ops.size).countP λi=>!listed.getD i true)<=fuel->
 (∀j,rt listed j->ly ops (rt listed) j)->∀{D:Nat->Prop} {m:Nat->bv} {a:Act} {w:World},DI cfg C ops S D0 m0 w0 (rt listed) D m a w->wpAnyIn (FR x) 0 P .any ops Q fuel listed a w:=by
 have fin:∀(listed:Array Bool),listed.size=ops.size->Region.ready .any ops listed=[]->∀{D:Nat->Prop} {m:Nat->bv} {a:Act} {w:World},DI cfg C ops S D0 m0 w0 (rt listed) D m a w->Q .normal a w:=by
  intro listed hs hr D m a w h;have hall:∀j,j<ops.size->rt listed j:=by
   intro j;induction j using Nat.strongRecOn with
   | ind j ih=>
     intro hj;refine Classical.byContradiction λhn=>?_;have:j∈Region.ready .any ops listed:=(tt hs).2 ⟨hj,hn,λo ho e he hb=>by
      have:=hA.b0 j o ho e he hb;exact ih e.on this δ⟩
     rw[hr]at this;cases this
  have heq:rt listed=λj=>j<ops.size:=funext λj=>propext ⟨λhh=>(by
   refine Classical.byContradiction λhn=>?_;unfold rt at hh;simp only[Array.getD]at hh;rw[dif_neg δ]at hh;cases hh),hall j⟩
  rw[heq]at h;exact hq D m a w h
 intro fuel;induction fuel with
 | zero=>
   intro listed hs hcnt hd D m a w h;have hr:Region.ready .any ops listed=[]:=by
    rw[List.eq_nil_iff_forall_not_mem];intro i hi;obtain⟨h1,h2,_⟩:=(tt hs).1 hi;have:0<(List.range ops.size).countP λi=>!listed.getD i true:=List.countP_pos_iff.2 ⟨i,List.mem_range.2 h1,by rw[pJ listed δ];unfold rt at h2;simpa using h2⟩;omega
   exact⟨hr,fin listed hs hr h⟩
 | succ fuel ih=>
   intro listed hs hcnt hd D m a w h;refine⟨λhr=>fin listed hs hr h,λi hi=>?_⟩;obtain⟨h1,h2,h3⟩:=(tt hs).1 hi;have hset:rt (listed.setIfInBounds i true)=λj=>rt listed j\/j=i:=funext λj=>propext (FV δ j);refine HO hT hcall hc hR hA h hd h1 h2 h3 λD2 m2 a2 w2 h'=>?_;refine ih (listed.setIfInBounds i true) (by simp[hs]) ?_ ?_ (by rw[hset];exact h')
   . have hlt:(List.range ops.size).countP (λj=>!(listed.setIfInBounds i true).getD j true)<(List.range ops.size).countP (λj=>!listed.getD j true):=by
      refine Ax (e:=i) (λj hj=>?_) ?_ ?_ (List.mem_range.2 h1)
      . by_cases hjs:j<listed.size
        . rw[pJ _ (by simpa using hjs)]at hj;rw[pJ _ hjs];have:¬rt (listed.setIfInBounds i true) j:=by unfold rt;simpa using hj
          rw[FV δ]at this;have:¬rt listed j:=λhh=>this (.inl hh);unfold rt at this;simpa using this
        . grind
      . rw[pJ _ δ];unfold rt at h2;simpa using h2
      . simp_all
     omega
   . intro j hj o ho e he hb;rw[hset]at hj ⊢;rcases hj with hj|rfl
     . exact .inl (hd j hj o ho e he hb)
     . exact .inl (h3 o ho e he hb)
end
section
variable{P:Program}{T:fm}(hT:fH P T)(hm:P.follows .mixedOrders){cfg:cL}{C:bg}{call:bg->FuncId->List AV->aB->Option (AV×aB)}(hcall:jH P cfg True call)(hc:b8 cfg call)
include hT hm hcall hc
theorem ND{x:Option Nat}{rnd:bg->Nat->List AV->aB->Option (AV×aB)}{callI:bg->FuncId->List AV->aB->Option (AV×aB)}{Q:Exit->Act->World->Prop}(hi:dX cfg D m C st.o w)(ht:TR D m st a)(h:kg T cfg call rnd C callI ops true st=some st')
 (hq:∀D' m' a' w',TR D' m' st' a'->dw cfg C D m st.o w D' m' st'.o w'->Q .normal a' w'):(Code.region id ops true).wpIn (FR x) 0 P Q a w:=by
 simp only[kg,cond_true,ag,aA,ν]at h;obtain⟨acc,hs,r,hd,hap,rfl⟩:=h;obtain⟨S,h0,hn,hst,_⟩:=Al θ hd;rw[Nat.zero_add]at hn;have hlen:ops.toList.length=ops.size:=θ
 rw[hlen]at hn;have hst':∀k,k<ops.size->z6 T cfg call C ops S k/\(k,du cfg ops S k)∈r.2:=λk hk=>hst k (Nat.zero_le _) δ;have hR:nQ T cfg call C ops S:=⟨λk hk=>(hst' k hk).1,by rw[h0];exact hi.e0,by rw[h0];exact hi.le,hi.lo,λg hg=>by rw[h0];exact hi.lt g (hi.c0 g hg).1⟩;have hA:Br cfg ops S:=agn hs (λk hk=>(hst' k hk).2) hap;refine wpIn_region_any hm (Ss hT hcall hc hR hA (D0:=D) (m0:=m) (w0:=w) (λD' m' a' w' hdi=>?_) ops.size _ θ ?_ ?_ (D:=D) (m:=m) ?_)
 . have hbd:∀i,D' i->i<C.lo+(S ops.size).o.n:=λi hi'=>by
    rcases hdi.c0 i hi' with h5|⟨e,_,he,_,h7⟩
    . have:=hR.a0 hc (k:=0) (k':=ops.size) δ δ;omega
    . have:=hR.a0 hc (k:=e+1) (k':=ops.size) δ δ;omega
   have hall:∀i,jB cfg ops S (λj=>j<ops.size) i ops.size:=λi j hj _=>⟨λ_=>hj,λ_=>hj⟩;have hallt:∀t,DY ops (λj=>j<ops.size) t ops.size:=λi j hj _=>⟨λ_=>hj,λ_=>hj⟩;have htr:TR D' m' (S ops.size) a':=⟨by rw[hdi.sz,hR.tn _ (ξ _)],λt=>(hdi.f0 t _ (ξ _) (hallt t)).1,λt=>(hdi.f0 t _ (ξ _) (hallt t)).2.a0 (λi hi'=>hi'.1) λ_ _=>rfl,by rw[hdi.b0,(hR.ds _ (ξ _)).1,iK (D:=D) (by rw[h0];exact ht.e0) hdi.mv.c0],λd hd=>hdi.mv.e0 d (by rw[(hR.ds _ (ξ _)).1,h0]at hd;exact ht.e0 d hd),λi hi'=>hdi.mv.e0 i (by rw[(hR.ds _ (ξ _)).2,h0]at hi';exact ht.f0 i hi')⟩;have hinv:dX cfg D' m' C (S ops.size).o w':=by
    refine⟨λi hi'=>(hdi.e0 i _ (ξ _) hi' (hbd i hi') (hall i)).b0 (λj hj=>hj.1) λ_ _=>rfl,λi j hi' hj' hij hl hr=>hdi.inj i j _ (ξ _) hi' hj' (hbd i hi') (hbd j hj') (hall i) (hall j) hij hl hr,hbd,hdi.d0,λi hi'=>?_,λi hi'=>?_,hR.lo,hR.i0 hc _ (ξ _)⟩
    . exact⟨(hdi.a0 i hi').1,by rw[hR.e0 hc _ (ξ _) hi'];exact(hdi.a0 i hi').2⟩
    . rw[hR.le hc _ (ξ _)]at hi';exact hR.k0 i hi'
   rw[hn]at htr hinv;have hmv:=hdi.mv;rw[h0]at hmv;have hgrow:=hR.a0 hc (k:=0) (k':=ops.size) δ δ;have hle:=hR.le hc ops.size (ξ _);rw[h0,hn]at hgrow hle;exact hq D' m' a' w' htr ⟨hinv,hmv.e0,hmv.c0,hmv.h0,hgrow,hmv.os,hmv.g0,hmv.d0,hmv.a0,hmv.f0,hle,hmv.b0⟩
 . grind [List.countP_le_length]
 . simp[rt,Array.getD]
 . have hno:∀j,¬rt (π ops.size false) j:=λj hj=>by
    simp_all [rt,Array.getD]
   have cT:∀t k,k<=ops.size->DY ops (rt (π ops.size false)) t k->(S k).ts.b0 t=st.ts.b0 t:=λt k hk hct=>by
    rw[<-h0];exact hR.n0 δ hk λj _ hj hjt=>hno j ((hct j δ hjt).2 hj)
   have cB:∀i k,k<=ops.size->D i->jB cfg ops S (rt (π ops.size false)) i k->fB C (S k).o i=fB C st.o i:=λi k hk hdi hcb=>by
    have:=hi.lt i hdi;have:=hR.c0 hc (k:=0) (k':=k) (i:=i) δ hk η λj _ hj hw=>hno j ((hcb j δ hw).2 hj);grind
   have bel:∀k,k<=ops.size->∀i,D i->zv C S D k i:=λk hk i hdi=>⟨hdi,by
    have:=hi.lt i hdi;have h1:=hR.a0 hc (k:=0) (k':=k) δ hk;grind⟩
   refine{ sz:=by rw[h0];exact ht.b0,b0:=by rw[h0];exact ht.a0,f0:=λt k hk hct=>?_,e0:=λi k hk hdi _ hcb=>?_,inj:=λi j k hk hdi hdj _ _ hci hcj hij hl hr=>?_,c0:=λi hdi=>.inl (by rw[h0];exact hi.lt i hdi),wr:=λj i hj=>absurd hj (hno j),d0:=hi.c0,a0:=λi hid=>by rw[h0];exact hi.b0 i hid,mv:=?_ }
   . rw[cT t k hk hct];exact⟨ht.d0 t,(ht.c0 t).a0 (bel k hk) λ_ _=>rfl⟩
   . rw[cB i k hk hdi hcb];exact(hi.a0 i hdi).b0 (bel k hk) λ_ _=>rfl
   . rw[cB i k hk hdi hci]at hl;rw[cB j k hk hdj hcj]at hr;exact hi.inj i j hdi hdj hij hl hr
   . exact⟨λ_ hh=>hh,λ_ _=>rfl,λ_ hh=>.inl hh,rfl,rfl,rfl,ξ _,λ_ _ _=>rfl,λi hh hn=>absurd hh hn⟩
theorem Ik{x:Option Nat}{rnd:bg->Nat->List AV->aB->Option (AV×aB)}{callI:bg->FuncId->List AV->aB->Option (AV×aB)}(hcI:jH P cfg False callI)(hrI:CN P cfg False rnd){Q:Exit->Act->World->Prop}(hi:dX cfg D m C st.o w)(ht:TR D m st a)(h:kg T cfg call rnd C callI ops draw st=some st')
 (hq:∀D' m' a' w',TR D' m' st' a'->dw cfg C D m st.o w D' m' st'.o w'->Q .normal a' w'):(Code.region id ops draw).wpIn (FR x) 0 P Q a w:=by
 cases draw with
 | true=>grind [ND]
 | false=>
   simp only[kg,cond_false]at h;refine wpIn_region ?_;have:=FA hT hcI hrI (Q:=Q) (x:=x) ops.toList 0 θ hi ht h hq;grind [List.range_eq_range']
end
def grown(o1 o:aB):aB:=⟨o1.n+o.n,o1.os++o.os,o.le⟩
theorem ta{o:aB}(hl:o1.os.length=o1.n)(hi:i<C.lo+o.n):fB C (grown o1 o) i=fB C o i:=by
 grind [fB,gB,grown,aB.at,jT]
theorem AE{o:aB}(hl:o1.os.length=o1.n)(h1:C.lo+o.n<=i)(h2:i<C.lo+o.n+o1.n):fB C (grown o1 o) i=o1.at (i-(C.lo+o.n)):=by
 grind [fB,gB,eK,grown,aB.at]
theorem fh.f0{o:aB}(hl:o.os.length=o.n)(hl1:o1.os.length=o1.n):fh C o (grown o1 o) ids:=
 ⟨by simp[Ev.grown],rfl,by grind [Ev.grown],λ_ i hi _=>ta hl1 hi⟩
theorem xp{C:bg}{ids:List Nat}:∀{l:List (Nat×cD)} {o:aB},o.os.length=o.n->(∀p∈l,p.1∈ids)->fh C o (p8 C o l) ids
 | [],o,hl,_=>.a0 hl
 | p::l,o,hl,h=>by
   rw[p8];exact(fh.d0 hl (h p ς)).e0 (xp (aa4 hl) λq hq=>h q (ο _ hq))
theorem jg{C:bg}{o:aB}:∀{ids:List Nat} {p:Nat×cD},p∈gy C o ids->p.1∈ids/\dQ C o p.1=some p.2
 | [],p,h=>by cases h
 | id::ids,p,h=>by
   rw[gy]at h;have rec':p∈gy C o ids->p.1∈id::ids/\dQ C o p.1=some p.2:=λh=>⟨ο _ (jg h).1,(jg h).2⟩;grind
theorem aaz{C:bg}{o:aB}:∀{ids:List Nat},((gy C o ids).map (·.1)).Nodup
 | []=>by simp[gy]
 | id::ids=>by
   rw[gy];cases hm:vH id ids with
   | true=>rw[cond_true];exact aaz
   | false=>
     rw[cond_false];cases hx:dQ C o id with
     | none=>exact aaz
     | some x=>
       simp only[List.map_cons,List.nodup_cons];refine⟨λhin=>?_,aaz⟩;obtain⟨p,hp,e⟩:=List.mem_map.1 hin;grind [jg,acp]
def LL(o o':aB):Prop:=o.os.length=o.n->o'.os.length=o'.n/\o'.le.map (·.1)=o.le.map (·.1)
theorem LL.b0(o:aB):LL o o:=λh=>⟨h,rfl⟩
theorem LL.a0{o:aB}(h:LL o o1)(k:LL o1 o2):LL o o2:=λhl=>⟨(k (h hl).1).1,(k (h hl).1).2.trans (h hl).2⟩
theorem LL.d0{o:aB}:LL o (lD C o id x):=λh=>⟨aa4 h,qM⟩
theorem LL.e0{o:aB}:LL o (o.a0 x):=λh=>⟨by simp[aB.a0,h],rfl⟩
theorem LL.c0{o o':aB}(h:o.os.length=o.n->fh C o o' ids):LL o o':=λhl=>⟨(h hl).h0,(h hl).le⟩
def mQ(code:bg->Code->St->Option (AX×St)):Prop:=∀C c st r,code C c st=some r->LL st.o r.2.o/\r.2.ro=st.ro
def Bz(call:bg->FuncId->List AV->aB->Option (AV×aB)):Prop:=∀C f args o r,call C f args o=some r->LL o r.2
def Gk(rnd:bg->Nat->List AV->aB->Option (AV×aB)):Prop:=∀C id args o r,rnd C id args o=some r->LL o r.2
theorem AI{C:bg}:∀{ds:List Nat} {o o':aB},qQ C o ds=some o'->LL o o'
 | [],o,o',h=>by cases h;exact .b0 o
 | d::ds,o,o',h=>by
   unfold qQ at h;split at h
   . exact LL.d0.a0 (AI h)
   grind
section
variable{T:fm}{cfg:cL}{code:bg->Code->St->Option (AX×St)}
theorem vM{o0:aB}(h:lI T code C fn c args o0=some r) :
 args.length<=1000/\∃x o vs,code C c (jS fn args o0)=some x/\(∀id,x.1≠.b id)/\qQ C x.2.o x.2.ds=some o/\DK T C ⟨x.2.ts,x.2.tn,o,[],none⟩ fn.results.toList=some vs/\r=(w_ vs,o):=by
 grind [lI,aA,ag,eK,wj]
theorem abs(hll:mQ code){o0:aB}(h:lI T code C fn c args o0=some r):LL o0 r.2:=by
 obtain⟨_,x,o,vs,hx,_,hm,_,rfl⟩:=vM h;exact(hll _ _ _ _ hx).1.a0 (AI hm)
theorem yx(hll:mQ code){o:aB}(h:A9 T code C fn c args o (gy C o ids)=some r)(hl:o.os.length=o.n):fh C o r.2 ids:=by
 simp only[A9,ag,ν]at h;obtain⟨r1,he,rfl⟩:=h;obtain⟨h1,h2⟩:=abs hll he rfl;have hg:fh C o (grown r1.2 o) ids:=.f0 hl h1;unfold Cg;split
 . cases rD (C.lo+o.n) 20 r1.1 with
   | true=>exact .a0 hl
   | false=>exact hg
 . refine hg.e0 (xp hg.h0 λp hp=>?_);have:p.1∈(gy C o ids).map (·.1):=by
    grind
   obtain⟨q,hq,e⟩:=List.mem_map.1 this;rw[<-e];exact(jg hq).1
theorem yH(horc:b8 cfg λC f args o=>cfg.c0 f C args o)(hll:mQ code):b8 cfg (aaB T cfg false code):=by
 intro C f args o r h hl;unfold aaB at h;cases ho:cfg.c0 f C args o with
 | some r'=>
   rw[ho]at h;cases h;exact horc C f args o r ho hl
 | none=>
   rw[ho]at h;simp only[D6,ag]at h;obtain⟨fc,_,h⟩:=h;cases hb:(cfg.d0 f&&bc cfg.a0.n args)with
   | true=>
     simp only[hb,cond_true,ag,ν]at h;obtain⟨v,_,rfl⟩:=h;exact .a0 hl
   | false=>
     grind [DZ,yx]
theorem Jz{inl:Bool}(horc:b8 cfg λC f args o=>cfg.c0 f C args o)(hll:mQ code):Bz (aaB T cfg inl code):=by
 intro C f args o r h;unfold aaB at h;cases ho:cfg.c0 f C args o with
 | some r'=>
   rw[ho]at h;cases h;exact .c0 λhl=>horc C f args o r ho hl
 | none=>
   rw[ho]at h;simp only[D6,ag]at h;obtain⟨fc,_,h⟩:=h;cases hb:(cfg.d0 f&&bc cfg.a0.n args)with
   | true=>
     simp only[hb,cond_true,ag,ν]at h;obtain⟨v,_,rfl⟩:=h;exact .b0 _
   | false=>
     simp only[hb,cond_false,DZ]at h;cases hy:(inl&&Dx args)with
     | true=>grind [abs]
     | false=>rw[hy,cond_false]at h;exact .c0 λhl=>yx hll h hl
theorem Jr(cf:cL){call:bg->FuncId->List AV->aB->Option (AV×aB)}(hc:Bz call){rnd:bg->Nat->List AV->aB->Option (AV×aB)}(hr:Gk rnd){ρ:Operand->Option AV}{o:aB}{op:Op}(h:gQ T call rnd C ρ o op=some r):LL o r.2:=by
 have other:gQ T (λ_ _ _ _=>none) tP C ρ o op=some r->LL o r.2:=λh'=>.c0 λhl=>qT (cfg:=cf) (λC f args o r h=>by grind) h' hl;cases op with
 | call c=>
   unfold gQ sQ at h;unfold gQ sQ at other;cases hcal:c.callee with
   | value f=>
     simp only[hcal,ag]at h;obtain⟨fv,hf,vs,hvs,h⟩:=h;cases fv<;>simp only[G_,reduceCtorEq]at h
     . exact hc _ _ _ _ _ h
     . exact hr _ _ _ _ _ h
   | builtin b=>grind
   | invoke x n=>grind
 | _=>exact other h
theorem BT{call:bg->FuncId->List AV->aB->Option (AV×aB)}(hc:Bz call){rnd:bg->Nat->List AV->aB->Option (AV×aB)}(hr:Gk rnd){C:bg}{ops:Array Oper}:∀{l:List Oper} {st st':St},CJ T cfg call rnd C ops l st=some st'->LL st.o st'.o/\st'.ro=st.ro
 | [],st,st',h=>by cases h;exact⟨.b0 _,rfl⟩
 | oo::rest,st,st',h=>by
   simp only[CJ,ag]at h;obtain⟨st1,hs,h⟩:=h;cases hw:eI ops st.ts oo.guard with
   | true=>
     simp only[hw,cond_true,ag]at hs;obtain⟨r,hr',hp⟩:=hs;have hf:=Jr cfg hc hr hr';rw[<-(h_ hp).2.1]at hf;obtain⟨a,b⟩:=BT hc hr h;exact⟨hf.a0 a,b.trans (o9 hp).2⟩
   | false=>
     simp only[hw,cond_false]at hs;have e:=(h_ hs).2.1;obtain⟨a,b⟩:=BT hc hr h;rw[e]at a;exact⟨a,b.trans (o9 hs).2⟩
theorem yP{call:bg->FuncId->List AV->aB->Option (AV×aB)}(hc:b8 cfg call){C:bg}{ops:Array Oper}:∀{l:List Oper} {i:Nat} {st:St} {log:List (Nat×gD)} {r:St×List (Nat×gD)},qo T cfg call C ops i l st log=some r->LL st.o r.1.o/\r.1.ro=st.ro
 | [],i,st,log,r,h=>by cases h;exact⟨.b0 _,rfl⟩
 | oo::rest,i,st,log,r,h=>by
   unfold qo at h;cases hw:eI ops st.ts oo.guard with
   | true=>
     simp only[hw,cond_true,ag,aA]at h;obtain⟨q,hr,st1,hp,_,h⟩:=h;have hf:LL st.o q.2:=.c0 λhl=>qT hc hr hl;rw[<-(h_ hp).2.1]at hf;obtain⟨a,b⟩:=yP hc h;exact⟨hf.a0 a,b.trans (o9 hp).2⟩
   | false=>
     simp only[hw,cond_false,ag]at h;obtain⟨st1,hs,h⟩:=h;have e:=(h_ hs).2.1;obtain⟨a,b⟩:=yP hc h;rw[e]at a;exact⟨a,b.trans (o9 hs).2⟩
theorem EJ{call callI:bg->FuncId->List AV->aB->Option (AV×aB)}(hc:b8 cfg call)(hcI:Bz callI){rnd:bg->Nat->List AV->aB->Option (AV×aB)}(hr:Gk rnd)(h:kg T cfg call rnd C callI ops draw st=some st'):LL st.o st'.o/\st'.ro=st.ro:=by
 cases draw with
 | true=>
   simp only[kg,cond_true,ag,aA,ν]at h;obtain⟨acc,hs,r,hd,hap,rfl⟩:=h;exact yP hc hd
 | false=>exact BT hcI hr h
theorem im{o:aB}{r:AK}(h:qw C o id=some r):dQ C o id=some (.c r):=by
 grind [qw]
theorem H5(hll:mQ code):Gk (qJ code):=by
 intro C id args o r h;simp only[qJ,ag]at h;obtain⟨q,_,ts,_,x,hx,h⟩:=h;simp only[oO,aA,ag]at h;obtain⟨_,q1,_,_,x2,hx2,h⟩:=h;simp only[u_,ag,ν]at h;obtain⟨q2,_,rfl⟩:=h;exact(((hll _ _ _ _ hx).1.a0 LL.d0).a0 (hll _ _ _ _ hx2).1).a0 LL.d0
theorem Gp{f:St->Option (AX×St)}{x r:AX×St}(h:v_ f x=some r)(hx:LL st.o x.2.o/\x.2.ro=st.ro)(hf:∀st r,f st=some r->LL st.o r.2.o/\r.2.ro=st.ro) :
 LL st.o r.2.o/\r.2.ro=st.ro:=by
 unfold v_ at h;split at h
 . obtain⟨a,b⟩:=hf _ _ h;exact⟨hx.1.a0 a,b.trans hx.2⟩
 grind
theorem px(horc:b8 cfg λC f args o=>cfg.c0 f C args o):∀n,mQ (eZ T cfg n)
 | 0,C,c,st,r,h=>by cases h
 | n+1,C,c,st,r,h=>by
   have ih:=px horc n;unfold eZ at h;cases c<;>simp only[fN]at h
   case skip=>cases h;exact⟨.b0 _,rfl⟩
   case label=>cases h;exact⟨.b0 _,rfl⟩
   case seq a b=>
    simp only[Nk,ag]at h;obtain⟨x,hx,h⟩:=h;exact Gp h (ih _ _ _ _ hx) λst r=>ih _ _ st r
   case cond c a b=>
    simp only[Ho,ag]at h;obtain⟨v,hv,h⟩:=h;unfold Kl at h;split at h
    . exact ih _ _ _ _ h
    . exact ih _ _ _ _ h
    grind
   case block id b=>
    simp only[Bq,ag,ν]at h;obtain⟨x,hx,rfl⟩:=h;have:=ih _ _ _ _ hx;grind [lQ]
   case loop b=>
    simp only[G2,ag]at h;obtain⟨x,hx,h⟩:=h;exact Gp h (ih _ _ _ _ hx) λst r=>ih _ _ st r
   case scope b=>exact ih _ _ _ _ h
   case exit=>cases h;exact⟨.b0 _,rfl⟩
   case ret=>cases h;exact⟨.b0 _,rfl⟩
   case region id ops draw=>
    grind [sD,ag,EJ,yH,Jz,H5]
   case rangeFunc g ps assign body=>
    simp only[Bj,ag]at h;obtain⟨gv,_,e,he,x,hx,h⟩:=h;simp only[xX,ag,aA,ν]at h;obtain⟨q,_,_,ax,_,rfl⟩:=h;have h1:LL st.o e.2.1:=by
     unfold aaS at he;split at he
     . grind [LL.e0]
     . simp only[ag,ν]at he;obtain⟨_,_,rfl⟩:=he;exact .b0 _
    have h2:LL (e.2.1.a0 (.c ⟨.ready,none,st.ts,st.tn,ps,assign,body,e.1⟩)) x.2:=by
     cases gv<;>simp only[yv,reduceCtorEq]at hx;grind [ag,abs]
    exact⟨((h1.a0 LL.e0).a0 h2).a0 LL.d0,rfl⟩
   all_goals cases h
end
def lH:AX->Exit
 | .a=>.normal
 | .b id=>.exit id
 | .c=>.ret
def y6(P:Program)(cfg:cL)(code:bg->Code->St->Option (AX×St)):Prop:=
 ∀C c st r,code C c st=some r->∀D m a w,dX cfg D m C st.o w->TR D m st a->∀Q:Exit->Act->World->Prop,
  (∀D' m' a' w',TR D' m' r.2 a'->dw cfg C D m st.o w D' m' r.2.o w'->Q (lH r.1) a' w')->c.wpIn (FR (wo m st.ro)) 0 P Q a w
def HL:cD->List (Nat×Nat)
 | .a cs _ _=>bw cs
 | .f es=>bw (es.map (·.1))++bw (es.map (·.2))
 | _=>[]
def yu:cD->Bool
 | .c _=>false
 | _=>true
structure qX(cfg:cL):Prop where
 a0:∀id,id<cfg.a0.n->yu (cfg.a0.at id)=true
 G:cfg.G<=cfg.a0.n
 b0:∀id,id<cfg.a0.n->∀i∈HL (cfg.a0.at id),i.1<cfg.a0.n
theorem fX.c0{D':Nat->Prop}{l:bv}{b:Option Obj}(h:fX D m l x b)(hl:yu x)(hi:∀i∈HL x,D i.1->D' i.1):fX D' m l x b:=by
 cases x with
 | b=>trivial
 | a cs rw g=>
   obtain⟨c,e,fz,hb,hc⟩:=h;exact⟨c,e,fz,hb,hc.d0,λi hm=>⟨hi i hm (hc.a0 i hm).1,(hc.a0 i hm).2⟩,hc.c0,hc.b0⟩
 | f es=>
   obtain⟨en,ck,hb,he,ho⟩:=h;refine⟨en,ck,hb,he,λe hm=>⟨λi hi'=>⟨hi i ?_ ((ho e hm).1 i hi').1,((ho e hm).1 i hi').2⟩,λi hi'=>⟨hi i ?_ ((ho e hm).2 i hi').1,((ho e hm).2 i hi').2⟩⟩⟩<;>grind [HL,ga]
 | d s pos=>exact h
 | c r=>grind [yu]
 | e=>exact h
theorem mD{lo:Nat}:∀(d:Nat) {v:AV},rD lo d v->∀i∈aC v,i.1<lo
 | 0,v,h=>by cases h
 | d+1,v,h=>by
   have key:∀vs:List AV,vs.all (rD lo d)->∀i∈bw vs,i.1<lo:=λvs hv i hi=>by
    obtain⟨v,hvm,hi⟩:=ga.1 hi;exact mD d (List.all_eq_true.1 hv v hvm) i hi
   unfold rD at h;cases v<;>simp only at h<;>intro i hi<;>simp only[aC]at hi
   case h=>grind [aU]
   case b=>grind [aU]
   case q=>grind [aU]
   case m=>grind [aU]
   case i=>
    grind
   case l=>exact mD d h i hi
   case g=>grind
   case c=>grind
   all_goals grind
theorem abm{lo:Nat}{vs:List AV}(h:bc lo vs):∀i∈bw vs,i.1<lo:=λi hi=>by
 obtain⟨v,hvm,hi⟩:=ga.1 hi;exact mD 20 (List.all_eq_true.1 h v hvm) i hi
theorem y9{cfg:cL}{C1:bg}{D1 D':Nat->Prop}{m':Nat->bv}{o:aB}{w':World}(hi:dX cfg D m C o w)(hx:dw cfg C1 D1 m o1 w D' m' o2 w')(hD:∀i,D1 i->D i)
 (hn:∀i,D1 i->(dQ C1 o1 i).isSome->False) {v:AV} (hv:dh D' m' v) (hb:∀i∈aC v,D' i.1->D1 i.1):aj m' v=aj m v/\dh D m v/\dw cfg C D m o w D m o w'/\aa9 D w D m w':=by
 have hf:∀k,k<w.heap.size->w'.heap[k]? = w.heap[k]? := λk hk=>hx.f0 k hk λi hi' hs=>(hn i hi' hs).elim;have hsame:∀i∈aC v,m' i.1=m i.1:=λi hm=>hx.a0 i.1 (hb i hm (hv i hm).1);refine⟨ja v hsame,λi hm=>⟨hD _ (hb i hm (hv i hm).1),by rw[<-hsame i hm];exact(hv i hm).2⟩,?_,hf,λi h1 h2=>absurd h1 h2⟩;exact⟨hi.d0 λj hj hl=>hf _ ((hi.a0 j hj).a0 hl),λ_ h=>h,λ_ _=>rfl,λ_ h=>.inl h,ξ _,hx.os,hx.j0,hx.c0,hx.i0,λk hk _=>hf k hk,rfl,λi h1 h2=>absurd h1 h2⟩
theorem Au{C:bg}:∀{l:List (Nat×cD)} {o:aB} {i:Nat},o.os.length=o.n->(l.map (·.1)).Nodup->(∀p∈l,p.1<C.lo+o.n/\(dQ C o p.1).isSome=true)->i<C.lo+o.n->
 fB C (p8 C o l) i=(match fp l i with
  | some x=>x
  | none=>fB C o i)
 | [],o,i,_,_,_,_=>rfl
 | p::l,o,i,hl,hnd,hp,hi=>by
   obtain⟨hp1,hp2⟩:=hp p ς;simp only[List.map_cons,List.nodup_cons]at hnd;rw[p8,Au (aa4 hl) hnd.2 (λq hq=>by grind [vJ,ig,qM]) (by rw[vJ];omega)];grind [fp,eY,wZ,ic]
theorem F7{C:bg}:∀{l:List (Nat×cD)} {o:aB},(p8 C o l).n=o.n/\(p8 C o l).le.map (·.1)=o.le.map (·.1)/\(o.os.length=o.n->(p8 C o l).os.length=(p8 C o l).n)
 | [],o=>⟨rfl,rfl,λh=>h⟩
 | p::l,o=>by
   obtain⟨a,b,c⟩:=F7 (C:=C) (l:=l) (o:=lD C o p.1 p.2);exact⟨a.trans vJ,b.trans qM,λh=>c (aa4 h)⟩
def AD(tmps:Array Value):ResultVar->Sem Value
 | .tmp t=>pure (tmps.getD t undef)
 | .cell a t=>do loadVar t (<-asAddr (tmps.getD a undef))
theorem Fq(fn:Func)(tmps:Array Value):results fn tmps=(do
 let vs <-fn.results.mapM (AD tmps)
 pure (if h:vs.size=1 then vs[0]else .tuple vs)):=by
 rfl
section
variable{P:Program}{T:fm}(hT:fH P T){cfg:cL}{code:bg->Code->St->Option (AX×St)}(hcode:y6 P cfg code)
include hT
theorem oD{C:bg}{D:Nat->Prop}{m:Nat->bv}{st:St}{a:Act}{w:World}(hi:dX cfg D m C st.o w)(ht:TR D m st a):∀{l:List ResultVar} {vs:List AV},DK T C st l=some vs->
 (l.mapM (AD a.tmps)).run P w=.ok (ap m vs) w/\fM D m vs
 | [],vs,h=>by cases h;simp[ap,fQ]
 | .tmp t::rest,vs,h=>by
   simp only[DK,ag,ν]at h;obtain⟨vs',hvs,rfl⟩:=h;obtain⟨h1,h2⟩:=oD hi ht hvs;refine⟨?_,fE.2 ⟨ht.c0 t,h2⟩⟩;simp only[List.mapM_cons,AD,Sem.run_bind,Sem.run_pure,Result.andThen_ok,h1,ht.d0 t,ap]
 | .cell b t::rest,vs,h=>by
   simp only[DK,ag,ν]at h;obtain⟨v,hv,vs',hvs,rfl⟩:=h;obtain⟨h1,h2⟩:=oD hi ht hvs;obtain⟨ad,hc,hr,hok⟩:=AB hT hi (ht.c0 b) hv;refine⟨?_,fE.2 ⟨hok,h2⟩⟩;have ha:(asAddr (aj m (st.ts.b0 b))).run P w=.ok ad w:=by rw[hc];rfl
   simp only[List.mapM_cons,AD,Sem.run_bind,Sem.run_pure,Result.andThen_ok,ht.d0 b,ha,hr,h1,ap]
theorem xw(hi:dX cfg D m C st.o w)(ht:TR D m st a){vs:List AV}(h:DK T C st fn.results.toList=some vs) :
 (results fn a.tmps).run P w=.ok (aj m (w_ vs)) w/\dh D m (w_ vs):=by
 obtain⟨h1,h2⟩:=oD hT hi ht h;have hm:(fn.results.mapM (AD a.tmps)).run P w=.ok (ap m vs).toArray w:=by
  simp_all [Array.mapM_eq_mapM_toList]
 refine⟨?_,?_⟩
 . rw[Fq,Sem.run_bind,hm,Result.andThen_ok,Sem.run_pure];cases vs with
   | nil=>rfl
   | cons v vs=>
     cases vs<;>grind [ap,w_,aj]
 . cases vs with
   | nil=>nofun
   | cons v vs=>
     cases vs with
     | nil=>exact(fE.1 h2).1
     | cons u us=>exact gh.2 h2
theorem CD{le:aB}(hlen:args.length<=1000)(hok:fM D m args) :
 TR D m (jS fn args le) { tmps:=(ap m args).toArray++π (fn.ntmps-(ap m args).toArray.size) undef,defers:=[] }:=by
 have hcl:(ap m args).length=args.length:=b7;have hg:∀t,(jS fn args le).ts.b0 t=if t<args.length then args.getD t bt else bt:=λt=>by
  grind [Ts.l0,jS,Ts.g0]
 refine⟨?_,λt=>?_,λt=>?_,rfl,λd hd=>(by cases hd),λi hi=>(by cases hi)⟩
 . grind [jS]
 . rw[hg t];by_cases h:t<args.length
   . rw[if_pos h];have h1:(ap m args)[t]? = some (aj m (args.getD t bt)):=by
      rw[gi];grind
     grind [Array.getInternal_eq_getElem]
   simp_all [sx,Array.getD]
 grind [df,iy]
omit hT in
theorem tQ{fn:Func}{tmps:Array Value}{R:Ending->World->Prop}{C:bg}{D:Nat->Prop}{m:Nat->bv}:∀{ds:List Nat} {o o':aB} {w:World},qQ C o ds=some o'->dX cfg D m C o w->(∀d∈ds,D d)->
 (∀w',dw cfg C D m o w D m o' w'->LeavesIn Fence.wide 0 P fn tmps R [] .returning w')->LeavesInM Fence.wide 0 P fn tmps R (gJ m ds) .returning w
 | [],o,o',w,h,hi,hd,hk=>by
   cases h;exact hk w (dw.h0 hi)
 | d::ds,o,o',w,h,hi,hd,hk=>by
   unfold qQ at h;split at h
   . rename_i hx;have hdd:=hd d ς;have hb:w.heap[(m d).a0]? = some (.deferred (some [])):=by
      have:=hi.a0 d hdd;rw[fI hx]at this;exact this
     have hlt:(m d).a0<w.heap.size:=(Array.getElem?_eq_some_iff.1 hb).1;have he:dw cfg C D m o w D m (lD C o d .b) (w.putObj (m d).a0 (.deferred none)):=
      dw.n0 hi hdd hx rfl θ (λk hk=>World.putObj_heap_other hk) trivial rfl rfl rfl
     exact⟨by simp,.inl ⟨(m d).a0,_,rfl,run_takeDeferred hb,tQ h he.b0 (λd' hd'=>hd d' (ο _ hd')) λw' hw'=>hk w' (he.d0 hw')⟩⟩
   grind
include hcode
theorem ab_{f:FuncId}(hb:ec T f=some (fn,c)){o0:aB}(h:lI T code C fn c args o0=some r)
 (hi:dX cfg D m C o0 w) (hok:fM D m args) {R:Value->World->Prop} (hR:∀D' m' w',dh D' m' r.1->dw cfg C D m o0 w D' m' r.2 w'->R (aj m' r.1) w'):(callFunc f (ap m args).toArray).run P w=.ok (.enter f (ap m args).toArray) w/\Calls P f (ap m args).toArray w λe w'=>∃v,e=.returned v/\R v w':=by
 simp only[ec,ag,ν,Prod.mk.injEq]at hb;obtain⟨fn',hfn,c',hbody,rfl,rfl⟩:=hb;obtain⟨hf,hname⟩:=hT.fn f fn' hfn;obtain⟨hlen,x,o,vs,hx,hne,hmk,hres,rfl⟩:=vM h;refine⟨?_,?_⟩
 . simp_all [callFunc]
 . refine callsIn_wide.1 (callsIn_of_wp_marks (n:=0) hf hbody trivial ?_);refine hcode _ _ _ _ hx D m _ w hi (CD hT hlen hok) _ λD' m' a' w' ht he=>?_;have this:LeavesInM Fence.wide 0 P fn' a'.tmps (λe w''=>∃v,e=.returned v/\R v w'') a'.defers .returning w':=by
    rw[ht.a0];refine tQ hmk he.b0 ht.e0 λw2 he2=>?_;have ht2:TR D' m' ⟨x.2.ts,x.2.tn,o,[],none⟩ ⟨a'.tmps,[]⟩:=⟨ht.b0,ht.d0,ht.c0,rfl,λd hd=>η,λi hi=>η⟩;obtain⟨h1,h2⟩:=xw hT he2.b0 ht2 hres;exact⟨_,h1,_,rfl,hR D' m' w2 h2 (he.d0 he2)⟩
   cases hxe:x.1 with
   | a=>exact this
   | c=>exact this
   | b id=>grind
end
end Go.Ev
