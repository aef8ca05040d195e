import Derived.Test.YtcffhjfdlflbgaaGreatDoorP14
set_option linter.all false
open UInt8 renaming ofNat->ν,toNat->π
open Int renaming ofNat->ξ,add->ς
open Nat renaming ble->ο,le_refl->τ
open List renaming take_of_length_le->σ,getD->υ
set_option linter.all false
set_option maxRecDepth 100000
set_option maxHeartbeats 4000000
namespace Go.Ev
open Go Go.Proofs
variable{ws news:List cD}{v v':AV}{f i:Nat}{args:List AV}{S:aQ}{L:cx}{C:bg}{cfg':cL}{s:List UInt8}{Q:AV->Prop}
noncomputable def dH(f:Nat):Func:=match ec eS f with
 | some p=>p.1
 | none=>default
noncomputable def aL(f:Nat):Code:=match ec eS f with
 | some p=>p.2
 | none=>.skip
noncomputable def lb(f i:Nat):Code:=((bz (aL f)).getD i (0,.skip)).2
abbrev VQ:Type:=AX×List AV×aB
abbrev EQ:Type:=AV×aB
def jE:cx:=λ_=>none
def iz(L:cx)(id:Nat)(e:St->Tr (AX×St)):cx:=λj=>bif Nat.beq j id then some e else L j
abbrev dO:aB:=⟨0,[],[]⟩
noncomputable def QJ(ws:List cD)(f:Nat)(x:AX×St):Tr EQ:=aT (wj eS (Cw cfg ws) (dH f) x) .a0
noncomputable def rT(S:aQ)(L:cx)(ws:List cD)(f i tn:Nat)(rel:List Nat)(vals:List AV)(J:Nat->Value)(o:aB):Tr VQ:=xz eS (cH cfg S) (tK S) L 1000 (Cw cfg ws) (lb f i) (tr tn rel vals J o) (Gg tn rel .a0)
noncomputable def bT(S:aQ)(L:cx)(ws:List cD)(f:Nat)(args:List AV):Tr EQ:=xz eS (cH cfg S) (tK S) L 1000 (Cw cfg ws) (aL f) (jS (dH f) args dO) (QJ ws f)
def A3:List (Nat×cD)->Bool
 | []=>true
 | _=>false
noncomputable def Qf(f:Nat)(x:AX×St):Tr AV:=aT (wj eS (Cw cfg []) (dH f) x) λr=>bif A3 r.2.le&&(kG 14 [] 20 r.1).isSome then .a0 r.1 else .c0
noncomputable def pT(S:aQ)(L:cx)(f:Nat)(args:List AV):Tr AV:=xz eS (cH cfg S) (tK S) L 1000 (Cw cfg []) (aL f) (jS (dH f) args dO) (Qf f)
theorem Az:∀id,id<cfg.a0.n->Ep (cfg.a0.at id)=false:=ζ
def dL(ws:List cD)(v:AV)(news:List cD)(r:EQ):Prop:=Wk cfg (Cw cfg ws) 0 ⟨.c0 r.1 .a0 .a0,1,r.2,[],none⟩ λs=>s.o=⟨news.length,news,[]⟩/\s.ts.b0 0=v
theorem dL.b0:dL ws v news (v,⟨news.length,news,[]⟩):=Wk.a0 ⟨rfl,rfl⟩
theorem dL.of{o:aB}(h1:v'=v)(h2:o=⟨news.length,news,[]⟩):dL ws v news (v',o):=by grind [dL.b0]
theorem zW:Ns (Cw cfg []):=λid hid=>by
 have h14:id<cfg.a0.n:=hid;have:gB (Cw cfg []).B id=cfg.a0.at id:=by
  grind [Cw,gB,fp,eK]
 rw[this];exact⟨dI.lv.a0 id h14,λi hi=>dI.lv.b0 id h14 i hi⟩
theorem Ih{b:Nat}{ρ:List (Nat×Nat)}:∀{d:Nat} {v v':AV},kG b ρ d v=some v'->aC v=[]->v'=v:=by
 intro d;induction d with
 | zero=>nofun
 | succ d ih=>
   have ihl:∀{vs vs':List AV},yw (kG b ρ d) vs=some vs'->bw vs=[]->vs'=vs:=by
    intro vs;induction vs<;>grind [yw,ag,bw,List.append_eq_nil_iff]
   intro v v' h hi;unfold kG at h;grind [ag,aC,List.append_eq_nil_iff]
theorem dL.a0{o:aB}(h1:v'=v)(hi:aC v=[])(hm:(kG 14 [] 20 v).isSome)(hle:o.le=[]):dL [] v [] (v',o):=by
 subst h1;obtain⟨u,hu⟩:=Option.isSome_iff_exists.1 hm;have e:=Ih hu hi;subst e;refine(oX dI.lv (C:=Cw cfg []) (st:=⟨.c0 u .a0 .a0,1,o,[],none⟩) (kb:=0) (sel:=[]) (ts':=.c0 u .a0 .a0) (o':=dO) zW (Nat.zero_le _) (λs hs=>by cases hs) List.nodup_nil (λp hp=>by rw[show(⟨.c0 u .a0 .a0,1,o,[],none⟩:St).o=o from rfl,hle]at hp;cases hp) hle.symm rfl rfl (λi hi=>absurd hi (Nat.not_lt_zero i)) (λt ht=>absurd ht (Nat.not_lt_zero t)) ?_ (λd hd=>by cases hd) (λi hi=>by cases hi)).b0 λs hs=>?_
 . have hu':kG ((Cw cfg []).lo+0) (eM (Cw cfg []).lo 0 []) 20 u=some u:=hu;simp only[xB,hu',ob]
 . rw[hs];exact⟨rfl,rfl⟩
section
variable{S:aQ}(hS:ak Tryz.prog cfg S){L:cx}{ws:List cD}
include hS
theorem ia{tn:Nat}{rel:List Nat}(htn:aS tn 1000000)(hrel:nP tn rel)(hL:qI Tryz.prog (cH cfg S) (Cw cfg ws) L (lb f i)){ι:Type}(vals:ι->List AV)(own:ι->aB)(μ:ι->Nat)(kb:Nat)(hkb:∀x,kb<=(own x).n){Q:VQ->Prop}
 (hr:∀x J,(rT S L ws f i tn rel (vals x) J (own x)).wp λq=>match q.1 with
   | .a=>∃y,μ y<μ x/\VW cfg (Cw cfg ws) kb tn rel q.2.1 q.2.2 (vals y) (own y)
   | ax=>∃vs2 o2,VW cfg (Cw cfg ws) kb tn rel q.2.1 q.2.2 vs2 o2/\Q (ax,vs2,o2)) {vs:List AV} {o:aB} (hk:o.n<=kb) (h0:∀J,Wk cfg (Cw cfg ws) kb (tr tn rel vs J o) λs=>∃x J',s=tr tn rel (vals x) J' (own x)) (J:Nat->Value) :
 bN Tryz.prog (cH cfg S) (Cw cfg ws) (.loop (lb f i)) (tr tn rel vs J o) λr=>∃ax vs' o' J',Q (ax,vs',o')/\r=(ax,tr tn rel vs' J' o'):=by
 have hW:∀{k:Nat} {st:St} {A:St->Prop},Wk cfg (Cw cfg ws) k st A->Wk (cH cfg S) (Cw cfg ws) k st A:=λh D m a w hi ht=>by
  obtain⟨s,D',m',hA,h1,h2,h3,h4,h5⟩:=h D m a w (dX.to (cfg:=cH cfg S) (cfg':=cfg) rfl rfl hi) ht;grind [dX.to,cH,dw.to]
 refine IS (cC.a0 hS) (nj cfg S) (kb:=kb) (n:=1000) (aU.1 htn) hrel hL vals own μ hkb (λx J=>?_) hk (λJ=>hW (h0 J)) J;refine Tr.j0 (λq hq=>?_) (hr x J);revert hq;cases q.1 with
 | a=>exact λ⟨y,hy,hv⟩=>⟨y,hy,λJ=>hW (hv J)⟩
 | b id=>exact λ⟨vs2,o2,hv,h⟩=>⟨vs2,o2,λJ=>hW (hv J),h⟩
 | c=>exact λ⟨vs2,o2,hv,h⟩=>⟨vs2,o2,λJ=>hW (hv J),h⟩
theorem Bu(hb:ec eS f=some (dH f,aL f))(hlen:args.length<=1000)(hL:qI Tryz.prog (cH cfg S) (Cw cfg ws) L (aL f))
 (h:(bT S L ws f args).wp (dL ws v news)):bu Tryz.prog cfg f args ws v news:=by
 refine cC.c0 hS hb hlen ((wE (cC.a0 hS) (nj cfg S) hL h).a0 λx hx=>?_);have hx:(QJ ws f x).wp (dL ws v news):=hx;unfold QJ at hx;cases he:wj eS (Cw cfg ws) (dH f) x with
 | none=>rw[he]at hx;exact hx.elim
 | some r=>rw[he]at hx;exact⟨r,rfl,hx⟩
end
theorem kA(hS:ak Tryz.prog cfg S)(hb:ec eS f=some (dH f,aL f))(hlen:args.length<=1000)(hL:qI Tryz.prog (cH cfg S) (Cw cfg []) L (aL f))
 (h:(pT S L f args).wp (·=v)) (hi:aC v=[]):bu Tryz.prog cfg f args [] v []:=by
 refine cC.c0 hS hb hlen ((wE (cC.a0 hS) (nj cfg S) hL h).a0 λx hx=>?_);have hx:(Qf f x).wp (·=v):=hx;unfold Qf at hx;cases he:wj eS (Cw cfg []) (dH f) x with
 | none=>rw[he]at hx;exact hx.elim
 | some r=>
   rw[he]at hx;have hx:(bif A3 r.2.le&&(kG 14 [] 20 r.1).isSome then Tr.a0 r.1 else .c0).wp (·=v):=hx;cases hb:(A3 r.2.le&&(kG 14 [] 20 r.1).isSome)with
   | false=>rw[hb]at hx;exact hx.elim
   | true=>
     rw[hb,cond_true]at hx;have hx:r.1=v:=hx;rw[zAa]at hb;have hle:r.2.le=[]:=by
      have:=hb.1;cases hr:r.2.le with
      | nil=>rfl
      | cons a b=>rw[hr]at this;cases this
     exact⟨r,rfl,dL.a0 hx hi (by rw[<-hx];exact hb.2) hle⟩
theorem wM{R:Type}{b:Bool}{t:Tr R}{Q:R->Prop}(h:(lu b t).wp Q):b/\t.wp Q:=by
 cases b with
 | true=>exact⟨rfl,h⟩
 | false=>exact h.elim
def jv(l:List Value)(j:Nat):Value:=l.getD j undef
def aH{R:Type}:List Bool->Tr R->Tr R
 | [],t=>t
 | c::cs,t=>lu c (aH cs t)
theorem cZ{R:Type}{c:Bool}{cs:List Bool}{t:Tr R}{Q:R->Prop}(h:(aH (c::cs) t).wp Q):c/\(aH cs t).wp Q:=wM h
theorem eL{R:Type}{c:Bool}{cs:List Bool}{t:Tr R}{s:R}(h:(aH (c::cs) t).b0=some s):c/\(aH cs t).b0=some s:=bG h
def Tk:List Bool->Prop
 | []=>True
 | c::cs=>c/\Tk cs
theorem cO{R:Type}{t:Tr R}{Q:R->Prop}:∀{cs:List Bool},(aH cs t).wp Q->Tk cs/\t.wp Q
 | [],h=>⟨trivial,h⟩
 | _::_,h=>by
   obtain⟨h1,h⟩:=cZ h;obtain⟨h2,h⟩:=cO h;exact⟨⟨h1,h2⟩,h⟩
theorem aF{R:Type}{t:Tr R}{s:R}:∀{cs:List Bool},(aH cs t).b0=some s->Tk cs/\t.b0=some s
 | [],h=>⟨trivial,h⟩
 | _::_,h=>by
   obtain⟨h1,h⟩:=eL h;obtain⟨h2,h⟩:=aF h;exact⟨⟨h1,h2⟩,h⟩
theorem eD{R:Type}{t:Tr R}{Q:R->Prop}(h:∀Q':R->Prop,(∀q,Q q->Q' q)->t.wp Q'):t.wp Q:=h Q λ_ h=>h
theorem ai{P:Program}{c:Code}:qI P cfg' C jE c:=lS λp _ e he=>by cases he
theorem dv{P:Program}{c:Code}{ids:List Nat}(hids:(bz c).map (·.1)=ids)(h:∀i,i<ids.length->∀e,L (ids.getD i 0)=some e->∀st Q,(e st).wp Q->bN P cfg' C (.loop ((bz c).getD i (0,.skip)).2) st Q):qI P cfg' C L c:=by
 refine lS λp hp e he st Q hw=>?_;obtain⟨i,hi⟩:=List.getElem?_of_mem hp;have hlen:i<(bz c).length:=(List.getElem?_eq_some_iff.1 hi).1;have hid:ids.getD i 0=p.1:=by
  grind
 have:=h i η e η st Q hw;grind
theorem pf(h:i<s.length):s.take (i+1)=s.take i++[s.getD i 0]:=by
 simp_all
theorem Kt{α:Type}(s:List α):s.take s.length=s:=List.take_length
def adc(e:dP):aav:=λargs ws=>match ws with
 | []=>ob (e args) λt=>some (t.h0 λv=>.a0 (v,[]))
 | _=>none
theorem Iy{P:Program}{e:dP}(h:∀args t v,e args=some t->t.b0=some v->bu P cfg f args [] v []):tD P cfg f (fl cfg.a0.n [] (adc e)):=by
 refine fW dI.lv Az λargs ws t r ht hr=>?_;unfold adc at ht;split at ht
 . rw[ag]at ht;obtain⟨t0,h0,ht⟩:=ht;cases ht;obtain⟨v,hv,h2⟩:=Tr.g0 hr;cases h2;grind
 grind
def d5(S:aQ)(f:Nat)(e:dP):aQ:=eQ S f (fl 14 [] (adc e))
theorem au{e:dP}(h:ak Tryz.prog cfg S)(he:∀args t v,e args=some t->t.b0=some v->bu Tryz.prog cfg f args [] v []):ak Tryz.prog cfg (d5 S f e):=bm h (Iy he)
theorem jJ{A:Type}{t:Tr A}{P:A->Prop}(D:DT){R:(A->Prop)->Prop}(hk:∀Q,gG Q t D=R Q)(h:∀Q:A->Prop,(∀q,P q->Q q)->R Q):t.wp P:=eD λQ hQ=>cg ((hk Q).mpr (h Q hQ))
theorem jD(hS:ak Tryz.prog cfg S)(hL:qI Tryz.prog (cH cfg S) (Cw cfg []) L (aL f))(D:DT){R:(AV->Prop)->Prop}(hk:∀Q,gG Q (pT S L f args) D=R Q)(h:∀Q:AV->Prop,(∀q,q=v->Q q)->R Q)(hb:ec eS f=some (dH f,aL f):=by kernel_rfl)(hlen:args.length<=1000:=by simp)(hi:aC v=[]:=by simp[aC,bw]):bu Tryz.prog cfg f args [] v []:=
 kA hS hb hlen hL (eD λQ hQ=>cg ((hk Q).mpr (h Q hQ))) hi
theorem nF(hS:ak Tryz.prog cfg S)(hL:qI Tryz.prog (cH cfg S) (Cw cfg []) L (aL f))(D:DT){R:(AV->Prop)->Prop}(hk:∀Q,gG Q (pT S L f args) D=R Q)(h:∀Q:AV->Prop,Q v->R Q)(hb:ec eS f=some (dH f,aL f):=by kernel_rfl)(hlen:args.length<=1000:=by simp)(hi:aC v=[]:=by simp[aC,bw]):bu Tryz.prog cfg f args [] v []:=
 jD hS hL D hk (λQ hQ=>h Q (hQ v rfl)) hb hlen hi
theorem Cs(hS:ak Tryz.prog cfg S)(hL:qI Tryz.prog (cH cfg S) (Cw cfg ws) L (aL f))(D:DT){R:(EQ->Prop)->Prop}(hk:∀Q,gG Q (bT S L ws f args) D=R Q)(h:∀Q:EQ->Prop,(∀q,dL ws v news q->Q q)->R Q)(hb:ec eS f=some (dH f,aL f):=by kernel_rfl)(hlen:args.length<=1000:=by simp):bu Tryz.prog cfg f args ws v news:=
 Bu hS hb hlen hL (eD λQ hQ=>cg ((hk Q).mpr (h Q hQ)))
def eC(s:List UInt8)(a b:Int):Nat:=(s.filter λc=>decide (a<=(c.toNat:Int))&&decide ((c.toNat:Int)<=b)).length
theorem ab6(s:List UInt8)(a b:Int):eC s a b<=s.length:=List.length_filter_le _ _
theorem H_{s:List UInt8}{a b:Int}{i:Nat}(h:i<s.length):eC (s.take (i+1)) a b=eC (s.take i) a b+if a<=((s.getD i 0).toNat:Int)/\((s.getD i 0).toNat:Int)<=b then 1 else 0:=by
 grind [eC,pf]
def S9:dW:=λ
 | [.f s,.a .u8 a,.a .u8 b,.a .i64 n,.a .i64 i],⟨0,[],[]⟩=>some (lu (ο s.length 1000000) (lu (aa n 0) (lu (aa i 0) (.a0 (.b 0,[s,.a .u8 a,.a .u8 b,(ξ (eC s a b)),(ξ s.length)],dO)))))
 | _,_=>none
def X_:cx:=iz jE 0 (d9 30 [0,1,2,7,8] S9)
def Ws:dP:=λ
 | [.f s,.a .u8 a,.a .u8 b]=>some (lu (ο s.length 1000000) (.a0 (ξ (eC s a b))))
 | _=>none
def T1:aQ:=d5 S7 202 Ws
theorem ZO(s:List UInt8)(a b n:Int)(i:Nat)(J:Nat->Value){Q:VQ->Prop}:gG Q (rT S7 jE [] 202 0 30 [0,1,2,7,8] [s,.a .u8 a,.a .u8 b,n,(ξ i)] J dO) (bE 1120338121224270224204)=((λ(E F G O:AV)(C I N:Int)(H:Nat)=>(λ(A P:Bool)(T:Int)=>(λ(V:AV)(U:Bool)(B:Prop)=>(λ(W:Prop)=>(P->aS i H/\(A->A/\A/\aS i H/\A/\A/\A/\(ab I b->af .i64 N/\U/\Q (.a,[E,F,G,N,V],⟨0,[],[]⟩))/\(ab I b=false->W))/\(B->B/\B/\B/\B/\B/\W))/\(P=false->Q (.b 0,[E,F,G,O,C],⟨0,[],[]⟩))) (U/\Q (.a,[E,F,G,O,V],⟨0,[],[]⟩))) T (af .i64 T) (A=false)) (ab a I) (not (ab (ξ H) C)) (ς C 1)) s (.a .u8 a) (.a .u8 b) n (ξ i) (ξ (π (υ s i 0))) (ς n 1) s.length):=κ
theorem Vg:cu Tryz.prog (cH cfg S7) (Cw cfg []) (lb 202 0) 30 [0,1,2,7,8] S9:=by
 intro vs o t Q hv hq J;unfold S9 at hv;split at hv
 . rename_i s a b n i;cases hv;obtain⟨h1,hq⟩:=wM hq;obtain⟨h2,hq⟩:=wM hq;obtain⟨h3,hq⟩:=wM hq;rw[al]at h1;rw[ao]at h2 h3;subst h2 h3;refine ia vQ rfl rfl ai (ι:={i:Nat // i<=s.length}) (λx=>[s,.a .u8 a,.a .u8 b,(ξ (eC (s.take x.1) a b)),(ξ x.1)]) (λ_=>dO) (λx=>s.length-x.1) 0 (λ_=>τ _) (λx J=>?_) (τ _) (λJ=>Wk.a0 ⟨⟨0,Nat.zero_le _⟩,J,rfl⟩) J;obtain⟨i,hi⟩:=x;dsimp only;have hn:=ab6 (s.take i) a b;rw[List.length_take]at hn;have hsn:=@H_ s a b i;refine eD λQ' hQ=>cg ((ZO s a b _ i J).mpr ?_);simp only[az,reduceCtorEq]
   (repeat' first|exact trivial|refine⟨?_,?_⟩|intro)<;>first|omega|refine hQ _ ?_
   . have h:=hsn δ;rw[if_pos ⟨by assumption,by assumption⟩]at h;exact⟨⟨i+1,by omega⟩,by dsimp only;omega,VW.b0 (by dsimp only;rw[h];rfl) rfl⟩
   . have h:=hsn δ;rw[if_neg δ]at h;exact⟨⟨i+1,by omega⟩,by dsimp only;omega,VW.b0 (by dsimp only;rw[h];rfl) rfl⟩
   . have h:=hsn δ;rw[if_neg δ]at h;exact⟨⟨i+1,by omega⟩,by dsimp only;omega,VW.b0 (by dsimp only;rw[h];rfl) rfl⟩
   . obtain rfl:i=s.length:=δ
     rw[Kt];exact⟨_,_,VW.a0,hq⟩
 . cases hv
theorem ON:ec eS 202=some (dH 202,aL 202):=κ
theorem Mn:(bz (aL 202)).map (·.1)=[0]:=κ
theorem U0(s:List UInt8)(a b:Int)(h:s.length<=1000000):bu Tryz.prog cfg 202 [s,.a .u8 a,.a .u8 b] [] (ξ (eC s a b)) []:=by
 refine Bu vQ (L:=X_) ON θ (dv Mn λi hi e he st Q hw=>?_) ?_
 . have hi:i=0:=η
   subst hi;cases he;exact bR (cC.a0 vQ) ζ rfl Vg hw
 . refine jJ (bE 1002) (R:=λQ=>ο s.length 1000000/\(∀J1:Nat->Value,Q ((ξ (eC s a b)),⟨0,[],[]⟩))) (λ_=>by rfl) λQ' hQ=>?_;simp_all [dL.of]
theorem WO:ak Tryz.prog cfg T1:=au vQ λargs t v he hv=>by
 unfold Ws at he;split at he
 . cases he;obtain⟨h1,h2⟩:=bG hv;cases h2;exact U0 _ _ _ (al.mp h1)
 grind
def dB(b:UInt8):Bool:=decide (48<=b.toNat)&&decide (b.toNat<=57)
def dV(l:List UInt8):Bool:=l.all dB
def numL(l:List UInt8):Nat:=l.foldl (λn b=>n*10+(b.toNat-48)) 0
def iS(s:List UInt8)(i:Nat):Nat:=numL (s.take i)*10^(i-s.length)
def cF(s:List UInt8)(e:Nat):Nat:=numL s*10^e
theorem I0(l:List UInt8)(b:UInt8):numL (l++[b])=numL l*10+(b.toNat-48):=by grind [numL]
theorem Db{s:List UInt8}{i:Nat}(h:i<s.length):iS s (i+1)=iS s i*10+((s.getD i 0).toNat-48):=by
 grind [iS,pf,I0]
theorem Df{s:List UInt8}{i:Nat}(h:s.length<=i):iS s (i+1)=iS s i*10:=by
 unfold iS;rw[σ (by omega:s.length<=i+1),σ h,show i+1-s.length=(i-s.length)+1 by omega,Nat.pow_succ,Nat.mul_assoc]
theorem FF(s:List UInt8)(i:Nat):iS s i<=iS s (i+1):=by
 grind [Db,Df]
theorem Ez{s:List UInt8}{i j:Nat}(h:i<=j):iS s i<=iS s j:=by
 obtain⟨k,rfl⟩:∃k,j=i+k:=⟨j-i,by omega⟩;induction k<;>grind [FF]
theorem Aa(s:List UInt8)(e:Nat):iS s (s.length+e)=cF s e:=by
 simp[iS,cF,σ]
theorem pz{s:List UInt8}(h:dV s){i:Nat}(hi:i<s.length):48<=(s.getD i 0).toNat/\(s.getD i 0).toNat<=57:=by
 simp_all [dV,dB]
def magOk(s:List UInt8)(e:Nat):Bool:=ο (cF s e) 10000000000000000
def Sb:dW:=λ
 | [.f s,.a .i64 e,.a .i64 r,.a .i64 q,.a .i64 n,.a .i64 i],⟨0,[],[]⟩=>some (aH [ο s.length 1000,ab 0 e,ab e 1000,dV s,aa r 0,aa q 0,aa n 0,aa i 0]
   (.d0 (magOk s e.toNat) λb=>bif b then .a0 (.b 0,[s,e,.a .i64 0,.a .i64 0,(ξ (cF s e.toNat)),(ξ (s.length+e.toNat))],dO)
     else .f0 λJ=>.a0 (.c,[s,e,.a .i64 0,.a .i64 0,.j (J 0),.j (J 1)],dO)))
 | _,_=>none
def Zv:cx:=iz jE 0 (d9 32 [0,1,4,5,6,7] Sb)
def Vh:dP:=λ
 | [.f s,.a .i64 e]=>some (aH [ο s.length 1000,ab 0 e,ab e 1000,dV s] (.d0 (magOk s e.toNat) λb=>bif b then .a0 (.c [(ξ (cF s e.toNat)),.a .i64 1])else .a0 (.c [.a .i64 0,.a .i64 0])))
 | _=>none
def T2:aQ:=d5 T1 127 Vh
theorem XW(s:List UInt8)(e n:Int)(i:Nat)(J:Nat->Value){Q:VQ->Prop}:gG Q (rT S7 jE [] 127 0 32 [0,1,4,5,6,7] [s,e,.a .i64 0,.a .i64 0,n,(ξ i)] J dO) (bE 1121412142704242)=((λ(A B C:AV)(E F G:Int)(N:Nat)=>(λ(I U:AV)(T:Bool)(H O P:Int)=>(λ(Z u1:AV)(W Y u0:Bool)(V:Int)=>(λ(u2:Bool)=>af .i64 V/\(u2->af .i64 F/\(W->aS i N/\af .u8 G/\af .i64 G/\af .i64 H/\(Y->Q (.c,[B,C,A,A,Z,I],⟨0,[],[]⟩))/\(Y=false->u0/\Q (.a,[B,C,A,A,Z,u1],⟨0,[],[]⟩)))/\(W=false->(T->Q (.c,[B,C,A,A,U,I],⟨0,[],[]⟩))/\(T=false->u0/\Q (.a,[B,C,A,A,U,u1],⟨0,[],[]⟩))))/\(u2=false->Q (.b 0,[B,C,A,A,n,I],⟨0,[],[]⟩))) (not (ab V E))) H P (not (ab O E)) (not (ab H 10000000000000000)) (af .i64 P) (ς O e)) E F (not (ab F 10000000000000000)) (ς F G) (ξ N) (ς E 1)) (.a .i64 0) s e (ξ i) (Int.mul 10 n) (Int.sub (ξ (π (υ s i 0))) 48) s.length):=κ
theorem WN:cu Tryz.prog (cH cfg S7) (Cw cfg []) (lb 127 0) 32 [0,1,4,5,6,7] Sb:=by
 intro vs o t Q hv hq J;unfold Sb at hv;split at hv
 . rename_i s e r q n i;cases hv;replace hq:=cO hq;obtain⟨⟨h1,h2,h3,h4,h5,h6,h7,h8,-⟩,hq⟩:=hq;rw[al]at h1;rw[aq]at h2 h3;rw[ao]at h5 h6 h7 h8;subst h5 h6 h7 h8;have hq:Tr.wp Q (bif magOk s e.toNat then .a0 (.b 0,[s,e,.a .i64 0,.a .i64 0,(ξ (cF s e.toNat)),(ξ (s.length+e.toNat))],dO)else .f0 λJ=>.a0 (.c,[s,e,.a .i64 0,.a .i64 0,.j (J 0),.j (J 1)],dO)):=hq;refine ia vQ rfl rfl ai (ι:={i:Nat // i<=s.length+e.toNat/\iS s i<=10000000000000000}) (λx=>[s,e,.a .i64 0,.a .i64 0,(ξ (iS s x.1)),(ξ x.1)]) (λ_=>dO) (λx=>s.length+e.toNat-x.1) 0 (λ_=>τ _) (λx J=>?_) (τ _) (λJ=>Wk.a0 ⟨⟨0,Nat.zero_le _,by simp[iS,numL]⟩,J,by simp[iS,numL,tr]⟩) J;obtain⟨i,hi,hp⟩:=x;dsimp only;have hlt:=@Db s i;have hge:=@Df s i;have hmono:i+1<=s.length+e.toNat->iS s (i+1)<=cF s e.toNat:=λh=>by rw[<-Aa];exact Ez h
   have hdi:=@pz s h4 i;refine eD λQ' hQ=>cg ((XW s e _ i J).mpr ?_);simp only[az,reduceCtorEq];have no:10000000000000000<iS s (i+1)->i+1<=s.length+e.toNat->magOk s e.toNat=false:=λh h'=>by
    grind [magOk,Cn]
   (repeat' first|exact trivial|refine⟨?_,?_⟩|intro)<;>first|omega|refine hQ _ ?_
   . have:=hlt δ;rw[no δ δ,cond_false]at hq;exact⟨_,_,VW.c0 (.same (.same (.same (.same (.int (.int .nil)))))) rfl,hq (jv [_,_])⟩
   . have h:=hlt δ;exact⟨⟨i+1,by omega,by omega⟩,by dsimp only;omega,VW.b0 (by dsimp only;rw[h];congr 6;simp only[Bv];omega) rfl⟩
   . have:=hge δ;rw[no δ δ,cond_false]at hq;exact⟨_,_,VW.c0 (.same (.same (.same (.same (.int (.int .nil)))))) rfl,hq (jv [_,_])⟩
   . have h:=hge δ;exact⟨⟨i+1,by omega,by omega⟩,by dsimp only;omega,VW.b0 (by dsimp only;rw[h];congr 6;simp only[Bv];omega) rfl⟩
   . obtain rfl:i=s.length+e.toNat:=δ
     rw[Aa]at hp ⊢;have:magOk s e.toNat=true:=by unfold magOk;rw[al];exact hp
     rw[this,cond_true]at hq;exact⟨_,_,VW.a0,hq⟩
 . cases hv
theorem N9:ec eS 127=some (dH 127,aL 127):=κ
theorem Kr:(bz (aL 127)).map (·.1)=[0]:=κ
theorem Lz:ak Tryz.prog cfg T2:=au WO λargs t v he hv=>by
 unfold Vh at he;split at he
 . rename_i s e;cases he;obtain⟨⟨h1,h2,h3,h4,-⟩,hv⟩:=aF hv;rw[al]at h1;rw[aq]at h2 h3;refine Bu vQ (L:=Zv) N9 θ (dv Kr λi hi e he st Q hw=>?_) ?_
   . have hi:i=0:=η
     subst hi;cases he;exact bR (cC.a0 vQ) ζ rfl WN hw
   . refine jJ (bE 114527) (R:=λQ=>(λ(B:AV)(A:Nat)=>ο s.length 1000/\ab 0 e/\ab e 1000/\dV s/\(magOk s A->(∀J1:Nat->Value,Q (.c [(ξ (cF s A)),.a .i64 1],⟨0,[],[]⟩)))/\(magOk s A=false->(∀J1 J2:Nat->Value,Q (.c [B,B],⟨0,[],[]⟩)))) (.a .i64 0) e.toNat) (λ_=>by rfl) λQ' hQ=>?_;simp only[az,reduceCtorEq];have hv:Tr.b0 (bif magOk s e.toNat then .a0 (.c [(ξ (cF s e.toNat)),.a .i64 1])else .a0 (.c [.a .i64 0,.a .i64 0]))=some v:=hv
     (repeat' first|exact trivial|refine⟨?_,?_⟩|intro)<;>first|omega|assumption|(rename_i hm _;rw[hm]at hv;cases hv;exact hQ _ dL.b0)|(rename_i hm _ _;rw[hm]at hv;cases hv;exact hQ _ dL.b0)
 grind
abbrev XH(ng lg:Bool)(s:List UInt8)(e g:Int):AV:=.g [ng,lg,s,e,g]
abbrev PH(ng lg:Bool)(s:List UInt8)(e g:Int)(mo da:List UInt8)(a b c:Int):AV:=.g [ng,lg,s,e,g,mo,da,.a .u8 a,.a .u8 b,.a .u8 c]
def aV(ng lg:Bool)(s:List UInt8)(e g:Int):Bool:=decide (eC s 48 57+eC s 88 88=s.length/\0<=g/\
 (lg=false/\s.length=4/\e=0/\¬(ng/\eC s 48 48=4)/\g<=4/\¬(0<g/\0<eC s 88 88)\/
  lg/\eC s 88 88=0/\1<=eC s 48 57/\eC s 48 57<=17/\(s.getD 0 0).toNat≠48/\0<=e/\e<=16/\¬(e=0/\eC s 48 57<5)/\g<=eC s 48 57+e/\magOk s e.toNat=true))
def Uw:dP:=λ
 | [.g [.e ng,.e lg,.f s,.a .i64 e,.a .i64 g]]=>some (aH [ο s.length 1000] (.a0 (gY 1 (ξ (eC s 88 88)))))
 | _=>none
def bI(b:Bool):Int:=bif b then 1 else 0
def alT:dP:=λ
 | [.g [.e ng,.e lg,.f s,.a .i64 e,.a .i64 g]]=>some (aH [ο s.length 1000,af .i64 e] (.a0 (bI (aV ng lg s e g))))
 | _=>none
def T3:aQ:=d5 (d5 T2 248 Uw) 124 alT
theorem oV{s:List UInt8}(h:eC s 48 57=s.length):dV s=true:=by
 grind [eC,List.length_filter_eq_length_iff,dV,dB]
theorem XD{b:Bool}(h:b):bI b=1:=by rw[h];rfl
theorem VR{b:Bool}(h:b=false):bI b=0:=by rw[h];rfl
theorem ZN(ng lg:Bool)(s:List UInt8)(e g:Int):gG Q (pT T2 jE 248 [XH ng lg s e g]) (bE 1200)=(ο s.length 1000000/\Q (gY 1 (ξ (eC s 88 88)))):=κ
theorem O0:ec eS 248=some (dH 248,aL 248):=κ
theorem MB:ak Tryz.prog cfg T3:=by
 refine au (au Lz λargs t v he hv=>?_) λargs t v he hv=>?_
 . unfold Uw at he;split at he
   . cases he;obtain⟨h1,hv⟩:=eL hv;rw[al]at h1;cases hv;refine kA Lz (L:=jE) O0 (by simp) ai (cg ((ZN _ _ _ _ _).mpr ?_)) (by rfl);simp;omega
   grind
 . unfold alT at he;split at he
   . rename_i ng lg s e g;cases he;obtain⟨⟨h1,h2,-⟩,hv⟩:=aF hv;rw[al]at h1;rw[aE]at h2;cases hv;have k1:=ab6 s 48 57;have k2:=ab6 s 88 88;refine jD Lz ai (bE 1023310056662310006662310005662810006623315562331623008111447000140025533231028811144700014370702437422024320243202432202024324324156623315623533102300810332311437422024053328162331023008103323114374220243202432702024202432024040143202402200200) (R:=λQ=>(λ(I V u5 u6 u8 u9 ua us ut uu:Bool)(H ur:Int)(U:Nat)(A N u7:Prop)=>(λ(C E W Y Z u0 ub uc ue uf ug:Bool)(uv uw uz:Int)(ud uh ux uy:Prop)=>(λ(B G P ui uj ul um uC uD:Bool)(O T uk un uo uA uB:Prop)=>(λ(u1 u2:Bool)(F u3 u4 uE uF uG uH:Prop)=>(λ(up uq:Prop)=>ub/\ub/\af .i64 uv/\(u1->u1/\u1/\ui=false/\(us->A)/\(us=false->(ut->(u2->u2/\u2/\uj=false/\(G->G/\G/\(ng->ng/\ng/\ub/\ng/\G/\ng/\uA/\(W->W/\W/\u5=false/\uE)/\(uk->uk/\uk/\u5/\A))/\(N->N/\N/\N/\G/\N/\uA/\uE))/\(u3->u3/\u3/\u3/\uc/\A))/\(up->up/\up/\uj/\A))/\(ut=false->(ul->ul/\uB/\(um->um/\ue=false/\(P->P/\P/\aS 0 U/\P/\uf=false/\(Z->Z/\Z/\u8=false/\(u0->u0/\u0/\u9=false/\(E->E/\E/\E/\(I->I/\E/\I/\uy/\(B->B/\B/\B/\B/\B/\uC/\B/\ug=false/\uF)/\(F->F/\F/\F/\F/\F/\F/\ug/\A))/\(uh->uh/\E/\uh/\uy/\uC/\uF))/\(T->T/\T/\T/\T/\ua/\A))/\(un->un/\un/\u9/\A))/\(uo->uo/\uo/\u8/\A))/\(u4->u4/\u4/\u4/\uf/\A))/\(uG->uG/\ue/\A))/\(uH->uH/\Y/\A))))/\(uq->uq/\uq/\ui/\A)) (u2=false) (u1=false)) (not ui) (not uj) (B=false) (G=false) (P=false) ((C->C/\C/\C/\(V->V/\C/\V/\ux/\(Y->A)/\(uB->u7))/\(ud->ud/\C/\ud/\ux/\u7))/\(O->O/\O/\O/\O/\u6/\A)) ((uD->A)/\(uD=false->ο U 1000/\ab 0 e/\ab e 1000/\(dV s->(uu->u7)/\(uu=false->A))/\(dV s=false->False))) (um=false) (ul=false)) (not ug) (not uc) (not uf) (not (aa uv uw)) (not (aa uw 4)) (not Y) (not ue) (af .i64 uz) (not (ab g uz)) (C=false) (E=false) (W=false) (u0=false) (Z=false) (uc=false) (Y=false)) (not u6) (not ua) (not u5) (not (ab ur 0)) (not u8) (not u9) (ο U 1000000) (not I) (not (ab 1 H)) (not (ab H 17)) (not (ab 5 H)) (ς H ur) (ξ U) (ς H e) (V=false) (I=false) (u6=false) (ua=false)) (aa e 0) (not (ab g 0)) (aa (ξ (eC s 48 48)) 4) (not (ab g 4)) (aa (ξ (π (υ s 0 0))) 48) (not (ab 0 e)) (not (ab e 16)) (not (ab 0 g)) (not lg) (magOk s e.toNat) (ξ (eC s 48 57)) (ξ (eC s 88 88)) s.length (Q (.a .i64 0)) (ng=false) (Q (.a .i64 1))) (λ_=>by kernel_rfl) λQ' hQ=>?_;simp only[az,reduceCtorEq];have dg:=@oV s;have yes:aV ng lg s e g->Q' (.a .i64 1):=λh=>hQ _ (by rw[XD h]);have no:aV ng lg s e g=false->Q' (.a .i64 0):=λh=>hQ _ (by rw[VR h])
     (repeat' first|exact trivial|refine⟨?_,?_⟩|intro)<;>first|omega|assumption|(exact dg (by omega))|(exfalso;have:=dg (by omega);simp_all;done)|(refine no ?_;unfold aV;rw[decide_eq_false_iff_not];simp_all;try omega)|(refine yes ?_;unfold aV;rw[zAc];simp_all;try omega)
   . cases he
def pZ(n:Int):List UInt8:=[ν (48+(n/10).toNat),ν (48+(n%10).toNat)]
def QP:dP:=λ
 | [.a .i64 n]=>some (aH [ab 0 n,ab n 99] (.a0 (pZ n)))
 | _=>none
def T4:aQ:=d5 T3 125 QP
def agB(s:List UInt8)(i:Nat)(d:Int):Bool:=decide ((s.getD i 0).toNat=88) || decide (((s.getD i 0).toNat:Int)=48+d)
def agr(s:List UInt8)(n:Int):Bool:=decide (s.length=2)&&(agB s 0 (n/10)&&agB s 1 (n%10))
def amN:dP:=λ
 | [.f s,.a .i64 n]=>some (aH [ab 0 n,ab n 99] (.a0 (bI (agr s n))))
 | _=>none
def T5:aQ:=d5 T4 249 amN
def eW(s:List UInt8)(g:Nat):Bool:=(List.range g).any λk=>agr s (k+1)
def aR(mo:List UInt8):Int:=bif ae mo [ν 50,ν 49]then 21 else bif ae mo [ν 50,ν 50]then 22 else bif ae mo [ν 50,ν 51]then 23 else bif ae mo [ν 50,ν 52]then 24 else bif ae mo [ν 50,ν 53]then 25 else bif ae mo [ν 50,ν 54]then 26 else bif ae mo [ν 50,ν 55]then 27 else bif ae mo [ν 50,ν 56]then 28 else bif ae mo [ν 50,ν 57]then 29 else bif ae mo [ν 51,ν 48]then 30 else bif ae mo [ν 51,ν 49]then 31 else bif ae mo [ν 51,ν 50]then 32 else bif ae mo [ν 51,ν 51]then 33 else bif ae mo [ν 51,ν 52]then 34 else bif ae mo [ν 51,ν 53]then 35 else bif ae mo [ν 51,ν 54]then 36 else bif ae mo [ν 51,ν 55]then 37 else bif ae mo [ν 51,ν 56]then 38 else bif ae mo [ν 51,ν 57]then 39 else bif ae mo [ν 52,ν 48]then 40 else bif ae mo [ν 52,ν 49]then 41 else 0
def dq(mo da:List UInt8):Int:=1+(bif ae mo []then 0 else 1)+(bif ae da []then 0 else 1)
def errMk(a b c n:Int):Int:=if n<1\/3<n then 4 else if 3<a\/(n<=0/\0<a)\/3<b\/(n<=1/\0<b)\/3<c\/(n<=2/\0<c)then 9 else 0
def akD:dW:=λ
 | [.f s,.a .i64 g,.a .i64 r,.a .i64 i],⟨0,[],[]⟩=>some (aH [ab 0 g,ab g 99,aa r 0,aa i 1]
   (.d0 (eW s g.toNat) λb=>bif b then .f0 λJ=>.a0 (.c,[.f s,.a .i64 g,.a .i64 1,.j (J 0)],dO)else .a0 (.b 0,[.f s,.a .i64 g,.a .i64 0,.a .i64 (g+1)],dO)))
 | _,_=>none
def aol:cx:=iz jE 0 (d9 15 [0,1,4,5] akD)
def am5:dP:=λ
 | [.f s,.a .i64 g]=>some (aH [ab 0 g,ab g 99] (.a0 (bI (eW s g.toNat))))
 | _=>none
def Zt:dP:=λ
 | [.g [.e ng,.e lg,.f s,.a .i64 e,.a .i64 g,.f mo,.f da,.a .u8 a,.a .u8 b,.a .u8 c]]=>some (.a0 (aR mo))
 | _=>none
def YA:dP:=λ
 | [.g [.e ng,.e lg,.f s,.a .i64 e,.a .i64 g,.f mo,.f da,.a .u8 a,.a .u8 b,.a .u8 c]]=>some (.a0 (dq mo da))
 | _=>none
def amo:dP:=λ
 | [.g [.a .u8 a,.a .u8 b,.a .u8 c],.a .i64 n]=>some (.a0 (errMk a b c n))
 | _=>none
def T6:aQ:=d5 T5 181 am5
def T7:aQ:=d5 (d5 (d5 T6 66 Zt) 68 YA) 182 amo
theorem Xx:∀a:Nat,a<10->List.drop a (List.take (a+1) [ν 48,ν 49,ν 50,ν 51,ν 52,ν 53,ν 54,ν 55,ν 56,ν 57])=[ν (48+a)]:=ζ
theorem Xj:∀a:Nat,a<10->(ν (48+a)).toNat=48+a:=ζ
theorem X8(n:Int):gG Q (pT T3 jE 125 [n]) (bE 1770077020)=((λ(A B:Int)(H:List UInt8)=>(λ(I:Bool)(C E:Int)(N O:Nat)=>(λ(F G:Nat)=>(λ(P T:List UInt8)=>I/\I/\af .i64 C/\ab 0 C/\ο F 10/\ab 0 A/\ο N F/\af .i64 E/\ab 0 E/\ο G 10/\ab 0 B/\ο O G/\ο (HAdd.hAdd P.length T.length) 1000000/\Q (P++T)) (List.drop N (List.take F H)) (List.drop O (List.take G H))) C.toNat E.toNat) (af .i64 A) (ς A 1) (ς B 1) A.toNat B.toNat) (Int.tdiv n 10) (Int.tmod n 10) [ν 48,ν 49,ν 50,ν 51,ν 52,ν 53,ν 54,ν 55,ν 56,ν 57]):=κ
theorem aoK(s:List UInt8)(i g:Int)(J:Nat->Value){Q:VQ->Prop}:gG Q (rT T5 jE [] 181 0 15 [0,1,4,5] [s,g,.a .i64 0,i] J dO) (bE 112142204)=((λ(A B E G:AV)(C:Bool)(F:Int)=>(ab i g->ab 0 i/\ab i 99/\(C->Q (.c,[A,B,.a .i64 1,E],⟨0,[],[]⟩))/\(C=false->af .i64 F/\Q (.a,[A,B,G,F],⟨0,[],[]⟩)))/\(ab i g=false->Q (.b 0,[A,B,G,E],⟨0,[],[]⟩))) s g i (.a .i64 0) (aa (cond (agr s i) 1 0) 1) (ς i 1)):=κ
def Oa(ng lg:Bool)(s:List UInt8)(e g:Int)(mo da:List UInt8)(a b c:Int):gG Q (pT T6 jE 66 [PH ng lg s e g mo da a b c]) (bE 10014005140051400514005140051400514005140051400514005140051400514005140051400514005140051400514005140051405)=((λ(A B C E F G H I N O:UInt8)=>(λ(P T U V W Y Z u0 u1 u2 u3 u4 u5 u6 u7 u8 u9 ua ub uc ud:Bool)=>(P->Q (.a .i64 21))/\(P=false->(T->Q (.a .i64 22))/\(T=false->(U->Q (.a .i64 23))/\(U=false->(V->Q (.a .i64 24))/\(V=false->(W->Q (.a .i64 25))/\(W=false->(Y->Q (.a .i64 26))/\(Y=false->(Z->Q (.a .i64 27))/\(Z=false->(u0->Q (.a .i64 28))/\(u0=false->(u1->Q (.a .i64 29))/\(u1=false->(u2->Q (.a .i64 30))/\(u2=false->(u3->Q (.a .i64 31))/\(u3=false->(u4->Q (.a .i64 32))/\(u4=false->(u5->Q (.a .i64 33))/\(u5=false->(u6->Q (.a .i64 34))/\(u6=false->(u7->Q (.a .i64 35))/\(u7=false->(u8->Q (.a .i64 36))/\(u8=false->(u9->Q (.a .i64 37))/\(u9=false->(ua->Q (.a .i64 38))/\(ua=false->(ub->Q (.a .i64 39))/\(ub=false->(uc->Q (.a .i64 40))/\(uc=false->(ud->Q (.a .i64 41))/\(ud=false->Q (.a .i64 0))))))))))))))))))))))) (ae mo [B,E]) (ae mo [B,B]) (ae mo [B,A]) (ae mo [B,C]) (ae mo [B,F]) (ae mo [B,G]) (ae mo [B,H]) (ae mo [B,I]) (ae mo [B,N]) (ae mo [A,O]) (ae mo [A,E]) (ae mo [A,B]) (ae mo [A,A]) (ae mo [A,C]) (ae mo [A,F]) (ae mo [A,G]) (ae mo [A,H]) (ae mo [A,I]) (ae mo [A,N]) (ae mo [C,O]) (ae mo [C,E])) (ν 51) (ν 50) (ν 52) (ν 49) (ν 53) (ν 54) (ν 55) (ν 56) (ν 57) (ν 48)):=ε
theorem Oc(ng lg:Bool)(s:List UInt8)(e g:Int)(mo da:List UInt8)(a b c:Int):gG Q (pT T6 jE 68 [PH ng lg s e g mo da a b c]) (bE 1104011040040)=((λ(A B:Bool)(C:Prop)=>(λ(E:Prop)=>(B->(A->Q (.a .i64 3))/\(E->C))/\(B=false->(A->C)/\(E->Q (.a .i64 1)))) (A=false)) (not (ae da [])) (not (ae mo [])) (Q (.a .i64 2))):=κ
theorem aqw(a b c n:Int):gG Q (pT T6 jE 182 [.g [.a .u8 a,.a .u8 b,.a .u8 c],n]) (bE 1023102358102358102358100033281001437020024740053328102358100143702002274051437020024740053323874514324)=((λ(B E U V W Y u0 u2 u3:Bool)(G H u1 u4:Prop)=>(λ(A C F Z:Bool)(I N u5 u6:Prop)=>(λ(O P T u7 u9:Prop)=>(λ(ua:Prop)=>(Z->Z/\U=false/\(u0->u1)/\(u0=false->(F->F/\F/\F/\G/\G/\G/\G/\F/\G/\V=false/\(C->C/\C/\C/\(E->E/\E/\E/\C/\E/\u5/\(u2->H)/\(u2=false->(A->A/\A/\A/\B/\u7)/\ua))/\(I->I/\I/\I/\C/\I/\u5/\(A->A/\A/\A/\(B->u7)/\(N->N/\N/\N/\A/\N/\u6/\u4))/\ua))/\(P->P/\P/\P/\P/\W/\H))/\(T->T/\T/\T/\T/\V/\H)))/\(u9->u9/\U/\u1)) (O->O/\O/\O/\O/\Y/\H)) (A=false) (C=false) (F=false) (B/\B/\B/\A/\B/\u6/\(u3->H)/\(u3=false->u4)) (Z=false)) (not Y) (not W) (not V) (not U) (E=false) (B=false) (W=false) (Y=false)) (ab n 2) (ab n 1) (not (ab 1 n)) (not (ab a 3)) (not (ab b 3)) (not (ab c 3)) (not (ab n 3)) (not (ab b 0)) (not (ab c 0)) (ab n 0=false) (Q (.a .i64 9)) (Q (.a .i64 4)) (Q (.a .i64 0))):=κ
theorem No:ec eS 125=some (dH 125,aL 125):=κ
theorem ais:ec eS 181=some (dH 181,aL 181):=κ
theorem Sz:ec eS 66=some (dH 66,aL 66):=κ
theorem RL:ec eS 68=some (dH 68,aL 68):=κ
theorem aiU:ec eS 182=some (dH 182,aL 182):=κ
theorem ahA:(bz (aL 181)).map (·.1)=[0]:=κ
theorem ML:ak Tryz.prog cfg T4:=by
 refine au MB λargs t v he hv=>?_;unfold QP at he;split at he
 . rename_i n;cases he;obtain⟨⟨h1,h2,-⟩,hv⟩:=aF hv;rw[aq]at h1 h2;cases hv;refine kA MB (L:=jE) No θ ai (cg ((X8 n).mpr ?_)) κ;dsimp only;rw[Int.tdiv_eq_ediv_of_nonneg h1,Int.tmod_eq_emod_of_nonneg h1];obtain⟨k,rfl⟩:∃k:Nat,n=k:=⟨n.toNat,by omega⟩;have e1:((k:Int)/10)=((k/10:Nat):Int):=δ
   have e2:((k:Int)%10)=((k%10:Nat):Int):=δ
   have e3:ς ((k/10:Nat):Int) 1=((k/10+1:Nat):Int):=κ
   have e4:ς ((k%10:Nat):Int) 1=((k%10+1:Nat):Int):=κ
   rw[e1,e2,e3,e4];simp only[Int.toNat_natCast,Xx _ (by omega:k/10<10),Xx _ (by omega:k%10<10)];simp only[az,reduceCtorEq];grind [pZ]
 grind
theorem ad7{d:Int}:agB s i d=true↔(s.getD i 0).toNat=88\/((s.getD i 0).toNat:Int)=48+d:=by
 grind [agB]
theorem Xs:ak Tryz.prog cfg T5:=by
 refine au ML λargs t v he hv=>?_;unfold amN at he;split at he
 . rename_i s n;cases he;obtain⟨⟨h1,h2,-⟩,hv⟩:=aF hv;rw[aq]at h1 h2;cases hv;refine jD ML ai (bE 1000633058100203811403020070240020007381033058107381142322007024702423220070247024220) (R:=λQ=>(λ(T:Nat)(U V:Prop)(N:UInt8)=>(λ(C O:Bool)(Y Z:Int)=>(λ(E P W u0:Bool)(F:Prop)=>(λ(A G:Bool)(H u1 u2:Prop)=>(λ(B I:Prop)=>ab 0 n/\ab n 99/\(C->C/\aS 0 T/\C/\C/\(G->G/\aS 0 T/\G/\G/\G/\C/\W=false/\C/\(E->E/\O/\E/\E/\(A->A/\O/\A/\A/\A/\E/\u1/\E/\u2)/\(B->B/\B/\B/\B/\E/\P/\E/\U))/\(H->H/\H/\H/\H/\H/\V))/\(I->I/\I/\I/\I/\C/\W/\C/\O/\(A->A/\O/\A/\A/\A/\u1/\u2)/\(B->B/\B/\B/\B/\P/\U)))/\(F->F/\F/\F/\F/\F/\V)) (A=false) (G=false)) (not P) (not W) (E=false) (P=false) ((u0->U)/\(u0=false->V))) (aa Y (ξ (π (υ (pZ n) 0 N)))) (aa Z 88) (aa Y 88) (aa Z (ξ (π (υ (pZ n) 1 N)))) (C=false)) (aa (ξ T) 2) (aS 1 T) (ξ (π (υ s 0 N))) (ξ (π (υ s 1 N)))) s.length (Q (.a .i64 1)) (Q (.a .i64 0)) (ν 0)) (λ_=>by rfl) λQ' hQ=>?_;try dsimp only
   have t0:((pZ n).getD 0 0).toNat=48+(n/10).toNat:=Xj _ (by omega);have t1:((pZ n).getD 1 0).toNat=48+(n%10).toNat:=Xj _ (by omega);have tl:(pZ n).length=2:=rfl;simp only[az,reduceCtorEq];have yes:agr s n->Q' (.a .i64 1):=λh=>hQ _ (by rw[XD h]);have no:agr s n=false->Q' (.a .i64 0):=λh=>hQ _ (by rw[VR h]);have iff:agr s n=true↔s.length=2/\((s.getD 0 0).toNat=88\/((s.getD 0 0).toNat:Int)=48+n/10)/\((s.getD 1 0).toNat=88\/((s.getD 1 0).toNat:Int)=48+n%10):=by
    grind [agr,ad7]
   have iff':agr s n=false↔¬(s.length=2/\((s.getD 0 0).toNat=88\/((s.getD 0 0).toNat:Int)=48+n/10)/\((s.getD 1 0).toNat=88\/((s.getD 1 0).toNat:Int)=48+n%10)):=by
    grind
   (repeat' first|exact trivial|refine⟨?_,?_⟩|intro)<;>first|omega|(grind)|grind
 grind
theorem GB{g:Nat}:eW s g=false↔∀k,k<g->agr s ((k:Int)+1)=false:=by
 grind [eW]
theorem Ob{g k:Nat}(hk:k<g)(h:agr s ((k:Int)+1)):eW s g=true:=by
 grind [eW]
theorem anD:cu Tryz.prog (cH cfg T5) (Cw cfg []) (lb 181 0) 15 [0,1,4,5] akD:=by
 intro vs o t Q hv hq J;unfold akD at hv;split at hv
 . rename_i s g r i;cases hv;replace hq:=cO hq;obtain⟨⟨h1,h2,h3,h4,-⟩,hq⟩:=hq;rw[aq]at h1 h2;rw[ao]at h3 h4;subst h3 h4;have hq:Tr.wp Q (bif eW s g.toNat then .f0 λJ=>.a0 (.c,[.f s,.a .i64 g,.a .i64 1,.j (J 0)],dO)else .a0 (.b 0,[.f s,.a .i64 g,.a .i64 0,.a .i64 (g+1)],dO)):=hq;refine ia Xs rfl rfl ai (ι:={i:Nat // i<=g.toNat/\∀k,k<i->agr s ((k:Int)+1)=false}) (λx=>[.f s,.a .i64 g,.a .i64 0,.a .i64 ((x.1:Int)+1)]) (λ_=>dO) (λx=>g.toNat-x.1) 0 (λ_=>τ _) (λx J=>?_) (τ _) (λJ=>Wk.a0 ⟨⟨0,Nat.zero_le _,λk hk=>absurd hk (Nat.not_lt_zero k)⟩,J,rfl⟩) J;obtain⟨i,hi,hp⟩:=x;dsimp only;refine eD λQ' hQ=>cg ((aoK s _ g J).mpr ?_);simp only[az,reduceCtorEq];have ct:∀b:Bool,((bif b then(1:Int)else 0)=1)=(b=true):=λb=>by grind
   rw[ct]
   (repeat' first|exact trivial|refine⟨?_,?_⟩|intro)<;>first|omega|refine hQ _ ?_
   . rename_i h5 h6;rw[Ob (by omega:i<g.toNat) h6,cond_true]at hq;exact⟨_,_,VW.c0 (.same (.same (.same (.int .nil)))) rfl,hq (jv [_])⟩
   . rename_i h5 h6;refine⟨⟨i+1,by omega,λk hk=>?_⟩,by dsimp only;omega,VW.b0 κ rfl⟩;grind
   . obtain rfl:i=g.toNat:=δ
     rw[GB.2 hp,cond_false]at hq;exact⟨_,_,VW.b0 η rfl,hq⟩
 grind
theorem Kn:ak Tryz.prog cfg T6:=by
 refine au Xs λargs t v he hv=>?_;unfold am5 at he;split at he
 . rename_i s g;cases he;obtain⟨⟨h1,h2,-⟩,hv⟩:=aF hv;rw[aq]at h1 h2;cases hv;refine kA Xs (L:=aol) ais θ (dv ahA λi hi e he st Q hw=>?_) (jJ (bE 1140022) (R:=λQ=>(λ(A:Bool)=>ab 0 g/\ab g 99/\(A->(∀J1 J2:Nat->Value,Q (.a .i64 1)))/\(A=false->(∀J1:Nat->Value,Q (.a .i64 0)))) (eW s g.toNat)) (λ_=>by rfl) λQ' hQ=>?_) κ
   . have hi:i=0:=η
     subst hi;cases he;exact bR (cC.a0 Xs) ζ rfl anD hw
   . simp only[az,reduceCtorEq];grind [XD,VR]
 grind
theorem MW:ak Tryz.prog cfg T7:=by
 refine au (au (au Kn λargs t v he hv=>?_) λargs t v he hv=>?_) λargs t v he hv=>?_
 . unfold Zt at he;split at he
   . cases he;cases hv;refine kA Kn (L:=jE) Sz θ ai (eD λQ' hQ=>cg ((Oa _ _ _ _ _ _ _ _ _ _).mpr ?_)) κ;dsimp only
     (repeat' first|exact trivial|refine⟨?_,?_⟩|intro)<;>(refine hQ _ ?_;rw[AV.a.injEq];refine⟨rfl,?_⟩;unfold aR;simp only[*,zAj])
   grind
 . unfold YA at he;split at he
   . cases he;cases hv;refine kA Kn (L:=jE) RL θ ai (eD λQ' hQ=>cg ((Oc _ _ _ _ _ _ _ _ _ _).mpr ?_)) κ;grind [dq]
   grind
 . unfold amo at he;split at he
   . cases he;cases hv;refine kA Kn (L:=jE) aiU θ ai (eD λQ' hQ=>cg ((aqw _ _ _ _).mpr ?_)) κ;simp only[az,reduceCtorEq]
     (repeat' first|exact trivial|refine⟨?_,?_⟩|intro)<;>first|omega|grind [errMk]
   grind
end Go.Ev
