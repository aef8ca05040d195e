import Derived.Test.YtcffhjfdlflbgaaGreatDoorP20
set_option linter.all false
open Int renaming ofNat->ν
open Nat renaming beq->ξ,not_lt_zero->ο
set_option linter.all false
set_option maxRecDepth 100000
set_option maxHeartbeats 4000000
namespace Go.Ev
open Go Go.Proofs
variable{ws:List cD}{v:AV}{S:aQ}{L:cx}{f n1 n2:Nat}{args:List AV}{ng lg up:Bool}{c0 c1 c2 c3:UInt8}{g n:Int}{s:List UInt8}
theorem cR.a0{a b:Nat}{x:cD}(h:cR a x)(hab:a<=b):cR b x:=⟨h.1,λi hi=>Nat.lt_of_lt_of_le (h.2 i hi) hab⟩
theorem B6(hw:∀x∈ws,cR 14 x):Ns (Cw cfg ws):=λid hid=>by
 have hlo:(Cw cfg ws).lo=14+ws.length:=rfl;have h14:(14:Nat)=cfg.a0.n:=rfl;by_cases h:id<14
 . have:gB (Cw cfg ws).B id=cfg.a0.at id:=by
    grind [Cw,gB,fp,eK]
   rw[this];exact cR.a0 ⟨gR.lv.a0 id h,λi hi=>gR.lv.b0 id h i hi⟩ δ
 . have:gB (Cw cfg ws).B id=(⟨ws.length,ws.reverse,[]⟩:aB).at (id-14):=by
    grind [Cw,gB,eK]
   rw[this];unfold aB.at;rw[zAf];cases hx:(ws.reverse)[ws.length-1-(id-14)]? with
   | none=>grind
   | some x=>exact cR.a0 (hw x (List.mem_reverse.1 (List.mem_of_getElem? hx))) δ
noncomputable def Kj(ws:List cD)(f:Nat)(x:AX×St):Tr AV:=aT (wj tab (Cw cfg ws) (dH f) x) λr=>bif Wx r.2.le&&(kG 14 [] 20 r.1).isSome then .a0 r.1 else .c0
noncomputable def pW(S:aQ)(L:cx)(ws:List cD)(f:Nat)(args:List AV):Tr AV:=xz tab (cH cfg S) (tK S) L 1000 (Cw cfg ws) (aL f) (jS (dH f) args dO) (Kj ws f)
theorem dL.e0(hw:∀x∈ws,cR 14 x){v':AV}{o:aB}(h1:v'=v)(hi:aC v=[])(hm:(kG 14 [] 20 v).isSome)(hle:o.le=[]):dL ws v [] (v',o):=by
 subst h1;have hu:kG (14+ws.length+0) (fY (14+ws.length) 0 []) 20 v'=some v':=by
  have key:∀(b:Nat) (d:Nat) (v u:AV),kG 14 [] d v=some u->aC v=[]->kG b [] d v=some v:=by
   intro b d;induction d with
   | zero=>nofun
   | succ d ih=>
     have ihl:∀(vs us:List AV),yw (kG 14 [] d) vs=some us->bw vs=[]->yw (kG b [] d) vs=some vs:=by
      intro vs;induction vs with
      | nil=>intro us _ _;rfl
      | cons v vs ihv=>
        intro us h hi;simp only[yw,ag,zAb]at h;obtain⟨v1,h1,vs1,h2,rfl⟩:=h;simp only[bw,List.append_eq_nil_iff]at hi;simp only[yw,ih v v1 h1 hi.1,ihv vs1 h2 hi.2,ob]
     intro v u h hi;unfold kG at h ⊢;cases v<;>simp only[ag,zAb]at h ⊢<;>simp only[aC,List.append_eq_nil_iff,reduceCtorEq,List.cons_ne_self]at hi
     case i f a c=>obtain⟨a',ha,c',hc,rfl⟩:=h;exact⟨_,ihl a a' ha hi.1,_,ihl c c' hc hi.2,rfl⟩
     case m t w=>obtain⟨u',hu,rfl⟩:=h;exact⟨_,ih w u' hu hi,rfl⟩
     case g cs=>obtain⟨a',ha,rfl⟩:=h;exact⟨_,ihl cs a' ha hi,rfl⟩
     case d cs=>obtain⟨a',ha,rfl⟩:=h;exact⟨_,ihl cs a' ha hi,rfl⟩
  obtain⟨u,hu⟩:=Option.isSome_iff_exists.1 hm;exact key _ 20 v' u hu hi
 refine(oX gR.lv (C:=Cw cfg ws) (st:=⟨.c0 v' .a0 .a0,1,o,[],none⟩) (kb:=0) (sel:=[]) (ts':=.c0 v' .a0 .a0) (o':=dO) (B6 hw) (Nat.zero_le _) (λs hs=>by cases hs) List.nodup_nil (λp hp=>by rw[show(⟨.c0 v' .a0 .a0,1,o,[],none⟩:St).o=o from rfl,hle]at hp;cases hp) hle.symm rfl rfl (λi hi=>absurd hi (ο i)) (λt ht=>absurd ht (ο t)) ?_ (λd hd=>by cases hd) (λi hi=>by cases hi)).b0 λs hs=>?_
 . have hu':kG ((Cw cfg ws).lo+0) (fY (Cw cfg ws).lo 0 []) 20 v'=some v':=hu;simp only[xB,hu',ob]
 . rw[hs];exact⟨rfl,rfl⟩
theorem P0(hS:ak Tryz.prog cfg S)(hw:∀x∈ws,cR 14 x)(hb:aY tab f=some (dH f,aL f))(hlen:args.length<=1000)(hL:qI Tryz.prog (cH cfg S) (Cw cfg ws) L (aL f))
 (h:(pW S L ws f args).wp (·=v)) (hi:aC v=[]):bu Tryz.prog cfg f args ws v []:=by
 refine cC.c0 hS hb hlen ((wE (cC.a0 hS) (nj cfg S) hL h).a0 λx hx=>?_);have hx:(Kj ws f x).wp (·=v):=hx;unfold Kj at hx;cases he:wj tab (Cw cfg ws) (dH f) x with
 | none=>rw[he]at hx;exact hx.elim
 | some r=>
   rw[he]at hx;have hx:(bif Wx r.2.le&&(kG 14 [] 20 r.1).isSome then Tr.a0 r.1 else .c0).wp (·=v):=hx;cases hb:(Wx r.2.le&&(kG 14 [] 20 r.1).isSome)with
   | false=>rw[hb]at hx;exact hx.elim
   | true=>
     rw[hb,cond_true]at hx;have hx:r.1=v:=hx;rw[zAa]at hb;have hle:r.2.le=[]:=by
      have:=hb.1;cases hr:r.2.le with
      | nil=>rfl
      | cons a b=>rw[hr]at this;cases this
     exact⟨r,rfl,dL.e0 hw hx hi (by rw[<-hx];exact hb.2) hle⟩
theorem lF(hS:ak Tryz.prog cfg S)(hw:∀x∈ws,cR 14 x)(hL:qI Tryz.prog (cH cfg S) (Cw cfg ws) L (aL f))(D:DT){R:(AV->Prop)->Prop}(hk:∀Q,gG Q (pW S L ws f args) D=R Q)(h:∀Q:AV->Prop,(∀q,q=v->Q q)->R Q)(hb:aY tab f=some (dH f,aL f):=by kernel_rfl)(hlen:args.length<=1000:=by simp)(hi:aC v=[]:=by simp[aC,bw]):bu Tryz.prog cfg f args ws v []:=
 P0 hS hw hb hlen hL (bb λQ hQ=>cg ((hk Q).mpr (h Q hQ))) hi
theorem ns(hS:ak Tryz.prog cfg S)(hw:∀x∈ws,cR 14 x)(hL:qI Tryz.prog (cH cfg S) (Cw cfg ws) L (aL f))(D:DT){R:(AV->Prop)->Prop}(hk:∀Q,gG Q (pW S L ws f args) D=R Q)(h:∀Q:AV->Prop,Q v->R Q)(hb:aY tab f=some (dH f,aL f):=by kernel_rfl)(hlen:args.length<=1000:=by simp)(hi:aC v=[]:=by simp[aC,bw]):bu Tryz.prog cfg f args ws v []:=
 lF hS hw hL D hk (λQ hQ=>h Q (hQ v rfl)) hb hlen hi
theorem iu{cs:List AV}{rw:Bool}{g:Option Nat}(h:bc 14 cs):cR 14 (.a cs rw g):=⟨rfl,λi hi=>abm h i hi⟩
def bP(y m:Int):Int:=Go.Proofs.YtcffhjfdlflbgaaGreatDoor.mlen y m
def Vt:dP:=λ
 | [.a .i64 y,.a .i64 m]=>some (aH [ab (-10000000000000000) y,ab y 10000000000000000,ab 1 m,ab m 12] (.a0 (.d [.a .i64 (bP y m),.a .i64 0])))
 | _=>none
def V1:aQ:=aK (aK (aK (aK (aK U8 94 SU) 136 QA) 146 Ol) 167 NO) 246 Vt
def Ao(n:Int):Int:=0-kh n (-9223372036854775807)
def KM(ng:Bool)(c0 c1 c2 c3:UInt8)(n:Int)(up:Bool):Int:=bif ng then 0-(bif up then kp (cV c0 c1 c2 c3 (Ao n))else kp (c_ c0 c1 c2 c3 (kh (Ao n) 1)))else bif up then kp (c_ c0 c1 c2 c3 (kh n 0))else kp (cV c0 c1 c2 c3 n)
def I2(ng:Bool)(c0 c1 c2 c3:UInt8)(n:Int)(up:Bool):Bool:=bif ng then(bif up then za (cV c0 c1 c2 c3 (Ao n))&&ab 1 (kp (cV c0 c1 c2 c3 (Ao n)))else za (c_ c0 c1 c2 c3 (kh (Ao n) 1)))else bif up then za (c_ c0 c1 c2 c3 (kh n 0))else za (cV c0 c1 c2 c3 n)&&ab 0 (kp (cV c0 c1 c2 c3 n))
theorem GK:ak Tryz.prog cfg V1:=by
 refine au (bm (Ks (bm (SN V6) (EZ 136 _ rfl))) (FM 167 _ rfl)) λargs t v he hv=>?_;unfold Vt at he;split at he
 . rename_i y m;cases he;obtain⟨⟨h1,h2,h3,h4,-⟩,hv⟩:=aF hv;rw[aq]at h1 h2 h3 h4;cases hv;refine kA A_ (L:=jE) Cv θ ai (bb λQ' hQ=>cg ((VD y m).mpr ?_)) κ;simp only[az,reduceCtorEq]
   (repeat' first|exact trivial|refine⟨?_,?_⟩|intro)<;>first|omega|assumption|exact hQ _ rfl
 grind
theorem kP(a b:Int):kh a b=max a b:=by
 grind [kh,bF]
theorem agz{x:Option Int}(h:za x=false):kp x=0:=by cases x with|none=>rfl|some u=>cases h
theorem Ux{e:Int}{mo da:List UInt8}{a b c:Int}{w1 w2:List AV}{k1 k2:fg}(h0:fC c0)(h1:fC c1)(h2:fC c2)(h3:fC c3)(hx:ξ (dT [c0,c1,c2,c3] 88 88) 0=false)(hn : -9223372036854775808<=n/\n<=9223372036854775807)(hw1:bc 14 w1)(hw2:bc 14 w2) :
 bu Tryz.prog cfg 176 [.g [.b ng,.b lg,.e [c0,c1,c2,c3],.a .i64 e,.a .i64 g,.e mo,.e da,.a .u8 a,.a .u8 b,.a .u8 c,.c 14 0 n1 k1,.c 15 0 n2 k2],.a .i64 n,.b up] [.a w1 false none,.a w2 false none] (.d [.a .i64 (KM ng c0 c1 c2 c3 n up),.b (I2 ng c0 c1 c2 c3 n up)]) []:=by
 refine lF GK (λx hx=>?_) ai (bE 1051145427010114427041051145427010114427044015154270114270404030006) (R:=λQ=>(λ(G:AV)(A B C E I U:Bool)(H:Int)(V W:Option Int)(F:Prop)=>(λ(Y:Bool)(u2:Int)(Z u1:Option Int)(u0:Prop)=>(λ(u3:AV)(N O:Int)(u4 u5:Option Int)=>(λ(u9:AV)(u6 u7:Bool)(P T:Int)=>(λ(ua ub:Bool)=>(λ(uc:Prop->Prop)=>not (not (ξ (dT [c0,c1,c2,c3] 88 88) 0))=false/\(U->(up->uc ((za V->Q (.d [.a .i64 (kp V),G]))/\(za V=false->F)))/\(up=false->uc ((za W->Q (.d [.a .i64 (kp W),.b (ab 0 (kp W))]))/\(za W=false->F))))/\(U=false->(Y->(I->uc ((za Z->(u6->Q (.d [.a .i64 N,G]))/\(u6=false->Q (.d [.a .i64 (IntKind.wrap .i64 N),G])))/\(za Z=false->F)))/\(u0->uc ((za u1->(u7->Q (.d [.a .i64 O,u3]))/\(u7=false->Q (.d [.a .i64 (IntKind.wrap .i64 O),u3])))/\(za u1=false->F))))/\(Y=false->(I->uc ((za u4->(ua->Q (.d [.a .i64 P,G]))/\(ua=false->Q (.d [.a .i64 (IntKind.wrap .i64 P),G])))/\(za u4=false->F)))/\(u0->uc ((za u5->(ub->Q (.d [.a .i64 T,u9]))/\(ub=false->Q (.d [.a .i64 (IntKind.wrap .i64 T),u9])))/\(za u5=false->F)))))) (λud=>A/\B/\C/\E/\ud)) (af .i64 P) (af .i64 T)) (.b (ab 1 (kp u5))) (af .i64 N) (af .i64 O) (Int.sub 0 (kp u4)) (Int.sub 0 (kp u5))) (.b (ab 1 (kp u1))) (Int.sub 0 (kp Z)) (Int.sub 0 (kp u1)) (c_ c0 c1 c2 c3 (kh u2 1)) (cV c0 c1 c2 c3 u2)) (af .i64 H) (IntKind.wrap .i64 H) (c_ c0 c1 c2 c3 (kh H 1)) (cV c0 c1 c2 c3 H) (I=false)) (.b true) (fC c0) (fC c1) (fC c2) (fC c3) (not up) (not ng) (Int.sub 0 (kh n (Neg.neg 9223372036854775807))) (c_ c0 c1 c2 c3 (kh n 0)) (cV c0 c1 c2 c3 n) (Q (.d [.a .i64 0,.b false]))) (λ_=>by kernel_rfl) λQ' hQ=>?_
 . grind [iu]
 . simp only[az,reduceCtorEq];have bp:∀k,0<=kp (cV c0 c1 c2 c3 k)/\kp (cV c0 c1 c2 c3 k)<=9999:=λk=>by
    cases hp:cV c0 c1 c2 c3 k with
    | none=>exact⟨by decide,by decide⟩
    | some u=>have:=(fb.1 hp).1;exact⟨this.1,this.2.1⟩
   have bn:∀k,0<=kp (c_ c0 c1 c2 c3 k)/\kp (c_ c0 c1 c2 c3 k)<=9999:=λk=>by
    cases hp:c_ c0 c1 c2 c3 k with
    | none=>exact⟨by decide,by decide⟩
    | some u=>have:=(gF.1 hp).1;exact⟨this.1,this.2.1⟩
   have b1:=bp (0-kh n (-9223372036854775807));have b2:=bn (kh (0-kh n (-9223372036854775807)) 1);have hmx:=kP n (-9223372036854775807);have gn:∀x:Option Int,za x=false->kp x=0:=λx h=>agz h;have fin:∀(y:Int) (b:Bool),y=KM ng c0 c1 c2 c3 n up->b=I2 ng c0 c1 c2 c3 n up->Q' (.d [.a .i64 y,.b b]):=λy b e1 e2=>hQ _ (by grind);rw[b9]at hx
   (repeat' first|exact trivial|refine⟨?_,?_⟩|intro)<;>first|omega|assumption|(exact hx (by assumption))|grind [KM,I2,Ao]|(refine fin _ _ ?_ ?_<;>simp_all [KM,I2,Ao,gn];done)
theorem Vb{e:Int}{mo da:List UInt8}{a b c:Int}{w1 w2:List AV}{k1 k2:fg}(hs:s.length<=1000)(hx:ξ (dT s 88 88) 0)(ho:aV ng lg s e g)(hw1:bc 14 w1)(hw2:bc 14 w2) :
 bu Tryz.prog cfg 176 [.g [.b ng,.b lg,.e s,.a .i64 e,.a .i64 g,.e mo,.e da,.a .u8 a,.a .u8 b,.a .u8 c,.c 14 0 n1 k1,.c 15 0 n2 k2],.a .i64 n,.b up] [.a w1 false none,.a w2 false none] (.d [.a .i64 (dY ng s e),.b (bif up then ab n (dY ng s e)else ab (dY ng s e) n)]) []:=by
 refine lF GK (λx hx=>?_) ai (bE 1020700081230003313328224741020700081230003313328224744200520006) (R:=λQ=>(λ(O V W:AV)(A N U:Bool)(I:Int)(B:Prop)=>(λ(T:AV)(E P Y:Bool)(C:Prop)=>(λ(F:Bool)(G:Prop)=>(λ(H:Prop)=>(λ(Z:Prop->Prop)=>not (not U)/\Nat.ble s.length 1000/\(Y->(up->up/\up/\up/\(F->F/\F/\C/\C/\C/\F/\C/\P=false/\Q (.d [T,V]))/\(H->H/\H/\H/\P/\Q (.d [T,W])))/\(B->Z (Q (.d [T,.b (ab I n)]))))/\(Y=false->(up->up/\up/\up/\(E->E/\E/\C/\C/\C/\E/\C/\N=false/\Q (.d [O,V]))/\(G->G/\G/\G/\N/\Q (.d [O,W])))/\(B->Z (Q (.d [O,.b (ab 0 n)]))))) (λu0=>B/\B/\B/\A/\A/\A/\A/\u0)) (F=false)) (not P) (E=false)) (.a .i64 I) (not N) (ab n I) (and (aV ng lg s e g) U) (A=false)) (.a .i64 0) (.b false) (.b true) (not up) (ab n 0) (ξ (dT s 88 88) 0) (dY ng s e) (up=false)) (λ_=>by rfl) λQ' hQ=>?_
 . grind [iu]
 . simp only[az,reduceCtorEq];rw[aJ]at hx;have fin:∀b:Bool,b=(bif up then ab n (dY ng s e)else ab (dY ng s e) n)->Q' (.d [.a .i64 (dY ng s e),.b b]):=λb h=>hQ _ (by rw[h]);have hno:¬(aV ng lg s e g=false\/¬dT s 88 88=0):=by grind
   refine⟨hx,hs,λ_=>?_,λh=>(hno h).elim⟩;have hle:n<=dY ng s e->ab n (dY ng s e)=true:=λh=>aq.mpr h;have hlt:dY ng s e<n->ab n (dY ng s e)=false:=λh=>bF.mpr h;grind
def yV(ng:Bool)(s:List UInt8)(e n:Int)(up:Bool):Int:=bif ξ (dT s 88 88) 0 then dY ng s e else match s with|[c0,c1,c2,c3]=>KM ng c0 c1 c2 c3 n up|_=>0
def yB(ng:Bool)(s:List UInt8)(e n:Int)(up:Bool):Bool:=bif ξ (dT s 88 88) 0 then(bif up then ab n (dY ng s e)else ab (dY ng s e) n)else match s with|[c0,c1,c2,c3]=>I2 ng c0 c1 c2 c3 n up|_=>false
def lP(s:List UInt8):Bool:=ξ (dT s 88 88) 0 || (match s with|[c0,c1,c2,c3]=>fC c0&&(fC c1&&(fC c2&&fC c3))|_=>false)
def RZ:aav:=λ
 | [.g [.b ng,.b lg,.e s,.a .i64 e,.a .i64 g,.e mo,.e da,.a .u8 a,.a .u8 b,.a .u8 c,.c 14 0 n1 k1,.c 15 0 n2 k2],.a .i64 n,.b up],[.a w1 false none,.a w2 false none]=>
   some (aH [bc 14 w1,bc 14 w2,af .i64 n,aV ng lg s e g,Nat.ble s.length 1000,lP s] (.a0 (.d [.a .i64 (yV ng s e n up),.b (yB ng s e n up)],[])))
 | _,_=>none
theorem sV(h:lP s)(hx:ξ (dT s 88 88) 0=false):∃c0 c1 c2 c3,s=[c0,c1,c2,c3]/\fC c0/\fC c1/\fC c2/\fC c3=true:=by
 unfold lP at h;grind
theorem Nm(hS:ak Tryz.prog cfg S):ak Tryz.prog cfg (eQ S 176 (fl 14 [1,1] RZ)):=by
 refine bm hS (fW gR.lv Az λargs ws t r he hr=>?_);unfold RZ at he;split at he
 . rename_i ng lg s e g mo da a b c n1 k1 n2 k2 n up w1 w2;cases he;obtain⟨⟨h1,h2,h3,h4,h5,h6,-⟩,hr⟩:=aF hr;rw[LT]at h3;rw[al]at h5;cases hr;cases hx:ξ (dT s 88 88) 0 with
   | true=>
     have e1:yV ng s e n up=dY ng s e:=by simp_all [yV]
     have e2:yB ng s e n up=(bif up then ab n (dY ng s e)else ab (dY ng s e) n):=by simp_all [yB]
     grind [Vb]
   | false=>
     grind [sV,yV,yB,Ux]
 grind
theorem DP{e:Int}(ho:aV ng lg s e g)(h0:dT s 88 88=0) : -10000000000000000<=dY ng s e/\dY ng s e<=10000000000000000:=by
 have hd:=(IN ho h0).1;have key:fa s e.toNat<=10000000000000000:=by
  unfold aV at ho;rw[zAc]at ho;rcases ho with⟨_,_,h|h⟩
  . obtain⟨_,hl,he,_⟩:=h;subst he
    match s,hl with
    | [a,b,c,d],_=>
      have k0:=pz hd (i:=0) θ;have k1:=pz hd (i:=1) θ;have k2:=pz hd (i:=2) θ;have k3:=pz hd (i:=3) θ;grind [fa,numL]
  grind [magOk,al]
 grind [dY]
theorem GO{k:Int}(h:za (c_ c0 c1 c2 c3 k)):k<=kp (c_ c0 c1 c2 c3 k):=by
 cases hp:c_ c0 c1 c2 c3 k with
 | none=>rw[hp]at h;cases h
 | some u=>exact(gF.1 hp).2.1
theorem Hy{k:Int}(h:za (cV c0 c1 c2 c3 k)):kp (cV c0 c1 c2 c3 k)<=k:=by
 cases hp:cV c0 c1 c2 c3 k with
 | none=>rw[hp]at h;cases h
 | some u=>exact(fb.1 hp).2.1
theorem QF{c0 c1 c2 c3:UInt8}{k:Int}:0<=kp (c_ c0 c1 c2 c3 k)/\kp (c_ c0 c1 c2 c3 k)<=9999:=by
 cases hp:c_ c0 c1 c2 c3 k with
 | none=>exact⟨by decide,by decide⟩
 | some u=>have:=(gF.1 hp).1;exact⟨this.1,this.2.1⟩
theorem RU{c0 c1 c2 c3:UInt8}{k:Int}:0<=kp (cV c0 c1 c2 c3 k)/\kp (cV c0 c1 c2 c3 k)<=9999:=by
 cases hp:cV c0 c1 c2 c3 k with
 | none=>exact⟨by decide,by decide⟩
 | some u=>have:=(fb.1 hp).1;exact⟨this.1,this.2.1⟩
theorem WR{e:Int}(h:yB ng s e n true):n<=yV ng s e n true:=by
 unfold yB at h;unfold yV;cases hx:ξ (dT s 88 88) 0 with
 | true=>grind [aq]
 | false=>
   rw[hx,cond_false]at h;rw[cond_false];split at h
   . rename_i c0 c1 c2 c3;unfold I2 at h;unfold KM;cases ng with
     | true=>
       simp only[cond_true,zAa,aq]at h ⊢;have:=Hy h.1;grind [Ao,kP]
     | false=>
       simp only[zAj]at h ⊢;have:=GO h;rw[kP]at *;omega
   grind
theorem iP{e:Int}(ho:aV ng lg s e g) : -10000000000000000<=yV ng s e n up/\yV ng s e n up<=10000000000000000:=by
 unfold yV;cases hx:ξ (dT s 88 88) 0 with
 | true=>rw[cond_true];rw[aJ]at hx;exact DP ho hx
 | false=>
   rw[cond_false];split
   . rename_i c0 c1 c2 c3;unfold KM;have b1:=@QF c0 c1 c2 c3;have b2:=@RU c0 c1 c2 c3;grind
   simp
noncomputable def V2:aQ:=eQ V1 176 (fl 14 [1,1] RZ)
theorem qY:ak Tryz.prog cfg V2:=Nm GK
abbrev Ou:List Nat:=[3,4,5,6,7,8,9,10,11,12,53,54,55,15,16,17,94,95,96]
def abU(nda sm:Bool)(mst cd d:Int):Bool:=ab d mst&&!(sm&&(nda&&!(ab cd d)))
def gk(nda sm:Bool)(mst cd:Int)(D:List Int):Option Int:=D.find? (abU nda sm mst cd)
def mU(da:List UInt8):Bool:=!(ae da [])
def K7(D:List Int):dW:=λvs o=>match vs,o with
 | [.h 16 0,.h 17 0,.h 18 0,.h 19 0,.b false,.a .i64 1,.c 14 0 n1 k1,.c 15 0 n2 k2,.i 175 [] [.h 18 0],.a .i64 y,.c 14 0 n1' k1',.a .i64 n1'',.a .i64 j,.a .i64 m,.b sm,.a .i64 mst,.c 15 0 n2' k2',.a .i64 n2'',.a .i64 i],
   ⟨4,[.a [.a .i64 0,.a .i64 0,.a .i64 0] true none,.a [.b true] true none,.a [.a .i64 cy,.a .i64 cm,.a .i64 cd] true none,
   .a [.b ng,.b lg,.e s,.a .i64 e,.a .i64 g,.e mo,.e da,.a .u8 a,.a .u8 b,.a .u8 c,.c 14 0 n1a k1a,.c 15 0 n2a k2a] true none],[]⟩=>
   some (aH [Nat.ble n2 1000,ξ D.length n2,ξ n2' n2,aa n2'' (ν n2),aa i 0] (.d0 (za (gk (mU da) sm mst cd D)) λx=>bif x then
    .e0 λJ=>.a0 (.c,[.h 16 0,.h 17 0,.h 18 0,.h 19 0,.b true,.a .i64 1,.c 14 0 n1 k1,.c 15 0 n2 k2,.i 175 [] [.h 18 0],.a .i64 y,.c 14 0 n1' k1',.a .i64 n1'',.a .i64 j,.a .i64 m,.b sm,.a .i64 mst,.c 15 0 n2' k2',.a .i64 n2'',.j (J 0)],
     ⟨4,[.a [.a .i64 y,.a .i64 m,.a .i64 (kp (gk (mU da) sm mst cd D))] true none,.a [.b true] true none,.a [.a .i64 cy,.a .i64 cm,.a .i64 cd] true none,
   .a [.b ng,.b lg,.e s,.a .i64 e,.a .i64 g,.e mo,.e da,.a .u8 a,.a .u8 b,.a .u8 c,.c 14 0 n1a k1a,.c 15 0 n2a k2a] true none],[]⟩)
    else .a0 (.b 4,[.h 16 0,.h 17 0,.h 18 0,.h 19 0,.b false,.a .i64 1,.c 14 0 n1 k1,.c 15 0 n2 k2,.i 175 [] [.h 18 0],.a .i64 y,.c 14 0 n1' k1',.a .i64 n1'',.a .i64 j,.a .i64 m,.b sm,.a .i64 mst,.c 15 0 n2' k2',.a .i64 n2'',.a .i64 n2''],o)))
 | _,_=>none
theorem sk{α:Type}{p:α->Bool}{d:α}:∀{D:List α} {i:Nat},i<D.length->(∀k,k<i->p (D.getD k d)=false)->p (D.getD i d)->D.find? p=some (D.getD i d)
 | [],i,h,_,_=>by grind
 | x::D,0,_,_,h=>by
   grind
 | x::D,i+1,hi,hk,h=>by
   have h0:p x=false:=hk 0 δ;rw[List.find?_cons,h0];exact sk (D:=D) (i:=i) η (λk hk'=>hk (k+1) δ) h
theorem ZD{α:Type}{p:α->Bool}{d:α}{D:List α}(h:∀k,k<D.length->p (D.getD k d)=false):D.find? p=none:=by
 rw[List.find?_eq_none];grind [List.getElem?_of_mem]
theorem sW{D:List Int}{i:Nat}(h:i<D.length):List.getD (aI D) (0+i*1) (AV.d [])=.a .i64 (D.getD i 0):=by
 grind [aI]
theorem CQ:(bz (aL 96)).map (·.1)=[0,2,4]:=κ
theorem QU(M:List AV)(D:List Int):cu Tryz.prog (cH cfg V2) (Cw cfg [.a M false none,.a (aI D) false none]) (lb 96 2) 127 Ou (K7 D):=by
 intro vs o t Q hv hq J;unfold K7 at hv;split at hv
 . rename_i n1 k1 n2 k2 y n1' k1' n1'' j m sm mst n2' k2' n2'' i cy cm cd ng lg s e g mo da a b c n1a k1a n2a k2a;cases hv;replace hq:=cO hq;obtain⟨⟨h1,h2,h3,h4,h5,-⟩,hq⟩:=hq;rw[al]at h1;rw[aJ]at h2 h3;rw[ao]at h4 h5;subst h2 h3 h4 h5;simp only[aH,Tr.wp]at hq;refine ia qY rfl rfl ai (ι:={i:Nat // i<=D.length/\∀k,k<i->abU (mU da) sm mst cd (D.getD k 0)=false}) (λx=>[.h 16 0,.h 17 0,.h 18 0,.h 19 0,.b false,.a .i64 1,.c 14 0 n1 k1,.c 15 0 D.length k2,.i 175 [] [.h 18 0],.a .i64 y,.c 14 0 n1' k1',.a .i64 n1'',.a .i64 j,.a .i64 m,.b sm,.a .i64 mst,.c 15 0 D.length k2',.a .i64 (ν D.length),.a .i64 (ν x.1)])
    (λ_=>⟨4,[.a [.a .i64 0,.a .i64 0,.a .i64 0] true none,.a [.b true] true none,.a [.a .i64 cy,.a .i64 cm,.a .i64 cd] true none,.a [.b ng,.b lg,.e s,.a .i64 e,.a .i64 g,.e mo,.e da,.a .u8 a,.a .u8 b,.a .u8 c,.c 14 0 n1a k1a,.c 15 0 n2a k2a] true none],[]⟩) (λx=>D.length-x.1) 4 (λ_=>Nat.le_refl _) (λx J=>?_) (Nat.le_refl _) (λJ=>Wk.a0 ⟨⟨0,Nat.zero_le _,λk hk=>absurd hk (ο k)⟩,J,rfl⟩) J
   obtain⟨i,hi,hp⟩:=x;dsimp only;refine jJ (bE 1112080533531002202052328100223238120227300033100273020002204052074270224244204) (R:=λQ=>(λ(ug uh:cD)(H I N T U V W Y Z u0 u1 u2 u3 u4 u5 u6 ue uf ui:AV)(B:Bool)(P ud:Int)(F:Prop)=>(λ(um:cD)(u9 ua ul:AV)(uj uk:Bool)(u7 un:Int)(E:Prop)=>(λ(A ub:Bool)(uo:Prop)=>(λ(G:Bool)(C uc:Prop)=>(λ(O:Prop)=>(uj->aS i D.length/\(uk->(A->A/\(sm->sm/\sm/\sm/\A/\sm/\A/\(B->B/\B/\B/\B/\(G->G/\G/\G/\ub=false/\A/\B/\uc)/\(O->O/\O/\O/\ub/\A/\B/\A/\A/\uo))/\(E->E/\E/\E/\E/\A/\E/\uc))/\(F->F/\F/\F/\A/\F/\A/\A/\uc))/\(C->C/\C/\C/\C/\C/\C/\uo))/\(uk=false->False))/\(uj=false->Q (.b 4,[T,U,H,V,ui,W,Y,Z,u9,I,u0,u1,u2,N,u3,u4,u5,ua,ul],⟨4,[.a [u6,u6,u6] true none,um,ug,uh],[]⟩))) (G=false)) (not ub) (A=false) (A/\A/\Q (.c,[T,U,H,V,uf,W,Y,Z,u9,I,u0,u1,u2,N,u3,u4,u5,ua,ul],⟨4,[.a [I,N,.a .i64 u7] true none,um,ug,uh],[]⟩))) (ab u7 mst) (not (ab cd u7)) (af .i64 un/\Q (.a,[T,U,H,V,ui,W,Y,Z,u9,I,u0,u1,u2,N,u3,u4,u5,ua,.a .i64 un],⟨4,[.a [u6,u6,u6] true none,um,ug,uh],[]⟩))) (.a [uf] true none) (.i 175 [] [H]) (.a .i64 ud) (.a .i64 P) (not (ab ud P)) (eB .i64 ue) (dx ue) (Int.add P 1) (B=false)) (.a [.a .i64 cy,.a .i64 cm,.a .i64 cd] true none) (.a [.b ng,.b lg,.e s,.a .i64 e,.a .i64 g,.e mo,.e da,.a .u8 a,.a .u8 b,.a .u8 c,.c 14 0 n1a k1a,.c 15 0 n2a k2a] true none) (.h 18 0) (.a .i64 y) (.a .i64 m) (.h 16 0) (.h 17 0) (.h 19 0) (.a .i64 1) (.c 14 0 n1 k1) (.c 15 0 D.length k2) (.c 14 0 n1' k1') (.a .i64 n1'') (.a .i64 j) (.b sm) (.a .i64 mst) (.c 15 0 D.length k2') (.a .i64 0) (List.getD (aI D) (HAdd.hAdd 0 (HMul.hMul i 1)) (.d [])) (.b true) (.b false) (not (ae da [])) (ν i) (ν D.length) (sm=false)) (λ_=>by kernel_rfl) λQ' hQ=>?_;try dsimp only
   have yes:i<D.length->abU (mU da) sm mst cd (D.getD i 0)->∀J:Nat->Value,Q (.c,[.h 16 0,.h 17 0,.h 18 0,.h 19 0,.b true,.a .i64 1,.c 14 0 n1 k1,.c 15 0 D.length k2,.i 175 [] [.h 18 0],.a .i64 y,.c 14 0 n1' k1',.a .i64 n1'',.a .i64 j,.a .i64 m,.b sm,.a .i64 mst,.c 15 0 D.length k2',.a .i64 (ν D.length),.j (J 0)],
    ⟨4,[.a [.a .i64 y,.a .i64 m,.a .i64 (D.getD i 0)] true none,.a [.b true] true none,.a [.a .i64 cy,.a .i64 cm,.a .i64 cd] true none,.a [.b ng,.b lg,.e s,.a .i64 e,.a .i64 g,.e mo,.e da,.a .u8 a,.a .u8 b,.a .u8 c,.c 14 0 n1a k1a,.c 15 0 n2a k2a] true none],[]⟩):=λhlt hpick J2=>by
    have hf:gk (mU da) sm mst cd D=some (D.getD i 0):=sk hlt hp hpick;rw[hf]at hq;exact hq J2
   have no:¬i<D.length->Q (.b 4,[.h 16 0,.h 17 0,.h 18 0,.h 19 0,.b false,.a .i64 1,.c 14 0 n1 k1,.c 15 0 D.length k2,.i 175 [] [.h 18 0],.a .i64 y,.c 14 0 n1' k1',.a .i64 n1'',.a .i64 j,.a .i64 m,.b sm,.a .i64 mst,.c 15 0 D.length k2',.a .i64 (ν D.length),.a .i64 (ν D.length)],
    ⟨4,[.a [.a .i64 0,.a .i64 0,.a .i64 0] true none,.a [.b true] true none,.a [.a .i64 cy,.a .i64 cm,.a .i64 cd] true none,.a [.b ng,.b lg,.e s,.a .i64 e,.a .i64 g,.e mo,.e da,.a .u8 a,.a .u8 b,.a .u8 c,.c 14 0 n1a k1a,.c 15 0 n2a k2a] true none],[]⟩):=λhge=>by
    have hf:gk (mU da) sm mst cd D=none:=ZD λk hk=>hp k δ;rw[hf]at hq;exact hq
   have next:abU (mU da) sm mst cd (D.getD i 0)=false->∀k,k<i+1->abU (mU da) sm mst cd (D.getD k 0)=false:=λh k hk=>by
    grind
   by_cases hlt:i<D.length
   . rw[sW hlt];have yes:=yes hlt;clear no;have hpe:abU (mU da) sm mst cd (D.getD i 0)=(ab (D.getD i 0) mst&&!(sm&&(!(ae da [])&&!(ab cd (D.getD i 0))))):=rfl;generalize D.getD i 0=d at *;simp only[eB,dx,zb,abw];simp only[az,reduceCtorEq];have hpi:abU (mU da) sm mst cd d=true↔(d<=mst/\¬(sm/\ae da []=false/\d<cd)):=by
      rw[hpe,zAa,aq];refine and_congr_right λ_=>?_;cases sm<;>cases ae da []<;>cases hcd:ab cd d<;>first|(rw[aq]at hcd;simp;done)|(rw[bF]at hcd;simp;done)|(rw[aq]at hcd;simp;omega)|(rw[bF]at hcd;simp;omega)
     clear hpe;generalize hpd:abU (mU da) sm mst cd d=pd at *
     (repeat' first|exact trivial|refine⟨?_,?_⟩|intro)<;>first|omega|assumption|refine hQ _ ?_
     all_goals first
      | (refine⟨_,_,VW.c0 (.a0 (.a0 (.a0 (.a0 (.a0 (.a0 (.a0 (.a0 (.a0 (.a0 (.a0 (.a0 (.a0 (.a0 (.a0 (.a0 (.a0 (.a0 (.b0 .c0))))))))))))))))))) rfl,yes (hpi.2 ⟨by assumption,?_⟩) (jv [_])⟩;simp_all;done)
      | (refine⟨_,_,VW.any (.same (.same (.same (.same (.same (.same (.same (.same (.same (.same (.same (.same (.same (.same (.same (.same (.same (.same (.int .nil))))))))))))))))))) rfl,yes (hpi.2 ⟨by assumption,?_⟩) (jv [_])⟩;simp_all;omega)
      | (refine⟨⟨i+1,by omega,next ?_⟩,by dsimp only;omega,VW.b0 rfl rfl⟩;rw[<-Bool.not_eq_true,hpi];simp_all;done)
      | (refine⟨⟨i+1,by omega,next ?_⟩,by dsimp only;omega,VW.b0 rfl rfl⟩;rw[<-Bool.not_eq_true,hpi];simp_all;omega)
   . obtain rfl:i=D.length:=δ
     have no2:=no hlt;simp only[az,reduceCtorEq]
     (repeat' first|exact trivial|refine⟨?_,?_⟩|intro)<;>first|omega|assumption|(exfalso;omega)|(refine hQ _ ?_;exact⟨_,_,VW.a0,no2⟩)
 . cases hv
abbrev Oi:List Nat:=[3,4,5,6,7,8,9,10,11,12,53,54,55]
def Lc(D:List Int):cx:=iz jE 4 (d9 127 Ou (K7 D))
def Ps(y cy cm:Int)(mo:List UInt8)(m:Int):Bool:=aa y cy&&(ae mo [] || aa m cm)
def kN(y m:Int)(da:List UInt8):Int:=bif ae da []then 0 else bP y m
def k_(y cy cm cd:Int)(mo da:List UInt8)(D:List Int)(m:Int):Option Int:=
 bif aa y cy&&(!(ae mo [])&&!(ab cm m))then none else gk (mU da) (Ps y cy cm mo m) (kN y m da) cd D
def Y4(y cy cm cd:Int)(mo da:List UInt8)(D:List Int)(m:Int):Bool:=za (k_ y cy cm cd mo da D m)
def ff(y cy cm cd:Int)(mo da:List UInt8)(M D:List Int):Option Int:=M.find? (Y4 y cy cm cd mo da D)
def okM(da:List UInt8)(m:Int):Bool:=ae da [] || (ab 1 m&&ab m 12)
def Me(M D:List Int):dW:=λvs o=>match vs,o with
 | [.h 16 0,.h 17 0,.h 18 0,.h 19 0,.b false,.a .i64 1,.c 14 0 n1 k1,.c 15 0 n2 k2,.i 175 [] [.h 18 0],.a .i64 y,.c 14 0 n1' k1',.a .i64 n1'',.a .i64 j],
   ⟨4,[.a [.a .i64 0,.a .i64 0,.a .i64 0] true none,.a [.b true] true none,.a [.a .i64 cy,.a .i64 cm,.a .i64 cd] true none,
   .a [.b ng,.b lg,.e s,.a .i64 e,.a .i64 g,.e mo,.e da,.a .u8 a,.a .u8 b,.a .u8 c,.c 14 0 n1a k1a,.c 15 0 n2a k2a] true none],[]⟩=>
   some (aH [Nat.ble n1 1000,ξ M.length n1,ξ n1' n1,aa n1'' (ν n1),aa j 0,Nat.ble n2 1000,ξ D.length n2,ab (-10000000000000000) y,ab y 10000000000000000,M.all (okM da)]
    (.d0 (za (ff y cy cm cd mo da M D)) λx=>bif x then
    .e0 λJ=>.a0 (.c,[.h 16 0,.h 17 0,.h 18 0,.h 19 0,.b true,.a .i64 1,.c 14 0 n1 k1,.c 15 0 n2 k2,.i 175 [] [.h 18 0],.a .i64 y,.c 14 0 n1' k1',.a .i64 n1'',.j (J 0)],
     ⟨4,[.a [.a .i64 y,.a .i64 (kp (ff y cy cm cd mo da M D)),.a .i64 (kp (k_ y cy cm cd mo da D (kp (ff y cy cm cd mo da M D))))] true none,.a [.b true] true none,.a [.a .i64 cy,.a .i64 cm,.a .i64 cd] true none,
   .a [.b ng,.b lg,.e s,.a .i64 e,.a .i64 g,.e mo,.e da,.a .u8 a,.a .u8 b,.a .u8 c,.c 14 0 n1a k1a,.c 15 0 n2a k2a] true none],[]⟩)
    else .a0 (.b 2,[.h 16 0,.h 17 0,.h 18 0,.h 19 0,.b false,.a .i64 1,.c 14 0 n1 k1,.c 15 0 n2 k2,.i 175 [] [.h 18 0],.a .i64 y,.c 14 0 n1' k1',.a .i64 n1'',.a .i64 n1''],o)))
 | _,_=>none
theorem DU:((bz (lb 96 1)).getD 0 (0,.skip)).2=lb 96 2:=κ
theorem AA:(bz (lb 96 1)).map (·.1)=[4]:=κ
theorem OK(M D:List Int):qI Tryz.prog (cH cfg V2) (Cw cfg [.a (aI M) false none,.a (aI D) false none]) (Lc D) (lb 96 1):=by
 refine dv AA λi hi e he st Q hw=>?_;have hi:i=0:=η
 subst hi;cases he;rw[DU];exact bR (cC.a0 qY) ζ rfl (QU (aI M) D) hw
theorem MI{da:List UInt8}{M:List Int}{j:Nat}(h:M.all (okM da))(hj:j<M.length):ae da []=false->1<=M.getD j 0/\M.getD j 0<=12:=by
 grind [List.getElem_mem,okM,aq]
theorem Tz(M D:List Int):cu Tryz.prog (cH cfg V2) (Cw cfg [.a (aI M) false none,.a (aI D) false none]) (lb 96 1) 127 Oi (Me M D):=by
 intro vs o t Q hv hq J;unfold Me at hv;split at hv
 . rename_i n1 k1 n2 k2 y n1' k1' n1'' j cy cm cd ng lg s e g mo da a b c n1a k1a n2a k2a;cases hv;replace hq:=cO hq;obtain⟨⟨h1,h2,h3,h4,h5,h6,h7,h8,h9,h10,-⟩,hq⟩:=hq;rw[al]at h1 h6;rw[aJ]at h2 h3 h7;rw[ao]at h4 h5;rw[aq]at h8 h9;subst h2 h3 h4 h5 h7;simp only[aH,Tr.wp]at hq;refine ia qY rfl rfl (OK M D) (ι:={j:Nat // j<=M.length/\∀k,k<j->Y4 y cy cm cd mo da D (M.getD k 0)=false}) (λx=>[.h 16 0,.h 17 0,.h 18 0,.h 19 0,.b false,.a .i64 1,.c 14 0 M.length k1,.c 15 0 D.length k2,.i 175 [] [.h 18 0],.a .i64 y,.c 14 0 M.length k1',.a .i64 (ν M.length),.a .i64 (ν x.1)])
    (λ_=>⟨4,[.a [.a .i64 0,.a .i64 0,.a .i64 0] true none,.a [.b true] true none,.a [.a .i64 cy,.a .i64 cm,.a .i64 cd] true none,.a [.b ng,.b lg,.e s,.a .i64 e,.a .i64 g,.e mo,.e da,.a .u8 a,.a .u8 b,.a .u8 c,.c 14 0 n1a k1a,.c 15 0 n2a k2a] true none],[]⟩) (λx=>M.length-x.1) 4 (λ_=>Nat.le_refl _) (λx J=>?_) (Nat.le_refl _) (λJ=>Wk.a0 ⟨⟨0,Nat.zero_le _,λk hk=>absurd hk (ο k)⟩,J,rfl⟩) J
   obtain⟨j,hj,hp⟩:=x;dsimp only;refine jJ (bE 111112140273353384422012140273353384006638111214027738220744220121402773822074056338120223000331112140227322022707442201214022732202270740562302000220405207422022404204) (R:=λQ=>(λ(G H:cD)(F u3 u9 ua ub uc ud ue uf ug ur ut uu:AV)(A N O P T u1 u2 uh ui:Bool)(u7 uq us:Int)=>(λ(I:cD)(uj uk uy:AV)(C V uv uw:Bool)(U uz:Int)(uA uB:Option Int)(B ul ux:Prop)=>(λ(Y:AV)(u4 u5 um uC:Bool)(un:Int)(W:List AV)(E uD:Prop)=>(λ(u0:Bool)(uE uF uG uH:Option Int)(Z uo up:Prop)=>(λ(u6:Prop)=>(λ(uK:Prop->Prop)=>(λ(uJ:Prop->Prop)=>(λ(uI:Prop->Prop)=>(uv->aS j M.length/\(uw->(A->A/\A/\A/\A/\(C->C/\C/\C/\C/\(u0->u0/\u0/\u0/\um=false/\C/\(u2->uI ((za uE->(∀J1 J2:Nat->Value,Q (.c,W,⟨4,[.a [F,Y,.a .i64 (kp uE)] true none,I,G,H],[]⟩)))/\(za uE=false->Z)))/\(ul->uh/\ui/\(u4->(u5->uI ((za uF->(∀J1 J2:Nat->Value,Q (.c,W,⟨4,[.a [F,Y,.a .i64 (kp uF)] true none,I,G,H],[]⟩)))/\(za uF=false->Z)))/\uo)/\up))/\(u6->u6/\u6/\u6/\um/\C/\uD))/\(E->E/\E/\E/\E/\E/\(u2->uJ ((za uA->(∀J1 J2:Nat->Value,Q (.c,W,⟨4,[.a [F,Y,.a .i64 (kp uA)] true none,I,G,H],[]⟩)))/\(za uA=false->Z)))/\(ul->uh/\ui/\(u4->(u5->uJ ((za uG->(∀J1 J2:Nat->Value,Q (.c,W,⟨4,[.a [F,Y,.a .i64 (kp uG)] true none,I,G,H],[]⟩)))/\(za uG=false->Z)))/\uo)/\up)))/\(B->B/\B/\B/\B/\(u2->uK ((za uB->(∀J1 J2:Nat->Value,Q (.c,W,⟨4,[.a [F,Y,.a .i64 (kp uB)] true none,I,G,H],[]⟩)))/\(za uB=false->Z)))/\(ul->uh/\ui/\(u4->(u5->uK ((za uH->(∀J1 J2:Nat->Value,Q (.c,W,⟨4,[.a [F,Y,.a .i64 (kp uH)] true none,I,G,H],[]⟩)))/\(za uH=false->Z)))/\uo)/\up)))/\(uw=false->False))/\(uv=false->Q (.b 2,[u9,ua,u3,ub,uu,uc,ud,ue,uj,F,uf,uk,uy],⟨4,[.a [ug,ug,ug] true none,I,G,H],[]⟩))) (λuL=>A/\A/\A/\A/\A/\C/\C/\C/\C/\A/\ux/\A/\N/\O/\P/\V/\uL)) (λuL=>A/\A/\A/\A/\A/\E/\E/\E/\E/\A/\u1/\A/\N/\O/\P/\V/\uL)) (λuL=>B/\B/\B/\B/\B/\B/\B/\N/\O/\P/\V/\uL)) (u0=false)) (not um) (gk T uC 0 cd D) (gk T uC un cd D) (gk T true un cd D) (gk T false un cd D) (∀J1:Nat->Value,uD) (u5=false->False) (u4=false->False)) (.a .i64 U) (ab 1 U) (ab U 12) (not (ab cm U)) (aa U cm) (bP y U) [u9,ua,u3,ub,ut,uc,ud,ue,uj,F,uf,uk,uy] (C=false) (af .i64 uz/\Q (.a,[u9,ua,u3,ub,uu,uc,ud,ue,uj,F,uf,uk,.a .i64 uz],⟨4,[.a [ug,ug,ug] true none,I,G,H],[]⟩))) (.a [ut] true none) (.i 175 [] [u3]) (.a .i64 uq) (.a .i64 u7) (not u1) (aa us us) (not (ab uq u7)) (eB .i64 ur) (dx ur) (Int.add u7 1) (gk T true 0 cd D) (gk T false 0 cd D) (A=false) (u2=false) (u1=false)) (.a [.a .i64 cy,.a .i64 cm,.a .i64 cd] true none) (.a [.b ng,.b lg,.e s,.a .i64 e,.a .i64 g,.e mo,.e da,.a .u8 a,.a .u8 b,.a .u8 c,.c 14 0 n1a k1a,.c 15 0 n2a k2a] true none) (.a .i64 y) (.h 18 0) (.h 16 0) (.h 17 0) (.h 19 0) (.a .i64 1) (.c 14 0 M.length k1) (.c 15 0 D.length k2) (.c 14 0 M.length k1') (.a .i64 0) (List.getD (aI M) (HAdd.hAdd 0 (HMul.hMul j 1)) (.d [])) (.b true) (.b false) (aa y cy) (Nat.ble D.length 1000) (ξ D.length D.length) (ξ D.length D.length) (mU da) (ae mo []) (ae da []) (ab (Neg.neg 10000000000000000) y) (ab y 10000000000000000) (ν j) (ν M.length) (ν D.length)) (λ_=>by kernel_rfl) λQ' hQ=>?_;try dsimp only
   have yes:j<M.length->Y4 y cy cm cd mo da D (M.getD j 0)->∀J:Nat->Value,Q (.c,[.h 16 0,.h 17 0,.h 18 0,.h 19 0,.b true,.a .i64 1,.c 14 0 M.length k1,.c 15 0 D.length k2,.i 175 [] [.h 18 0],.a .i64 y,.c 14 0 M.length k1',.a .i64 (ν M.length),.j (J 0)],
    ⟨4,[.a [.a .i64 y,.a .i64 (M.getD j 0),.a .i64 (kp (k_ y cy cm cd mo da D (M.getD j 0)))] true none,.a [.b true] true none,.a [.a .i64 cy,.a .i64 cm,.a .i64 cd] true none,.a [.b ng,.b lg,.e s,.a .i64 e,.a .i64 g,.e mo,.e da,.a .u8 a,.a .u8 b,.a .u8 c,.c 14 0 n1a k1a,.c 15 0 n2a k2a] true none],[]⟩):=λhlt hpick J2=>by
    have hf:ff y cy cm cd mo da M D=some (M.getD j 0):=sk hlt hp hpick;rw[hf]at hq;exact hq J2
   have no:¬j<M.length->Q (.b 2,[.h 16 0,.h 17 0,.h 18 0,.h 19 0,.b false,.a .i64 1,.c 14 0 M.length k1,.c 15 0 D.length k2,.i 175 [] [.h 18 0],.a .i64 y,.c 14 0 M.length k1',.a .i64 (ν M.length),.a .i64 (ν M.length)],
    ⟨4,[.a [.a .i64 0,.a .i64 0,.a .i64 0] true none,.a [.b true] true none,.a [.a .i64 cy,.a .i64 cm,.a .i64 cd] true none,.a [.b ng,.b lg,.e s,.a .i64 e,.a .i64 g,.e mo,.e da,.a .u8 a,.a .u8 b,.a .u8 c,.c 14 0 n1a k1a,.c 15 0 n2a k2a] true none],[]⟩):=λhge=>by
    have hf:ff y cy cm cd mo da M D=none:=ZD λk hk=>hp k δ;rw[hf]at hq;exact hq
   have next:Y4 y cy cm cd mo da D (M.getD j 0)=false->∀k,k<j+1->Y4 y cy cm cd mo da D (M.getD k 0)=false:=λh k hk=>by
    by_cases e:k=j
    . subst e;exact h
    . exact hp k δ
   by_cases hlt:j<M.length
   . rw[sW hlt];have hok:=MI h10 hlt;have yes:=yes hlt;clear no hq hp h10;have hmon:k_ y cy cm cd mo da D (M.getD j 0)=(bif aa y cy&&(!(ae mo [])&&!(ab cm (M.getD j 0)))then none else gk (mU da) (aa y cy&&(ae mo [] || aa (M.getD j 0) cm)) (bif ae da []then 0 else bP y (M.getD j 0)) cd D):=rfl;rw[show Y4 y cy cm cd mo da D (M.getD j 0)=za (k_ y cy cm cd mo da D (M.getD j 0))from rfl]at yes next;generalize k_ y cy cm cd mo da D (M.getD j 0)=mm at *;generalize M.getD j 0=m at *;simp only[eB,dx,zb,abw];generalize aa y cy=E at *;generalize ae mo []=Bm at *;generalize ab cm m=Lm at *;generalize ae da []=Bd at *;cases E<;>cases Bm<;>cases Lm<;>cases Bd<;>simp only[zAi,Bool.false_and,Bool.and_false,Bool.true_or,Bool.false_or,zAj]at hmon<;>subst hmon<;>simp only[az,reduceCtorEq]<;>(repeat' first|exact trivial|refine⟨?_,?_⟩|intro)<;>first|contradiction|omega|assumption|(exfalso;have:=hok rfl;omega)|refine hQ _ ?_
     all_goals first
      | exact⟨_,_,VW.c0 (.a0 (.a0 (.a0 (.a0 (.a0 (.a0 (.a0 (.a0 (.a0 (.a0 (.a0 (.a0 (.b0 .c0))))))))))))) rfl,yes (by assumption) (jv [_])⟩
      | exact⟨⟨j+1,by omega,next (by first|assumption|rfl)⟩,by dsimp only;omega,VW.b0 rfl rfl⟩
   . obtain rfl:j=M.length:=δ
     have no2:=no hlt;simp only[az,reduceCtorEq]
     (repeat' first|exact trivial|refine⟨?_,?_⟩|intro)<;>first|omega|assumption|(exfalso;omega)|(refine hQ _ ?_;exact⟨_,_,VW.a0,no2⟩)
 . cases hv
end Go.Ev
