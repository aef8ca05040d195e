import Derived.Test.YtcffhjfdlflbgaaGreatDoorP20
set_option linter.all false
open Nat renaming ble->ν,beq->ξ
open Int renaming ofNat->ο
set_option linter.all false
set_option maxRecDepth 100000
set_option maxHeartbeats 4000000
section
namespace Go.Ev
open Go Go.Proofs Go.Proofs.YtcffhjfdlflbgaaGreatDoor
def NO:dP:=λ
 | [.h [.b ng,.b lg,.e s,.a .i64 e,.a .i64 g,.e mo,.e da,.a .u8 a,.a .u8 b,.a .u8 c]]=>some (aH [ν s.length 1000,ν mo.length 1000,ν da.length 1000,af .i64 e,af .i64 g,af .u8 a,af .u8 b,af .u8 c] (.a0 (.d [.a .i64 (aR mo),.b (!(aa (aR mo) 0))])))
 | _=>none
def F0:aQ:=d5 (d5 (d5 FY 167 NO) 146 Ol) 229 Nz
def Yh:dP:=λ
 | [.h [.b ng,.b lg,.e s,.a .i64 e,.a .i64 g,.e mo,.e da,.a .u8 a,.a .u8 b,.a .u8 c]]=>some (aH [ν s.length 140737488351232,ν mo.length 140737488351232,ν da.length 140737488351232,af .i64 e,af .i64 g,af .u8 a,af .u8 b,af .u8 c] (.a0 (.d [.a .i64 (aR mo),.b (!(aa (aR mo) 0))])))
 | _=>none
def ZS:aQ:=d5 (d5 (d5 FY 167 Yh) 146 Ol) 229 Nz
def TZ:dP:=λ
 | [.h [.b ng,.b lg,.e s,.a .i64 e,.a .i64 g,.e mo,.e da,.a .u8 a,.a .u8 b,.a .u8 c]]=>some (aH [ν s.length 140737488351232,ν mo.length 140737488351232,ν da.length 140737488351232,af .i64 e,af .i64 g,af .u8 a,af .u8 b,af .u8 c] (.a0 (.b (oc ng lg s e g mo))))
 | _=>none
def Ls:aQ:=d5 ZS 168 TZ
def SU:dP:=λ
 | [.h [.b ng,.b lg,.e s,.a .i64 e,.a .i64 g,.e mo,.e da,.a .u8 a,.a .u8 b,.a .u8 c]]=>some (aH [ν s.length 140737488351232,ν mo.length 140737488351232,ν da.length 140737488351232,af .i64 e,af .i64 g,af .u8 a,af .u8 b,af .u8 c] (.a0 (.a .i64 (nH ng lg s e g mo da a b c))))
 | _=>none
theorem M_:ec tab 167=some (dH 167,aL 167):=by rfl
theorem ZB{P:Int->Prop}{b:Bool}{x y:Int}(hx:P x)(hy:P y):P (bif b then x else y):=by grind
theorem qH(mo:List UInt8):aR mo=0\/21<=aR mo/\aR mo<=41:=by
 unfold aR
 (repeat' refine ZB (P:=λz=>z=0\/21<=z/\z<=41) ?_ ?_)<;>decide
theorem KJ{c:Int}(h:21<=c/\c<=41):(fR c+mR c-2<12↔¬(c=24\/c=28\/c=30))/\0<=fR c+mR c-2/\fR c+mR c-2<24:=by
 rcases oJ h with rfl|rfl|rfl|rfl|rfl|rfl|rfl|rfl|rfl|rfl|rfl|rfl|rfl|rfl|rfl|rfl|rfl|rfl|rfl|rfl|rfl<;>decide
theorem QT(y:Int){c:Int}(h:21<=c/\c<=41):((c=24\/c=28\/c=30)->fq y c=y+1)/\(¬(c=24\/c=28\/c=30)->fq y c=y):=by
 obtain⟨h1,h2,h3⟩:=KJ h;grind [fq,dc]
theorem FM:ak Tryz.prog cfg F0:=by
 refine MA (Ks (au SJ λargs t v he hv=>?_));unfold NO at he;split at he
 . rename_i ng lg s e g mo da a b c;cases he;obtain⟨⟨h1,h2,h3,h4,h5,h6,h7,h8,-⟩,hv⟩:=aF hv;rw[al]at h1 h2 h3;rw[LT]at h4 h5;rw[aE]at h6 h7 h8;simp only[eH,eE]at h6 h7 h8;cases hv;refine dy M_ (by rfl) λm w hG=>?_;have:=Go.Proofs.YtcffhjfdlflbgaaGreatDoor.Season (dt ng lg s e g mo da a b c) w hG ⟨⟨by show s.length<=_;omega,by show mo.length<=_;omega,by show da.length<=_;omega⟩,⟨h4,h5⟩,⟨h6.1,h6.2⟩,⟨h7.1,h7.2⟩,⟨h8.1,h8.2⟩⟩;rw[show Go.Proofs.YtcffhjfdlflbgaaGreatDoor.seas (dt ng lg s e g mo da a b c)=aR mo from Nr mo]at this;have e:decide (aR mo≠0)=!(aa (aR mo) 0):=by
    grind [aw]
   simp_all [ap,aj]
 grind
theorem Vp:ak Tryz.prog cfg ZS:=by
 refine MA (Ks (au SJ λargs t v he hv=>?_));unfold Yh at he;split at he
 . rename_i ng lg s e g mo da a b c;cases he;obtain⟨⟨h1,h2,h3,h4,h5,h6,h7,h8,-⟩,hv⟩:=aF hv;rw[al]at h1 h2 h3;rw[LT]at h4 h5;rw[aE]at h6 h7 h8;simp only[eH,eE]at h6 h7 h8;cases hv;refine dy M_ (by rfl) λm w hG=>?_;have:=Go.Proofs.YtcffhjfdlflbgaaGreatDoor.Season (dt ng lg s e g mo da a b c) w hG ⟨⟨by show s.length<=_;omega,by show mo.length<=_;omega,by show da.length<=_;omega⟩,⟨h4,h5⟩,⟨h6.1,h6.2⟩,⟨h7.1,h7.2⟩,⟨h8.1,h8.2⟩⟩;rw[show Go.Proofs.YtcffhjfdlflbgaaGreatDoor.seas (dt ng lg s e g mo da a b c)=aR mo from Nr mo]at this;have e:decide (aR mo≠0)=!(aa (aR mo) 0):=by
    grind [aw]
   simp_all [ap,aj]
 grind
theorem Qh:ak Tryz.prog cfg Ls:=by
 refine au Vp λargs t v he hv=>?_;unfold TZ at he;split at he
 . rename_i ng lg s e g mo da a b c;cases he;obtain⟨⟨h1,h2,h3,h4,h5,h6,h7,h8,-⟩,hv⟩:=aF hv;rw[al]at h1 h2 h3;rw[aE]at h4 h5 h6 h7 h8;simp only[eH,eE]at h4 h5 h6 h7 h8;cases hv;refine jD Vp ai (bE 10230003810233110104400111010444042005143020524227700063323310233110104400111010444042005143020524227700614370242202242005) (R:=λQ=>(λ(C N W Y Z:Bool)(E O:Int)(F G:Prop)=>(λ(P T U u0 u1 u2 u3 u4:Bool)(H:Prop)=>(λ(A I:Bool)(u5 u6:Prop)=>(λ(B V:Prop)=>(λ(u7:Prop)=>N/\(A->A/\A/\A/\A/\(C->C/\C/\A/\C/\u5/\(Y->F)/\(Y=false->u7))/\(H->H/\H/\A/\H/\u5/\u7))/\(B->B/\B/\B/\B/\B/\P/\F)) (N/\ν mo.length 140737488351232/\ν da.length 140737488351232/\af .i64 e/\af .i64 g/\af .u8 a/\af .u8 b/\af .u8 c/\(I->I/\I/\T=false/\(u0->G)/\(u0=false->ν s.length 1000/\(u1->(u2->(U->(u3->G)/\(u3=false->F))/\u6)/\(u2=false->False))/\(u1=false->(U->(u4->G)/\(u4=false->F))/\u6)))/\(V->V/\V/\T/\G))) (A=false) (I=false)) (not P) (not T) (P=false) (U=false->False)) (not (aa (cond W 0 6) 0)) (not (not (aa E 0))) (and (ab 21 E) (ab E 41)) (not Z) (and W Z) (and (ab (Neg.neg 10000000000000000) O) (ab O 10000000000000000)) (and (ab (Neg.neg 10000000000000000) (fq O E)) (ab (fq O E) 10000000000000000)) (and (ab (Neg.neg 10000000000000000) (fq 0 E)) (ab (fq 0 E) 10000000000000000)) (C=false)) (not (ab g 0)) (ν s.length 140737488351232) (aV ng lg s e g) (not (ae mo [])) (ξ (eC s 88 88) 0) (aR mo) (dY ng s e) (Q (.b false)) (Q (.b true))) (λ_=>by kernel_rfl) λQ' hQ=>?_;try dsimp only
   have yes:oc ng lg s e g mo->Q' (.b true):=λh=>hQ _ (by rw[h]);have no:¬oc ng lg s e g mo->Q' (.b false):=λh=>hQ _ (by grind);unfold oc at yes no;rw[zAc]at yes no;have sc:=qH mo;have sq:=λh=>@QT (dY ng s e) (aR mo) h;have onum:=@Bk ng lg s e g;have vt:ng->dY ng s e = -(cF s e.toNat:Int):=λh=>by rw[h];rfl
   have vf:ng=false->dY ng s e=(cF s e.toNat:Int):=λh=>by rw[h];rfl
   clear hQ;cases hO:aV ng lg s e g with
   | false=>
     simp_all [az]
   | true=>
     have ln:=TU hO;rw[hO]at yes no;have onum:=onum hO;simp only[cond_true,Bool.true_and,az,reduceCtorEq]at yes no ⊢;by_cases hx:eC s 88 88=0
     . obtain⟨k1,k2,k3,k4,k5⟩:=onum hx;rw[hx,k4]at yes no;rw[hx];clear onum k3 k4;generalize fq (dY ng s e) (aR mo)=sy at *;generalize fq 0 (aR mo)=s0 at *;generalize dY ng s e=vr at *;generalize cF s e.toNat=mv at *;generalize aR mo=S at *;generalize ae mo []=me at *;have sq1:¬S=0->(S=24\/S=28\/S=30)->sy=vr+1:=λh=>(sq (by omega)).1;have sq2:¬S=0->¬(S=24\/S=28\/S=30)->sy=vr:=λh=>(sq (by omega)).2;clear sq hx hO;cases ng with
       | true=>
         have vr':=vt rfl;clear vt vf;have sb:¬S=0->-10000000000000000<=sy/\sy<=10000000000000000:=λh=>by
          by_cases hc:S=24\/S=28\/S=30
          . have:=sq1 h hc;omega
          . have:=sq2 h hc;omega
         simp only[reduceCtorEq,and_false,not_false_eq_true,or_true,and_true,true_and]at yes no
         (repeat' first|exact trivial|refine⟨?_,?_⟩|intro)<;>first|omega|(exfalso;assumption)|(apply yes;grind)|(apply no;grind)|grind
       | false=>
         have vr':=vf rfl;clear vt vf;have sb:¬S=0->-10000000000000000<=sy:=λh=>by
          by_cases hc:S=24\/S=28\/S=30
          . have:=sq1 h hc;omega
          . have:=sq2 h hc;omega
         have sb2:¬S=0->10000000000000000<sy->(S=24\/S=28\/S=30)/\mv=10000000000000000:=λh h'=>by
          by_cases hc:S=24\/S=28\/S=30
          . have:=sq1 h hc;exact⟨hc,by omega⟩
          . have:=sq2 h hc;omega
         have sb3:¬S=0->sy<=10000000000000000->¬(S=24\/S=28\/S=30)\/¬mv=10000000000000000:=λh h'=>by
          by_cases hc:S=24\/S=28\/S=30
          . have:=sq1 h hc;exact .inr (by omega)
          . exact .inl hc
         simp only[and_true,true_and]at yes no
         (repeat' first|exact trivial|refine⟨?_,?_⟩|intro)<;>first|omega|(exfalso;assumption)|(apply yes;grind)|(apply no;grind)|grind
     . clear onum;generalize fq (dY ng s e) (aR mo)=sy at *;generalize fq 0 (aR mo)=s0 at *;generalize dY ng s e=vr at *;generalize cF s e.toNat=mv at *;generalize aR mo=S at *;generalize eC s 88 88=X at *;generalize magOk s e.toNat=mk at *;generalize ae mo []=me at *
       (repeat' first|exact trivial|refine⟨?_,?_⟩|intro)<;>first|omega|(exfalso;assumption)|(apply yes;grind)|(apply no;grind)|grind
 . cases he
theorem pr(mo da:List UInt8):1<=dq mo da/\dq mo da<=3:=by
 grind [dq]
theorem SN{S:aQ}(hS:ak Tryz.prog cfg S):ak Tryz.prog cfg (d5 S 94 SU):=by
 refine au hS λargs t v he hv=>?_;unfold SU at he;split at he
 . rename_i ng lg s e g mo da a b c;cases he;obtain⟨⟨h1,h2,h3,h4,h5,h6,h7,h8,-⟩,hv⟩:=aF hv;rw[al]at h1 h2 h3;rw[aE]at h4 h5 h6 h7 h8;simp only[eH,eE]at h4 h5 h6 h7 h8;cases hv;refine jD Qh ai (bE 122700056335330810202573220240005331227000563353308107382327024003812270005633533081227005614232200020732702401422000202422401422770062277006) (R:=λQ=>(λ(A H I N O P V W Y Z u0 u1:Bool)(T:Int)(u2:Prop)=>(λ(B F:Bool)(E u3 u4:Prop)=>(λ(C G U:Prop)=>(λ(u6:Prop->Prop)=>(λ(u5:Prop->Prop)=>u5 (u5 ((Z->Q (.a .i64 6))/\(Z=false->(F->F/\F/\(B->B/\B/\B/\B/\(u0->Q (.a .i64 7))/\(u0=false->(A->u6 (B/\B/\B/\B/\A/\P=false/\A/\(u1->u2)/\(u1=false->u4)))/\U))/\(C->C/\C/\C/\C/\(A->u6 (C/\C/\C/\C/\A/\P/\A/\u2))/\U))/\(G->G/\G/\(A->A/\A/\A/\G/\A/\O/\A/\A/\A/\u2)/\U))))) (λu7=>V/\W/\Y/\af .i64 e/\af .i64 g/\H/\I/\N/\u7)) (λu7=>A/\A/\A/\F/\A/\u3/\A/\u7)) (B=false) (F=false) (E->E/\E/\E/\E/\E/\E/\E/\u4)) (not P) (not O) (A=false) (O=false) (H/\I/\N/\ab 1 T/\ab T 3/\Q (.a .i64 (errMk a b c T)))) (not (ae da [])) (af .u8 a) (af .u8 b) (af .u8 c) (ae mo []) (not (aa (aR mo) 0)) (ν s.length 140737488351232) (ν mo.length 140737488351232) (ν da.length 140737488351232) (not (oc ng lg s e g mo)) (not (eW mo 12)) (not (eW da 31)) (dq mo da) (Q (.a .i64 8))) (λ_=>by rfl) λQ' hQ=>?_;try dsimp only
   have fin:∀v:Int,v=nH ng lg s e g mo da a b c->Q' (.a .i64 v):=λv h=>hQ _ (by rw[h]);have cb:=pr mo da;have sc:=qH mo;unfold nH at fin;clear hQ;simp only[az,reduceCtorEq];generalize errMk a b c (dq mo da)=em at *;generalize dq mo da=cm at *;generalize oc ng lg s e g mo=ok at *;generalize aR mo=S at *;generalize eW mo 12=m12 at *;generalize eW da 31=d31 at *;generalize ae mo []=me at *;generalize ae da []=de at *
   (repeat' first|exact trivial|refine⟨?_,?_⟩|intro)<;>first|omega|assumption|(apply fin;grind)|grind
 . cases he
end Go.Ev
end
section
namespace Go.Ev
open Go Go.Proofs
variable{ws:List cD}{v:AV}{S:aQ}{L:cx}{f n1 n2:Nat}{args:List AV}{ng lg up:Bool}{c0 c1 c2 c3:UInt8}{g n:Int}{s:List UInt8}
theorem cR.a0{a b:Nat}{x:cD}(h:cR a x)(hab:a<=b):cR b x:=⟨h.1,λi hi=>Nat.lt_of_lt_of_le (h.2 i hi) hab⟩
theorem B6(hw:∀x∈ws,cR 14 x):Ns (Cw cfg ws):=λid hid=>by
 have hlo:(Cw cfg ws).lo=14+ws.length:=rfl;have h14:(14:Nat)=cfg.a0.n:=rfl;by_cases h:id<14
 . have:gB (Cw cfg ws).B id=cfg.a0.at id:=by
    grind [Cw,gB,fp,eK]
   rw[this];exact cR.a0 ⟨eb.lv.a0 id h,λi hi=>eb.lv.b0 id h i hi⟩ (by omega)
 . have:gB (Cw cfg ws).B id=(⟨ws.length,ws.reverse,[]⟩:aB).at (id-14):=by
    grind [Cw,gB,eK]
   rw[this];unfold aB.at;rw[zAf];cases hx:(ws.reverse)[ws.length-1-(id-14)]? with
   | none=>grind
   | some x=>exact cR.a0 (hw x (List.mem_reverse.1 (List.mem_of_getElem? hx))) (by omega)
noncomputable def Kj(ws:List cD)(f:Nat)(x:AX×St):Tr AV:=aT (wj tab (Cw cfg ws) (dH f) x) λr=>bif Td r.2.le&&(kG 14 [] 20 r.1).isSome then .a0 r.1 else .c0
noncomputable def pW(S:aQ)(L:cx)(ws:List cD)(f:Nat)(args:List AV):Tr AV:=xz tab (cH cfg S) (tK S) L 1000 (Cw cfg ws) (aL f) (jS (dH f) args dO) (Kj ws f)
theorem dL.d0(hw:∀x∈ws,cR 14 x){v':AV}{o:aB}(h1:v'=v)(hi:aC v=[])(hm:(kG 14 [] 20 v).isSome)(hle:o.le=[]):dL ws v [] (v',o):=by
 subst h1;have hu:kG (14+ws.length+0) (eM (14+ws.length) 0 []) 20 v'=some v':=by
  have key:∀(b:Nat) (d:Nat) (v u:AV),kG 14 [] d v=some u->aC v=[]->kG b [] d v=some v:=by
   intro b d;induction d with
   | zero=>nofun
   | succ d ih=>
     have ihl:∀(vs us:List AV),yw (kG 14 [] d) vs=some us->bw vs=[]->yw (kG b [] d) vs=some vs:=by
      intro vs;induction vs with
      | nil=>intro us _ _;rfl
      | cons v vs ihv=>
        intro us h hi;simp only[yw,ag,zAb]at h;obtain⟨v1,h1,vs1,h2,rfl⟩:=h;simp only[bw,List.append_eq_nil_iff]at hi;simp only[yw,ih v v1 h1 hi.1,ihv vs1 h2 hi.2,ob]
     intro v u h hi;unfold kG at h ⊢;cases v<;>simp only[ag,zAb]at h ⊢<;>simp only[aC,List.append_eq_nil_iff,reduceCtorEq,List.cons_ne_self]at hi
     case i f a c=>obtain⟨a',ha,c',hc,rfl⟩:=h;exact⟨_,ihl a a' ha hi.1,_,ihl c c' hc hi.2,rfl⟩
     case l t w=>obtain⟨u',hu,rfl⟩:=h;exact⟨_,ih w u' hu hi,rfl⟩
     case h cs=>obtain⟨a',ha,rfl⟩:=h;exact⟨_,ihl cs a' ha hi,rfl⟩
     case d cs=>obtain⟨a',ha,rfl⟩:=h;exact⟨_,ihl cs a' ha hi,rfl⟩
  obtain⟨u,hu⟩:=Option.isSome_iff_exists.1 hm;exact key _ 20 v' u hu hi
 refine(oX eb.lv (C:=Cw cfg ws) (st:=⟨.c0 v' .b0 .b0,1,o,[],none⟩) (kb:=0) (sel:=[]) (ts':=.c0 v' .b0 .b0) (o':=dO) (B6 hw) (Nat.zero_le _) (λs hs=>by cases hs) List.nodup_nil (λp hp=>by rw[show(⟨.c0 v' .b0 .b0,1,o,[],none⟩:St).o=o from rfl,hle]at hp;cases hp) hle.symm rfl rfl (λi hi=>absurd hi (Nat.not_lt_zero i)) (λt ht=>absurd ht (Nat.not_lt_zero t)) ?_ (λd hd=>by cases hd) (λi hi=>by cases hi)).b0 λs hs=>?_
 . have hu':kG ((Cw cfg ws).lo+0) (eM (Cw cfg ws).lo 0 []) 20 v'=some v':=hu;simp only[xB,hu',ob]
 . rw[hs];exact⟨rfl,rfl⟩
theorem P0(hS:ak Tryz.prog cfg S)(hw:∀x∈ws,cR 14 x)(hb:ec tab f=some (dH f,aL f))(hlen:args.length<=1000)(hL:qI Tryz.prog (cH cfg S) (Cw cfg ws) L (aL f))
 (h:(pW S L ws f args).wp (·=v)) (hi:aC v=[]):bu Tryz.prog cfg f args ws v []:=by
 refine cC.c0 hS hb hlen ((wE (cC.a0 hS) (nj cfg S) hL h).a0 λx hx=>?_);have hx:(Kj ws f x).wp (·=v):=hx;unfold Kj at hx;cases he:wj tab (Cw cfg ws) (dH f) x with
 | none=>rw[he]at hx;exact hx.elim
 | some r=>
   rw[he]at hx;have hx:(bif Td r.2.le&&(kG 14 [] 20 r.1).isSome then Tr.a0 r.1 else .c0).wp (·=v):=hx;cases hb:(Td r.2.le&&(kG 14 [] 20 r.1).isSome)with
   | false=>rw[hb]at hx;exact hx.elim
   | true=>
     rw[hb,cond_true]at hx;have hx:r.1=v:=hx;rw[zAa]at hb;have hle:r.2.le=[]:=by
      have:=hb.1;cases hr:r.2.le with
      | nil=>rfl
      | cons a b=>rw[hr]at this;cases this
     exact⟨r,rfl,dL.d0 hw hx hi (by rw[<-hx];exact hb.2) hle⟩
theorem lF(hS:ak Tryz.prog cfg S)(hw:∀x∈ws,cR 14 x)(hL:qI Tryz.prog (cH cfg S) (Cw cfg ws) L (aL f))(D:DT){R:(AV->Prop)->Prop}(hk:∀Q,gG Q (pW S L ws f args) D=R Q)(h:∀Q:AV->Prop,(∀q,q=v->Q q)->R Q)(hb:ec tab f=some (dH f,aL f):=by kernel_rfl)(hlen:args.length<=1000:=by simp)(hi:aC v=[]:=by simp[aC,bw]):bu Tryz.prog cfg f args ws v []:=
 P0 hS hw hb hlen hL (eD λQ hQ=>cg ((hk Q).mpr (h Q hQ))) hi
theorem ns(hS:ak Tryz.prog cfg S)(hw:∀x∈ws,cR 14 x)(hL:qI Tryz.prog (cH cfg S) (Cw cfg ws) L (aL f))(D:DT){R:(AV->Prop)->Prop}(hk:∀Q,gG Q (pW S L ws f args) D=R Q)(h:∀Q:AV->Prop,Q v->R Q)(hb:ec tab f=some (dH f,aL f):=by kernel_rfl)(hlen:args.length<=1000:=by simp)(hi:aC v=[]:=by simp[aC,bw]):bu Tryz.prog cfg f args ws v []:=
 lF hS hw hL D hk (λQ hQ=>h Q (hQ v rfl)) hb hlen hi
theorem iu{cs:List AV}{rw:Bool}{g:Option Nat}(h:bc 14 cs):cR 14 (.a cs rw g):=⟨rfl,λi hi=>abm h i hi⟩
def bP(y m:Int):Int:=Go.Proofs.YtcffhjfdlflbgaaGreatDoor.mlen y m
def Vt:dP:=λ
 | [.a .i64 y,.a .i64 m]=>some (aH [ab (-10000000000000000) y,ab y 10000000000000000,ab 1 m,ab m 12] (.a0 (.d [.a .i64 (bP y m),.a .i64 0])))
 | _=>none
def V1:aQ:=d5 (d5 (d5 (d5 (d5 U8 94 SU) 136 QA) 146 Ol) 167 NO) 246 Vt
def Ao(n:Int):Int:=0-kh n (-9223372036854775807)
def KM(ng:Bool)(c0 c1 c2 c3:UInt8)(n:Int)(up:Bool):Int:=bif ng then 0-(bif up then kp (cV c0 c1 c2 c3 (Ao n))else kp (c_ c0 c1 c2 c3 (kh (Ao n) 1)))else bif up then kp (c_ c0 c1 c2 c3 (kh n 0))else kp (cV c0 c1 c2 c3 n)
def I2(ng:Bool)(c0 c1 c2 c3:UInt8)(n:Int)(up:Bool):Bool:=bif ng then(bif up then za (cV c0 c1 c2 c3 (Ao n))&&ab 1 (kp (cV c0 c1 c2 c3 (Ao n)))else za (c_ c0 c1 c2 c3 (kh (Ao n) 1)))else bif up then za (c_ c0 c1 c2 c3 (kh n 0))else za (cV c0 c1 c2 c3 n)&&ab 0 (kp (cV c0 c1 c2 c3 n))
theorem GK:ak Tryz.prog cfg V1:=by
 refine au (bm (Ks (bm (SN V6) (EZ 136 _ rfl))) (FM 167 _ rfl)) λargs t v he hv=>?_;unfold Vt at he;split at he
 . rename_i y m;cases he;obtain⟨⟨h1,h2,h3,h4,-⟩,hv⟩:=aF hv;rw[aq]at h1 h2 h3 h4;cases hv;refine kA A_ (L:=jE) Cv (by simp) ai (eD λQ' hQ=>cg ((VD y m).mpr ?_)) (by rfl);simp only[az,reduceCtorEq]
   (repeat' first|exact trivial|refine⟨?_,?_⟩|intro)<;>first|omega|assumption|exact hQ _ rfl
 grind
theorem kP(a b:Int):kh a b=max a b:=by
 grind [kh,bF]
theorem agz{x:Option Int}(h:za x=false):kp x=0:=by cases x with|none=>rfl|some u=>cases h
theorem Ux{e:Int}{mo da:List UInt8}{a b c:Int}{w1 w2:List AV}{k1 k2:fg}(h0:fC c0)(h1:fC c1)(h2:fC c2)(h3:fC c3)(hx:ξ (eC [c0,c1,c2,c3] 88 88) 0=false)(hn : -9223372036854775808<=n/\n<=9223372036854775807)(hw1:bc 14 w1)(hw2:bc 14 w2) :
 bu Tryz.prog cfg 176 [.h [.b ng,.b lg,.e [c0,c1,c2,c3],.a .i64 e,.a .i64 g,.e mo,.e da,.a .u8 a,.a .u8 b,.a .u8 c,.c 14 0 n1 k1,.c 15 0 n2 k2],.a .i64 n,.b up] [.a w1 false none,.a w2 false none] (.d [.a .i64 (KM ng c0 c1 c2 c3 n up),.b (I2 ng c0 c1 c2 c3 n up)]) []:=by
 refine lF GK (λx hx=>?_) ai (bE 1051145427010114427041051145427010114427044015154270114270404030006) (R:=λQ=>(λ(G:AV)(A B C E I U:Bool)(H:Int)(V W:Option Int)(F:Prop)=>(λ(Y:Bool)(u2:Int)(Z u1:Option Int)(u0:Prop)=>(λ(u3:AV)(N O:Int)(u4 u5:Option Int)=>(λ(u9:AV)(u6 u7:Bool)(P T:Int)=>(λ(ua ub:Bool)=>(λ(uc:Prop->Prop)=>not (not (ξ (eC [c0,c1,c2,c3] 88 88) 0))=false/\(U->(up->uc ((za V->Q (.d [.a .i64 (kp V),G]))/\(za V=false->F)))/\(up=false->uc ((za W->Q (.d [.a .i64 (kp W),.b (ab 0 (kp W))]))/\(za W=false->F))))/\(U=false->(Y->(I->uc ((za Z->(u6->Q (.d [.a .i64 N,G]))/\(u6=false->Q (.d [.a .i64 (IntKind.wrap .i64 N),G])))/\(za Z=false->F)))/\(u0->uc ((za u1->(u7->Q (.d [.a .i64 O,u3]))/\(u7=false->Q (.d [.a .i64 (IntKind.wrap .i64 O),u3])))/\(za u1=false->F))))/\(Y=false->(I->uc ((za u4->(ua->Q (.d [.a .i64 P,G]))/\(ua=false->Q (.d [.a .i64 (IntKind.wrap .i64 P),G])))/\(za u4=false->F)))/\(u0->uc ((za u5->(ub->Q (.d [.a .i64 T,u9]))/\(ub=false->Q (.d [.a .i64 (IntKind.wrap .i64 T),u9])))/\(za u5=false->F)))))) (λud=>A/\B/\C/\E/\ud)) (af .i64 P) (af .i64 T)) (.b (ab 1 (kp u5))) (af .i64 N) (af .i64 O) (Int.sub 0 (kp u4)) (Int.sub 0 (kp u5))) (.b (ab 1 (kp u1))) (Int.sub 0 (kp Z)) (Int.sub 0 (kp u1)) (c_ c0 c1 c2 c3 (kh u2 1)) (cV c0 c1 c2 c3 u2)) (af .i64 H) (IntKind.wrap .i64 H) (c_ c0 c1 c2 c3 (kh H 1)) (cV c0 c1 c2 c3 H) (I=false)) (.b true) (fC c0) (fC c1) (fC c2) (fC c3) (not up) (not ng) (Int.sub 0 (kh n (Neg.neg 9223372036854775807))) (c_ c0 c1 c2 c3 (kh n 0)) (cV c0 c1 c2 c3 n) (Q (.d [.a .i64 0,.b false]))) (λ_=>by kernel_rfl) λQ' hQ=>?_
 . grind [iu]
 . simp only[az,reduceCtorEq];have bp:∀k,0<=kp (cV c0 c1 c2 c3 k)/\kp (cV c0 c1 c2 c3 k)<=9999:=λk=>by
    cases hp:cV c0 c1 c2 c3 k with
    | none=>exact⟨by decide,by decide⟩
    | some u=>have:=(fb.1 hp).1;exact⟨this.1,this.2.1⟩
   have bn:∀k,0<=kp (c_ c0 c1 c2 c3 k)/\kp (c_ c0 c1 c2 c3 k)<=9999:=λk=>by
    cases hp:c_ c0 c1 c2 c3 k with
    | none=>exact⟨by decide,by decide⟩
    | some u=>have:=(gF.1 hp).1;exact⟨this.1,this.2.1⟩
   have b1:=bp (0-kh n (-9223372036854775807));have b2:=bn (kh (0-kh n (-9223372036854775807)) 1);have hmx:=kP n (-9223372036854775807);have gn:∀x:Option Int,za x=false->kp x=0:=λx h=>agz h;have fin:∀(y:Int) (b:Bool),y=KM ng c0 c1 c2 c3 n up->b=I2 ng c0 c1 c2 c3 n up->Q' (.d [.a .i64 y,.b b]):=λy b e1 e2=>hQ _ (by grind);rw[b9]at hx
   (repeat' first|exact trivial|refine⟨?_,?_⟩|intro)<;>first|omega|assumption|(exact hx (by assumption))|grind [KM,I2,Ao]|(refine fin _ _ ?_ ?_<;>simp_all [KM,I2,Ao,gn];done)
theorem Vb{e:Int}{mo da:List UInt8}{a b c:Int}{w1 w2:List AV}{k1 k2:fg}(hs:s.length<=1000)(hx:ξ (eC s 88 88) 0)(ho:aV ng lg s e g)(hw1:bc 14 w1)(hw2:bc 14 w2) :
 bu Tryz.prog cfg 176 [.h [.b ng,.b lg,.e s,.a .i64 e,.a .i64 g,.e mo,.e da,.a .u8 a,.a .u8 b,.a .u8 c,.c 14 0 n1 k1,.c 15 0 n2 k2],.a .i64 n,.b up] [.a w1 false none,.a w2 false none] (.d [.a .i64 (dY ng s e),.b (bif up then ab n (dY ng s e)else ab (dY ng s e) n)]) []:=by
 refine lF GK (λx hx=>?_) ai (bE 1020700081230003313328224741020700081230003313328224744200520006) (R:=λQ=>(λ(O V W:AV)(A N U:Bool)(I:Int)(B:Prop)=>(λ(T:AV)(E P Y:Bool)(C:Prop)=>(λ(F:Bool)(G:Prop)=>(λ(H:Prop)=>(λ(Z:Prop->Prop)=>not (not U)/\ν s.length 1000/\(Y->(up->up/\up/\up/\(F->F/\F/\C/\C/\C/\F/\C/\P=false/\Q (.d [T,V]))/\(H->H/\H/\H/\P/\Q (.d [T,W])))/\(B->Z (Q (.d [T,.b (ab I n)]))))/\(Y=false->(up->up/\up/\up/\(E->E/\E/\C/\C/\C/\E/\C/\N=false/\Q (.d [O,V]))/\(G->G/\G/\G/\N/\Q (.d [O,W])))/\(B->Z (Q (.d [O,.b (ab 0 n)]))))) (λu0=>B/\B/\B/\A/\A/\A/\A/\u0)) (F=false)) (not P) (E=false)) (.a .i64 I) (not N) (ab n I) (and (aV ng lg s e g) U) (A=false)) (.a .i64 0) (.b false) (.b true) (not up) (ab n 0) (ξ (eC s 88 88) 0) (dY ng s e) (up=false)) (λ_=>by rfl) λQ' hQ=>?_
 . grind [iu]
 . simp only[az,reduceCtorEq];rw[aJ]at hx;have fin:∀b:Bool,b=(bif up then ab n (dY ng s e)else ab (dY ng s e) n)->Q' (.d [.a .i64 (dY ng s e),.b b]):=λb h=>hQ _ (by rw[h]);have hno:¬(aV ng lg s e g=false\/¬eC s 88 88=0):=by grind
   refine⟨hx,hs,λ_=>?_,λh=>(hno h).elim⟩;have hle:n<=dY ng s e->ab n (dY ng s e)=true:=λh=>aq.mpr h;have hlt:dY ng s e<n->ab n (dY ng s e)=false:=λh=>bF.mpr h;grind
def yV(ng:Bool)(s:List UInt8)(e n:Int)(up:Bool):Int:=bif ξ (eC s 88 88) 0 then dY ng s e else match s with|[c0,c1,c2,c3]=>KM ng c0 c1 c2 c3 n up|_=>0
def yB(ng:Bool)(s:List UInt8)(e n:Int)(up:Bool):Bool:=bif ξ (eC s 88 88) 0 then(bif up then ab n (dY ng s e)else ab (dY ng s e) n)else match s with|[c0,c1,c2,c3]=>I2 ng c0 c1 c2 c3 n up|_=>false
def lP(s:List UInt8):Bool:=ξ (eC s 88 88) 0 || (match s with|[c0,c1,c2,c3]=>fC c0&&(fC c1&&(fC c2&&fC c3))|_=>false)
def RZ:aav:=λ
 | [.h [.b ng,.b lg,.e s,.a .i64 e,.a .i64 g,.e mo,.e da,.a .u8 a,.a .u8 b,.a .u8 c,.c 14 0 n1 k1,.c 15 0 n2 k2],.a .i64 n,.b up],[.a w1 false none,.a w2 false none]=>
   some (aH [bc 14 w1,bc 14 w2,af .i64 n,aV ng lg s e g,ν s.length 1000,lP s] (.a0 (.d [.a .i64 (yV ng s e n up),.b (yB ng s e n up)],[])))
 | _,_=>none
theorem sV(h:lP s)(hx:ξ (eC s 88 88) 0=false):∃c0 c1 c2 c3,s=[c0,c1,c2,c3]/\fC c0/\fC c1/\fC c2/\fC c3=true:=by
 unfold lP at h;grind
theorem Nm(hS:ak Tryz.prog cfg S):ak Tryz.prog cfg (eQ S 176 (fl 14 [1,1] RZ)):=by
 refine bm hS (fW eb.lv Az λargs ws t r he hr=>?_);unfold RZ at he;split at he
 . rename_i ng lg s e g mo da a b c n1 k1 n2 k2 n up w1 w2;cases he;obtain⟨⟨h1,h2,h3,h4,h5,h6,-⟩,hr⟩:=aF hr;rw[LT]at h3;rw[al]at h5;cases hr;cases hx:ξ (eC s 88 88) 0 with
   | true=>
     have e1:yV ng s e n up=dY ng s e:=by simp_all [yV]
     have e2:yB ng s e n up=(bif up then ab n (dY ng s e)else ab (dY ng s e) n):=by simp_all [yB]
     grind [Vb]
   | false=>
     grind [sV,yV,yB,Ux]
 grind
theorem DP{e:Int}(ho:aV ng lg s e g)(h0:eC s 88 88=0) : -10000000000000000<=dY ng s e/\dY ng s e<=10000000000000000:=by
 have hd:=(IN ho h0).1;have key:cF s e.toNat<=10000000000000000:=by
  unfold aV at ho;rw[zAc]at ho;rcases ho with⟨_,_,h|h⟩
  . obtain⟨_,hl,he,_⟩:=h;subst he
    match s,hl with
    | [a,b,c,d],_=>
      have k0:=pz hd (i:=0) (by simp);have k1:=pz hd (i:=1) (by simp);have k2:=pz hd (i:=2) (by simp);have k3:=pz hd (i:=3) (by simp);grind [cF,numL]
  grind [magOk,al]
 grind [dY]
theorem GO{k:Int}(h:za (c_ c0 c1 c2 c3 k)):k<=kp (c_ c0 c1 c2 c3 k):=by
 cases hp:c_ c0 c1 c2 c3 k with
 | none=>rw[hp]at h;cases h
 | some u=>exact(gF.1 hp).2.1
theorem Hy{k:Int}(h:za (cV c0 c1 c2 c3 k)):kp (cV c0 c1 c2 c3 k)<=k:=by
 cases hp:cV c0 c1 c2 c3 k with
 | none=>rw[hp]at h;cases h
 | some u=>exact(fb.1 hp).2.1
theorem QF{c0 c1 c2 c3:UInt8}{k:Int}:0<=kp (c_ c0 c1 c2 c3 k)/\kp (c_ c0 c1 c2 c3 k)<=9999:=by
 cases hp:c_ c0 c1 c2 c3 k with
 | none=>exact⟨by decide,by decide⟩
 | some u=>have:=(gF.1 hp).1;exact⟨this.1,this.2.1⟩
theorem RU{c0 c1 c2 c3:UInt8}{k:Int}:0<=kp (cV c0 c1 c2 c3 k)/\kp (cV c0 c1 c2 c3 k)<=9999:=by
 cases hp:cV c0 c1 c2 c3 k with
 | none=>exact⟨by decide,by decide⟩
 | some u=>have:=(fb.1 hp).1;exact⟨this.1,this.2.1⟩
theorem WR{e:Int}(h:yB ng s e n true):n<=yV ng s e n true:=by
 unfold yB at h;unfold yV;cases hx:ξ (eC s 88 88) 0 with
 | true=>grind [aq]
 | false=>
   rw[hx,cond_false]at h;rw[cond_false];split at h
   . rename_i c0 c1 c2 c3;unfold I2 at h;unfold KM;cases ng with
     | true=>
       simp only[cond_true,zAa,aq]at h ⊢;have:=Hy h.1;grind [Ao,kP]
     | false=>
       simp only[zAj]at h ⊢;have:=GO h;rw[kP]at *;omega
   grind
theorem iP{e:Int}(ho:aV ng lg s e g) : -10000000000000000<=yV ng s e n up/\yV ng s e n up<=10000000000000000:=by
 unfold yV;cases hx:ξ (eC s 88 88) 0 with
 | true=>rw[cond_true];rw[aJ]at hx;exact DP ho hx
 | false=>
   rw[cond_false];split
   . rename_i c0 c1 c2 c3;unfold KM;have b1:=@QF c0 c1 c2 c3;have b2:=@RU c0 c1 c2 c3;grind
   simp
noncomputable def V2:aQ:=eQ V1 176 (fl 14 [1,1] RZ)
theorem qY:ak Tryz.prog cfg V2:=Nm GK
abbrev Ou:List Nat:=[3,4,5,6,7,8,9,10,11,12,53,54,55,15,16,17,94,95,96]
def abU(nda sm:Bool)(mst cd d:Int):Bool:=ab d mst&&!(sm&&(nda&&!(ab cd d)))
def gk(nda sm:Bool)(mst cd:Int)(D:List Int):Option Int:=D.find? (abU nda sm mst cd)
def mU(da:List UInt8):Bool:=!(ae da [])
def K7(D:List Int):dW:=λvs o=>match vs,o with
 | [.g 16 0,.g 17 0,.g 18 0,.g 19 0,.b false,.a .i64 1,.c 14 0 n1 k1,.c 15 0 n2 k2,.i 175 [] [.g 18 0],.a .i64 y,.c 14 0 n1' k1',.a .i64 n1'',.a .i64 j,.a .i64 m,.b sm,.a .i64 mst,.c 15 0 n2' k2',.a .i64 n2'',.a .i64 i],
   ⟨4,[.a [.a .i64 0,.a .i64 0,.a .i64 0] true none,.a [.b true] true none,.a [.a .i64 cy,.a .i64 cm,.a .i64 cd] true none,
   .a [.b ng,.b lg,.e s,.a .i64 e,.a .i64 g,.e mo,.e da,.a .u8 a,.a .u8 b,.a .u8 c,.c 14 0 n1a k1a,.c 15 0 n2a k2a] true none],[]⟩=>
   some (aH [ν n2 1000,ξ D.length n2,ξ n2' n2,aa n2'' (ο n2),aa i 0] (.d0 (za (gk (mU da) sm mst cd D)) λx=>bif x then
    .f0 λJ=>.a0 (.c,[.g 16 0,.g 17 0,.g 18 0,.g 19 0,.b true,.a .i64 1,.c 14 0 n1 k1,.c 15 0 n2 k2,.i 175 [] [.g 18 0],.a .i64 y,.c 14 0 n1' k1',.a .i64 n1'',.a .i64 j,.a .i64 m,.b sm,.a .i64 mst,.c 15 0 n2' k2',.a .i64 n2'',.j (J 0)],
     ⟨4,[.a [.a .i64 y,.a .i64 m,.a .i64 (kp (gk (mU da) sm mst cd D))] true none,.a [.b true] true none,.a [.a .i64 cy,.a .i64 cm,.a .i64 cd] true none,
   .a [.b ng,.b lg,.e s,.a .i64 e,.a .i64 g,.e mo,.e da,.a .u8 a,.a .u8 b,.a .u8 c,.c 14 0 n1a k1a,.c 15 0 n2a k2a] true none],[]⟩)
    else .a0 (.b 4,[.g 16 0,.g 17 0,.g 18 0,.g 19 0,.b false,.a .i64 1,.c 14 0 n1 k1,.c 15 0 n2 k2,.i 175 [] [.g 18 0],.a .i64 y,.c 14 0 n1' k1',.a .i64 n1'',.a .i64 j,.a .i64 m,.b sm,.a .i64 mst,.c 15 0 n2' k2',.a .i64 n2'',.a .i64 n2''],o)))
 | _,_=>none
theorem sk{α:Type}{p:α->Bool}{d:α}:∀{D:List α} {i:Nat},i<D.length->(∀k,k<i->p (D.getD k d)=false)->p (D.getD i d)->D.find? p=some (D.getD i d)
 | [],i,h,_,_=>by grind
 | x::D,0,_,_,h=>by
   grind
 | x::D,i+1,hi,hk,h=>by
   have h0:p x=false:=hk 0 (by omega);rw[List.find?_cons,h0];exact sk (D:=D) (i:=i) (by grind) (λk hk'=>hk (k+1) (by omega)) h
theorem oW{α:Type}{p:α->Bool}{d:α}{D:List α}(h:∀k,k<D.length->p (D.getD k d)=false):D.find? p=none:=by
 rw[List.find?_eq_none];grind [List.getElem?_of_mem]
theorem sW{D:List Int}{i:Nat}(h:i<D.length):List.getD (aI D) (0+i*1) (AV.d [])=.a .i64 (D.getD i 0):=by
 grind [aI]
theorem CQ:(bz (aL 96)).map (·.1)=[0,2,4]:=by rfl
theorem QU(M:List AV)(D:List Int):cu Tryz.prog (cH cfg V2) (Cw cfg [.a M false none,.a (aI D) false none]) (lb 96 2) 127 Ou (K7 D):=by
 intro vs o t Q hv hq J;unfold K7 at hv;split at hv
 . rename_i n1 k1 n2 k2 y n1' k1' n1'' j m sm mst n2' k2' n2'' i cy cm cd ng lg s e g mo da a b c n1a k1a n2a k2a;cases hv;replace hq:=cO hq;obtain⟨⟨h1,h2,h3,h4,h5,-⟩,hq⟩:=hq;rw[al]at h1;rw[aJ]at h2 h3;rw[ao]at h4 h5;subst h2 h3 h4 h5;simp only[aH,Tr.wp]at hq;refine ia qY rfl rfl ai (ι:={i:Nat // i<=D.length/\∀k,k<i->abU (mU da) sm mst cd (D.getD k 0)=false}) (λx=>[.g 16 0,.g 17 0,.g 18 0,.g 19 0,.b false,.a .i64 1,.c 14 0 n1 k1,.c 15 0 D.length k2,.i 175 [] [.g 18 0],.a .i64 y,.c 14 0 n1' k1',.a .i64 n1'',.a .i64 j,.a .i64 m,.b sm,.a .i64 mst,.c 15 0 D.length k2',.a .i64 (ο D.length),.a .i64 (ο x.1)])
    (λ_=>⟨4,[.a [.a .i64 0,.a .i64 0,.a .i64 0] true none,.a [.b true] true none,.a [.a .i64 cy,.a .i64 cm,.a .i64 cd] true none,.a [.b ng,.b lg,.e s,.a .i64 e,.a .i64 g,.e mo,.e da,.a .u8 a,.a .u8 b,.a .u8 c,.c 14 0 n1a k1a,.c 15 0 n2a k2a] true none],[]⟩) (λx=>D.length-x.1) 4 (λ_=>Nat.le_refl _) (λx J=>?_) (Nat.le_refl _) (λJ=>Wk.a0 ⟨⟨0,Nat.zero_le _,λk hk=>absurd hk (Nat.not_lt_zero k)⟩,J,rfl⟩) J
   obtain⟨i,hi,hp⟩:=x;dsimp only;refine jJ (bE 1112080533531002202052328100223238120227300033100273020002204052074270224244204) (R:=λQ=>(λ(ug uh:cD)(H I N T U V W Y Z u0 u1 u2 u3 u4 u5 u6 ue uf ui:AV)(B:Bool)(P ud:Int)(F:Prop)=>(λ(um:cD)(u9 ua ul:AV)(uj uk:Bool)(u7 un:Int)(E:Prop)=>(λ(A ub:Bool)(uo:Prop)=>(λ(G:Bool)(C uc:Prop)=>(λ(O:Prop)=>(uj->aS i D.length/\(uk->(A->A/\(sm->sm/\sm/\sm/\A/\sm/\A/\(B->B/\B/\B/\B/\(G->G/\G/\G/\ub=false/\A/\B/\uc)/\(O->O/\O/\O/\ub/\A/\B/\A/\A/\uo))/\(E->E/\E/\E/\E/\A/\E/\uc))/\(F->F/\F/\F/\A/\F/\A/\A/\uc))/\(C->C/\C/\C/\C/\C/\C/\uo))/\(uk=false->False))/\(uj=false->Q (.b 4,[T,U,H,V,ui,W,Y,Z,u9,I,u0,u1,u2,N,u3,u4,u5,ua,ul],⟨4,[.a [u6,u6,u6] true none,um,ug,uh],[]⟩))) (G=false)) (not ub) (A=false) (A/\A/\Q (.c,[T,U,H,V,uf,W,Y,Z,u9,I,u0,u1,u2,N,u3,u4,u5,ua,ul],⟨4,[.a [I,N,.a .i64 u7] true none,um,ug,uh],[]⟩))) (ab u7 mst) (not (ab cd u7)) (af .i64 un/\Q (.a,[T,U,H,V,ui,W,Y,Z,u9,I,u0,u1,u2,N,u3,u4,u5,ua,.a .i64 un],⟨4,[.a [u6,u6,u6] true none,um,ug,uh],[]⟩))) (.a [uf] true none) (.i 175 [] [H]) (.a .i64 ud) (.a .i64 P) (not (ab ud P)) (eB .i64 ue) (dx ue) (Int.add P 1) (B=false)) (.a [.a .i64 cy,.a .i64 cm,.a .i64 cd] true none) (.a [.b ng,.b lg,.e s,.a .i64 e,.a .i64 g,.e mo,.e da,.a .u8 a,.a .u8 b,.a .u8 c,.c 14 0 n1a k1a,.c 15 0 n2a k2a] true none) (.g 18 0) (.a .i64 y) (.a .i64 m) (.g 16 0) (.g 17 0) (.g 19 0) (.a .i64 1) (.c 14 0 n1 k1) (.c 15 0 D.length k2) (.c 14 0 n1' k1') (.a .i64 n1'') (.a .i64 j) (.b sm) (.a .i64 mst) (.c 15 0 D.length k2') (.a .i64 0) (List.getD (aI D) (HAdd.hAdd 0 (HMul.hMul i 1)) (.d [])) (.b true) (.b false) (not (ae da [])) (ο i) (ο D.length) (sm=false)) (λ_=>by kernel_rfl) λQ' hQ=>?_;try dsimp only
   have yes:i<D.length->abU (mU da) sm mst cd (D.getD i 0)->∀J:Nat->Value,Q (.c,[.g 16 0,.g 17 0,.g 18 0,.g 19 0,.b true,.a .i64 1,.c 14 0 n1 k1,.c 15 0 D.length k2,.i 175 [] [.g 18 0],.a .i64 y,.c 14 0 n1' k1',.a .i64 n1'',.a .i64 j,.a .i64 m,.b sm,.a .i64 mst,.c 15 0 D.length k2',.a .i64 (ο D.length),.j (J 0)],
    ⟨4,[.a [.a .i64 y,.a .i64 m,.a .i64 (D.getD i 0)] true none,.a [.b true] true none,.a [.a .i64 cy,.a .i64 cm,.a .i64 cd] true none,.a [.b ng,.b lg,.e s,.a .i64 e,.a .i64 g,.e mo,.e da,.a .u8 a,.a .u8 b,.a .u8 c,.c 14 0 n1a k1a,.c 15 0 n2a k2a] true none],[]⟩):=λhlt hpick J2=>by
    have hf:gk (mU da) sm mst cd D=some (D.getD i 0):=sk hlt hp hpick;rw[hf]at hq;exact hq J2
   have no:¬i<D.length->Q (.b 4,[.g 16 0,.g 17 0,.g 18 0,.g 19 0,.b false,.a .i64 1,.c 14 0 n1 k1,.c 15 0 D.length k2,.i 175 [] [.g 18 0],.a .i64 y,.c 14 0 n1' k1',.a .i64 n1'',.a .i64 j,.a .i64 m,.b sm,.a .i64 mst,.c 15 0 D.length k2',.a .i64 (ο D.length),.a .i64 (ο D.length)],
    ⟨4,[.a [.a .i64 0,.a .i64 0,.a .i64 0] true none,.a [.b true] true none,.a [.a .i64 cy,.a .i64 cm,.a .i64 cd] true none,.a [.b ng,.b lg,.e s,.a .i64 e,.a .i64 g,.e mo,.e da,.a .u8 a,.a .u8 b,.a .u8 c,.c 14 0 n1a k1a,.c 15 0 n2a k2a] true none],[]⟩):=λhge=>by
    have hf:gk (mU da) sm mst cd D=none:=oW λk hk=>hp k (by omega);rw[hf]at hq;exact hq
   have next:abU (mU da) sm mst cd (D.getD i 0)=false->∀k,k<i+1->abU (mU da) sm mst cd (D.getD k 0)=false:=λh k hk=>by
    grind
   by_cases hlt:i<D.length
   . rw[sW hlt];have yes:=yes hlt;clear no;have hpe:abU (mU da) sm mst cd (D.getD i 0)=(ab (D.getD i 0) mst&&!(sm&&(!(ae da [])&&!(ab cd (D.getD i 0))))):=rfl;generalize D.getD i 0=d at *;simp only[eB,dx,zb,abw];simp only[az,reduceCtorEq];have hpi:abU (mU da) sm mst cd d=true↔(d<=mst/\¬(sm/\ae da []=false/\d<cd)):=by
      rw[hpe,zAa,aq];refine and_congr_right λ_=>?_;cases sm<;>cases ae da []<;>cases hcd:ab cd d<;>first|(rw[aq]at hcd;simp;done)|(rw[bF]at hcd;simp;done)|(rw[aq]at hcd;simp;omega)|(rw[bF]at hcd;simp;omega)
     clear hpe;generalize hpd:abU (mU da) sm mst cd d=pd at *
     (repeat' first|exact trivial|refine⟨?_,?_⟩|intro)<;>first|omega|assumption|refine hQ _ ?_
     all_goals first
      | (refine⟨_,_,VW.c0 (.a0 (.a0 (.a0 (.a0 (.a0 (.a0 (.a0 (.a0 (.a0 (.a0 (.a0 (.a0 (.a0 (.a0 (.a0 (.a0 (.a0 (.a0 (.b0 .c0))))))))))))))))))) rfl,yes (hpi.2 ⟨by assumption,?_⟩) (jv [_])⟩;simp_all;done)
      | (refine⟨_,_,VW.any (.same (.same (.same (.same (.same (.same (.same (.same (.same (.same (.same (.same (.same (.same (.same (.same (.same (.same (.int .nil))))))))))))))))))) rfl,yes (hpi.2 ⟨by assumption,?_⟩) (jv [_])⟩;simp_all;omega)
      | (refine⟨⟨i+1,by omega,next ?_⟩,by dsimp only;omega,VW.b0 rfl rfl⟩;rw[<-Bool.not_eq_true,hpi];simp_all;done)
      | (refine⟨⟨i+1,by omega,next ?_⟩,by dsimp only;omega,VW.b0 rfl rfl⟩;rw[<-Bool.not_eq_true,hpi];simp_all;omega)
   . obtain rfl:i=D.length:=by omega
     have no2:=no hlt;simp only[az,reduceCtorEq]
     (repeat' first|exact trivial|refine⟨?_,?_⟩|intro)<;>first|omega|assumption|(exfalso;omega)|(refine hQ _ ?_;exact⟨_,_,VW.a0,no2⟩)
 . cases hv
end Go.Ev
end
