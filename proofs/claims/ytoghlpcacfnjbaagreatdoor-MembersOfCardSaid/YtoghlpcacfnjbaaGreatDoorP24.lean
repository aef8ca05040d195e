import Derived.Test.YtoghlpcacfnjbaaGreatDoorP23
set_option linter.all false
set_option maxRecDepth 100000
set_option maxHeartbeats 4000000
section
namespace Go.Ev
open Go Go.Proofs Go.Proofs.YtoghlpcacfnjbaaGreatDoor
def K2:dJ:=λargs=>match args with
 | [.agg [.bool ng,.bool lg,.str s,.int .i64 e,.int .i64 g,.str mo,.str da,.int .u8 a,.int .u8 b,.int .u8 c]]=>some (aH [Nat.ble s.length 1000,Nat.ble mo.length 1000,Nat.ble da.length 1000,ae .i64 e,ae .i64 g,ae .u8 a,ae .u8 b,ae .u8 c] (.ret (.tuple [.int .i64 (aL mo),.bool (!(aa (aL mo) 0))])))
 | _=>none
def Z7:aR:=aY (aY (aY Z5 106 K2) 161 MQ) 174 MJ
def Ul:dJ:=λargs=>match args with
 | [.agg [.bool ng,.bool lg,.str s,.int .i64 e,.int .i64 g,.str mo,.str da,.int .u8 a,.int .u8 b,.int .u8 c]]=>some (aH [Nat.ble s.length 1000,Nat.ble mo.length 1000,Nat.ble da.length 1000,ae .i64 e,ae .i64 g,ae .u8 a,ae .u8 b,ae .u8 c] (.ret (.bool (nP ng lg s e g mo))))
 | _=>none
def D3s:aR:=aY Z7 125 Ul
def Qs:dJ:=λargs=>match args with
 | [.agg [.bool ng,.bool lg,.str s,.int .i64 e,.int .i64 g,.str mo,.str da,.int .u8 a,.int .u8 b,.int .u8 c]]=>some (aH [Nat.ble s.length 1000,Nat.ble mo.length 1000,Nat.ble da.length 1000,ae .i64 e,ae .i64 g,ae .u8 a,ae .u8 b,ae .u8 c] (.ret (.int .i64 (nh ng lg s e g mo da a b c))))
 | _=>none
def Nw:bh tab 106=some (dC 106,aN 106):=by kernel_rfl
theorem Yf{P:Int->Prop}{b:Bool}{x y:Int}(hx:P x)(hy:P y):P (bif b then x else y):=by cases b<;>assumption
theorem qc(mo:List UInt8):aL mo=0\/21<=aL mo/\aL mo<=41:=by
 unfold aL
 (repeat' refine Yf (P:=λz=>z=0\/21<=z/\z<=41) ?_ ?_)<;>decide
theorem LU{c:Int}(h:21<=c/\c<=41):(fR c+mR c-2<12↔¬(c=24\/c=28\/c=30))/\0<=fR c+mR c-2/\fR c+mR c-2<24:=by
 rcases oy h with rfl|rfl|rfl|rfl|rfl|rfl|rfl|rfl|rfl|rfl|rfl|rfl|rfl|rfl|rfl|rfl|rfl|rfl|rfl|rfl|rfl<;>decide
theorem PK(y:Int){c:Int}(h:21<=c/\c<=41):((c=24\/c=28\/c=30)->fk y c=y+1)/\(¬(c=24\/c=28\/c=30)->fk y c=y):=by
 obtain⟨h1,h2,h3⟩:=LU h;unfold fk cV;constructor
 . intro hc;have:=λh'=>h1.1 h' hc;omega
 . intro hc;have:=h1.2 hc;omega
theorem DB:ak Tryz.prog cfg Z7:=by
 refine J4 (KK (au QW λargs t v he hv=>?_));unfold K2 at he;split at he
 . rename_i ng lg s e g mo da a b c;cases he;obtain⟨⟨h1,h2,h3,h4,h5,h6,h7,h8,-⟩,hv⟩:=aF hv;rw[aq]at h1 h2 h3;rw[IH]at h4 h5;rw[aB]at h6 h7 h8;simp only[dP,dR]at h6 h7 h8;cases hv;refine dq Nw (by simp[aD,bz]) λm w hG=>?_;have:=Go.Proofs.YtoghlpcacfnjbaaGreatDoor.Season (dt ng lg s e g mo da a b c) w hG ⟨⟨by show s.length<=_;omega,by show mo.length<=_;omega,by show da.length<=_;omega⟩,⟨h4,h5⟩,⟨h6.1,h6.2⟩,⟨h7.1,h7.2⟩,⟨h8.1,h8.2⟩⟩;rw[show Go.Proofs.YtoghlpcacfnjbaaGreatDoor.seas (dt ng lg s e g mo da a b c)=aL mo from Nc mo]at this;have e:decide (aL mo≠0)=!(aa (aL mo) 0):=by
    rw[Bool.eq_iff_iff,zAb,Bool.not_eq_true',ay]
   rw[e]at this;simpa [ap,aj]using this
 . cases he
theorem Ru:ak Tryz.prog cfg D3s:=by
 refine au DB λargs t v he hv=>?_;unfold Ul at he;split at he
 . rename_i ng lg s e g mo da a b c;cases he;obtain⟨⟨h1,h2,h3,h4,h5,h6,h7,h8,-⟩,hv⟩:=aF hv;rw[aq]at h1 h2 h3;rw[aB]at h4 h5 h6 h7 h8;simp only[dP,dR]at h4 h5 h6 h7 h8;cases hv;refine iI DB ag (bA 10230003810233110104400111010444042005143020524227700063323310233110104400111010444042005143020524227700614370242202242005) (R:=λQ=>(λ(C N W Y Z:Bool)(E O:Int)(F G:Prop)=>(λ(P T U u0 u1 u2 u3 u4:Bool)(H:Prop)=>(λ(A I:Bool)(u5 u6:Prop)=>(λ(B V:Prop)=>(λ(u7:Prop)=>N/\(A->A/\A/\A/\A/\(C->C/\C/\A/\C/\u5/\(Y->F)/\(Y=false->u7))/\(H->H/\H/\A/\H/\u5/\u7))/\(B->B/\B/\B/\B/\B/\P/\F)) (N/\Nat.ble mo.length 1000/\Nat.ble da.length 1000/\ae .i64 e/\ae .i64 g/\ae .u8 a/\ae .u8 b/\ae .u8 c/\(I->I/\I/\T=false/\(u0->G)/\(u0=false->N/\(u1->(u2->(U->(u3->G)/\(u3=false->F))/\u6)/\(u2=false->False))/\(u1=false->(U->(u4->G)/\(u4=false->F))/\u6)))/\(V->V/\V/\T/\G))) (A=false) (I=false)) (not P) (not T) (P=false) (U=false->False)) (not (aa (cond W 0 6) 0)) (not (not (aa E 0))) (and (ab 21 E) (ab E 41)) (not Z) (and W Z) (and (ab (Neg.neg 10000000000000000) O) (ab O 10000000000000000)) (and (ab (Neg.neg 10000000000000000) (fk O E)) (ab (fk O E) 10000000000000000)) (and (ab (Neg.neg 10000000000000000) (fk 0 E)) (ab (fk 0 E) 10000000000000000)) (C=false)) (not (ab g 0)) (Nat.ble s.length 1000) (aZ ng lg s e g) (not (af mo [])) (Nat.beq (aT s 88 88) 0) (aL mo) (d8 ng s e) (Q (.bool false)) (Q (.bool true))) (λ_=>by kernel_rfl) λQ' hQ=>?_;try dsimp only
   have yes:nP ng lg s e g mo->Q' (.bool true):=λh=>hQ _ (by rw[h]);have no:¬nP ng lg s e g mo->Q' (.bool false):=λh=>hQ _ (by rw[Bool.not_eq_true]at h;rw[h]);unfold nP at yes no;rw[zAb]at yes no;have sc:=qc mo;have sq:=λh=>@PK (d8 ng s e) (aL mo) h;have onum:=@Bn ng lg s e g;have vt:ng->d8 ng s e = -(cC s e.toNat:Int):=λh=>by rw[h];rfl
   have vf:ng=false->d8 ng s e=(cC s e.toNat:Int):=λh=>by rw[h];rfl
   clear hQ;cases hO:aZ ng lg s e g with
   | false=>
     have no:=no (by rw[hO];simp);clear yes vt vf onum sq sc;simp only[cond_false,Bool.false_and,az,reduceCtorEq];generalize d8 ng s e=vr at *
     (repeat' first|exact trivial|refine⟨?_,?_⟩|intro)<;>first|omega|exact no|(exfalso;assumption)
   | true=>
     rw[hO]at yes no;have onum:=onum hO;simp only[cond_true,Bool.true_and,az,reduceCtorEq]at yes no ⊢;by_cases hx:aT s 88 88=0
     . obtain⟨k1,k2,k3,k4,k5⟩:=onum hx;rw[hx,k4]at yes no;rw[hx];clear onum k3 k4;generalize fk (d8 ng s e) (aL mo)=sy at *;generalize fk 0 (aL mo)=s0 at *;generalize d8 ng s e=vr at *;generalize cC s e.toNat=mv at *;generalize aL mo=S at *;generalize af mo []=me at *;have sq1:¬S=0->(S=24\/S=28\/S=30)->sy=vr+1:=λh=>(sq (by omega)).1;have sq2:¬S=0->¬(S=24\/S=28\/S=30)->sy=vr:=λh=>(sq (by omega)).2;clear sq hx hO;cases ng with
       | true=>
         have vr':=vt rfl;clear vt vf;have sb:¬S=0->-10000000000000000<=sy/\sy<=10000000000000000:=λh=>by
          by_cases hc:S=24\/S=28\/S=30
          . have:=sq1 h hc;omega
          . have:=sq2 h hc;omega
         simp only[reduceCtorEq,and_false,not_false_eq_true,or_true,and_true,true_and]at yes no
         (repeat' first|exact trivial|refine⟨?_,?_⟩|intro)<;>first|omega|(exfalso;assumption)|(apply yes;grind)|(apply no;grind)|grind
       | false=>
         have vr':=vf rfl;clear vt vf;have sb:¬S=0->-10000000000000000<=sy:=λh=>by
          by_cases hc:S=24\/S=28\/S=30
          . have:=sq1 h hc;omega
          . have:=sq2 h hc;omega
         have sb2:¬S=0->10000000000000000<sy->(S=24\/S=28\/S=30)/\mv=10000000000000000:=λh h'=>by
          by_cases hc:S=24\/S=28\/S=30
          . have:=sq1 h hc;exact⟨hc,by omega⟩
          . have:=sq2 h hc;omega
         have sb3:¬S=0->sy<=10000000000000000->¬(S=24\/S=28\/S=30)\/¬mv=10000000000000000:=λh h'=>by
          by_cases hc:S=24\/S=28\/S=30
          . have:=sq1 h hc;exact .inr (by omega)
          . exact .inl hc
         simp only[and_true,true_and]at yes no
         (repeat' first|exact trivial|refine⟨?_,?_⟩|intro)<;>first|omega|(exfalso;assumption)|(apply yes;grind)|(apply no;grind)|grind
     . clear onum;generalize fk (d8 ng s e) (aL mo)=sy at *;generalize fk 0 (aL mo)=s0 at *;generalize d8 ng s e=vr at *;generalize cC s e.toNat=mv at *;generalize aL mo=S at *;generalize aT s 88 88=X at *;generalize magOk s e.toNat=mk at *;generalize af mo []=me at *
       (repeat' first|exact trivial|refine⟨?_,?_⟩|intro)<;>first|omega|(exfalso;assumption)|(apply yes;grind)|(apply no;grind)|grind
 . cases he
theorem o_(mo da:List UInt8):1<=df mo da/\df mo da<=3:=by
 unfold df;cases af mo []<;>cases af da []<;>decide
theorem Q6{S:aR}(hS:ak Tryz.prog cfg S):ak Tryz.prog cfg (aY S 81 Qs):=by
 refine au hS λargs t v he hv=>?_;unfold Qs at he;split at he
 . rename_i ng lg s e g mo da a b c;cases he;obtain⟨⟨h1,h2,h3,h4,h5,h6,h7,h8,-⟩,hv⟩:=aF hv;rw[aq]at h1 h2 h3;rw[aB]at h4 h5 h6 h7 h8;simp only[dP,dR]at h4 h5 h6 h7 h8;cases hv;refine iI Ru ag (bA 122700056335330810202573220240005331227000563353308107382327024003812270005633533081227005614232200020732702401422000202422401422770062277006) (R:=λQ=>(λ(A H I N O P V W Y Z u0 u1:Bool)(T:Int)(u2:Prop)=>(λ(B F:Bool)(E u3 u4:Prop)=>(λ(C G U:Prop)=>(λ(u6:Prop->Prop)=>(λ(u5:Prop->Prop)=>u5 (u5 ((Z->Q (.int .i64 6))/\(Z=false->(F->F/\F/\(B->B/\B/\B/\B/\(u0->Q (.int .i64 7))/\(u0=false->(A->u6 (B/\B/\B/\B/\A/\P=false/\A/\(u1->u2)/\(u1=false->u4)))/\U))/\(C->C/\C/\C/\C/\(A->u6 (C/\C/\C/\C/\A/\P/\A/\u2))/\U))/\(G->G/\G/\(A->A/\A/\A/\G/\A/\O/\A/\A/\A/\u2)/\U))))) (λu7=>V/\W/\Y/\ae .i64 e/\ae .i64 g/\H/\I/\N/\u7)) (λu7=>A/\A/\A/\F/\A/\u3/\A/\u7)) (B=false) (F=false) (E->E/\E/\E/\E/\E/\E/\E/\u4)) (not P) (not O) (A=false) (O=false) (H/\I/\N/\ab 1 T/\ab T 3/\Q (.int .i64 (errMk a b c T)))) (not (af da [])) (ae .u8 a) (ae .u8 b) (ae .u8 c) (af mo []) (not (aa (aL mo) 0)) (Nat.ble s.length 1000) (Nat.ble mo.length 1000) (Nat.ble da.length 1000) (not (nP ng lg s e g mo)) (not (eW mo 12)) (not (eW da 31)) (df mo da) (Q (.int .i64 8))) (λ_=>by kernel_rfl) λQ' hQ=>?_;try dsimp only
   have fin:∀v:Int,v=nh ng lg s e g mo da a b c->Q' (.int .i64 v):=λv h=>hQ _ (by rw[h]);have cb:=o_ mo da;have sc:=qc mo;unfold nh at fin;clear hQ;simp only[az,reduceCtorEq];generalize errMk a b c (df mo da)=em at *;generalize df mo da=cm at *;generalize nP ng lg s e g mo=ok at *;generalize aL mo=S at *;generalize eW mo 12=m12 at *;generalize eW da 31=d31 at *;generalize af mo []=me at *;generalize af da []=de at *
   (repeat' first|exact trivial|refine⟨?_,?_⟩|intro)<;>first|omega|assumption|(apply fin;grind)|grind
 . cases he
end Go.Ev
end
section
namespace Go.Ev
open Go Go.Proofs
variable{ws:List aE}{S:aR}{L:cz}{f n1 n2:Nat}{args:List AV}{ng lg up:Bool}{c0 c1 c2 c3:UInt8}{e g n:Int}{s:List UInt8}
theorem cR.mono{a b:Nat}{x:aE}(h:cR a x)(hab:a<=b):cR b x:=⟨h.1,λi hi=>Nat.lt_of_lt_of_le (h.2 i hi) hab⟩
theorem Bf(hw:∀x∈ws,cR 14 x):Ms (Cw cfg ws):=λid hid=>by
 have hlo:(Cw cfg ws).lo=14+ws.length:=rfl;have h14:(14:Nat)=cfg.root.n:=rfl;by_cases h:id<14
 . have:gy (Cw cfg ws).B id=cfg.root.at id:=by
    simp only[Cw,gy];rw[jK (by omega)];simp only[cond_false,fg];rw[bv.2 (Nat.zero_le _),cond_true,Nat.sub_zero]
   rw[this];exact cR.mono ⟨dG.lv.loops id h,λi hi=>dG.lv.root id h i hi⟩ (by omega)
 . have:gy (Cw cfg ws).B id=(⟨ws.length,ws.reverse,[]⟩:aC).at (id-14):=by
    simp only[Cw,gy];rw[bv.2 (by omega),cond_true];rfl
   rw[this];unfold aC.at;rw[zAe];cases hx:(ws.reverse)[ws.length-1-(id-14)]? with
   | none=>exact⟨rfl,λi hi=>by cases hi⟩
   | some x=>exact cR.mono (hw x (List.mem_reverse.1 (List.mem_of_getElem? hx))) (by omega)
noncomputable def Ki(ws:List aE)(f:Nat)(x:AX×St):Tr AV:=aU (vJ tab (Cw cfg ws) (dC f) x) λr=>bif zd r.2.le&&(kr 14 [] 20 r.1).isSome then .ret r.1 else .fail
noncomputable def pW(S:aR)(L:cz)(ws:List aE)(f:Nat)(args:List AV):Tr AV:=xc tab (cH cfg S) (sS S) L 1000 (Cw cfg ws) (aN f) (jH (dC f) args dO) (Ki ws f)
theorem dL.plainW(hw:∀x∈ws,cR 14 x){v v':AV}{o:aC}(h1:v'=v)(hi:aD v=[])(hm:(kr 14 [] 20 v).isSome)(hle:o.le=[]):dL ws v [] (v',o):=by
 subst h1;have hu:kr (14+ws.length+0) (ia (14+ws.length) 0 []) 20 v'=some v':=by
  have key:∀(b:Nat) (d:Nat) (v u:AV),kr 14 [] d v=some u->aD v=[]->kr b [] d v=some v:=by
   intro b d;induction d with
   | zero=>intro v u h;cases h
   | succ d ih=>
     have ihl:∀(vs us:List AV),xE (kr 14 [] d) vs=some us->bz vs=[]->xE (kr b [] d) vs=some vs:=by
      intro vs;induction vs with
      | nil=>intro us _ _;rfl
      | cons v vs ihv=>
        intro us h hi;simp only[xE,ai,zAc]at h;obtain⟨v1,h1,vs1,h2,rfl⟩:=h;simp only[bz,List.append_eq_nil_iff]at hi;simp only[xE,ih v v1 h1 hi.1,ihv vs1 h2 hi.2,ob]
     intro v u h hi;unfold kr at h ⊢;cases v<;>simp only[ai,zAc]at h ⊢<;>simp only[aD,List.append_eq_nil_iff,reduceCtorEq,List.cons_ne_self]at hi
     case func f a c=>obtain⟨a',ha,c',hc,rfl⟩:=h;exact⟨_,ihl a a' ha hi.1,_,ihl c c' hc hi.2,rfl⟩
     case iface t w=>obtain⟨u',hu,rfl⟩:=h;exact⟨_,ih w u' hu hi,rfl⟩
     case agg cs=>obtain⟨a',ha,rfl⟩:=h;exact⟨_,ihl cs a' ha hi,rfl⟩
     case tuple cs=>obtain⟨a',ha,rfl⟩:=h;exact⟨_,ihl cs a' ha hi,rfl⟩
  obtain⟨u,hu⟩:=Option.isSome_iff_exists.1 hm;exact key _ 20 v' u hu hi
 refine(pf dG.lv (C:=Cw cfg ws) (st:=⟨.node v' .nil .nil,1,o,[],none⟩) (kb:=0) (sel:=[]) (ts':=.node v' .nil .nil) (o':=dO) (Bf hw) (Nat.zero_le _) (λs hs=>by cases hs) List.nodup_nil (λp hp=>by rw[show(⟨.node v' .nil .nil,1,o,[],none⟩:St).o=o from rfl,hle]at hp;cases hp) hle.symm rfl rfl (λi hi=>absurd hi (Nat.not_lt_zero i)) (λt ht=>absurd ht (Nat.not_lt_zero t)) ?_ (λd hd=>by cases hd) (λi hi=>by cases hi)).mono λs hs=>?_
 . have hu':kr ((Cw cfg ws).lo+0) (ia (Cw cfg ws).lo 0 []) 20 v'=some v':=hu;simp only[wy,hu',ob]
 . rw[hs];exact⟨rfl,rfl⟩
theorem zh(hS:ak Tryz.prog cfg S)(hw:∀x∈ws,cR 14 x){v:AV}(hb:bh tab f=some (dC f,aN f))(hlen:args.length<=1000)(hL:qv Tryz.prog (cH cfg S) (Cw cfg ws) L (aN f))
 (h:(pW S L ws f args).wp (·=v)) (hi:aD v=[]):bt Tryz.prog cfg f args ws v []:=by
 refine cF.wsem hS hb hlen ((vW (cF.good hS) (mX cfg S) hL h).mono λx hx=>?_);have hx:(Ki ws f x).wp (·=v):=hx;unfold Ki at hx;cases he:vJ tab (Cw cfg ws) (dC f) x with
 | none=>rw[he]at hx;exact hx.elim
 | some r=>
   rw[he]at hx;have hx:(bif zd r.2.le&&(kr 14 [] 20 r.1).isSome then Tr.ret r.1 else .fail).wp (·=v):=hx;cases hb:(zd r.2.le&&(kr 14 [] 20 r.1).isSome)with
   | false=>rw[hb]at hx;exact hx.elim
   | true=>
     rw[hb,cond_true]at hx;have hx:r.1=v:=hx;rw[zAa]at hb;have hle:r.2.le=[]:=by
      have:=hb.1;cases hr:r.2.le with
      | nil=>rfl
      | cons a b=>rw[hr]at this;cases this
     exact⟨r,rfl,dL.plainW hw hx hi (by rw[<-hx];exact hb.2) hle⟩
theorem pK(hS:ak Tryz.prog cfg S)(hw:∀x∈ws,cR 14 x){v:AV}(hL:qv Tryz.prog (cH cfg S) (Cw cfg ws) L (aN f))(D:DT){R:(AV->Prop)->Prop}(hk:∀Q,fx Q (pW S L ws f args) D=R Q)(h:∀Q:AV->Prop,(∀q,q=v->Q q)->R Q)(hb:bh tab f=some (dC f,aN f):=by kernel_rfl)(hlen:args.length<=1000:=by simp)(hi:aD v=[]:=by simp[aD,bz]):bt Tryz.prog cfg f args ws v []:=
 zh hS hw hb hlen hL (dD λQ hQ=>bG ((hk Q).mpr (h Q hQ))) hi
theorem m8(hS:ak Tryz.prog cfg S)(hw:∀x∈ws,cR 14 x){v:AV}(hL:qv Tryz.prog (cH cfg S) (Cw cfg ws) L (aN f))(D:DT){R:(AV->Prop)->Prop}(hk:∀Q,fx Q (pW S L ws f args) D=R Q)(h:∀Q:AV->Prop,Q v->R Q)(hb:bh tab f=some (dC f,aN f):=by kernel_rfl)(hlen:args.length<=1000:=by simp)(hi:aD v=[]:=by simp[aD,bz]):bt Tryz.prog cfg f args ws v []:=
 pK hS hw hL D hk (λQ hQ=>h Q (hQ v rfl)) hb hlen hi
theorem ki{cs:List AV}{rw:Bool}{g:Option Nat}(h:bw 14 cs):cR 14 (.cells cs rw g):=⟨rfl,λi hi=>ti h i hi⟩
def bP(y m:Int):Int:=Go.Proofs.YtoghlpcacfnjbaaGreatDoor.mlen y m
def S0:dJ:=λargs=>match args with
 | [.int .i64 y,.int .i64 m]=>some (aH [ab (-10000000000000000) y,ab y 10000000000000000,ab 1 m,ab m 12] (.ret (.tuple [.int .i64 (bP y m),.int .i64 0])))
 | _=>none
def V1:aR:=aY (aY (aY (aY (aY U8 81 Qs) 112 Pr) 161 MQ) 106 K2) 163 S0
def ED(n:Int):Int:=0-kI n (-9223372036854775807)
def MV(ng:Bool)(c0 c1 c2 c3:UInt8)(n:Int)(up:Bool):Int:=bif ng then 0-(bif up then dE (dh c0 c1 c2 c3 (ED n))else dE (dr c0 c1 c2 c3 (kI (ED n) 1)))else bif up then dE (dr c0 c1 c2 c3 (kI n 0))else dE (dh c0 c1 c2 c3 n)
def MK(ng:Bool)(c0 c1 c2 c3:UInt8)(n:Int)(up:Bool):Bool:=bif ng then(bif up then iK (dh c0 c1 c2 c3 (ED n))&&ab 1 (dE (dh c0 c1 c2 c3 (ED n)))else iK (dr c0 c1 c2 c3 (kI (ED n) 1)))else bif up then iK (dr c0 c1 c2 c3 (kI n 0))else iK (dh c0 c1 c2 c3 n)&&ab 0 (dE (dh c0 c1 c2 c3 n))
theorem BU:ak Tryz.prog cfg V1:=by
 refine au (bm (KK (bm (Q6 UA) (Es 112 _ rfl))) (DB 106 _ rfl)) λargs t v he hv=>?_;unfold S0 at he;split at he
 . rename_i y m;cases he;obtain⟨⟨h1,h2,h3,h4,-⟩,hv⟩:=aF hv;rw[ao]at h1 h2 h3 h4;cases hv;refine kw AM (L:=io) C8 (by simp) ag (dD λQ' hQ=>bG ((VG y m).mpr ?_)) (by simp[aD,bz]);simp only[az,reduceCtorEq]
   (repeat' first|exact trivial|refine⟨?_,?_⟩|intro)<;>first|omega|assumption|exact hQ _ rfl
 . cases he
theorem oB(a b:Int):kI a b=max a b:=by
 unfold kI;cases h:ab b a with
 | true=>rw[ao]at h;rw[cond_true];omega
 | false=>rw[bY]at h;rw[cond_false];omega
theorem Id{x:Option Int}(h:iK x=false):dE x=0:=by cases x with|none=>rfl|some u=>cases h
theorem S9{mo da:List UInt8}{a b c:Int}{w1 w2:List AV}{k1 k2:eZ}(h0:cg c0)(h1:cg c1)(h2:cg c2)(h3:cg c3)(hx:Nat.beq (aT [c0,c1,c2,c3] 88 88) 0=false)(hn : -9223372036854775808<=n/\n<=9223372036854775807)(hw1:bw 14 w1)(hw2:bw 14 w2) :
 bt Tryz.prog cfg 114 [.agg [.bool ng,.bool lg,.str [c0,c1,c2,c3],.int .i64 e,.int .i64 g,.str mo,.str da,.int .u8 a,.int .u8 b,.int .u8 c,.slice 14 0 n1 k1,.slice 15 0 n2 k2],.int .i64 n,.bool up] [.cells w1 false none,.cells w2 false none] (.tuple [.int .i64 (MV ng c0 c1 c2 c3 n up),.bool (MK ng c0 c1 c2 c3 n up)]) []:=by
 refine pK BU (λx hx=>?_) ag (bA 1051145427010114427041051145427010114427044015154270114270404030006) (R:=λQ=>(λ(G:AV)(A B C E I U:Bool)(H:Int)(V W:Option Int)(F:Prop)=>(λ(Y:Bool)(u2:Int)(Z u1:Option Int)(u0:Prop)=>(λ(u3:AV)(N O:Int)(u4 u5:Option Int)=>(λ(u9:AV)(u6 u7:Bool)(P T:Int)=>(λ(ua ub:Bool)=>(λ(uc:Prop->Prop)=>not (not (Nat.beq (aT [c0,c1,c2,c3] 88 88) 0))=false/\(U->(up->uc ((iK V->Q (.tuple [.int .i64 (dE V),G]))/\(iK V=false->F)))/\(up=false->uc ((iK W->Q (.tuple [.int .i64 (dE W),.bool (ab 0 (dE W))]))/\(iK W=false->F))))/\(U=false->(Y->(I->uc ((iK Z->(u6->Q (.tuple [.int .i64 N,G]))/\(u6=false->Q (.tuple [.int .i64 (IntKind.wrap .i64 N),G])))/\(iK Z=false->F)))/\(u0->uc ((iK u1->(u7->Q (.tuple [.int .i64 O,u3]))/\(u7=false->Q (.tuple [.int .i64 (IntKind.wrap .i64 O),u3])))/\(iK u1=false->F))))/\(Y=false->(I->uc ((iK u4->(ua->Q (.tuple [.int .i64 P,G]))/\(ua=false->Q (.tuple [.int .i64 (IntKind.wrap .i64 P),G])))/\(iK u4=false->F)))/\(u0->uc ((iK u5->(ub->Q (.tuple [.int .i64 T,u9]))/\(ub=false->Q (.tuple [.int .i64 (IntKind.wrap .i64 T),u9])))/\(iK u5=false->F)))))) (λud=>A/\B/\C/\E/\ud)) (ae .i64 P) (ae .i64 T)) (.bool (ab 1 (dE u5))) (ae .i64 N) (ae .i64 O) (Int.sub 0 (dE u4)) (Int.sub 0 (dE u5))) (.bool (ab 1 (dE u1))) (Int.sub 0 (dE Z)) (Int.sub 0 (dE u1)) (dr c0 c1 c2 c3 (kI u2 1)) (dh c0 c1 c2 c3 u2)) (ae .i64 H) (IntKind.wrap .i64 H) (dr c0 c1 c2 c3 (kI H 1)) (dh c0 c1 c2 c3 H) (I=false)) (.bool true) (cg c0) (cg c1) (cg c2) (cg c3) (not up) (not ng) (Int.sub 0 (kI n (Neg.neg 9223372036854775807))) (dr c0 c1 c2 c3 (kI n 0)) (dh c0 c1 c2 c3 n) (Q (.tuple [.int .i64 0,.bool false]))) (λ_=>by kernel_rfl) λQ' hQ=>?_
 . simp only[List.mem_cons,List.not_mem_nil,or_false]at hx;rcases hx with rfl|rfl
   . exact ki hw1
   . exact ki hw2
 . simp only[az,reduceCtorEq];have bp:∀k,0<=dE (dh c0 c1 c2 c3 k)/\dE (dh c0 c1 c2 c3 k)<=9999:=λk=>by
    cases hp:dh c0 c1 c2 c3 k with
    | none=>exact⟨by decide,by decide⟩
    | some u=>have:=(gw.1 hp).1;exact⟨this.1,this.2.1⟩
   have bn:∀k,0<=dE (dr c0 c1 c2 c3 k)/\dE (dr c0 c1 c2 c3 k)<=9999:=λk=>by
    cases hp:dr c0 c1 c2 c3 k with
    | none=>exact⟨by decide,by decide⟩
    | some u=>have:=(gY.1 hp).1;exact⟨this.1,this.2.1⟩
   have b1:=bp (0-kI n (-9223372036854775807));have b2:=bn (kI (0-kI n (-9223372036854775807)) 1);have hmx:=oB n (-9223372036854775807);have gn:∀x:Option Int,iK x=false->dE x=0:=λx h=>Id h;have fin:∀(y:Int) (b:Bool),y=MV ng c0 c1 c2 c3 n up->b=MK ng c0 c1 c2 c3 n up->Q' (.tuple [.int .i64 y,.bool b]):=λy b e1 e2=>hQ _ (by rw[e1,e2]);rw[cr]at hx
   (repeat' first|exact trivial|refine⟨?_,?_⟩|intro)<;>first|omega|assumption|(exact hx (by assumption))|(refine fin _ _ ?_ ?_<;>simp_all [MV,MK,ED];done)|(refine fin _ _ ?_ ?_<;>simp_all [MV,MK,ED,gn];done)
theorem WX{mo da:List UInt8}{a b c:Int}{w1 w2:List AV}{k1 k2:eZ}(hs:s.length<=1000)(hx:Nat.beq (aT s 88 88) 0)(ho:aZ ng lg s e g)(hw1:bw 14 w1)(hw2:bw 14 w2) :
 bt Tryz.prog cfg 114 [.agg [.bool ng,.bool lg,.str s,.int .i64 e,.int .i64 g,.str mo,.str da,.int .u8 a,.int .u8 b,.int .u8 c,.slice 14 0 n1 k1,.slice 15 0 n2 k2],.int .i64 n,.bool up] [.cells w1 false none,.cells w2 false none] (.tuple [.int .i64 (d8 ng s e),.bool (bif up then ab n (d8 ng s e)else ab (d8 ng s e) n)]) []:=by
 refine pK BU (λx hx=>?_) ag (bA 1020700081230003313328224741020700081230003313328224744200520006) (R:=λQ=>(λ(O V W:AV)(A N U:Bool)(I:Int)(B:Prop)=>(λ(T:AV)(E P Y:Bool)(C:Prop)=>(λ(F:Bool)(G:Prop)=>(λ(H:Prop)=>(λ(Z:Prop->Prop)=>not (not U)/\Nat.ble s.length 1000/\(Y->(up->up/\up/\up/\(F->F/\F/\C/\C/\C/\F/\C/\P=false/\Q (.tuple [T,V]))/\(H->H/\H/\H/\P/\Q (.tuple [T,W])))/\(B->Z (Q (.tuple [T,.bool (ab I n)]))))/\(Y=false->(up->up/\up/\up/\(E->E/\E/\C/\C/\C/\E/\C/\N=false/\Q (.tuple [O,V]))/\(G->G/\G/\G/\N/\Q (.tuple [O,W])))/\(B->Z (Q (.tuple [O,.bool (ab 0 n)]))))) (λu0=>B/\B/\B/\A/\A/\A/\A/\u0)) (F=false)) (not P) (E=false)) (.int .i64 I) (not N) (ab n I) (and (aZ ng lg s e g) U) (A=false)) (.int .i64 0) (.bool false) (.bool true) (not up) (ab n 0) (Nat.beq (aT s 88 88) 0) (d8 ng s e) (up=false)) (λ_=>by kernel_rfl) λQ' hQ=>?_
 . simp only[List.mem_cons,List.not_mem_nil,or_false]at hx;rcases hx with rfl|rfl
   . exact ki hw1
   . exact ki hw2
 . simp only[az,reduceCtorEq];rw[aK]at hx;have fin:∀b:Bool,b=(bif up then ab n (d8 ng s e)else ab (d8 ng s e) n)->Q' (.tuple [.int .i64 (d8 ng s e),.bool b]):=λb h=>hQ _ (by rw[h]);have hno:¬(aZ ng lg s e g=false\/¬aT s 88 88=0):=by rw[ho];simp[hx]
   refine⟨hx,hs,λ_=>?_,λh=>(hno h).elim⟩;have hle:n<=d8 ng s e->ab n (d8 ng s e)=true:=λh=>ao.mpr h;have hlt:d8 ng s e<n->ab n (d8 ng s e)=false:=λh=>bY.mpr h
   (repeat' first|exact trivial|refine⟨?_,?_⟩|intro)<;>first|omega|assumption|(rename_i hup hn;refine fin _ ?_;rw[hup];first|exact(hle hn).symm|exact(hlt hn).symm)|(rename_i hup;refine fin _ ?_;rw[hup];rfl)
def yV(ng:Bool)(s:List UInt8)(e n:Int)(up:Bool):Int:=bif Nat.beq (aT s 88 88) 0 then d8 ng s e else match s with|[c0,c1,c2,c3]=>MV ng c0 c1 c2 c3 n up|_=>0
def yB(ng:Bool)(s:List UInt8)(e n:Int)(up:Bool):Bool:=bif Nat.beq (aT s 88 88) 0 then(bif up then ab n (d8 ng s e)else ab (d8 ng s e) n)else match s with|[c0,c1,c2,c3]=>MK ng c0 c1 c2 c3 n up|_=>false
def k_(s:List UInt8):Bool:=Nat.beq (aT s 88 88) 0 || (match s with|[c0,c1,c2,c3]=>cg c0&&(cg c1&&(cg c2&&cg c3))|_=>false)
def SE:lB:=λargs ws=>match args,ws with
 | [.agg [.bool ng,.bool lg,.str s,.int .i64 e,.int .i64 g,.str mo,.str da,.int .u8 a,.int .u8 b,.int .u8 c,.slice 14 0 n1 k1,.slice 15 0 n2 k2],.int .i64 n,.bool up],[.cells w1 false none,.cells w2 false none]=>
   some (aH [bw 14 w1,bw 14 w2,ae .i64 n,aZ ng lg s e g,Nat.ble s.length 1000,k_ s] (.ret (.tuple [.int .i64 (yV ng s e n up),.bool (yB ng s e n up)],[])))
 | _,_=>none
theorem rW(h:k_ s)(hx:Nat.beq (aT s 88 88) 0=false):∃c0 c1 c2 c3,s=[c0,c1,c2,c3]/\cg c0/\cg c1/\cg c2/\cg c3=true:=by
 unfold k_ at h;rw[hx,Bool.false_or]at h;split at h
 . rename_i c0 c1 c2 c3;simp only[zAa]at h;exact⟨c0,c1,c2,c3,rfl,h.1,h.2.1,h.2.2.1,h.2.2.2⟩
 . cases h
theorem MC(hS:ak Tryz.prog cfg S):ak Tryz.prog cfg (fw S 114 (fy 14 [1,1] SE)):=by
 refine bm hS (ga dG.lv AD λargs ws t r he hr=>?_);unfold SE at he;split at he
 . rename_i ng lg s e g mo da a b c n1 k1 n2 k2 n up w1 w2;cases he;obtain⟨⟨h1,h2,h3,h4,h5,h6,-⟩,hr⟩:=aF hr;rw[IH]at h3;rw[aq]at h5;cases hr;cases hx:Nat.beq (aT s 88 88) 0 with
   | true=>
     have e1:yV ng s e n up=d8 ng s e:=by unfold yV;rw[hx];rfl
     have e2:yB ng s e n up=(bif up then ab n (d8 ng s e)else ab (d8 ng s e) n):=by unfold yB;rw[hx];rfl
     rw[e1,e2];exact⟨WX h5 hx h4 h1 h2,λx hx=>by cases hx⟩
   | false=>
     obtain⟨c0,c1,c2,c3,rfl,m0,m1,m2,m3⟩:=rW h6 hx;have e1:yV ng [c0,c1,c2,c3] e n up=MV ng c0 c1 c2 c3 n up:=by unfold yV;rw[hx];rfl
     have e2:yB ng [c0,c1,c2,c3] e n up=MK ng c0 c1 c2 c3 n up:=by unfold yB;rw[hx];rfl
     rw[e1,e2];exact⟨S9 m0 m1 m2 m3 hx h3 h1 h2,λx hx=>by cases hx⟩
 . cases he
theorem C_(ho:aZ ng lg s e g)(h0:aT s 88 88=0) : -10000000000000000<=d8 ng s e/\d8 ng s e<=10000000000000000:=by
 have hd:=(Hj ho h0).1;have key:cC s e.toNat<=10000000000000000:=by
  unfold aZ at ho;rw[zAb]at ho;rcases ho with⟨_,_,h|h⟩
  . obtain⟨_,hl,he,_⟩:=h;subst he
    match s,hl with
    | [a,b,c,d],_=>
      have k0:=oI hd (i:=0) (by simp);have k1:=oI hd (i:=1) (by simp);have k2:=oI hd (i:=2) (by simp);have k3:=oI hd (i:=3) (by simp);simp only[List.getD_cons_zero,List.getD_cons_succ]at k0 k1 k2 k3;show cC [a,b,c,d] 0<=_;unfold cC numL;simp only[List.foldl_cons,List.foldl_nil,Nat.pow_zero];omega
  . have:=h.2.2.2.2.2.2.2.2.2;unfold magOk at this
    rwa [aq]at this
 unfold d8;cases ng<;>simp only[zAj]<;>omega
theorem ML{k:Int}(h:iK (dr c0 c1 c2 c3 k)):k<=dE (dr c0 c1 c2 c3 k):=by
 cases hp:dr c0 c1 c2 c3 k with
 | none=>rw[hp]at h;cases h
 | some u=>exact(gY.1 hp).2.1
theorem Ny{k:Int}(h:iK (dh c0 c1 c2 c3 k)):dE (dh c0 c1 c2 c3 k)<=k:=by
 cases hp:dh c0 c1 c2 c3 k with
 | none=>rw[hp]at h;cases h
 | some u=>exact(gw.1 hp).2.1
theorem RJ{c0 c1 c2 c3:UInt8}{k:Int}:0<=dE (dr c0 c1 c2 c3 k)/\dE (dr c0 c1 c2 c3 k)<=9999:=by
 cases hp:dr c0 c1 c2 c3 k with
 | none=>exact⟨by decide,by decide⟩
 | some u=>have:=(gY.1 hp).1;exact⟨this.1,this.2.1⟩
theorem Q0{c0 c1 c2 c3:UInt8}{k:Int}:0<=dE (dh c0 c1 c2 c3 k)/\dE (dh c0 c1 c2 c3 k)<=9999:=by
 cases hp:dh c0 c1 c2 c3 k with
 | none=>exact⟨by decide,by decide⟩
 | some u=>have:=(gw.1 hp).1;exact⟨this.1,this.2.1⟩
theorem Vy(h:yB ng s e n true):n<=yV ng s e n true:=by
 unfold yB at h;unfold yV;cases hx:Nat.beq (aT s 88 88) 0 with
 | true=>rw[hx]at h;simp only[cond_true]at h ⊢;rwa [ao]at h
 | false=>
   rw[hx,cond_false]at h;rw[cond_false];split at h
   . rename_i c0 c1 c2 c3;unfold MK at h;unfold MV;cases ng with
     | true=>
       simp only[cond_true,zAa,ao]at h ⊢;have:=Ny h.1;unfold ED at *;rw[oB]at *;omega
     | false=>
       simp only[zAj]at h ⊢;have:=ML h;rw[oB]at *;omega
   . cases h
theorem i7(ho:aZ ng lg s e g) : -10000000000000000<=yV ng s e n up/\yV ng s e n up<=10000000000000000:=by
 unfold yV;cases hx:Nat.beq (aT s 88 88) 0 with
 | true=>rw[cond_true];rw[aK]at hx;exact C_ ho hx
 | false=>
   rw[cond_false];split
   . rename_i c0 c1 c2 c3;unfold MV;have b1:=@RJ c0 c1 c2 c3;have b2:=@Q0 c0 c1 c2 c3;cases ng<;>cases up<;>simp only[zAj]
     . have:=b2 (k:=n);omega
     . have:=b1 (k:=kI n 0);omega
     . have:=b1 (k:=kI (ED n) 1);omega
     . have:=b2 (k:=ED n);omega
   . omega
noncomputable def V2:aR:=fw V1 114 (fy 14 [1,1] SE)
theorem rL:ak Tryz.prog cfg V2:=MC BU
abbrev VD:List Nat:=[3,4,5,6,7,8,9,10,11,12,53,54,55,15,16,17,94,95,96]
def kO(nda sm:Bool)(mst cd d:Int):Bool:=ab d mst&&!(sm&&(nda&&!(ab cd d)))
def g_(nda sm:Bool)(mst cd:Int)(D:List Int):Option Int:=D.find? (kO nda sm mst cd)
def mF(da:List UInt8):Bool:=!(af da [])
def Jx(D:List Int):d9:=λvs o=>match vs,o with
 | [.ptr 16 0,.ptr 17 0,.ptr 18 0,.ptr 19 0,.bool false,.int .i64 1,.slice 14 0 n1 k1,.slice 15 0 n2 k2,.func 132 [] [.ptr 18 0],.int .i64 y,.slice 14 0 n1' k1',.int .i64 n1'',.int .i64 j,.int .i64 m,.bool sm,.int .i64 mst,.slice 15 0 n2' k2',.int .i64 n2'',.int .i64 i],
   ⟨4,[.cells [.int .i64 0,.int .i64 0,.int .i64 0] true none,.cells [.bool true] true none,.cells [.int .i64 cy,.int .i64 cm,.int .i64 cd] true none,
   .cells [.bool ng,.bool lg,.str s,.int .i64 e,.int .i64 g,.str mo,.str da,.int .u8 a,.int .u8 b,.int .u8 c,.slice 14 0 n1a k1a,.slice 15 0 n2a k2a] true none],[]⟩=>
   some (aH [Nat.ble n2 1000,Nat.beq D.length n2,Nat.beq n2' n2,aa n2'' (Int.ofNat n2),aa i 0] (.test (iK (g_ (mF da) sm mst cd D)) λx=>bif x then
    .all λJ=>.ret (.ret,[.ptr 16 0,.ptr 17 0,.ptr 18 0,.ptr 19 0,.bool true,.int .i64 1,.slice 14 0 n1 k1,.slice 15 0 n2 k2,.func 132 [] [.ptr 18 0],.int .i64 y,.slice 14 0 n1' k1',.int .i64 n1'',.int .i64 j,.int .i64 m,.bool sm,.int .i64 mst,.slice 15 0 n2' k2',.int .i64 n2'',.any (J 0)],
     ⟨4,[.cells [.int .i64 y,.int .i64 m,.int .i64 (dE (g_ (mF da) sm mst cd D))] true none,.cells [.bool true] true none,.cells [.int .i64 cy,.int .i64 cm,.int .i64 cd] true none,
   .cells [.bool ng,.bool lg,.str s,.int .i64 e,.int .i64 g,.str mo,.str da,.int .u8 a,.int .u8 b,.int .u8 c,.slice 14 0 n1a k1a,.slice 15 0 n2a k2a] true none],[]⟩)
    else .ret (.exit 4,[.ptr 16 0,.ptr 17 0,.ptr 18 0,.ptr 19 0,.bool false,.int .i64 1,.slice 14 0 n1 k1,.slice 15 0 n2 k2,.func 132 [] [.ptr 18 0],.int .i64 y,.slice 14 0 n1' k1',.int .i64 n1'',.int .i64 j,.int .i64 m,.bool sm,.int .i64 mst,.slice 15 0 n2' k2',.int .i64 n2'',.int .i64 n2''],o)))
 | _,_=>none
theorem Ar{α:Type}{p:α->Bool}{d:α}:∀{D:List α} {i:Nat},i<D.length->(∀k,k<i->p (D.getD k d)=false)->p (D.getD i d)->D.find? p=some (D.getD i d)
 | [],i,h,_,_=>by simp at h
 | x::D,0,_,_,h=>by
   have h:p x=true:=h;rw[List.find?_cons,h];rfl
 | x::D,i+1,hi,hk,h=>by
   have h0:p x=false:=hk 0 (by omega);rw[List.find?_cons,h0];exact Ar (D:=D) (i:=i) (by simpa using hi) (λk hk'=>hk (k+1) (by omega)) h
theorem zG{α:Type}{p:α->Bool}{d:α}{D:List α}(h:∀k,k<D.length->p (D.getD k d)=false):D.find? p=none:=by
 rw[List.find?_eq_none];intro x hx;obtain⟨i,hi⟩:=List.getElem?_of_mem hx;have hl:=(List.getElem?_eq_some_iff.1 hi).1;have:=h i hl;rw[zAe,hi]at this;simpa using this
theorem qT{D:List Int}{i:Nat}(h:i<D.length):List.getD (aQ D) (0+i*1) (AV.tuple [])=.int .i64 (D.getD i 0):=by
 unfold aQ;rw[Nat.zero_add,Nat.mul_one,zAe,List.getElem?_map,zAe,List.getElem?_eq_getElem h];rfl
def LT:(bj (aN 83)).map (·.1)=[0,2,4]:=by kernel_rfl
theorem PX(M:List AV)(D:List Int):cx Tryz.prog (cH cfg V2) (Cw cfg [.cells M false none,.cells (aQ D) false none]) (lb 83 2) 127 VD (Jx D):=by
 intro vs o t Q hv hq J;unfold Jx at hv;split at hv
 . rename_i n1 k1 n2 k2 y n1' k1' n1'' j m sm mst n2' k2' n2'' i cy cm cd ng lg s e g mo da a b c n1a k1a n2a k2a;cases hv;replace hq:=cL hq;obtain⟨⟨h1,h2,h3,h4,h5,-⟩,hq⟩:=hq;rw[aq]at h1;rw[aK]at h2 h3;rw[al]at h4 h5;subst h2 h3 h4 h5;simp only[aH,Tr.wp]at hq;refine im rL rfl rfl ag (ι:={i:Nat // i<=D.length/\∀k,k<i->kO (mF da) sm mst cd (D.getD k 0)=false}) (λx=>[.ptr 16 0,.ptr 17 0,.ptr 18 0,.ptr 19 0,.bool false,.int .i64 1,.slice 14 0 n1 k1,.slice 15 0 D.length k2,.func 132 [] [.ptr 18 0],.int .i64 y,.slice 14 0 n1' k1',.int .i64 n1'',.int .i64 j,.int .i64 m,.bool sm,.int .i64 mst,.slice 15 0 D.length k2',.int .i64 (Int.ofNat D.length),.int .i64 (Int.ofNat x.1)])
    (λ_=>⟨4,[.cells [.int .i64 0,.int .i64 0,.int .i64 0] true none,.cells [.bool true] true none,.cells [.int .i64 cy,.int .i64 cm,.int .i64 cd] true none,.cells [.bool ng,.bool lg,.str s,.int .i64 e,.int .i64 g,.str mo,.str da,.int .u8 a,.int .u8 b,.int .u8 c,.slice 14 0 n1a k1a,.slice 15 0 n2a k2a] true none],[]⟩) (λx=>D.length-x.1) 4 (λ_=>Nat.le_refl _) (λx J=>?_) (Nat.le_refl _) (λJ=>Wk.refl ⟨⟨0,Nat.zero_le _,λk hk=>absurd hk (Nat.not_lt_zero k)⟩,J,rfl⟩) J
   obtain⟨i,hi,hp⟩:=x;dsimp only;refine jT (bA 1112080533531002202052328100223238120227300033100273020002204052074270224244204) (R:=λQ=>(λ(ug uh:aE)(H I N T U V W Y Z u0 u1 u2 u3 u4 u5 u6 ue uf ui:AV)(B:Bool)(P ud:Int)(F:Prop)=>(λ(um:aE)(u9 ua ul:AV)(uj uk:Bool)(u7 un:Int)(E:Prop)=>(λ(A ub:Bool)(uo:Prop)=>(λ(G:Bool)(C uc:Prop)=>(λ(O:Prop)=>(uj->aW i D.length/\(uk->(A->A/\(sm->sm/\sm/\sm/\A/\sm/\A/\(B->B/\B/\B/\B/\(G->G/\G/\G/\ub=false/\A/\B/\uc)/\(O->O/\O/\O/\ub/\A/\B/\A/\A/\uo))/\(E->E/\E/\E/\E/\A/\E/\uc))/\(F->F/\F/\F/\A/\F/\A/\A/\uc))/\(C->C/\C/\C/\C/\C/\C/\uo))/\(uk=false->False))/\(uj=false->Q (.exit 4,[T,U,H,V,ui,W,Y,Z,u9,I,u0,u1,u2,N,u3,u4,u5,ua,ul],⟨4,[.cells [u6,u6,u6] true none,um,ug,uh],[]⟩))) (G=false)) (not ub) (A=false) (A/\A/\Q (.ret,[T,U,H,V,uf,W,Y,Z,u9,I,u0,u1,u2,N,u3,u4,u5,ua,ul],⟨4,[.cells [I,N,.int .i64 u7] true none,um,ug,uh],[]⟩))) (ab u7 mst) (not (ab cd u7)) (ae .i64 un/\Q (.normal,[T,U,H,V,ui,W,Y,Z,u9,I,u0,u1,u2,N,u3,u4,u5,ua,.int .i64 un],⟨4,[.cells [u6,u6,u6] true none,um,ug,uh],[]⟩))) (.cells [uf] true none) (.func 132 [] [H]) (.int .i64 ud) (.int .i64 P) (not (ab ud P)) (cq .i64 ue) (bC ue) (Int.add P 1) (B=false)) (.cells [.int .i64 cy,.int .i64 cm,.int .i64 cd] true none) (.cells [.bool ng,.bool lg,.str s,.int .i64 e,.int .i64 g,.str mo,.str da,.int .u8 a,.int .u8 b,.int .u8 c,.slice 14 0 n1a k1a,.slice 15 0 n2a k2a] true none) (.ptr 18 0) (.int .i64 y) (.int .i64 m) (.ptr 16 0) (.ptr 17 0) (.ptr 19 0) (.int .i64 1) (.slice 14 0 n1 k1) (.slice 15 0 D.length k2) (.slice 14 0 n1' k1') (.int .i64 n1'') (.int .i64 j) (.bool sm) (.int .i64 mst) (.slice 15 0 D.length k2') (.int .i64 0) (List.getD (aQ D) (HAdd.hAdd 0 (HMul.hMul i 1)) (.tuple [])) (.bool true) (.bool false) (not (af da [])) (Int.ofNat i) (Int.ofNat D.length) (sm=false)) (λ_=>by kernel_rfl) λQ' hQ=>?_;try dsimp only
   have yes:i<D.length->kO (mF da) sm mst cd (D.getD i 0)->∀J:Nat->Value,Q (.ret,[.ptr 16 0,.ptr 17 0,.ptr 18 0,.ptr 19 0,.bool true,.int .i64 1,.slice 14 0 n1 k1,.slice 15 0 D.length k2,.func 132 [] [.ptr 18 0],.int .i64 y,.slice 14 0 n1' k1',.int .i64 n1'',.int .i64 j,.int .i64 m,.bool sm,.int .i64 mst,.slice 15 0 D.length k2',.int .i64 (Int.ofNat D.length),.any (J 0)],
    ⟨4,[.cells [.int .i64 y,.int .i64 m,.int .i64 (D.getD i 0)] true none,.cells [.bool true] true none,.cells [.int .i64 cy,.int .i64 cm,.int .i64 cd] true none,.cells [.bool ng,.bool lg,.str s,.int .i64 e,.int .i64 g,.str mo,.str da,.int .u8 a,.int .u8 b,.int .u8 c,.slice 14 0 n1a k1a,.slice 15 0 n2a k2a] true none],[]⟩):=λhlt hpick J2=>by
    have hf:g_ (mF da) sm mst cd D=some (D.getD i 0):=Ar hlt hp hpick;rw[hf]at hq;exact hq J2
   have no:¬i<D.length->Q (.exit 4,[.ptr 16 0,.ptr 17 0,.ptr 18 0,.ptr 19 0,.bool false,.int .i64 1,.slice 14 0 n1 k1,.slice 15 0 D.length k2,.func 132 [] [.ptr 18 0],.int .i64 y,.slice 14 0 n1' k1',.int .i64 n1'',.int .i64 j,.int .i64 m,.bool sm,.int .i64 mst,.slice 15 0 D.length k2',.int .i64 (Int.ofNat D.length),.int .i64 (Int.ofNat D.length)],
    ⟨4,[.cells [.int .i64 0,.int .i64 0,.int .i64 0] true none,.cells [.bool true] true none,.cells [.int .i64 cy,.int .i64 cm,.int .i64 cd] true none,.cells [.bool ng,.bool lg,.str s,.int .i64 e,.int .i64 g,.str mo,.str da,.int .u8 a,.int .u8 b,.int .u8 c,.slice 14 0 n1a k1a,.slice 15 0 n2a k2a] true none],[]⟩):=λhge=>by
    have hf:g_ (mF da) sm mst cd D=none:=zG λk hk=>hp k (by omega);rw[hf]at hq;exact hq
   have next:kO (mF da) sm mst cd (D.getD i 0)=false->∀k,k<i+1->kO (mF da) sm mst cd (D.getD k 0)=false:=λh k hk=>by
    by_cases e:k=i
    . subst e;exact h
    . exact hp k (by omega)
   by_cases hlt:i<D.length
   . rw[qT hlt];have yes:=yes hlt;clear no;have hpe:kO (mF da) sm mst cd (D.getD i 0)=(ab (D.getD i 0) mst&&!(sm&&(!(af da [])&&!(ab cd (D.getD i 0))))):=rfl;generalize D.getD i 0=d at *;simp only[cq,bC,gN,kS];simp only[az,reduceCtorEq];have hpi:kO (mF da) sm mst cd d=true↔(d<=mst/\¬(sm/\af da []=false/\d<cd)):=by
      rw[hpe,zAa,ao];refine and_congr_right λ_=>?_;cases sm<;>cases af da []<;>cases hcd:ab cd d<;>first|(rw[ao]at hcd;simp;done)|(rw[bY]at hcd;simp;done)|(rw[ao]at hcd;simp;omega)|(rw[bY]at hcd;simp;omega)
     clear hpe;generalize hpd:kO (mF da) sm mst cd d=pd at *
     (repeat' first|exact trivial|refine⟨?_,?_⟩|intro)<;>first|omega|assumption|refine hQ _ ?_
     all_goals first
      | (refine⟨_,_,VW.any (.same (.same (.same (.same (.same (.same (.same (.same (.same (.same (.same (.same (.same (.same (.same (.same (.same (.same (.int .nil))))))))))))))))))) rfl,yes (hpi.2 ⟨by assumption,?_⟩) (jv [_])⟩;simp_all;done)
      | (refine⟨_,_,VW.any (.same (.same (.same (.same (.same (.same (.same (.same (.same (.same (.same (.same (.same (.same (.same (.same (.same (.same (.int .nil))))))))))))))))))) rfl,yes (hpi.2 ⟨by assumption,?_⟩) (jv [_])⟩;simp_all;omega)
      | (refine⟨⟨i+1,by omega,next ?_⟩,by dsimp only;omega,VW.of_eq rfl rfl⟩;rw[<-Bool.not_eq_true,hpi];simp_all;done)
      | (refine⟨⟨i+1,by omega,next ?_⟩,by dsimp only;omega,VW.of_eq rfl rfl⟩;rw[<-Bool.not_eq_true,hpi];simp_all;omega)
   . obtain rfl:i=D.length:=by omega
     have no2:=no hlt;simp only[az,reduceCtorEq]
     (repeat' first|exact trivial|refine⟨?_,?_⟩|intro)<;>first|omega|assumption|(exfalso;omega)|(refine hQ _ ?_;exact⟨_,_,VW.refl,no2⟩)
 . cases hv
end Go.Ev
end
