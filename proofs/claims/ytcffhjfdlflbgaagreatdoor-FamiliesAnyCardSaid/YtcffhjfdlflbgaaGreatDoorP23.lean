import Derived.Test.YtcffhjfdlflbgaaGreatDoorP22
set_option linter.all false
open Int renaming ofNat->ν
open HAdd renaming hAdd->ξ
open List renaming getD->ο
open Nat renaming ble->π,le_refl->ς,not_lt_zero->σ,zero_le->τ,beq->υ,add_assoc->χ,reduceAdd->ω,le_trans->Β,zero_add->Γ,add_zero->Δ
open HMul renaming hMul->Α
set_option linter.all false
set_option maxRecDepth 100000
set_option maxHeartbeats 4000000
section
namespace Go.Ev
open Go Go.Proofs
variable{s da:List UInt8}{ng lg:Bool}{g a b c:Int}{S:aQ}{k:fg}
noncomputable def V3:aQ:=eQ V2 96 (fl 14 [1,1] Oy)
theorem G0:ak Tryz.prog cfg V3:=Mb qY
def Co(s:List UInt8)(g:Nat):List Int:=match s with|[c0,c1]=>ay c0 c1 g|_=>[]
def qK(ng:Bool)(s:List UInt8)(e:Int)(mo da:List UInt8):Bool:=mJ (cJ ng s e (-9223372036854775808) 0 0 mo da (Co mo 12) (Co da 31) (yV ng s e (-9223372036854775808) true) (yB ng s e (-9223372036854775808) true))
def bW(ng lg:Bool)(s:List UInt8)(e g:Int)(mo da:List UInt8)(a b c:Int):Int:=
 bif aa (nH ng lg s e g mo da a b c) 0 then(bif ae da []then 0 else bif qK ng s e mo da then 0 else 8)else nH ng lg s e g mo da a b c
def tx:dP:=λ
 | [.h [.b ng,.b lg,.e s,.a .i64 e,.a .i64 g,.e mo,.e da,.a .u8 a,.a .u8 b,.a .u8 c]]=>some (aH [π s.length 1000,π mo.length 1000,π da.length 1000,af .i64 e,af .i64 g,af .u8 a,af .u8 b,af .u8 c] (.a0 (.a .i64 (bW ng lg s e g mo da a b c))))
 | _=>none
theorem GF{c:UInt8}{d:Int}(h:c.toNat=88\/(c.toNat:Int)=48+d)(h0:0<=d)(h1:d<=9):fC c=true:=by
 rw[dD];omega
theorem oi{g:Nat}(hg:g<=99)(h:eW s g):∃c0 c1,s=[c0,c1]/\fC c0/\fC c1/\ay c0 c1 g≠[]:=by
 unfold eW at h;obtain⟨k,hk,ha⟩:=List.any_eq_true.1 h;rw[List.mem_range]at hk
 match s,ha with
 | [c0,c1],ha=>
   have hi:=Gu.1 ha;refine⟨c0,c1,rfl,GF hi.1 (by omega) (by omega),GF hi.2 (by omega) (by omega),λhn=>?_⟩;have:((k:Int)+1)∈ay c0 c1 g:=iG.2 ⟨by omega,ha⟩;grind
 | [],ha=>simp[agr]at ha
 | [_],ha=>simp[agr]at ha
 | _::_::_::_,ha=>simp[agr]at ha
theorem Mr{e:Int}(h:aV ng lg s e g):lP s=true:=by
 unfold aV at h;rw[zAc]at h;unfold lP;by_cases hx:eC s 88 88=0
 . rw[gm hx];rfl
 . rw[ic hx,Bool.false_or];have h4:s.length=4:=by omega
   have hm:=(XB s).2 h.1
   match s,h4,hm with
   | [c0,c1,c2,c3],_,hm=>
     simp only[Go.Proofs.YtcffhjfdlflbgaaGreatDoor.mskB,List.all_cons,List.all_nil,Bool.and_true,zAa,zAc,Go.Proofs.YtcffhjfdlflbgaaGreatDoor.mb]at hm;simp only[zAa,dD];exact⟨of_decide_eq_true hm.1,of_decide_eq_true hm.2.1,of_decide_eq_true hm.2.2.1,of_decide_eq_true hm.2.2.2⟩
theorem dC{e:Int}{mo:List UInt8}(h:nH ng lg s e g mo da a b c=0)(hc:0<=errMk a b c (dq mo da)):aV ng lg s e g/\lP s/\¬(0<g/\ae mo []=false)/\(ae mo []=false/\aR mo=0->eW mo 12=true)/\(ae da []=false->ae mo []=false/\aR mo=0/\eW da 31=true):=by
 have hn:=CF mo;grind [nH,oc,Mr]
theorem dE{a b c n:Int}:0<=errMk a b c n:=by grind [errMk]
theorem adC{e:Int}{mo:List UInt8}(h:nH ng lg s e g mo da a b c=0)(hd:ae da []=false) :
 ∃m0 m1 d0 d1,mo=[m0,m1]/\da=[d0,d1]/\fC m0/\fC m1/\fC d0/\fC d1/\ay m0 m1 12≠[]/\ay d0 d1 31≠[]/\aR mo=0/\aV ng lg s e g/\lP s/\g=0:=by
 obtain⟨h1,h2,h3,h4,h5⟩:=dC h dE;obtain⟨k1,k2,k3⟩:=h5 hd;obtain⟨m0,m1,rfl,a1,a2,a3⟩:=oi (by decide) (h4 ⟨k1,k2⟩);obtain⟨d0,d1,rfl,b1,b2,b3⟩:=oi (by decide) k3;grind [aV]
theorem oL{M:List Int}:d7 (aI M)=M:=by
 unfold d7 aI;rw[List.map_map];exact List.map_id' M
theorem ow{M:List Int}:(aI M).all (eB .i64)=true:=by
 unfold aI;rw[List.all_map];exact List.all_eq_true.2 λx _=>rfl
theorem pk{c0 c1:UInt8}:jY da (ay c0 c1 12)=true:=by
 grind [jY,iG,okM,aq]
theorem zQ{e:Int}{mo:List UInt8}(hs:s.length<=140737488351232)(hmo:mo.length<=140737488351232)(hda:da.length<=140737488351232)(he : -9223372036854775808<=e/\e<=9223372036854775807)(hg : -9223372036854775808<=g/\g<=9223372036854775807)(ha:0<=a/\a<=255)(hb:0<=b/\b<=255)(hc:0<=c/\c<=255) :
 bu Tryz.prog cfg 42 [.h [.b ng,.b lg,.e s,.a .i64 e,.a .i64 g,.e mo,.e da,.a .u8 a,.a .u8 b,.a .u8 c]] [] (.a .i64 (bW ng lg s e g mo da a b c)) []:=by
 unfold bW;cases hE:aa (nH ng lg s e g mo da a b c) 0 with
 | false=>
   refine jD G0 ai (bE 1777006) (R:=λQ=>(λ(A:Int)=>π s.length 140737488351232/\π mo.length 140737488351232/\π da.length 140737488351232/\af .i64 e/\af .i64 g/\af .u8 a/\af .u8 b/\af .u8 c/\not (aa A 0)/\Q (.a .i64 A)) (nH ng lg s e g mo da a b c)) (λ_=>by rfl) λQ' hQ=>?_;simp_all [az]
 | true=>
   rw[cond_true];cases hd:ae da []with
   | true=>
     refine jD G0 ai (bE 12032277006) (R:=λQ=>π s.length 140737488351232/\π mo.length 140737488351232/\π da.length 140737488351232/\af .i64 e/\af .i64 g/\af .u8 a/\af .u8 b/\af .u8 c/\not (aa (nH ng lg s e g mo da a b c) 0)=false/\ae da []/\Q (.a .i64 0)) (λ_=>by rfl) λQ' hQ=>?_;simp_all [az]
   | false=>
     have hE':=ao.mp hE;obtain⟨m0,m1,d0,d1,rfl,rfl,h0,h1,h2,h3,k1,k2,hse,ho,hx,hg0⟩:=adC hE' hd;have ln:s.length<=1000:=Β (TU ho) (by decide);have n1:gU (ay m0 m1 12)=false:=by grind [gU]
     have n2:gU (ay d0 d1 31)=false:=by grind [gU]
     refine jD G0 ai (bE 11407022770563002205300225322700200056663227002006) (R:=λQ=>(λ(C:Bool)(G H:List Int)(E F:List UInt8)=>(λ(I N:Nat)=>(λ(O P:Nat)=>(λ(A B:List AV)=>(λ(T:Bool)=>(λ(U:Prop->Prop)=>U (not (aa (nH ng lg s e g E F a b c) 0)=false/\(π s.length 1000/\af .i64 e/\af .i64 g/\af .u8 a/\af .u8 b/\af .u8 c/\not (aa (aR E) 0)=false/\fC m0/\fC m1/\gU G=false/\fC d0/\fC d1/\gU H=false/\and (and true (and (π (ξ 0 O) (List.length (aI G))) (bc 14 A))) (and (π (ξ 0 P) (List.length (aI H))) (bc 14 B))/\List.all A (eB .i64)/\List.all B (eB .i64)/\υ A.length I/\υ B.length N/\π I 1000/\π N 1000/\jY F (d7 A)/\aV ng lg s e g/\π s.length 1000/\lP s/\(T->Q (.a .i64 8))/\(T=false->Q (.a .i64 0))))) (λu0=>C/\af .i64 e/\af .i64 g/\af .u8 a/\af .u8 b/\af .u8 c/\u0)) (not (mJ (cJ ng s e (Neg.neg 9223372036854775808) 0 0 E F (d7 A) (d7 B) (yV ng s e (Neg.neg 9223372036854775808) true) (yB ng s e (Neg.neg 9223372036854775808) true))))) (b_ (aI G) 0 O) (b_ (aI H) 0 P)) (Α I 1) (Α N 1)) (dG G) (dG H)) (π s.length 140737488351232) (ay m0 m1 12) (ay d0 d1 31) [m0,m1] [d0,d1]) (λ_=>by kernel_rfl) λQ' hQ=>?_;try dsimp only
     rw[cond_false]at hQ;have w1:b_ (aI (ay m0 m1 12)) 0 (dG (ay m0 m1 12)*1)=aI (ay m0 m1 12):=qz;have w2:b_ (aI (ay d0 d1 31)) 0 (dG (ay d0 d1 31)*1)=aI (ay d0 d1 31):=qz;have l1:dG (ay m0 m1 12)=(ay m0 m1 12).length:=rfl;have l2:dG (ay d0 d1 31)=(ay d0 d1 31).length:=rfl;have z1:=eV m0 m1 12;have z2:=eV d0 d1 31;have hF:qK ng s e [m0,m1] [d0,d1]=mJ (cJ ng s e (-9223372036854775808) 0 0 [m0,m1] [d0,d1] (ay m0 m1 12) (ay d0 d1 31) (yV ng s e (-9223372036854775808) true) (yB ng s e (-9223372036854775808) true)):=rfl;rw[hF]at hQ;have aM:jY [d0,d1] (ay m0 m1 12)=true:=pk;have aX:∀M:List Int,π (0+M.length*1) M.length=true:=λM=>by simp
     simp only[l1,l2,@qz,oL,ow,cY,cz,aM,aX,Bool.and_true,Bool.true_and];generalize mJ (cJ ng s e (-9223372036854775808) 0 0 [m0,m1] [d0,d1] (ay m0 m1 12) (ay d0 d1 31) (yV ng s e (-9223372036854775808) true) (yB ng s e (-9223372036854775808) true))=r at *;rw[ao]at hE;clear hF aM w1 w2 hE';generalize nH ng lg s e g [m0,m1] [d0,d1] a b c=er at *;generalize aR [m0,m1]=se at *;generalize ay m0 m1 12=M at *;generalize ay d0 d1 31=D at *;have h8:r=false->Q' (.a .i64 8):=λh=>hQ _ (by rw[h];rfl);have h9:r->Q' (.a .i64 0):=λh=>hQ _ (by rw[h];rfl);clear hQ;simp only[az,reduceCtorEq]
     (repeat' first|exact trivial|refine⟨?_,?_⟩|intro)<;>first|contradiction|omega|assumption|(exact h8 (by assumption))|(exact h9 (by assumption))
theorem G9(hS:ak Tryz.prog cfg S):ak Tryz.prog cfg (d5 S 42 tx):=au hS λargs t v he hv=>by
 unfold tx at he;split at he
 . cases he;obtain⟨⟨h1,h2,h3,h4,h5,h6,h7,h8,-⟩,hv⟩:=aF hv;rw[al]at h1 h2 h3;rw[aE]at h4 h5 h6 h7 h8;simp only[eH,eE]at h4 h5 h6 h7 h8;cases hv;exact zQ (Β h1 (by decide)) (Β h2 (by decide)) (Β h3 (by decide)) h4 h5 h6 h7 h8
 grind
theorem gA{d:Int}:bA a b c d=0↔(a=0\/a = -1/\b=0)/\(c=0\/c=1/\d=0)/\(a<c\/a=c/\b<=d):=by
 have h1:=xF a b c d;grind [bA,cw]
theorem aik{d e f h:Int}(hq:bA a b c d=0)(hr:bA e f g h=0)(hd:d<=9223372036854775807)(hh:h<=9223372036854775807) :
 (0<In a b c d e f g h\/vz a b c d e f g h=true)↔(0<=gc c d e f\/ada a b c d e f g h=true):=by
 have k1:=gA.1 hq;have k2:=gA.1 hr;have c1:=xF a b e f;have c2:=xF c d g h;have c3:=xF e f a b;have c4:=xF c d e f;have c5:=xF e f c d;have c6:=xF a b g h;have t1:=@Hr c d;have t2:=@Hr g h;have e1:cw c d=0:=t1.2 (by grind);have e2:cw g h=0:=t2.2 (by grind);have hR:0<In a b c d e f g h↔(e<a\/a=e/\f<b)\/(a=e/\b=f)/\(g<c\/c=g/\h<d):=by
  clear c3 c4 c5 c6 t1 t2 e1 e2 hq hr k1 k2;unfold In;split<;>omega
 have l3:gc e f a b<0↔(e<a\/e=a/\f<b):=by clear c1 c2 c4 c5 c6 t1 t2 e1 e2 hq hr k1 k2 hR;omega
 have l3':0<=gc e f a b↔¬(e<a\/e=a/\f<b):=by rw[<-l3];omega
 have l4:0<=gc c d e f↔(e<c\/e=c/\f<=d):=by clear c1 c2 c3 c5 c6 t1 t2 e1 e2 hq hr k1 k2 hR l3 l3';omega
 have l5:gc e f c d<=0↔(e<c\/e=c/\f<=d):=by clear c1 c2 c3 c4 c6 t1 t2 e1 e2 hq hr k1 k2 hR l3 l3' l4;omega
 have l6:gc a b g h<=0↔(a<g\/a=g/\b<=h):=by clear c1 c2 c3 c4 c5 t1 t2 e1 e2 hq hr k1 k2 hR l3 l3' l4 l5;omega
 rw[hR];simp only[vz,ada,aat,abv,cP,s6,zAc,hq,hr,e1,e2,true_and,l3,l3',l4,l5,l6];clear hq hr hR t1 t2 e1 e2 l3 l3' l4 l5 l6 c1 c2 c3 c4 c5 c6;obtain⟨ha,hc,hac⟩:=k1;obtain⟨he,hg,heg⟩:=k2;rcases ha with rfl|⟨rfl,rfl⟩<;>rcases hc with rfl|⟨rfl,rfl⟩<;>rcases he with rfl|⟨rfl,rfl⟩<;>rcases hg with rfl|⟨rfl,rfl⟩<;>simp(config:={ decide:=true }) only[true_and,and_true,false_and,and_false,true_or,or_true,false_or,or_false,ne_eq,not_true_eq_false,not_false_eq_true,iff_true,true_iff,iff_false,false_iff]at hac heg ⊢<;>omega
def S8:aQ:=pX S7 99 aiv
theorem I4:ak Tryz.prog cfg S8:=eG vQ af3
structure Rn where
 a:Int
 b:Int
 c:Int
 d:Int
def ek:Rn:=⟨0,0,0,0⟩
def bh:List Rn->List AV
 | []=>[]
 | r::rs=>.a .i8 r.a::.a .i64 r.b::.a .i8 r.c::.a .i64 r.d::bh rs
def tC(f:Nat->Int):Nat->Nat->Int
 | _,0=>0
 | i,n+1=>if f i=0 then tC f (i+1) n else f i
def LO(q r:Rn)(i:Nat):Int:=if bA r.a r.b r.c r.d=0 then(if 0<i/\(0<In q.a q.b q.c q.d r.a r.b r.c r.d\/vz q.a q.b q.c q.d r.a r.b r.c r.d=true)then 12 else 0)else bA r.a r.b r.c r.d
def ahv(q r:Rn)(i:Nat):Int:=if bA r.a r.b r.c r.d=0 then(if 0<i/\(0<=gc q.c q.d r.a r.b\/ada q.a q.b q.c q.d r.a r.b r.c r.d=true)then 12 else 0)else bA r.a r.b r.c r.d
def qn(R:List Rn)(i:Nat):Int:=LO (R.getD (i-1) ek) (R.getD i ek) i
def abz(R:List Rn)(i:Nat):Int:=ahv (R.getD (i-1) ek) (R.getD i ek) i
def jo(R:List Rn):Int:=tC (qn R) 0 R.length
def abH(R:List Rn):Int:=tC (abz R) 0 R.length
def Yq(R:List Rn):dW:=λ
 | [.c 14 0 n k,.a .i64 z,.c 14 0 n' k',.a .i64 n'',.a .i64 i],⟨0,[],[]⟩=>some (aH [π n 1000,υ R.length n,υ n' n,aa n'' (ν n),aa i 0,aa z 0] (.d0 (aa (jo R) 0) λb=>bif b then .a0 (.b 0,[.c 14 0 n k,.a .i64 0,.c 14 0 n' k',.a .i64 n'',.a .i64 n''],dO)else .f0 λJ=>.a0 (.c,[.c 14 0 n k,.a .i64 (jo R),.c 14 0 n' k',.a .i64 n'',.j (J 0)],dO)))
 | _,_=>none
def CW(R:List Rn):dW:=λ
 | [.c 14 0 n k,.a .i64 z,.a .i64 i],⟨0,[],[]⟩=>some (aH [π n 1000,υ R.length n,aa i 0,aa z 0] (.d0 (aa (abH R) 0) λb=>bif b then .a0 (.b 0,[.c 14 0 n k,.a .i64 0,.a .i64 (ν n)],dO)else .f0 λJ=>.a0 (.c,[.c 14 0 n k,.a .i64 (abH R),.j (J 0)],dO)))
 | _,_=>none
def L_(R:List Rn):cx:=iz jE 0 (d9 43 [0,2,9,10,11] (Yq R))
def Mf(R:List Rn):cx:=iz jE 0 (d9 51 [0,2,3] (CW R))
theorem VW.e0{C:bg}{kb tn:Nat}{rel:List Nat}{vs vs' vs'':List AV}{o o' o'':aB}(h1:VW cfg C kb tn rel vs o vs' o')(h2:VW cfg C kb tn rel vs' o' vs'' o''):VW cfg C kb tn rel vs o vs'' o'':=λJ=>(h1 J).c0 λs ⟨J',e⟩=>by rw[e];exact h2 J'
theorem GN{ws:List cD}{tn:Nat}{rel:List Nat}{vs vs':List AV}{o:aB}(hw:∀x∈ws,cR 14 x)(hle:o.le=[])(hvs:yw (kG (14+ws.length+0) [] 20) vs=some vs'):VW cfg (Cw cfg ws) 0 tn rel vs o vs' dO:=
 VW.d0 eb.lv (C:=Cw cfg ws) (kb:=0) (sel:=[]) (B6 hw) (τ _) (λs hs=>by grind) List.nodup_nil (λp hp=>by grind) hle.symm rfl rfl (λi hi=>absurd hi (σ i)) (λt ht=>absurd ht (σ t)) hvs
theorem As{f:Nat->Int}:∀{n i k:Nat},(∀j,i<=j->j<k->f j=0)->i<=k->k<i+n->f k≠0->tC f i n=f k
 | 0,i,k,_,h1,h2,_=>by omega
 | n+1,i,k,h,h1,h2,h3=>by
   rw[tC];by_cases e:i=k
   . grind
   . rw[if_pos (h i (ς _) (by omega))];exact As (λj hj hk=>h j (by omega) hk) (by omega) (by omega) h3
theorem xm{f:Nat->Int}:∀{n i:Nat},(∀j,i<=j->j<i+n->f j=0)->tC f i n=0
 | 0,_,_=>rfl
 | n+1,i,h=>by
   rw[tC,if_pos (h i (ς _) (by omega))];exact xm λj hj hk=>h j (by omega) (by omega)
theorem adG{f g:Nat->Int}:∀{n i:Nat},(∀j,i<=j->j<i+n->(∀k,i<=k->k<j->f k=0)->f j=g j)->tC f i n=tC g i n
 | 0,_,_=>rfl
 | n+1,i,h=>by
   have h0:=h i (ς _) (by omega) (λk hk hj=>by omega);rw[tC,tC,<-h0];by_cases e:f i=0
   . rw[if_pos e,if_pos e];exact adG λj hj hk hz=>h j (by omega) (by omega) λk h1 h2=>by
      grind
   omega
theorem o5{r:Rn}{rs:List Rn}{n:Nat}{v:AV}:(bh (r::rs)).getD (n+4) v=(bh rs).getD n v:=rfl
theorem wH{R:List Rn}{i:Nat}(h:i<R.length):(bh R).getD (i*4) (.d [])=.a .i8 (R.getD i ek).a/\(bh R).getD (i*4+1) (.d [])=.a .i64 (R.getD i ek).b/\(bh R).getD (i*4+2) (.d [])=.a .i8 (R.getD i ek).c/\(bh R).getD (i*4+3) (.d [])=.a .i64 (R.getD i ek).d:=by
 induction R generalizing i with
 | nil=>grind
 | cons r rs ih=>
   cases i with
   | zero=>exact⟨rfl,rfl,rfl,rfl⟩
   | succ i=>
     grind [o5]
theorem Q1{j:Nat}:Int.toNat (Int.sub (ν (j+1)) 1)=j:=by
 grind
theorem sR:∀{R:List Rn},bw (bh R)=[]
 | []=>rfl
 | r::rs=>by simp only[bh,bw,aC,List.nil_append];exact sR
theorem jz{R:List Rn}:∀x∈[cD.a (bh R) false none],cR 14 x:=λx hx=>by
 simp only[List.mem_singleton]at hx;subst hx;refine⟨rfl,λi hi=>?_⟩;grind [HL,sR]
theorem ZM{R:List Rn}(hR:∀i,i<R.length->IJ (R.getD i ek).d):cu Tryz.prog (cH cfg S8) (Cw cfg [.a (bh R) false none]) (lb 41 0) 43 [0,2,9,10,11] (Yq R):=by
 have hw:=@jz R;intro vs o t Q hv hq J;unfold Yq at hv;split at hv
 . rename_i n k z n' k' n'' i;cases hv;replace hq:=cO hq;obtain⟨⟨h1,h2,h3,h4,h5,h6,-⟩,hq⟩:=hq;rw[al]at h1;rw[aJ]at h2 h3;rw[ao]at h4 h5 h6;subst h2 h3 h4 h5 h6;simp only[aH,Tr.wp]at hq;refine ia I4 rfl rfl ai (ι:={i:Nat // i<=R.length/\∀j,j<i->qn R j=0}) (λx=>[.c 14 0 R.length k,.a .i64 0,.c 14 0 R.length k',.a .i64 (ν R.length),.a .i64 (ν x.1)]) (λ_=>dO) (λx=>R.length-x.1) 0 (λ_=>ς _) (λx J=>?_) (ς _) (λJ=>Wk.a0 ⟨⟨0,τ _,λj hj=>absurd hj (σ j)⟩,J,rfl⟩) J;obtain⟨i,hi,hz⟩:=x;dsimp only;refine jJ (bE 1120330005338810788121423275777747577774140522704) (R:=λQ=>(λ(C I N u2:AV)(G u0:Int)(u1:Nat)=>(λ(O V u4:AV)(A u3:Bool)(W u6:Int)(u5:Nat)=>(λ(u7:AV)(u9:Bool)(P:Int)(u8 ua:Nat)(B:Prop)=>(λ(ub uc:AV)(T:Int)(ud:Nat)=>(λ(ue:AV)(H U:Int)(uf:Nat)=>(λ(ui:AV)(uh:Bool)(ug:Int)(uj:Nat)(uk ul:Prop)=>(λ(uo up:AV)(um un:Bool)=>(λ(uq ur:Bool)(Y:Int)=>(λ(Z us:Bool)=>(λ(E:Bool)=>(λ(F:Prop)=>(λ(ut:Prop->Prop)=>(u3->aS i R.length/\eB .i8 u4/\eB .i64 u7/\eB .i8 ub/\eB .i64 uc/\(um->Q (.c,[I,.a .i64 ug,N,O,V],⟨1,[.a [.a .i8 P,.a .i64 T,.a .i8 U,.a .i64 H] true none],[]⟩))/\(um=false->(A->A/\A/\u9/\A/\ut (A/\uh/\un/\uq/\ur/\A/\A/\A/\A/\(E->E/\E/\u9/\E/\ut (E/\uh/\un/\uq/\ur/\E/\E/\af .i64 Y/\af .i64 H/\A/\Z=false/\A/\(us->uk)/\(us=false->ul)))/\(F->F/\F/\F/\F/\F/\F/\A/\Z/\A/\uk)))/\(B->B/\B/\B/\B/\B/\B/\B/\B/\B/\B/\ul)))/\(u3=false->Q (.b 0,[I,u2,N,O,V],⟨0,[],[]⟩))) (λuu=>ab 0 W/\aS ua R.length/\uu)) (E=false)) (not Z)) (not (ab (In (dx ue) (dx ui) (dx uo) Y P T U H) 0)) (vz (dx ue) (dx ui) (dx uo) Y P T U H)) (eB .i8 uo) (eB .i64 up) (dx up)) (ο (bh R) uj C) (ο (bh R) (ξ uj 1) C) (not (aa ug 0)) (eB .i64 ui)) (ο (bh R) uf C) (eB .i8 ue) (bA P T U H) (ξ uf 1) (Q (.c,[I,.a .i64 12,N,O,V],⟨1,[.a [.a .i8 P,.a .i64 T,.a .i8 U,.a .i64 H] true none],[]⟩)) (af .i64 u6/\Q (.a,[I,u2,N,O,.a .i64 u6],⟨1,[.a [.a .i8 P,.a .i64 T,.a .i8 U,.a .i64 H] true none],[]⟩))) (ο (bh R) ud C) (dx uc) (dx ub) (ξ ud 1)) (ο (bh R) u8 C) (ο (bh R) (ξ u8 1) C) (dx u7) (ξ 0 (Α ua 4))) (ο (bh R) u5 C) (af .i64 W) (dx u4) (ξ u5 1) W.toNat (A=false)) (.a .i64 u0) (.a .i64 G) (ο (bh R) u1 C) (not (ab G 0)) (not (ab u0 G)) (Int.sub G 1) (Int.add G 1) (ξ u1 1)) (.d []) (.c 14 0 R.length k) (.c 14 0 R.length k') (.a .i64 0) (ν i) (ν R.length) (ξ 0 (Α i 4))) (λ_=>by rfl) λQ' hQ=>?_;try dsimp only
   have yes:i<R.length->∀e,qn R i=e->e≠0->∀J:Nat->Value,Q (.c,[.c 14 0 R.length k,.a .i64 e,.c 14 0 R.length k',.a .i64 (ν R.length),.j (J 0)],dO):=λhlt e he hne J2=>by
    have hc:jo R=e:=he▸As (λj _ hj=>hz j hj) (τ _) (by omega) (he.symm▸hne);rw[hc,aw.mpr hne]at hq;exact hq J2
   have no:i=R.length->Q (.b 0,[.c 14 0 R.length k,.a .i64 0,.c 14 0 R.length k',.a .i64 (ν R.length),.a .i64 (ν R.length)],dO):=λhe=>by
    subst he;have hc:jo R=0:=xm λj _ hj=>hz j (by omega);rw[hc]at hq;exact hq
   have next:qn R i=0->∀j,j<i+1->qn R j=0:=λh j hj=>by
    grind
   clear hq;by_cases hlt:i<R.length
   . obtain⟨f1,f2,f3,f4⟩:=wH hlt;have b1:=hR i hlt;have ret:∀(e:Int) (o:aB),o.le=[]->qn R i=e->e≠0->∃vs2 o2,VW cfg (Cw cfg [.a (bh R) false none]) 0 43 [0,2,9,10,11] [.c 14 0 R.length k,.a .i64 e,.c 14 0 R.length k',.a .i64 (ν R.length),.a .i64 (ν i)] o vs2 o2/\Q (.c,vs2,o2):=λe o ho he hne=>
      ⟨_,_,(GN hw ho rfl).e0 (VW.c0 (.a0 (.a0 (.a0 (.a0 (.b0 .c0))))) rfl),yes hlt e he hne (jv [_])⟩
     have go:∀(o:aB),o.le=[]->qn R i=0->∃y:{i:Nat // i<=R.length/\∀j,j<i->qn R j=0},R.length-y.1<R.length-i/\VW cfg (Cw cfg [.a (bh R) false none]) 0 43 [0,2,9,10,11] [.c 14 0 R.length k,.a .i64 0,.c 14 0 R.length k',.a .i64 (ν R.length),.a .i64 (Int.add (ν i) 1)] o [.c 14 0 R.length k,.a .i64 0,.c 14 0 R.length k',.a .i64 (ν R.length),.a .i64 (ν y.1)] dO:=λo ho h0=>
      ⟨⟨i+1,by omega,next h0⟩,by dsimp only;omega,GN hw ho rfl⟩
     have hE:qn R i=LO (R.getD (i-1) ek) (R.getD i ek) i:=rfl;rw[hE]at ret go;clear yes no next hz hE;cases i with
     | zero=>
       clear hR;simp only[χ,ω,Γ,Δ,f1,f2,f3,f4,eB,dx,zb,abw]at *;generalize R.getD 0 ek=r at *;unfold LO at ret go;simp only[az,reduceCtorEq]
       (repeat' first|exact trivial|refine⟨?_,?_⟩|intro)<;>first|contradiction|omega|assumption|refine hQ _ ?_
       . exact ret _ _ rfl (by rw[if_neg (by assumption)]) (by assumption)
       . exact go _ rfl (by rw[if_pos (by assumption),if_neg (by omega)])
     | succ j=>
       obtain⟨g1,g2,g3,g4⟩:=wH (R:=R) (i:=j) (by omega);have b2:=hR j (by omega);clear hR;rw[show j+1-1=j by omega]at ret go;simp only[Q1,χ,ω,Γ,Δ,f1,f2,f3,f4,g1,g2,g3,g4,eB,dx,zb,abw]at *;generalize R.getD (j+1) ek=r at *;generalize R.getD j ek=q at *;unfold LO at ret go;unfold IJ at b1 b2;simp only[az,reduceCtorEq]
       (repeat' first|exact trivial|refine⟨?_,?_⟩|intro)<;>first|contradiction|omega|assumption|refine hQ _ ?_
       all_goals first
        | exact ret _ _ rfl (by rw[if_neg (by assumption)]) (by assumption)
        | exact ret 12 _ rfl (by rw[if_pos (by assumption),if_pos ⟨by omega,.inl (by assumption)⟩]) (by decide)
        | exact ret 12 _ rfl (by rw[if_pos (by assumption),if_pos ⟨by omega,.inr (by assumption)⟩]) (by decide)
        | exact go _ rfl (by rw[if_pos (by assumption),if_neg (by rintro⟨_,h|h⟩<;>simp_all<;>omega)])
   . obtain rfl:i=R.length:=by omega
     have no:=no rfl;simp only[az,reduceCtorEq]
     (repeat' first|exact trivial|refine⟨?_,?_⟩|intro)<;>first|contradiction|omega|assumption|(refine hQ _ ?_;exact⟨_,_,VW.a0,no⟩)
 . cases hv
theorem aoz{R:List Rn}(hR:∀i,i<R.length->IJ (R.getD i ek).d):cu Tryz.prog (cH cfg S8) (Cw cfg [.a (bh R) false none]) (lb 45 0) 51 [0,2,3] (CW R):=by
 have hw:=@jz R;intro vs o t Q hv hq J;unfold CW at hv;split at hv
 . rename_i n k z i;cases hv;replace hq:=cO hq;obtain⟨⟨h1,h2,h3,h4,-⟩,hq⟩:=hq;rw[al]at h1;rw[aJ]at h2;rw[ao]at h3 h4;subst h2 h3 h4;simp only[aH,Tr.wp]at hq;refine ia I4 rfl rfl ai (ι:={i:Nat // i<=R.length/\∀j,j<i->abz R j=0}) (λx=>[.c 14 0 R.length k,.a .i64 0,.a .i64 (ν x.1)]) (λ_=>dO) (λx=>R.length-x.1) 0 (λ_=>ς _) (λx J=>?_) (ς _) (λJ=>Wk.a0 ⟨⟨0,τ _,λj hj=>absurd hj (σ j)⟩,J,rfl⟩) J;obtain⟨i,hi,hz⟩:=x;dsimp only;refine jJ (bE 1120330638888107888121423277702277774227702777741422704) (R:=λQ=>(λ(C H W:AV)(I:Bool)(G:Int)(N:Nat)=>(λ(O Z:AV)(A Y:Bool)(P u2:Int)(u0 u1:Nat)=>(λ(u4 u8 u9:AV)(u3 u6:Bool)(u5 u7:Nat)(B ua ub:Prop)=>(λ(ud ue:AV)(uc:Bool)(T:Nat)=>(λ(ui:AV)(uf ug:Bool)(U:Int)(uh uj:Nat)=>(λ(ul um un:AV)(uk:Int)(uo:Nat)=>(λ(uq ur:AV)(V up:Bool)=>(λ(E us:Bool)=>(λ(F:Prop)=>(λ(ut:Prop->Prop)=>(Y->I/\u3/\uc/\uf/\ug/\(up->Q (.c,[H,.a .i64 uk,O],⟨0,[],[]⟩))/\(up=false->(A->A/\A/\u6/\A/\ut (A/\A/\eB .i8 ul/\eB .i64 um/\A/\A/\A/\I/\A/\A/\eB .i8 u8/\eB .i64 u9/\A/\A/\A/\(E->E/\E/\u6/\E/\ut (E/\eB .i8 ui/\eB .i64 un/\eB .i8 uq/\eB .i64 ur/\E/\E/\E/\I/\E/\u3/\uc/\uf/\ug/\E/\af .i64 (dx ur)/\af .i64 U/\A/\V=false/\A/\(us->ua)/\(us=false->ub)))/\(F->F/\F/\F/\F/\F/\F/\F/\F/\F/\A/\V/\A/\ua)))/\(B->B/\B/\B/\B/\B/\B/\B/\B/\B/\B/\B/\B/\B/\B/\B/\ub)))/\(Y=false->Q (.b 0,[H,W,O],⟨0,[],[]⟩))) (λuu=>ab 0 P/\aS u7 R.length/\uu)) (E=false)) (not V) (ada (dx ui) (dx un) (dx uq) (dx ur) (dx Z) (dx u4) (dx ud) U)) (ο (bh R) uo C) (ο (bh R) (ξ uo 1) C) (ab 0 (gc (dx ul) (dx um) (dx u8) (dx u9))) (not (aa uk 0))) (ο (bh R) uh C) (ο (bh R) (ξ uh 1) C) (ο (bh R) uj C) (bA (dx Z) (dx u4) (dx ud) U) (ξ uj 1)) (ο (bh R) T C) (eB .i8 ud) (eB .i64 ue) (dx ue) (ξ T 2) (ξ T 1)) (ο (bh R) u5 C) (ο (bh R) (ξ u5 1) C) (eB .i64 u4) (ξ 0 (Α u7 4))) (ο (bh R) u0 C) (ο (bh R) u1 C) (ο (bh R) (ξ u1 1) C) (eB .i8 Z) (af .i64 P) (ξ u0 1) P.toNat (A=false) (Q (.c,[H,.a .i64 12,O],⟨0,[],[]⟩)) (af .i64 u2/\Q (.a,[H,W,.a .i64 u2],⟨0,[],[]⟩))) (.a .i64 G) (ο (bh R) N C) (not (ab G 0)) (not (ab (ν R.length) G)) (Int.sub G 1) (Int.add G 1) (ξ N 1) (ξ N 0)) (.d []) (.c 14 0 R.length k) (.a .i64 0) (aS i R.length) (ν i) (ξ 0 (Α i 4))) (λ_=>by rfl) λQ' hQ=>?_;try dsimp only
   have yes:i<R.length->∀e,abz R i=e->e≠0->∀J:Nat->Value,Q (.c,[.c 14 0 R.length k,.a .i64 e,.j (J 0)],dO):=λhlt e he hne J2=>by
    have hc:abH R=e:=he▸As (λj _ hj=>hz j hj) (τ _) (by omega) (he.symm▸hne);rw[hc,aw.mpr hne]at hq;exact hq J2
   have no:i=R.length->Q (.b 0,[.c 14 0 R.length k,.a .i64 0,.a .i64 (ν R.length)],dO):=λhe=>by
    subst he;have hc:abH R=0:=xm λj _ hj=>hz j (by omega);rw[hc]at hq;exact hq
   have next:abz R i=0->∀j,j<i+1->abz R j=0:=λh j hj=>by
    grind
   clear hq;by_cases hlt:i<R.length
   . obtain⟨f1,f2,f3,f4⟩:=wH hlt;have b1:=hR i hlt;have ret:∀(e:Int) (o:aB),o.le=[]->abz R i=e->e≠0->∃vs2 o2,VW cfg (Cw cfg [.a (bh R) false none]) 0 51 [0,2,3] [.c 14 0 R.length k,.a .i64 e,.a .i64 (ν i)] o vs2 o2/\Q (.c,vs2,o2):=λe o ho he hne=>
      ⟨_,_,(GN hw ho rfl).e0 (VW.c0 (.a0 (.a0 (.b0 .c0))) rfl),yes hlt e he hne (jv [_])⟩
     have go:∀(o:aB),o.le=[]->abz R i=0->∃y:{i:Nat // i<=R.length/\∀j,j<i->abz R j=0},R.length-y.1<R.length-i/\VW cfg (Cw cfg [.a (bh R) false none]) 0 51 [0,2,3] [.c 14 0 R.length k,.a .i64 0,.a .i64 (Int.add (ν i) 1)] o [.c 14 0 R.length k,.a .i64 0,.a .i64 (ν y.1)] dO:=λo ho h0=>
      ⟨⟨i+1,by omega,next h0⟩,by dsimp only;omega,GN hw ho rfl⟩
     have hE:abz R i=ahv (R.getD (i-1) ek) (R.getD i ek) i:=rfl;rw[hE]at ret go;clear yes no next hz hE;cases i with
     | zero=>
       clear hR;simp only[χ,ω,Γ,Δ,f1,f2,f3,f4,eB,dx,zb,abw]at *;generalize R.getD 0 ek=r at *;unfold ahv at ret go;simp only[az,reduceCtorEq]
       (repeat' first|exact trivial|refine⟨?_,?_⟩|intro)<;>first|contradiction|omega|assumption|refine hQ _ ?_
       . exact ret _ _ rfl (by rw[if_neg (by assumption)]) (by assumption)
       . exact go _ rfl (by rw[if_pos (by assumption),if_neg (by omega)])
     | succ j=>
       obtain⟨g1,g2,g3,g4⟩:=wH (R:=R) (i:=j) (by omega);have b2:=hR j (by omega);clear hR;rw[show j+1-1=j by omega]at ret go;simp only[Q1,χ,ω,Γ,Δ,f1,f2,f3,f4,g1,g2,g3,g4,eB,dx,zb,abw]at *;generalize R.getD (j+1) ek=r at *;generalize R.getD j ek=q at *;unfold ahv at ret go;unfold IJ at b1 b2;simp only[az,reduceCtorEq]
       (repeat' first|exact trivial|refine⟨?_,?_⟩|intro)<;>first|contradiction|omega|assumption|refine hQ _ ?_
       all_goals first
        | exact ret _ _ rfl (by rw[if_neg (by assumption)]) (by assumption)
        | exact ret 12 _ rfl (by rw[if_pos (by assumption),if_pos ⟨by omega,.inl (by assumption)⟩]) (by decide)
        | exact ret 12 _ rfl (by rw[if_pos (by assumption),if_pos ⟨by omega,.inr (by assumption)⟩]) (by decide)
        | exact go _ rfl (by rw[if_pos (by assumption),if_neg (by rintro⟨_,h|h⟩<;>simp_all<;>omega)])
   . obtain rfl:i=R.length:=by omega
     have no:=no rfl;simp only[az,reduceCtorEq]
     (repeat' first|exact trivial|refine⟨?_,?_⟩|intro)<;>first|contradiction|omega|assumption|(refine hQ _ ?_;exact⟨_,_,VW.a0,no⟩)
 . cases hv
def g8:List AV->List Rn
 | .a .i8 a::.a .i64 b::.a .i8 c::.a .i64 d::r=>⟨a,b,c,d⟩::g8 r
 | _=>[]
def eJ:List AV->Bool
 | []=>true
 | .a .i8 _::.a .i64 b::.a .i8 _::.a .i64 d::r=>af .i64 b&&(af .i64 d&&eJ r)
 | _=>false
theorem hZ:∀{w:List AV},eJ w->bh (g8 w)=w
 | [],_=>rfl
 | .a .i8 a::.a .i64 b::.a .i8 c::.a .i64 d::r,h=>by
   simp only[eJ,zAa]at h;simp only[g8,bh,hZ h.2.2]
theorem Hk:∀{w:List AV},eJ w->∀i,i<(g8 w).length->IJ ((g8 w).getD i ek).d
 | [],_,i,hi=>absurd hi (σ _)
 | .a .i8 a::.a .i64 b::.a .i8 c::.a .i64 d::r,h,i,hi=>by
   simp only[eJ,zAa,aE,eH,eE]at h;cases i with
   | zero=>exact h.2.1
   | succ i=>exact Hk h.2.2 i (by grind [g8])
theorem ai3{R:List Rn}(hR:∀i,i<R.length->IJ (R.getD i ek).d):jo R=abH R:=by
 unfold jo abH;refine adG λj _ hj hz=>?_;unfold qn abz LO ahv;by_cases h:bA (R.getD j ek).a (R.getD j ek).b (R.getD j ek).c (R.getD j ek).d=0
 . rw[if_pos h,if_pos h];cases j with
   | zero=>rw[if_neg (by omega),if_neg (by omega)]
   | succ j=>
     have hp:=hz j (τ _) (by omega);have hq:bA (R.getD j ek).a (R.getD j ek).b (R.getD j ek).c (R.getD j ek).d=0:=by
      unfold qn LO at hp;by_cases e:bA (R.getD j ek).a (R.getD j ek).b (R.getD j ek).c (R.getD j ek).d=0
      . exact e
      . rw[if_neg e]at hp;exact absurd hp e
     have:=aik hq h (hR j (by omega)).2 (hR (j+1) (by omega)).2;simp only[show j+1-1=j by omega,this]
 . rw[if_neg h,if_neg h]
theorem YO:ec tab 41=some (dH 41,aL 41):=by rfl
theorem OH:(bz (aL 41)).map (·.1)=[0]:=by rfl
theorem IW{R:List Rn}(hR:∀i,i<R.length->IJ (R.getD i ek).d)(hn:R.length<=1000):bu Tryz.prog cfg 41 [.c 14 0 R.length k] [.a (bh R) false none] (.a .i64 (jo R)) []:=by
 refine P0 I4 (L:=L_ R) jz YO (by simp) (dv OH λi hi e he st Q hw=>?_) (jJ (bE 11400273) (R:=λQ=>(λ(B:Bool)(A:Int)=>not (ab A 4096)=false/\π R.length 1000/\υ R.length R.length/\υ R.length R.length/\aa A A/\(B->(∀J1:Nat->Value,Q (.a .i64 0)))/\(B=false->(∀J1 J2:Nat->Value,Q (.a .i64 (jo R))))) (aa (jo R) 0) (ν R.length)) (λ_=>by rfl) λQ' hQ=>?_) (by rfl)
 . have hi:i=0:=by grind
   subst hi;cases he;exact bR (cC.a0 I4) (by decide) rfl (ZM hR) hw
 . have h0:jo R=0->Q' (.a .i64 0):=λh=>hQ _ (by rw[h]);simp_all [az];omega
def YK:aav:=λ
 | [.c 14 0 n k],[.a w false none]=>some (aH [eJ w,υ (g8 w).length n,π n 1000] (.a0 (.a .i64 (jo (g8 w)),[])))
 | _,_=>none
theorem UQ(hS:ak Tryz.prog cfg S):ak Tryz.prog cfg (eQ S 41 (fl 14 [4] YK)):=by
 refine bm hS (fW eb.lv Az λargs ws t r he hr=>?_);unfold YK at he;split at he
 . rename_i n k w;cases he;replace hr:=aF hr;obtain⟨⟨h1,h2,h3,-⟩,hr⟩:=hr;rw[aJ]at h2;rw[al]at h3;subst h2;cases hr;grind [IW,Hk,hZ]
 grind
theorem akt:ec tab 45=some (dH 45,aL 45):=by rfl
theorem aix:(bz (aL 45)).map (·.1)=[0]:=by rfl
theorem Jc{R:List Rn}(hR:∀i,i<R.length->IJ (R.getD i ek).d)(hn:R.length<=1000):bu Tryz.prog cfg 45 [.c 14 0 R.length k] [.a (bh R) false none] (.a .i64 (abH R)) []:=by
 refine P0 I4 (L:=Mf R) jz akt (by simp) (dv aix λi hi e he st Q hw=>?_) (jJ (bE 11400223) (R:=λQ=>(λ(A:Bool)=>not (ab (ν R.length) 4096)=false/\π R.length 1000/\υ R.length R.length/\(A->(∀J1:Nat->Value,Q (.a .i64 0)))/\(A=false->(∀J1 J2:Nat->Value,Q (.a .i64 (abH R))))) (aa (abH R) 0)) (λ_=>by rfl) λQ' hQ=>?_) (by rfl)
 . have hi:i=0:=by grind
   subst hi;cases he;exact bR (cC.a0 I4) (by decide) rfl (aoz hR) hw
 . have h0:abH R=0->Q' (.a .i64 0):=λh=>hQ _ (by rw[h]);simp_all [az];omega
def Ff:aav:=λ
 | [.c 14 0 n k],[.a w false none]=>some (aH [eJ w,υ (g8 w).length n,π n 1000] (.a0 (.a .i64 (abH (g8 w)),[])))
 | _,_=>none
theorem amI(hS:ak Tryz.prog cfg S):ak Tryz.prog cfg (eQ S 45 (fl 14 [4] Ff)):=by
 refine bm hS (fW eb.lv Az λargs ws t r he hr=>?_);unfold Ff at he;split at he
 . rename_i n k w;cases he;replace hr:=aF hr;obtain⟨⟨h1,h2,h3,-⟩,hr⟩:=hr;rw[aJ]at h2;rw[al]at h3;subst h2;cases hr;grind [Jc,Hk,hZ]
 grind
end Go.Ev
end
section
namespace Go.Ev
open Go Go.Proofs Go.Proofs.YtcffhjfdlflbgaaGreatDoor
def aN(d:Int):Int:=yOf d
def bZ(d:Int):Int:=mOf d
def cE(d:Int):Bool:=ab (-3652425000000000000) d&&ab d 3652425000000000365
theorem P9:yst (-10000000000000000) = -3652425000000000000:=by decide
theorem Lu:yst 10000000000000001=3652425000000000366:=by decide
theorem pO{d:Int}:okY (yOf d)↔cE d=true:=by
 obtain⟨h1,h2⟩:=yOf_spec d;grind [cE,okY,aq,P9,Lu,yOf]
def Sx:dP:=λ
 | [.a .i64 d]=>some (aH [af .i64 d] (.d0 (cE d) λb=>bif b then .a0 (.d [.a .i64 (aN d),.a .i64 0])else .a0 (.d [.a .i64 0,.a .i64 6])))
 | _=>none
def XA:aQ:=d5 Hx 222 Sx
def Rx:dW:=λ
 | [.a .i64 y,.a .i64 l,.a .i64 i,.a .i64 a,.a .i64 b],⟨0,[],[]⟩=>some (aH [eO y,aa i 0,aa a 0,aa b 0,ab 0 l,Bool.not (ab (365+iE y) l)] (.f0 λJ=>.a0 (.c,[.a .i64 y,.j (J 0),.j (J 1),.a .i64 (mOfL y l),.a .i64 0],dO)))
 | _,_=>none
def Sm:dP:=λ
 | [.a .i64 d]=>some (aH [af .i64 d] (.d0 (cE d) λb=>bif b then .a0 (.d [.a .i64 (aN d),.a .i64 (bZ d),.a .i64 0])else .a0 (.d [.a .i64 0,.a .i64 0,.a .i64 6])))
 | _=>none
def Yx:cx:=iz jE 0 (d9 43 [2,7,26,3,4] Rx)
theorem O7:ec tab 225=some (dH 225,aL 225):=by rfl
theorem G4:ec tab 222=some (dH 222,aL 222):=by rfl
theorem LV:(bz (aL 225)).map (·.1)=[0]:=by rfl
theorem wW:ak Tryz.prog cfg XA:=by
 refine au KQ λargs t v he hv=>?_;unfold Sx at he;split at he
 . rename_i d;cases he;obtain⟨h1,hv⟩:=eL hv;rw[aE]at h1;simp only[eH,eE]at h1;have hv':Tr.b0 (bif cE d then Tr.a0 (AV.d [.a .i64 (aN d),.a .i64 0])else Tr.a0 (AV.d [.a .i64 0,.a .i64 6]))=some v:=hv;cases hc:cE d with
   | true=>
     rw[hc]at hv';cases hv';refine dy G4 (by rfl) λm w hG=>?_;simp_all [ap,aj,aN,years_Of_ok,pO]
   | false=>
     rw[hc]at hv';cases hv';refine dy G4 (by rfl) λm w hG=>?_;simp_all [ap,aj,years_Of_no,pO]
 grind
theorem SS(y:Int):mcum y 1=0:=by rfl
theorem XI:cu Tryz.prog (cH cfg XA) (Cw cfg []) (lb 225 0) 43 [2,7,26,3,4] Rx:=by
 intro vs o t Q hv hq J;unfold Rx at hv;split at hv
 . rename_i y l i a b;cases hv;obtain⟨h1,hq1⟩:=cZ hq;obtain⟨h2,hq2⟩:=cZ hq1;obtain⟨h3,hq3⟩:=cZ hq2;obtain⟨h4,hq4⟩:=cZ hq3;obtain⟨h5,hq5⟩:=cZ hq4;obtain⟨h6,hq6⟩:=cZ hq5;clear hq hq1 hq2 hq3 hq4 hq5;rw[ao]at h2 h3 h4;rw[aq]at h5;rw[nr,bF]at h6;subst h2 h3 h4;have hy:=bX.1 h1;have hq:∀J:Nat->Value,Q (.c,[.a .i64 y,.j (J 0),.j (J 1),.a .i64 (mOfL y l),.a .i64 0],dO):=hq6;have hs:=mOfL_spec y l h5 h6;have h13:=mcum_13 y;refine ia wW rfl rfl ai (ι:={i:Nat // (i:Int)+1<=mOfL y l}) (λx=>[.a .i64 y,.a .i64 (l-mcum y ((x.1:Int)+1)),.a .i64 (x.1:Int),.a .i64 0,.a .i64 0]) (λ_=>dO) (λx=>12-x.1) 0 (λ_=>τ _) (λx J=>?_) (ς _) (λJ=>Wk.a0 ⟨⟨0,by omega⟩,J,by
    grind [SS]⟩) J
   obtain⟨i,hi⟩:=x;dsimp only;refine jJ (bE 1212412422022) (R:=λQ=>(λ(B E:AV)(A:Int)=>(λ(F:AV)(C H:Bool)(G:Int)=>(λ(I:Bool)=>not (ab 12 i)/\C/\and (ab (Neg.neg 10000000000000000) y) (ab y 10000000000000000)/\and (ab 1 A) (ab A 12)/\(H->C/\Q (.c,[E,.a .i64 (l-mcum y ((i:Int)+1)),.a .i64 i,F,B],⟨0,[],[]⟩))/\(H=false->(I->C/\Q (.a,[E,.a .i64 G,F,B,B],⟨0,[],[]⟩))/\(I=false->C/\Q (.a,[E,.a .i64 (IntKind.wrap .i64 G),F,B,B],⟨0,[],[]⟩)))) (af .i64 G)) (.a .i64 A) (af .i64 A) (not (ab (d6 y A) (l-mcum y ((i:Int)+1)))) (Int.sub (l-mcum y ((i:Int)+1)) (d6 y A))) (.a .i64 0) (.a .i64 y) (Int.add i 1)) (λ_=>by rfl) λQ' hQ=>?_;try dsimp only
   have e:=mcum_succ y ((i:Int)+1) (by omega) (by omega);have m1:=mcum_mono y (a:=(i:Int)+1) (b:=mOfL y l) (by omega) hi;have m2:¬(i:Int)+1=mOfL y l->mcum y ((i:Int)+1+1)<=mcum y (mOfL y l):=λh=>mcum_mono y (by omega) (by omega);have m3:(i:Int)+1=mOfL y l->mcum y ((i:Int)+1+1)=mcum y (mOfL y l+1):=λh=>by rw[h]
   have b2:=jk y ((i:Int)+1);have b3:=mcum_bd y ((i:Int)+1) (by omega) (by omega);have em:d6 y ((i:Int)+1)=mlen y ((i:Int)+1):=rfl;have l2:0<=iE y/\iE y<=1:=lp_01 y;have go:mcum y ((i:Int)+1+1)<=l->Q' (.a,[.a .i64 y,.a .i64 (l-mcum y ((i:Int)+1)-d6 y ((i:Int)+1)),.a .i64 ((i:Int)+1),.a .i64 0,.a .i64 0],dO):=λh=>
    hQ (.a,_,_) ⟨⟨i+1,by
     have:¬(i:Int)+1=mOfL y l:=λh'=>by have:=m3 h';omega
     simp;omega⟩,by dsimp only;omega,VW.b0 (by
     have:l-mcum y ((i:Int)+1)-d6 y ((i:Int)+1)=l-mcum y (((i+1:Nat):Int)+1):=by rw[show(((i+1:Nat):Int)+1)=(i:Int)+1+1 by omega,e,em];omega
     rw[this];rfl) rfl⟩
   have fin:l<mcum y ((i:Int)+1+1)->Q' (.c,[.a .i64 y,.a .i64 (l-mcum y ((i:Int)+1)),.a .i64 (i:Int),.a .i64 ((i:Int)+1),.a .i64 0],dO):=λh=>by
    have e2:(i:Int)+1=mOfL y l:=by
     refine Classical.byContradiction λh'=>?_;have:=m2 h';omega
    refine hQ (.c,_,_) ⟨_,_,VW.c0 (.a0 (.b0 (.b0 (.a0 (.a0 .c0))))) rfl,?_⟩;rw[e2];exact hq (jv [_,_])
   clear hQ hq hq6;rw[<-em]at e;simp only[az,reduceCtorEq];have om:tL ((i:Int)+1)=true:=gX.2 (by omega);generalize d6 y ((i:Int)+1)=ml at *;generalize mcum y ((i:Int)+1+1)=c2 at *;generalize mcum y ((i:Int)+1)=c1 at *
   (repeat' first|exact trivial|refine⟨?_,?_⟩|intro)<;>first|omega|exact go (by omega)|exact fin (by omega)
 . cases hv
theorem Si{S:aQ}(hS:ak Tryz.prog cfg S):ak Tryz.prog cfg (d5 S 225 Sm):=by
 refine au hS λargs t v he hv=>?_;unfold Sm at he;split at he
 . rename_i d;cases he;obtain⟨h1,hv⟩:=eL hv;rw[aE]at h1;simp only[eH,eE]at h1;have hv':Tr.b0 (bif cE d then Tr.a0 (AV.d [.a .i64 (aN d),.a .i64 (bZ d),.a .i64 0])else Tr.a0 (AV.d [.a .i64 0,.a .i64 0,.a .i64 6]))=some v:=hv;have ids:aC v=[]:=by
    cases hb:cE d<;>rw[hb]at hv'<;>cases hv'<;>simp[aC,bw]
   refine kA wW (L:=Yx) O7 (by simp) (dv LV λi hi e he st Q hw=>?_) (jJ (bE 1011114400021114400024400420) (R:=λQ=>(λ(C:AV)(A:Int)=>(λ(H:AV)(E:Bool)(B G:Int)=>(λ(I N:Bool)(F:Int)=>(λ(O:Bool)=>af .i64 d/\(cE d->(E->(I->E/\(ab 0 B->(N->(∀J1 J2:Nat->Value,Q (.d [H,.a .i64 (mOfL A B),C])))/\(N=false->False))/\(ab 0 B=false->False))/\(I=false->E/\(ab 0 F->(O->(∀J1 J2:Nat->Value,Q (.d [H,.a .i64 (mOfL A F),C])))/\(O=false->False))/\(ab 0 F=false->False)))/\(E=false->False))/\(cE d=false->Q (.d [C,C,.a .i64 6]))) (not (ab G F))) (af .i64 B) (not (ab G B)) (IntKind.wrap .i64 B)) (.a .i64 A) (and (ab (Neg.neg 10000000000000000) A) (ab A 10000000000000000)) (Int.sub d (bf A)) (ξ 365 (iE A))) (.a .i64 0) (aN d)) (λ_=>by rfl) λQ' hQ=>?_) ids
   . have hi:i=0:=by grind
     subst hi;cases he;exact bR (cC.a0 wW) (by decide) rfl XI hw
   . dsimp only;obtain⟨y1,y2⟩:=yOf_spec d;rw[yst_succ]at y2;have yes:cE d->Q' (.d [.a .i64 (aN d),.a .i64 (mOfL (aN d) (d-bf (aN d))),.a .i64 0]):=λh=>by
      rw[h]at hv';cases hv';exact hQ _ rfl
     have no:cE d=false->Q' (.d [.a .i64 0,.a .i64 0,.a .i64 6]):=λh=>by
      rw[h]at hv';cases hv';grind
     have yb:cE d->-10000000000000000<=aN d/\aN d<=10000000000000000:=λh=>pO.2 h;have y1:bf (aN d)<=d:=y1;have y2:d<bf (aN d)+365+iE (aN d):=y2;have l2:0<=iE (aN d)/\iE (aN d)<=1:=lp_01 _;simp_all [az];omega
 grind
end Go.Ev
end
