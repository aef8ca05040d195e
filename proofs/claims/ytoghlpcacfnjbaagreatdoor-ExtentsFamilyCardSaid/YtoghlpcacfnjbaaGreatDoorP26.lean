import Derived.Test.YtoghlpcacfnjbaaGreatDoorP25
set_option linter.all false
set_option maxRecDepth 100000
set_option maxHeartbeats 4000000
section
namespace Go.Ev
open Go Go.Proofs
variable{s da:List UInt8}{ng lg:Bool}{e g b c:Int}{S:aQ}{o:aB}
noncomputable def V3:aQ:=eQ V2 83 (fl 14 [1,1] Oy)
theorem G0:ak Tryz.prog cfg V3:=Mb qY
def Co(s:List UInt8)(g:Nat):List Int:=match s with|[c0,c1]=>ay c0 c1 g|_=>[]
def TC(ng:Bool)(s:List UInt8)(e:Int)(mo da:List UInt8):Bool:=mJ (cJ ng s e (-9223372036854775808) 0 0 mo da (Co mo 12) (Co da 31) (yV ng s e (-9223372036854775808) true) (yB ng s e (-9223372036854775808) true))
def bW(ng lg:Bool)(s:List UInt8)(e g:Int)(mo da:List UInt8)(a b c:Int):Int:=
 bif aa (nH ng lg s e g mo da a b c) 0 then(bif ae da []then 0 else bif TC ng s e mo da then 0 else 8)else nH ng lg s e g mo da a b c
def TL:dP:=λargs=>match args with
 | [.h [.b ng,.b lg,.d s,.a .i64 e,.a .i64 g,.d mo,.d da,.a .u8 a,.a .u8 b,.a .u8 c]]=>some (aH [Nat.ble s.length 1000,Nat.ble mo.length 1000,Nat.ble da.length 1000,af .i64 e,af .i64 g,af .u8 a,af .u8 b,af .u8 c] (.a0 (.a .i64 (bW ng lg s e g mo da a b c))))
 | _=>none
theorem GF{c:UInt8}{d:Int}(h:c.toNat=88\/(c.toNat:Int)=48+d)(h0:0<=d)(h1:d<=9):cr c=true:=by
 rw[dD];omega
theorem oi{g:Nat}(hg:g<=99)(h:eW s g):∃c0 c1,s=[c0,c1]/\cr c0/\cr c1/\ay c0 c1 g≠[]:=by
 unfold eW at h;obtain⟨k,hk,ha⟩:=List.any_eq_true.1 h;rw[List.mem_range]at hk
 match s,ha with
 | [c0,c1],ha=>
   have hi:=Gu.1 ha;refine⟨c0,c1,rfl,GF hi.1 (by omega) (by omega),GF hi.2 (by omega) (by omega),λhn=>?_⟩;have:((k:Int)+1)∈ay c0 c1 g:=iG.2 ⟨by omega,ha⟩;rw[hn]at this;cases this
 | [],ha=>simp[agr]at ha
 | [_],ha=>simp[agr]at ha
 | _::_::_::_,ha=>simp[agr]at ha
theorem Mr(h:aV ng lg s e g):lP s=true:=by
 unfold aV at h;rw[zAb]at h;unfold lP;by_cases hx:aY s 88 88=0
 . rw[gm hx];rfl
 . rw[ic hx,Bool.false_or];have h4:s.length=4:=by omega
   have hm:=(XB s).2 h.1
   match s,h4,hm with
   | [c0,c1,c2,c3],_,hm=>
     simp only[Go.Proofs.YtoghlpcacfnjbaaGreatDoor.mskB,List.all_cons,List.all_nil,Bool.and_true,zAa,zAb,Go.Proofs.YtoghlpcacfnjbaaGreatDoor.mb]at hm;simp only[zAa,dD];exact⟨of_decide_eq_true hm.1,of_decide_eq_true hm.2.1,of_decide_eq_true hm.2.2.1,of_decide_eq_true hm.2.2.2⟩
theorem dC{mo:List UInt8}{a:Int}(h:nH ng lg s e g mo da a b c=0)(hc:0<=errMk a b c (dq mo da)):aV ng lg s e g/\lP s/\¬(0<g/\ae mo []=false)/\(ae mo []=false/\aR mo=0->eW mo 12=true)/\(ae da []=false->ae mo []=false/\aR mo=0/\eW da 31=true):=by
 have hn:=CF mo;unfold nH at h;by_cases h1:oy ng lg s e g mo=false
 . rw[if_pos h1]at h;omega
 . rw[if_neg h1]at h;by_cases h2:ae mo []=false/\aR mo=0/\eW mo 12=false
   . rw[if_pos h2]at h;omega
   . rw[if_neg h2]at h;by_cases h3:ae da []=false/\(ae mo []\/0<aR mo\/eW da 31=false)
     . rw[if_pos h3]at h;omega
     . rw[Bool.not_eq_false]at h1;unfold oy at h1;rw[zAb]at h1;refine⟨h1.1,Mr h1.1,h1.2.1,λ⟨k1,k2⟩=>?_,λhd=>⟨?_,?_,?_⟩⟩
       . rw[<-Bool.not_eq_false];exact λk3=>h2 ⟨k1,k2,k3⟩
       . rw[<-Bool.not_eq_true];exact λk=>h3 ⟨hd,.inl k⟩
       . have:¬0<aR mo:=λk=>h3 ⟨hd,.inr (.inl k)⟩;omega
       . rw[<-Bool.not_eq_false];exact λk=>h3 ⟨hd,.inr (.inr k)⟩
theorem dE{a n:Int}:0<=errMk a b c n:=by unfold errMk;(repeat' split)<;>omega
theorem kq{mo:List UInt8}{a:Int}(h:nH ng lg s e g mo da a b c=0)(hd:ae da []=false) :
 ∃m0 m1 d0 d1,mo=[m0,m1]/\da=[d0,d1]/\cr m0/\cr m1/\cr d0/\cr d1/\ay m0 m1 12≠[]/\ay d0 d1 31≠[]/\aR mo=0/\aV ng lg s e g/\lP s/\g=0:=by
 obtain⟨h1,h2,h3,h4,h5⟩:=dC h dE;obtain⟨k1,k2,k3⟩:=h5 hd;obtain⟨m0,m1,rfl,a1,a2,a3⟩:=oi (by decide) (h4 ⟨k1,k2⟩);obtain⟨d0,d1,rfl,b1,b2,b3⟩:=oi (by decide) k3;have hg:0<=g:=by
  have:=h1;unfold aV at this;rw[zAb]at this;exact this.2.1
 refine⟨m0,m1,d0,d1,rfl,rfl,a1,a2,b1,b2,a3,b3,k2,h1,h2,?_⟩;have:¬0<g:=λk=>h3 ⟨k,k1⟩;omega
theorem oL{M:List Int}:d7 (aI M)=M:=by
 unfold d7 aI;rw[List.map_map];exact List.map_id' M
theorem ow{M:List Int}:(aI M).all (bC .i64)=true:=by
 unfold aI;rw[List.all_map];exact List.all_eq_true.2 λx _=>rfl
theorem pk{c0 c1:UInt8}:jY da (ay c0 c1 12)=true:=by
 unfold jY;rw[List.all_eq_true];intro x hx;have:=iG.1 hx;unfold okM;rw[Bool.or_eq_true,zAa,aq,aq];right;omega
theorem f59{mo:List UInt8}{a:Int}(hs:s.length<=1000)(hmo:mo.length<=1000)(hda:da.length<=1000)(he : -9223372036854775808<=e/\e<=9223372036854775807)(hg : -9223372036854775808<=g/\g<=9223372036854775807)(ha:0<=a/\a<=255)(hb:0<=b/\b<=255)(hc:0<=c/\c<=255) :
 bu Tryz.prog cfg 47 [.h [.b ng,.b lg,.d s,.a .i64 e,.a .i64 g,.d mo,.d da,.a .u8 a,.a .u8 b,.a .u8 c]] [] (.a .i64 (bW ng lg s e g mo da a b c)) []:=by
 unfold bW;cases hE:aa (nH ng lg s e g mo da a b c) 0 with
 | false=>
   refine jD G0 ai (bE 1777006) (R:=λQ=>(λ(A:Int)=>Nat.ble s.length 1000/\Nat.ble mo.length 1000/\Nat.ble da.length 1000/\af .i64 e/\af .i64 g/\af .u8 a/\af .u8 b/\af .u8 c/\not (aa A 0)/\Q (.a .i64 A)) (nH ng lg s e g mo da a b c)) (λ_=>by kernel_rfl) λQ' hQ=>?_;try dsimp only
   rw[cond_false]at hQ;have hQ:=hQ _ rfl;rw[aw]at hE;generalize nH ng lg s e g mo da a b c=r at *;simp only[az,reduceCtorEq]
   (repeat' first|exact trivial|refine⟨?_,?_⟩|intro)<;>first|contradiction|omega|assumption
 | true=>
   rw[cond_true];cases hd:ae da []with
   | true=>
     refine jD G0 ai (bE 12032277006) (R:=λQ=>Nat.ble s.length 1000/\Nat.ble mo.length 1000/\Nat.ble da.length 1000/\af .i64 e/\af .i64 g/\af .u8 a/\af .u8 b/\af .u8 c/\not (aa (nH ng lg s e g mo da a b c) 0)=false/\ae da []/\Q (.a .i64 0)) (λ_=>by kernel_rfl) λQ' hQ=>?_;rw[cond_true]at hQ;have hQ:=hQ _ rfl;rw[ao]at hE;generalize nH ng lg s e g mo da a b c=r at *;simp only[az,reduceCtorEq]
     (repeat' first|exact trivial|refine⟨?_,?_⟩|intro)<;>first|contradiction|omega|assumption
   | false=>
     have hE':=ao.mp hE;obtain⟨m0,m1,d0,d1,rfl,rfl,h0,h1,h2,h3,k1,k2,hse,ho,hx,hg0⟩:=kq hE' hd;have n1:gU (ay m0 m1 12)=false:=by unfold gU;cases h:ay m0 m1 12 with|nil=>exact absurd h k1|cons x xs=>rfl
     have n2:gU (ay d0 d1 31)=false:=by unfold gU;cases h:ay d0 d1 31 with|nil=>exact absurd h k2|cons x xs=>rfl
     refine jD G0 ai (bE 11407022770563002205300225322700200056663227002006) (R:=λQ=>(λ(C:Bool)(G H:List Int)(E F:List UInt8)=>(λ(I N:Nat)=>(λ(O P:Nat)=>(λ(A B:List AV)=>(λ(T:Bool)=>(λ(U:Prop->Prop)=>U (not (aa (nH ng lg s e g E F a b c) 0)=false/\U (not (aa (aR E) 0)=false/\cr m0/\cr m1/\gU G=false/\cr d0/\cr d1/\gU H=false/\and (and true (and (Nat.ble (HAdd.hAdd 0 O) (List.length (aI G))) (bc 14 A))) (and (Nat.ble (HAdd.hAdd 0 P) (List.length (aI H))) (bc 14 B))/\List.all A (bC .i64)/\List.all B (bC .i64)/\Nat.beq A.length I/\Nat.beq B.length N/\Nat.ble I 1000/\Nat.ble N 1000/\jY F (d7 A)/\aV ng lg s e g/\C/\lP s/\(T->Q (.a .i64 8))/\(T=false->Q (.a .i64 0))))) (λu0=>C/\af .i64 e/\af .i64 g/\af .u8 a/\af .u8 b/\af .u8 c/\u0)) (not (mJ (cJ ng s e (Neg.neg 9223372036854775808) 0 0 E F (d7 A) (d7 B) (yV ng s e (Neg.neg 9223372036854775808) true) (yB ng s e (Neg.neg 9223372036854775808) true))))) (b_ (aI G) 0 O) (b_ (aI H) 0 P)) (HMul.hMul I 1) (HMul.hMul N 1)) (dG G) (dG H)) (Nat.ble s.length 1000) (ay m0 m1 12) (ay d0 d1 31) [m0,m1] [d0,d1]) (λ_=>by kernel_rfl) λQ' hQ=>?_;try dsimp only
     rw[cond_false]at hQ;have w1:b_ (aI (ay m0 m1 12)) 0 (dG (ay m0 m1 12)*1)=aI (ay m0 m1 12):=qz;have w2:b_ (aI (ay d0 d1 31)) 0 (dG (ay d0 d1 31)*1)=aI (ay d0 d1 31):=qz;have l1:dG (ay m0 m1 12)=(ay m0 m1 12).length:=rfl;have l2:dG (ay d0 d1 31)=(ay d0 d1 31).length:=rfl;have z1:=eV m0 m1 12;have z2:=eV d0 d1 31;have hF:TC ng s e [m0,m1] [d0,d1]=mJ (cJ ng s e (-9223372036854775808) 0 0 [m0,m1] [d0,d1] (ay m0 m1 12) (ay d0 d1 31) (yV ng s e (-9223372036854775808) true) (yB ng s e (-9223372036854775808) true)):=rfl;rw[hF]at hQ;have aM:jY [d0,d1] (ay m0 m1 12)=true:=pk;have aX:∀M:List Int,Nat.ble (0+M.length*1) M.length=true:=λM=>by simp
     simp only[l1,l2,@qz,oL,ow,cY,cz,aM,aX,Bool.and_true,Bool.true_and];generalize mJ (cJ ng s e (-9223372036854775808) 0 0 [m0,m1] [d0,d1] (ay m0 m1 12) (ay d0 d1 31) (yV ng s e (-9223372036854775808) true) (yB ng s e (-9223372036854775808) true))=r at *;rw[ao]at hE;clear hF aM w1 w2 hE';generalize nH ng lg s e g [m0,m1] [d0,d1] a b c=er at *;generalize aR [m0,m1]=se at *;generalize ay m0 m1 12=M at *;generalize ay d0 d1 31=D at *;have h8:r=false->Q' (.a .i64 8):=λh=>hQ _ (by rw[h];rfl);have h9:r->Q' (.a .i64 0):=λh=>hQ _ (by rw[h];rfl);clear hQ;simp only[az,reduceCtorEq]
     (repeat' first|exact trivial|refine⟨?_,?_⟩|intro)<;>first|contradiction|omega|assumption|(exact h8 (by assumption))|(exact h9 (by assumption))
theorem G9(hS:ak Tryz.prog cfg S):ak Tryz.prog cfg (bb S 47 TL):=au hS λargs t v he hv=>by
 unfold TL at he;split at he
 . cases he;obtain⟨⟨h1,h2,h3,h4,h5,h6,h7,h8,-⟩,hv⟩:=aF hv;rw[al]at h1 h2 h3;rw[aE]at h4 h5 h6 h7 h8;simp only[eH,eE]at h4 h5 h6 h7 h8;cases hv;exact f59 h1 h2 h3 h4 h5 h6 h7 h8
 . cases he
theorem gA{a d:Int}:bA a b c d=0↔(a=0\/a = -1/\b=0)/\(c=0\/c=1/\d=0)/\(a<c\/a=c/\b<=d):=by
 have h1:=xF a b c d;have h2:=@Hr a b;have h3:=@Hr c d;unfold bA;constructor
 . intro h;by_cases hc:cw a b=0/\cw c d=0
   . rw[if_pos hc]at h;have e1:=h2.1 hc.1;have e2:=h3.1 hc.2;by_cases h4:0<a\/c<0
     . rw[if_pos h4]at h;omega
     . rw[if_neg h4]at h;by_cases h5:0<cq a b c d
       . rw[if_pos h5]at h;omega
       . omega
   . rw[if_neg hc]at h;omega
 . intro h;have e1:cw a b=0:=h2.2 (by omega);have e2:cw c d=0:=h3.2 (by omega);rw[if_pos ⟨e1,e2⟩,if_neg (by omega),if_neg (by omega)]
def S8:aQ:=S7
theorem I4:ak Tryz.prog cfg S8:=vQ
structure Rn where
 a:Int
 b:Int
 c:Int
 d:Int
def fo:Rn:=⟨0,0,0,0⟩
def bh:List Rn->List AV
 | []=>[]
 | r::rs=>.a .i8 r.a::.a .i64 r.b::.a .i8 r.c::.a .i64 r.d::bh rs
def tC(f:Nat->Int):Nat->Nat->Int
 | _,0=>0
 | i,n+1=>if f i=0 then tC f (i+1) n else f i
def LO(q r:Rn)(i:Nat):Int:=if bA r.a r.b r.c r.d=0 then(if 0<i/\(0<In q.a q.b q.c q.d r.a r.b r.c r.d\/vz q.a q.b q.c q.d r.a r.b r.c r.d=true)then 12 else 0)else bA r.a r.b r.c r.d
def qn(R:List Rn)(i:Nat):Int:=LO (R.getD (i-1) fo) (R.getD i fo) i
def jo(R:List Rn):Int:=tC (qn R) 0 R.length
def Yq(R:List Rn):dW:=λvs o=>match vs,o with
 | [.c 14 0 n k,.a .i64 z,.c 14 0 n' k',.a .i64 n'',.a .i64 i],⟨0,[],[]⟩=>some (aH [Nat.ble n 1000,Nat.beq R.length n,Nat.beq n' n,aa n'' (Int.ofNat n),aa i 0,aa z 0] (.d0 (aa (jo R) 0) λb=>bif b then .a0 (.b 0,[.c 14 0 n k,.a .i64 0,.c 14 0 n' k',.a .i64 n'',.a .i64 n''],dO)else .f0 λJ=>.a0 (.c,[.c 14 0 n k,.a .i64 (jo R),.c 14 0 n' k',.a .i64 n'',.i (J 0)],dO)))
 | _,_=>none
def L58(R:List Rn):cx:=iz jE 0 (d9 43 [0,2,9,10,11] (Yq R))
theorem VW.e0{C:bg}{kb tn:Nat}{rel:List Nat}{vs vs' vs'':List AV}{o' o'':aB}(h1:VW cfg C kb tn rel vs o vs' o')(h2:VW cfg C kb tn rel vs' o' vs'' o''):VW cfg C kb tn rel vs o vs'' o'':=λJ=>(h1 J).c0 λs ⟨J',e⟩=>by rw[e];exact h2 J'
theorem GN{ws:List aD}{tn:Nat}{rel:List Nat}{vs vs':List AV}(hw:∀x∈ws,cR 14 x)(hle:o.le=[])(hvs:yw (kG (14+ws.length+0) [] 20) vs=some vs'):VW cfg (Cw cfg ws) 0 tn rel vs o vs' dO:=
 VW.d0 dI.lv (C:=Cw cfg ws) (kb:=0) (sel:=[]) (B6 hw) (Nat.zero_le _) (λs hs=>by cases hs) List.nodup_nil (λp hp=>by rw[hle]at hp;cases hp) hle.symm rfl rfl (λi hi=>absurd hi (Nat.not_lt_zero i)) (λt ht=>absurd ht (Nat.not_lt_zero t)) hvs
theorem As{f:Nat->Int}:∀{n i k:Nat},(∀j,i<=j->j<k->f j=0)->i<=k->k<i+n->f k≠0->tC f i n=f k
 | 0,i,k,_,h1,h2,_=>by omega
 | n+1,i,k,h,h1,h2,h3=>by
   rw[tC];by_cases e:i=k
   . subst e;rw[if_neg h3]
   . rw[if_pos (h i (Nat.le_refl _) (by omega))];exact As (λj hj hk=>h j (by omega) hk) (by omega) (by omega) h3
theorem xm{f:Nat->Int}:∀{n i:Nat},(∀j,i<=j->j<i+n->f j=0)->tC f i n=0
 | 0,_,_=>rfl
 | n+1,i,h=>by
   rw[tC,if_pos (h i (Nat.le_refl _) (by omega))];exact xm λj hj hk=>h j (by omega) (by omega)
theorem o5{r:Rn}{rs:List Rn}{n:Nat}{v:AV}:(bh (r::rs)).getD (n+4) v=(bh rs).getD n v:=rfl
theorem wH{R:List Rn}{i:Nat}(h:i<R.length):(bh R).getD (i*4) (.e [])=.a .i8 (R.getD i fo).a/\(bh R).getD (i*4+1) (.e [])=.a .i64 (R.getD i fo).b/\(bh R).getD (i*4+2) (.e [])=.a .i8 (R.getD i fo).c/\(bh R).getD (i*4+3) (.e [])=.a .i64 (R.getD i fo).d:=by
 induction R generalizing i with
 | nil=>exact absurd h (Nat.not_lt_zero _)
 | cons r rs ih=>
   cases i with
   | zero=>exact⟨rfl,rfl,rfl,rfl⟩
   | succ i=>
     obtain⟨h1,h2,h3,h4⟩:=ih (i:=i) (by simpa using h);rw[show(i+1)*4=i*4+4 by omega,show i*4+4+1=i*4+1+4 by omega,show i*4+4+2=i*4+2+4 by omega,show i*4+4+3=i*4+3+4 by omega,o5,o5,o5,o5];exact⟨h1,h2,h3,h4⟩
theorem Q1{j:Nat}:Int.toNat (Int.sub (Int.ofNat (j+1)) 1)=j:=by
 show((j:Int)+1-1).toNat=j;omega
theorem sR:∀{R:List Rn},bw (bh R)=[]
 | []=>rfl
 | r::rs=>by simp only[bh,bw,aC,List.nil_append];exact sR
theorem jz{R:List Rn}:∀x∈[aD.a (bh R) false none],cR 14 x:=λx hx=>by
 simp only[zAe]at hx;subst hx;refine⟨rfl,λi hi=>?_⟩;exfalso;simp only[HL,sR]at hi;cases hi
theorem ZM{R:List Rn}(hR:∀i,i<R.length->IJ (R.getD i fo).d):cu Tryz.prog (cH cfg S8) (Cw cfg [.a (bh R) false none]) (lb 46 0) 43 [0,2,9,10,11] (Yq R):=by
 have hw:=@jz R;intro vs o t Q hv hq J;unfold Yq at hv;split at hv
 . rename_i n k z n' k' n'' i;cases hv;replace hq:=cO hq;obtain⟨⟨h1,h2,h3,h4,h5,h6,-⟩,hq⟩:=hq;rw[al]at h1;rw[aJ]at h2 h3;rw[ao]at h4 h5 h6;subst h2 h3 h4 h5 h6;simp only[aH,Tr.wp]at hq;refine ia I4 rfl rfl ai (ι:={i:Nat // i<=R.length/\∀j,j<i->qn R j=0}) (λx=>[.c 14 0 R.length k,.a .i64 0,.c 14 0 R.length k',.a .i64 (Int.ofNat R.length),.a .i64 (Int.ofNat x.1)]) (λ_=>dO) (λx=>R.length-x.1) 0 (λ_=>Nat.le_refl _) (λx J=>?_) (Nat.le_refl _) (λJ=>Wk.a0 ⟨⟨0,Nat.zero_le _,λj hj=>absurd hj (Nat.not_lt_zero j)⟩,J,rfl⟩) J;obtain⟨i,hi,hz⟩:=x;dsimp only;refine jJ (bE 1120330005338810788121423275777747577774140522704) (R:=λQ=>(λ(C I N u2:AV)(G u0:Int)(u1:Nat)=>(λ(O V u4:AV)(A u3:Bool)(W u6:Int)(u5:Nat)=>(λ(u7:AV)(u9:Bool)(P:Int)(u8 ua:Nat)(B:Prop)=>(λ(ub uc:AV)(T:Int)(ud:Nat)=>(λ(ue:AV)(H U:Int)(uf:Nat)=>(λ(ui:AV)(uh:Bool)(ug:Int)(uj:Nat)(uk ul:Prop)=>(λ(uo up:AV)(um un:Bool)=>(λ(uq ur:Bool)(Y:Int)=>(λ(Z us:Bool)=>(λ(E:Bool)=>(λ(F:Prop)=>(λ(ut:Prop->Prop)=>(u3->aS i R.length/\bC .i8 u4/\bC .i64 u7/\bC .i8 ub/\bC .i64 uc/\(um->Q (.c,[I,.a .i64 ug,N,O,V],⟨1,[.a [.a .i8 P,.a .i64 T,.a .i8 U,.a .i64 H] true none],[]⟩))/\(um=false->(A->A/\A/\u9/\A/\ut (A/\uh/\un/\uq/\ur/\A/\A/\A/\A/\(E->E/\E/\u9/\E/\ut (E/\uh/\un/\uq/\ur/\E/\E/\af .i64 Y/\af .i64 H/\A/\Z=false/\A/\(us->uk)/\(us=false->ul)))/\(F->F/\F/\F/\F/\F/\F/\A/\Z/\A/\uk)))/\(B->B/\B/\B/\B/\B/\B/\B/\B/\B/\B/\ul)))/\(u3=false->Q (.b 0,[I,u2,N,O,V],⟨0,[],[]⟩))) (λuu=>ab 0 W/\aS ua R.length/\uu)) (E=false)) (not Z)) (not (ab (In (aK ue) (aK ui) (aK uo) Y P T U H) 0)) (vz (aK ue) (aK ui) (aK uo) Y P T U H)) (bC .i8 uo) (bC .i64 up) (aK up)) (List.getD (bh R) uj C) (List.getD (bh R) (HAdd.hAdd uj 1) C) (not (aa ug 0)) (bC .i64 ui)) (List.getD (bh R) uf C) (bC .i8 ue) (bA P T U H) (HAdd.hAdd uf 1) (Q (.c,[I,.a .i64 12,N,O,V],⟨1,[.a [.a .i8 P,.a .i64 T,.a .i8 U,.a .i64 H] true none],[]⟩)) (af .i64 u6/\Q (.a,[I,u2,N,O,.a .i64 u6],⟨1,[.a [.a .i8 P,.a .i64 T,.a .i8 U,.a .i64 H] true none],[]⟩))) (List.getD (bh R) ud C) (aK uc) (aK ub) (HAdd.hAdd ud 1)) (List.getD (bh R) u8 C) (List.getD (bh R) (HAdd.hAdd u8 1) C) (aK u7) (HAdd.hAdd 0 (HMul.hMul ua 4))) (List.getD (bh R) u5 C) (af .i64 W) (aK u4) (HAdd.hAdd u5 1) W.toNat (A=false)) (.a .i64 u0) (.a .i64 G) (List.getD (bh R) u1 C) (not (ab G 0)) (not (ab u0 G)) (Int.sub G 1) (Int.add G 1) (HAdd.hAdd u1 1)) (.e []) (.c 14 0 R.length k) (.c 14 0 R.length k') (.a .i64 0) (Int.ofNat i) (Int.ofNat R.length) (HAdd.hAdd 0 (HMul.hMul i 4))) (λ_=>by kernel_rfl) λQ' hQ=>?_;try dsimp only
   have yes:i<R.length->∀e,qn R i=e->e≠0->∀J:Nat->Value,Q (.c,[.c 14 0 R.length k,.a .i64 e,.c 14 0 R.length k',.a .i64 (Int.ofNat R.length),.i (J 0)],dO):=λhlt e he hne J2=>by
    have hc:jo R=e:=he▸As (λj _ hj=>hz j hj) (Nat.zero_le _) (by omega) (he.symm▸hne);rw[hc,aw.mpr hne]at hq;exact hq J2
   have no:i=R.length->Q (.b 0,[.c 14 0 R.length k,.a .i64 0,.c 14 0 R.length k',.a .i64 (Int.ofNat R.length),.a .i64 (Int.ofNat R.length)],dO):=λhe=>by
    subst he;have hc:jo R=0:=xm λj _ hj=>hz j (by omega);rw[hc]at hq;exact hq
   have next:qn R i=0->∀j,j<i+1->qn R j=0:=λh j hj=>by
    by_cases e:j=i
    . subst e;exact h
    . exact hz j (by omega)
   clear hq;by_cases hlt:i<R.length
   . obtain⟨f1,f2,f3,f4⟩:=wH hlt;have b1:=hR i hlt;have ret:∀(e:Int) (o:aB),o.le=[]->qn R i=e->e≠0->∃vs2 o2,VW cfg (Cw cfg [.a (bh R) false none]) 0 43 [0,2,9,10,11] [.c 14 0 R.length k,.a .i64 e,.c 14 0 R.length k',.a .i64 (Int.ofNat R.length),.a .i64 (Int.ofNat i)] o vs2 o2/\Q (.c,vs2,o2):=λe o ho he hne=>
      ⟨_,_,(GN hw ho rfl).e0 (VW.c0 (.same (.same (.same (.same (.int .nil))))) rfl),yes hlt e he hne (jv [_])⟩
     have go:∀(o:aB),o.le=[]->qn R i=0->∃y:{i:Nat // i<=R.length/\∀j,j<i->qn R j=0},R.length-y.1<R.length-i/\VW cfg (Cw cfg [.a (bh R) false none]) 0 43 [0,2,9,10,11] [.c 14 0 R.length k,.a .i64 0,.c 14 0 R.length k',.a .i64 (Int.ofNat R.length),.a .i64 (Int.add (Int.ofNat i) 1)] o [.c 14 0 R.length k,.a .i64 0,.c 14 0 R.length k',.a .i64 (Int.ofNat R.length),.a .i64 (Int.ofNat y.1)] dO:=λo ho h0=>
      ⟨⟨i+1,by omega,next h0⟩,by dsimp only;omega,GN hw ho rfl⟩
     have hE:qn R i=LO (R.getD (i-1) fo) (R.getD i fo) i:=rfl;rw[hE]at ret go;clear yes no next hz hE;cases i with
     | zero=>
       clear hR;simp only[Nat.add_assoc,Nat.reduceAdd,Nat.zero_add,Nat.add_zero,f1,f2,f3,f4,bC,aK,gP,lm]at *;generalize R.getD 0 fo=r at *;unfold LO at ret go;simp only[az,reduceCtorEq]
       (repeat' first|exact trivial|refine⟨?_,?_⟩|intro)<;>first|contradiction|omega|assumption|refine hQ _ ?_
       . exact ret _ _ rfl (by rw[if_neg (by assumption)]) (by assumption)
       . exact go _ rfl (by rw[if_pos (by assumption),if_neg (by omega)])
     | succ j=>
       obtain⟨g1,g2,g3,g4⟩:=wH (R:=R) (i:=j) (by omega);have b2:=hR j (by omega);clear hR;rw[show j+1-1=j by omega]at ret go;simp only[Q1,Nat.add_assoc,Nat.reduceAdd,Nat.zero_add,Nat.add_zero,f1,f2,f3,f4,g1,g2,g3,g4,bC,aK,gP,lm]at *;generalize R.getD (j+1) fo=r at *;generalize R.getD j fo=q at *;unfold LO at ret go;unfold IJ at b1 b2;simp only[az,reduceCtorEq]
       (repeat' first|exact trivial|refine⟨?_,?_⟩|intro)<;>first|contradiction|omega|assumption|refine hQ _ ?_
       all_goals first
        | exact ret _ _ rfl (by rw[if_neg (by assumption)]) (by assumption)
        | exact ret 12 _ rfl (by rw[if_pos (by assumption),if_pos ⟨by omega,.inl (by assumption)⟩]) (by decide)
        | exact ret 12 _ rfl (by rw[if_pos (by assumption),if_pos ⟨by omega,.inr (by assumption)⟩]) (by decide)
        | exact go _ rfl (by rw[if_pos (by assumption),if_neg (by rintro⟨_,h|h⟩<;>simp_all<;>omega)])
   . obtain rfl:i=R.length:=by omega
     have no:=no rfl;simp only[az,reduceCtorEq]
     (repeat' first|exact trivial|refine⟨?_,?_⟩|intro)<;>first|contradiction|omega|assumption|(refine hQ _ ?_;exact⟨_,_,VW.b0,no⟩)
 . cases hv
def g8:List AV->List Rn
 | .a .i8 a::.a .i64 b::.a .i8 c::.a .i64 d::r=>⟨a,b,c,d⟩::g8 r
 | _=>[]
def eJ:List AV->Bool
 | []=>true
 | .a .i8 _::.a .i64 b::.a .i8 _::.a .i64 d::r=>af .i64 b&&(af .i64 d&&eJ r)
 | _=>false
theorem hZ:∀{w:List AV},eJ w->bh (g8 w)=w
 | [],_=>rfl
 | .a .i8 a::.a .i64 b::.a .i8 c::.a .i64 d::r,h=>by
   simp only[eJ,zAa]at h;simp only[g8,bh,hZ h.2.2]
theorem Hk:∀{w:List AV},eJ w->∀i,i<(g8 w).length->IJ ((g8 w).getD i fo).d
 | [],_,i,hi=>absurd hi (Nat.not_lt_zero _)
 | .a .i8 a::.a .i64 b::.a .i8 c::.a .i64 d::r,h,i,hi=>by
   simp only[eJ,zAa,aE,eH,eE]at h;cases i with
   | zero=>exact h.2.1
   | succ i=>exact Hk h.2.2 i (by simpa [g8]using hi)
def Rt:bj tab 46=some (dH 46,aL 46):=by kernel_rfl
def OH:(bz (aL 46)).map (·.1)=[0]:=by kernel_rfl
theorem f58{R:List Rn}{k:fg}(hR:∀i,i<R.length->IJ (R.getD i fo).d)(hn:R.length<=1000):bu Tryz.prog cfg 46 [.c 14 0 R.length k] [.a (bh R) false none] (.a .i64 (jo R)) []:=by
 refine P0 I4 (L:=L58 R) jz Rt (by simp) (dv OH λi hi e he st Q hw=>?_) (jJ (bE 11400273) (R:=λQ=>(λ(B:Bool)(A:Int)=>not (ab A 4096)=false/\Nat.ble R.length 1000/\Nat.beq R.length R.length/\Nat.beq R.length R.length/\aa A A/\(B->(∀J1:Nat->Value,Q (.a .i64 0)))/\(B=false->(∀J1 J2:Nat->Value,Q (.a .i64 (jo R))))) (aa (jo R) 0) (Int.ofNat R.length)) (λ_=>by kernel_rfl) λQ' hQ=>?_) (by simp[aC])
 . have hi:i=0:=by simp at hi;omega
   subst hi;cases he;exact bR (cC.a0 I4) (by decide) rfl (ZM hR) hw
 . have h0:jo R=0->Q' (.a .i64 0):=λh=>hQ _ (by rw[h]);simp only[az,reduceCtorEq]
   (repeat' first|exact trivial|refine⟨?_,?_⟩|intro)<;>first|contradiction|omega|assumption|(exact h0 (by assumption))|exact hQ _ rfl
def YK:kS:=λargs ws=>match args,ws with
 | [.c 14 0 n k],[.a w false none]=>some (aH [eJ w,Nat.beq (g8 w).length n,Nat.ble n 1000] (.a0 (.a .i64 (jo (g8 w)),[])))
 | _,_=>none
theorem UQ(hS:ak Tryz.prog cfg S):ak Tryz.prog cfg (eQ S 46 (fl 14 [4] YK)):=by
 refine bm hS (fW dI.lv Az λargs ws t r he hr=>?_);unfold YK at he;split at he
 . rename_i n k w;cases he;replace hr:=aF hr;obtain⟨⟨h1,h2,h3,-⟩,hr⟩:=hr;rw[aJ]at h2;rw[al]at h3;subst h2;cases hr;have key:=f58 (R:=g8 w) (k:=k) (Hk h1) h3;rw[hZ h1]at key;exact⟨key,λx hx=>by cases hx⟩
 . cases he
end Go.Ev
end
section
namespace Go.Ev
open Go Go.Proofs Go.Proofs.YtoghlpcacfnjbaaGreatDoor
def aN(d:Int):Int:=yOf d
def bZ(d:Int):Int:=mOf d
def cE(d:Int):Bool:=ab (-3652425000000000000) d&&ab d 3652425000000000365
theorem P9:yst (-10000000000000000) = -3652425000000000000:=by decide
theorem Lu:yst 10000000000000001=3652425000000000366:=by decide
theorem pO{d:Int}:okY (yOf d)↔cE d=true:=by
 obtain⟨h1,h2⟩:=yOf_spec d;unfold cE okY;rw[zAa,aq,aq,<-P9];have e:∀x:Int,x<=3652425000000000365↔x<yst 10000000000000001:=λx=>by rw[Lu];omega
 rw[e];generalize yOf d=y at *;constructor
 . rintro⟨a,b⟩;have:=yst_le a;have:=yst_le (show y+1<=10000000000000001 by omega);omega
 . rintro⟨a,b⟩;refine⟨?_,?_⟩
   . have:=λh:y+1<=-10000000000000000=>yst_le h;omega
   . have:=λh:10000000000000001<=y=>yst_le h;omega
def Sx:dP:=λargs=>match args with
 | [.a .i64 d]=>some (aH [af .i64 d] (.d0 (cE d) λb=>bif b then .a0 (.e [.a .i64 (aN d),.a .i64 0])else .a0 (.e [.a .i64 0,.a .i64 6])))
 | _=>none
def XA:aQ:=bb XA9 164 Sx
def Rx:dW:=λvs o=>match vs,o with
 | [.a .i64 y,.a .i64 l,.a .i64 i,.a .i64 a,.a .i64 b],⟨0,[],[]⟩=>some (aH [eO y,aa i 0,aa a 0,aa b 0,ab 0 l,Bool.not (ab (365+iE y) l)] (.f0 λJ=>.a0 (.c,[.a .i64 y,.i (J 0),.i (J 1),.a .i64 (mOfL y l),.a .i64 0],dO)))
 | _,_=>none
def Sm:dP:=λargs=>match args with
 | [.a .i64 d]=>some (aH [af .i64 d] (.d0 (cE d) λb=>bif b then .a0 (.e [.a .i64 (aN d),.a .i64 (bZ d),.a .i64 0])else .a0 (.e [.a .i64 0,.a .i64 0,.a .i64 6])))
 | _=>none
def Yx:cx:=iz jE 0 (d9 43 [2,7,26,3,4] Rx)
def O7:bj tab 154=some (dH 154,aL 154):=by kernel_rfl
def G4:bj tab 164=some (dH 164,aL 164):=by kernel_rfl
def LV:(bz (aL 154)).map (·.1)=[0]:=by kernel_rfl
theorem wW:ak Tryz.prog cfg XA:=by
 refine au KQ λargs t v he hv=>?_;unfold Sx at he;split at he
 . rename_i d;cases he;obtain⟨h1,hv⟩:=bO hv;rw[aE]at h1;simp only[eH,eE]at h1;have hv':Tr.b0 (bif cE d then Tr.a0 (AV.e [.a .i64 (aN d),.a .i64 0])else Tr.a0 (AV.e [.a .i64 0,.a .i64 6]))=some v:=hv;cases hc:cE d with
   | true=>
     rw[hc]at hv';cases hv';refine dy G4 (by simp[aC,bw]) λm w hG=>?_;simpa [ap,aj,aN]using years_Of_ok d w hG h1.1 h1.2 (pO.2 hc)
   | false=>
     rw[hc]at hv';cases hv';refine dy G4 (by simp[aC,bw]) λm w hG=>?_;simpa [ap,aj,aN]using years_Of_no d w hG h1.1 h1.2 (λh=>by rw[pO.1 h]at hc;cases hc)
 . cases he
theorem SS(y:Int):mcum y 1=0:=by unfold mcum;rw[if_pos (by decide)]
theorem XI:cu Tryz.prog (cH cfg XA) (Cw cfg []) (lb 154 0) 43 [2,7,26,3,4] Rx:=by
 intro vs o t Q hv hq J;unfold Rx at hv;split at hv
 . rename_i y l i a b;cases hv;obtain⟨h1,hq1⟩:=cZ hq;obtain⟨h2,hq2⟩:=cZ hq1;obtain⟨h3,hq3⟩:=cZ hq2;obtain⟨h4,hq4⟩:=cZ hq3;obtain⟨h5,hq5⟩:=cZ hq4;obtain⟨h6,hq6⟩:=cZ hq5;clear hq hq1 hq2 hq3 hq4 hq5;rw[ao]at h2 h3 h4;rw[aq]at h5;rw[nr,bF]at h6;subst h2 h3 h4;have hy:=bX.1 h1;have hq:∀J:Nat->Value,Q (.c,[.a .i64 y,.i (J 0),.i (J 1),.a .i64 (mOfL y l),.a .i64 0],dO):=hq6;have hs:=mOfL_spec y l h5 h6;have h13:=mcum_13 y;refine ia wW rfl rfl ai (ι:={i:Nat // (i:Int)+1<=mOfL y l}) (λx=>[.a .i64 y,.a .i64 (l-mcum y ((x.1:Int)+1)),.a .i64 (x.1:Int),.a .i64 0,.a .i64 0]) (λ_=>dO) (λx=>12-x.1) 0 (λ_=>Nat.zero_le _) (λx J=>?_) (Nat.le_refl _) (λJ=>Wk.a0 ⟨⟨0,by simp;omega⟩,J,by
    have e:l-mcum y (((0:Nat):Int)+1)=l:=by rw[show((0:Nat):Int)+1=1 from rfl,SS];omega
    dsimp only;rw[e];rfl⟩) J
   obtain⟨i,hi⟩:=x;dsimp only;refine jJ (bE 1212412422022) (R:=λQ=>(λ(B E:AV)(A:Int)=>(λ(F:AV)(C H:Bool)(G:Int)=>(λ(I:Bool)=>not (ab 12 i)/\C/\and (ab (Neg.neg 10000000000000000) y) (ab y 10000000000000000)/\and (ab 1 A) (ab A 12)/\(H->C/\Q (.c,[E,.a .i64 (l-mcum y ((i:Int)+1)),.a .i64 i,F,B],⟨0,[],[]⟩))/\(H=false->(I->C/\Q (.a,[E,.a .i64 G,F,B,B],⟨0,[],[]⟩))/\(I=false->C/\Q (.a,[E,.a .i64 (IntKind.wrap .i64 G),F,B,B],⟨0,[],[]⟩)))) (af .i64 G)) (.a .i64 A) (af .i64 A) (not (ab (d6 y A) (l-mcum y ((i:Int)+1)))) (Int.sub (l-mcum y ((i:Int)+1)) (d6 y A))) (.a .i64 0) (.a .i64 y) (Int.add i 1)) (λ_=>by kernel_rfl) λQ' hQ=>?_;try dsimp only
   have e:=mcum_succ y ((i:Int)+1) (by omega) (by omega);have m1:=mcum_mono y (a:=(i:Int)+1) (b:=mOfL y l) (by omega) hi;have m2:¬(i:Int)+1=mOfL y l->mcum y ((i:Int)+1+1)<=mcum y (mOfL y l):=λh=>mcum_mono y (by omega) (by omega);have m3:(i:Int)+1=mOfL y l->mcum y ((i:Int)+1+1)=mcum y (mOfL y l+1):=λh=>by rw[h]
   have b2:=jk y ((i:Int)+1);have b3:=mcum_bd y ((i:Int)+1) (by omega) (by omega);have em:d6 y ((i:Int)+1)=mlen y ((i:Int)+1):=rfl;have l2:0<=iE y/\iE y<=1:=lp_01 y;have go:mcum y ((i:Int)+1+1)<=l->Q' (.a,[.a .i64 y,.a .i64 (l-mcum y ((i:Int)+1)-d6 y ((i:Int)+1)),.a .i64 ((i:Int)+1),.a .i64 0,.a .i64 0],dO):=λh=>
    hQ (.a,_,_) ⟨⟨i+1,by
     have:¬(i:Int)+1=mOfL y l:=λh'=>by have:=m3 h';omega
     simp;omega⟩,by dsimp only;omega,VW.a0 (by
     have:l-mcum y ((i:Int)+1)-d6 y ((i:Int)+1)=l-mcum y (((i+1:Nat):Int)+1):=by rw[show(((i+1:Nat):Int)+1)=(i:Int)+1+1 by omega,e,em];omega
     rw[this];rfl) rfl⟩
   have fin:l<mcum y ((i:Int)+1+1)->Q' (.c,[.a .i64 y,.a .i64 (l-mcum y ((i:Int)+1)),.a .i64 (i:Int),.a .i64 ((i:Int)+1),.a .i64 0],dO):=λh=>by
    have e2:(i:Int)+1=mOfL y l:=by
     refine Classical.byContradiction λh'=>?_;have:=m2 h';omega
    refine hQ (.c,_,_) ⟨_,_,VW.c0 (.same (.int (.int (.same (.same .nil))))) rfl,?_⟩;rw[e2];exact hq (jv [_,_])
   clear hQ hq hq6;rw[<-em]at e;simp only[az,reduceCtorEq];have om:tL ((i:Int)+1)=true:=gX.2 (by omega);generalize d6 y ((i:Int)+1)=ml at *;generalize mcum y ((i:Int)+1+1)=c2 at *;generalize mcum y ((i:Int)+1)=c1 at *
   (repeat' first|exact trivial|refine⟨?_,?_⟩|intro)<;>first|omega|exact go (by omega)|exact fin (by omega)
 . cases hv
theorem Si{S:aQ}(hS:ak Tryz.prog cfg S):ak Tryz.prog cfg (bb S 154 Sm):=by
 refine au hS λargs t v he hv=>?_;unfold Sm at he;split at he
 . rename_i d;cases he;obtain⟨h1,hv⟩:=bO hv;rw[aE]at h1;simp only[eH,eE]at h1;have hv':Tr.b0 (bif cE d then Tr.a0 (AV.e [.a .i64 (aN d),.a .i64 (bZ d),.a .i64 0])else Tr.a0 (AV.e [.a .i64 0,.a .i64 0,.a .i64 6]))=some v:=hv;have ids:aC v=[]:=by
    cases hb:cE d<;>rw[hb]at hv'<;>cases hv'<;>simp[aC,bw]
   refine kV wW (L:=Yx) O7 (by simp) (dv LV λi hi e he st Q hw=>?_) (jJ (bE 1011114400021114400024400420) (R:=λQ=>(λ(C:AV)(A:Int)=>(λ(H:AV)(E:Bool)(B G:Int)=>(λ(I N:Bool)(F:Int)=>(λ(O:Bool)=>af .i64 d/\(cE d->(E->(I->E/\(ab 0 B->(N->(∀J1 J2:Nat->Value,Q (.e [H,.a .i64 (mOfL A B),C])))/\(N=false->False))/\(ab 0 B=false->False))/\(I=false->E/\(ab 0 F->(O->(∀J1 J2:Nat->Value,Q (.e [H,.a .i64 (mOfL A F),C])))/\(O=false->False))/\(ab 0 F=false->False)))/\(E=false->False))/\(cE d=false->Q (.e [C,C,.a .i64 6]))) (not (ab G F))) (af .i64 B) (not (ab G B)) (IntKind.wrap .i64 B)) (.a .i64 A) (and (ab (Neg.neg 10000000000000000) A) (ab A 10000000000000000)) (Int.sub d (bf A)) (HAdd.hAdd 365 (iE A))) (.a .i64 0) (aN d)) (λ_=>by kernel_rfl) λQ' hQ=>?_) ids
   . have hi:i=0:=by simp at hi;omega
     subst hi;cases he;exact bR (cC.a0 wW) (by decide) rfl XI hw
   . dsimp only;obtain⟨y1,y2⟩:=yOf_spec d;rw[yst_succ]at y2;have yes:cE d->Q' (.e [.a .i64 (aN d),.a .i64 (mOfL (aN d) (d-bf (aN d))),.a .i64 0]):=λh=>by
      rw[h]at hv';cases hv';exact hQ _ rfl
     have no:cE d=false->Q' (.e [.a .i64 0,.a .i64 0,.a .i64 6]):=λh=>by
      rw[h]at hv';cases hv';exact hQ _ rfl
     have yb:cE d->-10000000000000000<=aN d/\aN d<=10000000000000000:=λh=>pO.2 h;have y1:bf (aN d)<=d:=y1;have y2:d<bf (aN d)+365+iE (aN d):=y2;have l2:0<=iE (aN d)/\iE (aN d)<=1:=lp_01 _;clear hQ hv hv' ids;cases hc:cE d with
     | true=>
       have yes:=yes hc;obtain⟨c1,c2⟩:=yb hc;have c3:=rm (y:=aN d) c1 (by omega);clear no yb;generalize bf (aN d)=ys at *;generalize aN d=yy at *;generalize iE yy=ll at *;simp only[az,reduceCtorEq]
       (repeat' first|exact trivial|refine⟨?_,?_⟩|intro)<;>first|omega|exact yes|(exfalso;assumption)|(rename_i h;cases h)
     | false=>
       have no:=no hc;simp only[az,reduceCtorEq]
       (repeat' first|exact trivial|refine⟨?_,?_⟩|intro)<;>first|omega|contradiction|exact no
 . cases he
end Go.Ev
end
section
namespace Go.Ev
open Go Go.Proofs
def ZP:dP:=λargs=>match args with
 | [.a .i64 a,.a .i64 b]=>some (aH [af .i64 a,aa b 400 || (aa b 146097 || aa b 12)] (.a0 (.a .i64 (dc a b))))
 | _=>none
def Z9:dP:=λargs=>match args with
 | [.a .i64 y]=>some (aH [af .i64 y] (.a0 (.a .i64 (iE y))))
 | _=>none
def R1:aQ:=bb (bb gZ 43 ZP) 73 Z9
def Z6:dP:=λargs=>match args with
 | [.a .i64 y,.a .i64 m]=>some (aH [af .i64 y] (.a0 (.a .i64 (d6 y m))))
 | _=>none
def okS(y:Int):Bool:=ab (-10000000000000000) y&&ab y 10000000000000001
def s29:dP:=λargs=>match args with
 | [.a .i64 y]=>some (aH [okS y] (.a0 (.a .i64 (bf y))))
 | _=>none
def R2:aQ:=bb (bb R1 76 Z6) 72 s29
theorem C4{a b:Int}(hb:0<b):(a.tmod b<0->a.tdiv b-1=dc a b)/\(0<=a.tmod b->a.tdiv b=dc a b):=by
 have h1:=Int.mul_tdiv_add_tmod a b;have h2:=Int.emod_add_mul_ediv a b;have h3:=Int.emod_nonneg a (show b≠0 by omega);have h4:=Int.emod_lt_of_pos a hb;have h5 : -b<a.tmod b/\a.tmod b<b:=⟨Int.lt_tmod_of_pos a hb,Int.tmod_lt_of_pos a hb⟩;unfold dc;refine⟨λh=>?_,λh=>?_⟩
 . symm
   refine(Int.ediv_emod_unique (r:=a.tmod b+b) hb).2 ⟨?_,by omega,by omega⟩ |>.1
   rw[Int.mul_sub];omega
 . symm
   exact((Int.ediv_emod_unique (r:=a.tmod b) hb).2 ⟨by omega,by omega,by omega⟩).1
theorem FZ:ak Tryz.prog cfg R1:=by
 refine au (au aW λargs t v he hv=>?_) λargs t v he hv=>?_
 . unfold ZP at he;split at he
   . rename_i a b;cases he;obtain⟨⟨h1,h2,-⟩,hv⟩:=aF hv;rw[aE]at h1;simp only[eH,eE]at h1;rw[Bool.or_eq_true,Bool.or_eq_true,ao,ao,ao]at h2;cases hv;rcases h2 with rfl|rfl|rfl
     . refine jD aW ai (bE 120122040) (R:=λQ=>(λ(B:Bool)(A:Int)=>(λ(C:Bool)(E:Int)=>(B->C/\af .i64 E/\Q (.a .i64 E))/\(B=false->C/\Q (.a .i64 A))) (af .i64 A) (Int.sub A 1)) (not (ab 0 (Int.tmod a 400))) (Int.tdiv a 400)) (λ_=>by kernel_rfl) λQ' hQ=>?_;try dsimp only
       obtain⟨k1,k2⟩:=@C4 a 400 (by decide);have tb:=Go.Proofs.YtoghlpcacfnjbaaGreatDoor.tdiv_bd a 400 (by decide) h1.1 h1.2;simp only[az,reduceCtorEq]
       (repeat' first|exact trivial|refine⟨?_,?_⟩|intro)<;>first|omega|refine hQ _ ?_
       . rw[<-k1 (by assumption)]
       . rw[<-k2 (by omega)]
     . refine jD aW ai (bE 120122040) (R:=λQ=>(λ(B:Bool)(A:Int)=>(λ(C:Bool)(E:Int)=>(B->C/\af .i64 E/\Q (.a .i64 E))/\(B=false->C/\Q (.a .i64 A))) (af .i64 A) (Int.sub A 1)) (not (ab 0 (Int.tmod a 146097))) (Int.tdiv a 146097)) (λ_=>by kernel_rfl) λQ' hQ=>?_;try dsimp only
       obtain⟨k1,k2⟩:=@C4 a 146097 (by decide);have tb:=Go.Proofs.YtoghlpcacfnjbaaGreatDoor.tdiv_bd a 146097 (by decide) h1.1 h1.2;simp only[az,reduceCtorEq]
       (repeat' first|exact trivial|refine⟨?_,?_⟩|intro)<;>first|omega|refine hQ _ ?_
       . rw[<-k1 (by assumption)]
       . rw[<-k2 (by omega)]
     . refine jD aW ai (bE 120122040) (R:=λQ=>(λ(B:Bool)(A:Int)=>(λ(C:Bool)(E:Int)=>(B->C/\af .i64 E/\Q (.a .i64 E))/\(B=false->C/\Q (.a .i64 A))) (af .i64 A) (Int.sub A 1)) (not (ab 0 (Int.tmod a 12))) (Int.tdiv a 12)) (λ_=>by kernel_rfl) λQ' hQ=>?_;try dsimp only
       obtain⟨k1,k2⟩:=@C4 a 12 (by decide);have tb:=Go.Proofs.YtoghlpcacfnjbaaGreatDoor.tdiv_bd a 12 (by decide) h1.1 h1.2;simp only[az,reduceCtorEq]
       (repeat' first|exact trivial|refine⟨?_,?_⟩|intro)<;>first|omega|refine hQ _ ?_
       . rw[<-k1 (by assumption)]
       . rw[<-k2 (by omega)]
   . cases he
 . unfold Z9 at he;split at he
   . rename_i y;cases he;obtain⟨h1,hv⟩:=bO hv;rw[aE]at h1;simp only[eH,eE]at h1;cases hv;refine jD aW ai (bE 10330008107331142322024220240) (R:=λQ=>(λ(A E G:Bool)(H I:Prop)=>(λ(C:Bool)(B:Prop)=>(λ(F:Prop)=>(A->A/\A/\A/\(C->C/\C/\A/\E=false/\A/\(G->H)/\(G=false->I))/\(F->F/\F/\A/\E/\A/\H))/\(B->B/\B/\B/\B/\B/\I)) (C=false)) (not E) (A=false)) (aa (Int.tmod y 4) 0) (not (aa (Int.tmod y 100) 0)) (aa (Int.tmod y 400) 0) (Q (.a .i64 1)) (Q (.a .i64 0))) (λ_=>by kernel_rfl) λQ' hQ=>?_;try dsimp only
     have z:∀k:Int,y.tmod k=0↔y%k=0:=λk=>by rw[<-Int.dvd_iff_tmod_eq_zero,<-Int.dvd_iff_emod_eq_zero]
     have yes:(y%4=0/\(y%100≠0\/y%400=0))->Q' (.a .i64 1):=λh=>hQ _ (by unfold iE Go.Proofs.YtoghlpcacfnjbaaGreatDoor.lp;rw[if_pos h]);have no:¬(y%4=0/\(y%100≠0\/y%400=0))->Q' (.a .i64 0):=λh=>hQ _ (by unfold iE Go.Proofs.YtoghlpcacfnjbaaGreatDoor.lp;rw[if_neg h]);simp only[az,reduceCtorEq];simp only[z]
     (repeat' first|exact trivial|refine⟨?_,?_⟩|intro)<;>first|omega|(refine yes ?_;omega)|(refine no ?_;omega)
   . cases he
theorem DC:ak Tryz.prog cfg R2:=by
 refine au (au FZ λargs t v he hv=>?_) λargs t v he hv=>?_
 . unfold Z6 at he;split at he
   . rename_i y m;cases he;obtain⟨h1,hv⟩:=bO hv;rw[aE]at h1;simp only[eH,eE]at h1;cases hv;have hl:0<=iE y/\iE y<=1:=Go.Proofs.YtoghlpcacfnjbaaGreatDoor.lp_01 y;refine jD FZ ai (bE 10005231523102311432432432412204) (R:=λQ=>(λ(B C E:Bool)(I:Int)(A:Prop)=>(λ(F G H:Bool)=>(λ(N O P:Prop)=>(aa m 2->af .i64 y/\af .i64 I/\Q (.a .i64 I))/\(aa m 2=false->(F->F/\B=false/\(G->G/\C=false/\(H->H/\E=false/\(aa m 11->A)/\(aa m 11=false->Q (.a .i64 31)))/\(N->N/\E/\A))/\(O->O/\C/\A))/\(P->P/\B/\A))) (H=false) (G=false) (F=false)) (not B) (not C) (not E)) (aa m 4) (aa m 6) (aa m 9) (Int.add 28 (iE y)) (Q (.a .i64 30))) (λ_=>by kernel_rfl) λQ' hQ=>?_;try dsimp only
     have fin:∀n:Int,n=d6 y m->Q' (.a .i64 n):=λn h=>hQ _ (by rw[h]);simp only[az,reduceCtorEq]
     (repeat' first|exact trivial|refine⟨?_,?_⟩|intro)<;>first|omega|(refine fin _ ?_;unfold d6 Go.Proofs.YtoghlpcacfnjbaaGreatDoor.mlen;(repeat' split)<;>first|omega|rfl)
   . cases he
 . unfold s29 at he;split at he
   . rename_i y;cases he;obtain⟨h1,hv⟩:=bO hv;unfold okS at h1;rw[zAa,aq,aq]at h1;cases hv;have hf:dc y 400*400<=y/\y<=dc y 400*400+399:=by unfold dc;omega
     refine jD FZ ai (bE 1220707077020) (R:=λQ=>(λ(B C:Int)=>(λ(A:Int)=>(λ(E F G H:Int)=>(λ(I N O P:Int)=>(λ(T:Int)=>(λ(U:Int)=>(λ(V:Int)=>af .i64 y/\af .i64 B/\af .i64 A/\af .i64 C/\af .i64 E/\af .i64 I/\af .i64 F/\af .i64 N/\af .i64 T/\af .i64 G/\af .i64 O/\af .i64 U/\af .i64 H/\af .i64 P/\af .i64 V/\Q (.a .i64 V)) (Int.add U P)) (Int.sub T O)) (Int.add I N)) (Int.add C E) (Int.tdiv F 4) (Int.tdiv G 100) (Int.tdiv H 400)) (Int.mul 365 A) (Int.add A 3) (Int.add A 99) (Int.add A 399)) (Int.sub y B)) (Int.mul (dc y 400) 400) (Int.mul (dc y 400) 146097)) (λ_=>by kernel_rfl) λQ' hQ=>?_;try dsimp only
     have fin:∀n:Int,n=bf y->Q' (.a .i64 n):=λn h=>hQ _ (by rw[h]);simp only[az,reduceCtorEq];have t1:(y-dc y 400*400+3).tdiv 4=(y-dc y 400*400+3)/4:=Int.tdiv_eq_ediv_of_nonneg (by omega);have t2:(y-dc y 400*400+99).tdiv 100=(y-dc y 400*400+99)/100:=Int.tdiv_eq_ediv_of_nonneg (by omega);have t3:(y-dc y 400*400+399).tdiv 400=(y-dc y 400*400+399)/400:=Int.tdiv_eq_ediv_of_nonneg (by omega);simp only[t1,t2,t3]
     (repeat' first|exact trivial|refine⟨?_,?_⟩|intro)<;>first|omega|(refine fin _ ?_;unfold bf;rw[Go.Proofs.YtoghlpcacfnjbaaGreatDoor.yst_cycles];unfold dc;omega)
   . cases he
end Go.Ev
end
