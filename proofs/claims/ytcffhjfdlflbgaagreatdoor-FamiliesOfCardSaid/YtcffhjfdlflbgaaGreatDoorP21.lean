import Derived.Test.YtcffhjfdlflbgaaGreatDoorP20
set_option linter.all false
open Int renaming ofNat->ν
open HAdd renaming hAdd->ξ
open List renaming getD->ο
open Nat renaming ble->π,beq->ς,not_lt_zero->σ,le_refl->τ,zero_le->υ,add_assoc->χ,reduceAdd->ω,zero_add->Γ,add_zero->Δ
open Option renaming getD_some->Α
open HMul renaming hMul->Β
set_option linter.all false
set_option maxRecDepth 100000
set_option maxHeartbeats 4000000
namespace Go.Ev
open Go Go.Proofs
variable{ng lg:Bool}{s mo da:List UInt8}{n k g a c:Int}{S:aQ}
def mK(ng:Bool)(s:List UInt8)(e k:Int):Prop:=bif ς (eC s 88 88) 0 then k=dY ng s e else match s with|[c0,c1,c2,c3]=>(bif ng then 1<=-k/\nS c0 c1 c2 c3 (-k)else nS c0 c1 c2 c3 k)|_=>False
def LM(M D:List Int)(k:Int):Prop:=∃m,m∈M/\∃d,d∈D/\d<=bP k m
theorem yE{e:Int}:yB ng s e n true->mK ng s e (yV ng s e n true)/\n<=yV ng s e n true/\∀k,mK ng s e k->n<=k->yV ng s e n true<=k:=by
 intro h;unfold yB at h;unfold yV mK;cases hx:ς (eC s 88 88) 0 with
 | true=>
   grind [aq]
 | false=>
   rw[hx,cond_false]at h;simp only[cond_false];split at h
   . rename_i c0 c1 c2 c3;simp only;unfold I2 at h;unfold KM;cases ng with
     | true=>
       simp only[cond_true,zAa,aq]at h ⊢;obtain⟨h1,h2⟩:=h;cases hp:cV c0 c1 c2 c3 (Ao n)with
       | none=>rw[hp]at h1;cases h1
       | some u=>
         rw[hp]at h2;simp only[kp,Α]at h2 ⊢;obtain⟨p1,p2,p3⟩:=fb.1 hp;unfold Ao at p2 p3;rw[kP]at p2 p3;refine⟨⟨by omega,by grind⟩,by omega,λk hk hn=>?_⟩;have:=p3 (-k) hk.2 (by have:=hk.2.2.1;omega);omega
     | false=>
       simp only[zAj]at h ⊢;cases hp:c_ c0 c1 c2 c3 (kh n 0)with
       | none=>rw[hp]at h;cases h
       | some u=>
         simp only[kp,Α];obtain⟨p1,p2,p3⟩:=gF.1 hp;rw[kP]at p2 p3;exact⟨p1,by omega,λk hk hn=>p3 k hk (by have:=hk.1;omega)⟩
   grind
theorem Jj{e:Int}(hs:lP s)(h:yB ng s e n true=false)(hk:mK ng s e k):k<n:=by
 unfold yB at h;unfold mK at hk;cases hx:ς (eC s 88 88) 0 with
 | true=>
   grind [bF]
 | false=>
   rw[hx]at h hk;simp only[cond_false]at h hk;obtain⟨c0,c1,c2,c3,rfl,_⟩:=sV hs hx;simp only at h hk;unfold I2 at h;cases ng with
   | true=>
     simp only[cond_true]at h hk;cases hp:cV c0 c1 c2 c3 (Ao n)with
     | none=>
       have:=nu.1 hp _ hk.2;have hb:=hk.2.2.1;grind [Ao,kP]
     | some u=>
       rw[hp]at h;simp only[za,kp,Option.isSome_some,Α,Bool.true_and]at h;rw[bF]at h;obtain⟨p1,p2,p3⟩:=fb.1 hp;unfold Ao at p3;rw[kP]at p3;by_cases hn:n<=k
       . have:=p3 (-k) hk.2 (by have:=hk.2.2.1;omega);omega
       omega
   | false=>
     simp only[zAj]at h hk;cases hp:c_ c0 c1 c2 c3 (kh n 0)with
     | none=>
       have:=nJ.1 hp _ hk;have:=hk.1;rw[kP]at *;omega
     | some u=>rw[hp]at h;cases h
theorem kJ{p:Int->Bool}{l:List Int}:za (l.find? p)=true↔∃x,x∈l/\p x=true:=by
 grind [za]
theorem xK{y cy cm cd:Int}{M D:List Int}(hy:y≠cy)(hd:ae da []=false):za (ff y cy cm cd mo da M D)=true↔LM M D y:=by
 have he:aa y cy=false:=aw.mpr hy;simp_all [ff,kJ,LM,n8,k_,Ps,gk,abU,kN,aq]
theorem zg{ng lg:Bool}{s:List UInt8}{e g cy cm cd:Int}{mo da:List UInt8}{M D:List Int}(ho:aV ng lg s e g)(hx:lP s)(hd:ae da []=false)(hc:cy < -10000000000000000):∀(t:Nat) (n:Int),MZ (yV ng s e n true) (yB ng s e n true)<=t->
 (mJ (cJ ng s e cy cm cd mo da M D (yV ng s e n true) (yB ng s e n true))=true↔∃k,mK ng s e k/\n<=k/\LM M D k)
 | t,n,ht=>by
   cases hb:yB ng s e n true with
   | false=>
     rw[ii];refine⟨λh=>(by cases h),λh=>?_⟩;obtain⟨k,h1,h2,_⟩:=h;have:=Jj hx hb h1;omega
   | true=>
     obtain⟨p1,p2,p3⟩:=yE hb;have bd:=iP (n:=n) (up:=true) ho;have hne:yV ng s e n true≠cy:=by omega
     cases hf:ff (yV ng s e n true) cy cm cd mo da M D with
     | some m=>
       rw[kK hf];refine⟨λ_=>⟨_,p1,p2,?_⟩,λ_=>rfl⟩;rw[<-xK hne hd,hf];rfl
     | none=>
       rw[kx ho bd.2 hf];have hm:=mC (ng:=ng) (s:=s) (e:=e) bd.2;rw[hb]at ht
       match t,ht with
       | 0,ht=>omega
       | t+1,ht=>
         rw[zg ho hx hd hc t _ (by omega)];refine exists_congr λk=>⟨λ⟨a,b,c⟩=>⟨a,by omega,c⟩,λ⟨a,b,c⟩=>⟨a,?_,c⟩⟩;have:=p3 k a b;by_cases he:k=yV ng s e n true
         . subst he;rw[<-xK hne hd,hf]at c;cases c
         omega
theorem iG{c0 c1:UInt8}{x:Int}:∀{g:Nat},x∈ay c0 c1 g↔(1<=x/\x<=g)/\agr [c0,c1] x=true
 | 0=>by grind [ay]
 | g+1=>by
   rw[aam,List.mem_append,iG (g:=g)];grind
theorem mr(y m:Int):28<=bP y m/\bP y m<=31:=Go.Proofs.YtcffhjfdlflbgaaGreatDoor.mlen_bd y m
theorem ago{m0 m1 d0 d1:UInt8}:LM (ay m0 m1 12) (ay d0 d1 31) k↔∃m,m∈ay m0 m1 12/\ay d0 d1 (bP k m).toNat≠[]:=by
 unfold LM;refine exists_congr λm=>and_congr_right λ_=>?_;have hb:=mr k m;constructor
 . rintro⟨d,hd,hle⟩ hn;have:d∈ay d0 d1 (bP k m).toNat:=iG.2 ⟨⟨(iG.1 hd).1.1,by omega⟩,(iG.1 hd).2⟩;grind
 . intro hn;obtain⟨d,hd⟩:=List.exists_mem_of_ne_nil _ hn;have:=iG.1 hd;exact⟨d,iG.2 ⟨⟨this.1.1,by omega⟩,this.2⟩,by omega⟩
def nT(c1 c2 c3:UInt8):Int:=bif ς c3.toNat 88 then 1 else bif ς c2.toNat 88 then 10 else bif ς c1.toNat 88 then 100 else 1000
def Fd(ng:Bool)(c0 c1 c2 c3:UInt8):Int:=bif ng&&aa (gu c0 c1 c2 c3 48) 0 then nT c1 c2 c3 else gu c0 c1 c2 c3 48
def jR(ng:Bool)(s:List UInt8)(e:Int):Int:=bif ς (eC s 88 88) 0 then dY ng s e else match s with|[c0,c1,c2,c3]=>(bif ng then -(gu c0 c1 c2 c3 57)else Fd ng c0 c1 c2 c3)|_=>0
def s5(ng:Bool)(s:List UInt8)(e:Int):Int:=bif ς (eC s 88 88) 0 then dY ng s e else match s with|[c0,c1,c2,c3]=>(bif ng then -(Fd ng c0 c1 c2 c3)else gu c0 c1 c2 c3 57)|_=>0
theorem Ml{c0 c1 c2 c3:UInt8}(h0:fC c0)(h1:fC c1)(h2:fC c2)(h3:fC c3)(h:nS c0 c1 c2 c3 k):gu c0 c1 c2 c3 48<=k/\k<=gu c0 c1 c2 c3 57/\(gu c0 c1 c2 c3 48=0->1<=k->nT c1 c2 c3<=k):=by
 grind [abJ,gu,nT,lL,mt,gm]
theorem Kx{e:Int}(hx:lP s)(h:mK ng s e k):jR ng s e<=k/\k<=s5 ng s e:=by
 unfold mK at h;unfold jR s5;cases hX:ς (eC s 88 88) 0 with
 | true=>grind
 | false=>
   rw[hX,cond_false]at h;obtain⟨c0,c1,c2,c3,rfl,h0,h1,h2,h3⟩:=sV hx hX;simp only[cond_false]at h ⊢;unfold Fd;cases ng with
   | true=>
     simp only[cond_true,Bool.true_and]at h ⊢;obtain⟨b1,b2,b3⟩:=Ml h0 h1 h2 h3 h.2;cases hz:aa (gu c0 c1 c2 c3 48) 0<;>grind [ao]
   | false=>
     simp_all [Ml]
noncomputable def V3:aQ:=eQ V2 96 (fl 14 [1,1] Oy)
theorem G0:ak Tryz.prog cfg V3:=Mb qY
def Co(s:List UInt8)(g:Nat):List Int:=match s with|[c0,c1]=>ay c0 c1 g|_=>[]
def qK(ng:Bool)(s:List UInt8)(e:Int)(mo da:List UInt8):Bool:=mJ (cJ ng s e (-9223372036854775808) 0 0 mo da (Co mo 12) (Co da 31) (yV ng s e (-9223372036854775808) true) (yB ng s e (-9223372036854775808) true))
def bW(ng lg:Bool)(s:List UInt8)(e g:Int)(mo da:List UInt8)(a b c:Int):Int:=
 bif aa (nH ng lg s e g mo da a b c) 0 then(bif ae da []then 0 else bif qK ng s e mo da then 0 else 8)else nH ng lg s e g mo da a b c
def tx:dP:=λ
 | [.g [.e ng,.e lg,.f s,.a .i64 e,.a .i64 g,.f mo,.f da,.a .u8 a,.a .u8 b,.a .u8 c]]=>some (aH [π s.length 1000,π mo.length 1000,π da.length 1000,af .i64 e,af .i64 g,af .u8 a,af .u8 b,af .u8 c] (.a0 (bW ng lg s e g mo da a b c)))
 | _=>none
theorem GF{c:UInt8}{d:Int}(h:c.toNat=88\/(c.toNat:Int)=48+d)(h0:0<=d)(h1:d<=9):fC c=true:=by
 rw[dD];omega
theorem oi{g:Nat}(hg:g<=99)(h:eW s g):∃c0 c1,s=[c0,c1]/\fC c0/\fC c1/\ay c0 c1 g≠[]:=by
 unfold eW at h;obtain⟨k,hk,ha⟩:=List.any_eq_true.1 h;rw[List.mem_range]at hk
 match s,ha with
 | [c0,c1],ha=>
   have hi:=Gu.1 ha;refine⟨c0,c1,rfl,GF hi.1 (by omega) (by omega),GF hi.2 (by omega) (by omega),λhn=>?_⟩;have:((k:Int)+1)∈ay c0 c1 g:=iG.2 ⟨by omega,ha⟩;grind
 | [],ha=>simp[agr]at ha
 | [_],ha=>simp[agr]at ha
 | _::_::_::_,ha=>simp[agr]at ha
theorem Mr{e:Int}(h:aV ng lg s e g):lP s=true:=by
 unfold aV at h;rw[zAc]at h;unfold lP;by_cases hx:eC s 88 88=0
 . rw[gm hx];rfl
 . rw[ic hx,Bool.false_or];have h4:s.length=4:=by omega
   have hm:=(XB s).2 h.1
   match s,h4,hm with
   | [c0,c1,c2,c3],_,hm=>
     simp only[Go.Proofs.YtcffhjfdlflbgaaGreatDoor.mskB,List.all_cons,List.all_nil,Bool.and_true,zAa,zAc,Go.Proofs.YtcffhjfdlflbgaaGreatDoor.mb]at hm;simp only[zAa,dD];exact⟨of_decide_eq_true hm.1,of_decide_eq_true hm.2.1,of_decide_eq_true hm.2.2.1,of_decide_eq_true hm.2.2.2⟩
theorem dC{e:Int}{b:Int}(h:nH ng lg s e g mo da a b c=0)(hc:0<=errMk a b c (dq mo da)):aV ng lg s e g/\lP s/\¬(0<g/\ae mo []=false)/\(ae mo []=false/\aR mo=0->eW mo 12=true)/\(ae da []=false->ae mo []=false/\aR mo=0/\eW da 31=true):=by
 have hn:=CF mo;grind [nH,oc,Mr]
theorem dE{b:Int}:0<=errMk a b c n:=by grind [errMk]
theorem adC{e:Int}{b:Int}(h:nH ng lg s e g mo da a b c=0)(hd:ae da []=false) :
 ∃m0 m1 d0 d1,mo=[m0,m1]/\da=[d0,d1]/\fC m0/\fC m1/\fC d0/\fC d1/\ay m0 m1 12≠[]/\ay d0 d1 31≠[]/\aR mo=0/\aV ng lg s e g/\lP s/\g=0:=by
 obtain⟨h1,h2,h3,h4,h5⟩:=dC h dE;obtain⟨k1,k2,k3⟩:=h5 hd;obtain⟨m0,m1,rfl,a1,a2,a3⟩:=oi (by decide) (h4 ⟨k1,k2⟩);obtain⟨d0,d1,rfl,b1,b2,b3⟩:=oi (by decide) k3;grind [aV]
theorem oL{M:List Int}:d7 (aI M)=M:=by
 unfold d7 aI;rw[List.map_map];exact List.map_id' M
theorem ow{M:List Int}:(aI M).all (eB .i64)=true:=by
 unfold aI;rw[List.all_map];exact List.all_eq_true.2 λx _=>rfl
theorem pk{c0 c1:UInt8}:jY da (ay c0 c1 12)=true:=by
 grind [jY,iG,okM,aq]
theorem zQ{e:Int}{b:Int}(hs:s.length<=1000)(hmo:mo.length<=1000)(hda:da.length<=1000)(he : -9223372036854775808<=e/\e<=9223372036854775807)(hg : -9223372036854775808<=g/\g<=9223372036854775807)(ha:0<=a/\a<=255)(hb:0<=b/\b<=255)(hc:0<=c/\c<=255) :
 bu Tryz.prog cfg 42 [.g [ng,lg,s,e,g,mo,da,.a .u8 a,.a .u8 b,.a .u8 c]] [] (bW ng lg s e g mo da a b c) []:=by
 unfold bW;cases hE:aa (nH ng lg s e g mo da a b c) 0 with
 | false=>
   refine jD G0 ai (bE 1777006) (R:=λQ=>(λ(A:Int)=>π s.length 1000/\π mo.length 1000/\π da.length 1000/\af .i64 e/\af .i64 g/\af .u8 a/\af .u8 b/\af .u8 c/\not (aa A 0)/\Q A) (nH ng lg s e g mo da a b c)) (λ_=>by rfl) λQ' hQ=>?_;simp_all [az]
 | true=>
   rw[cond_true];cases hd:ae da []with
   | true=>
     refine jD G0 ai (bE 12032277006) (R:=λQ=>π s.length 1000/\π mo.length 1000/\π da.length 1000/\af .i64 e/\af .i64 g/\af .u8 a/\af .u8 b/\af .u8 c/\not (aa (nH ng lg s e g mo da a b c) 0)=false/\ae da []/\Q (.a .i64 0)) (λ_=>by rfl) λQ' hQ=>?_;simp_all [az]
   | false=>
     have hE':=ao.mp hE;obtain⟨m0,m1,d0,d1,rfl,rfl,h0,h1,h2,h3,k1,k2,hse,ho,hx,hg0⟩:=adC hE' hd;have n1:gU (ay m0 m1 12)=false:=by grind [gU]
     have n2:gU (ay d0 d1 31)=false:=by grind [gU]
     refine jD G0 ai (bE 11407022770563002205300225322700200056663227002006) (R:=λQ=>(λ(C:Bool)(G H:List Int)(E F:List UInt8)=>(λ(I N:Nat)=>(λ(O P:Nat)=>(λ(A B:List AV)=>(λ(T:Bool)=>(λ(U:Prop->Prop)=>U (not (aa (nH ng lg s e g E F a b c) 0)=false/\U (not (aa (aR E) 0)=false/\fC m0/\fC m1/\gU G=false/\fC d0/\fC d1/\gU H=false/\and (and true (and (π (ξ 0 O) (List.length (aI G))) (bc 14 A))) (and (π (ξ 0 P) (List.length (aI H))) (bc 14 B))/\List.all A (eB .i64)/\List.all B (eB .i64)/\ς A.length I/\ς B.length N/\π I 1000/\π N 1000/\jY F (d7 A)/\aV ng lg s e g/\C/\lP s/\(T->Q (.a .i64 8))/\(T=false->Q (.a .i64 0))))) (λu0=>C/\af .i64 e/\af .i64 g/\af .u8 a/\af .u8 b/\af .u8 c/\u0)) (not (mJ (cJ ng s e (Neg.neg 9223372036854775808) 0 0 E F (d7 A) (d7 B) (yV ng s e (Neg.neg 9223372036854775808) true) (yB ng s e (Neg.neg 9223372036854775808) true))))) (b_ (aI G) 0 O) (b_ (aI H) 0 P)) (Β I 1) (Β N 1)) (dG G) (dG H)) (π s.length 1000) (ay m0 m1 12) (ay d0 d1 31) [m0,m1] [d0,d1]) (λ_=>by kernel_rfl) λQ' hQ=>?_;try dsimp only
     rw[cond_false]at hQ;have w1:b_ (aI (ay m0 m1 12)) 0 (dG (ay m0 m1 12)*1)=aI (ay m0 m1 12):=qz;have w2:b_ (aI (ay d0 d1 31)) 0 (dG (ay d0 d1 31)*1)=aI (ay d0 d1 31):=qz;have l1:dG (ay m0 m1 12)=(ay m0 m1 12).length:=rfl;have l2:dG (ay d0 d1 31)=(ay d0 d1 31).length:=rfl;have z1:=eV m0 m1 12;have z2:=eV d0 d1 31;have hF:qK ng s e [m0,m1] [d0,d1]=mJ (cJ ng s e (-9223372036854775808) 0 0 [m0,m1] [d0,d1] (ay m0 m1 12) (ay d0 d1 31) (yV ng s e (-9223372036854775808) true) (yB ng s e (-9223372036854775808) true)):=rfl;rw[hF]at hQ;have aM:jY [d0,d1] (ay m0 m1 12)=true:=pk;have aX:∀M:List Int,π (0+M.length*1) M.length=true:=λM=>by simp
     simp only[l1,l2,@qz,oL,ow,cY,cz,aM,aX,Bool.and_true,Bool.true_and];generalize mJ (cJ ng s e (-9223372036854775808) 0 0 [m0,m1] [d0,d1] (ay m0 m1 12) (ay d0 d1 31) (yV ng s e (-9223372036854775808) true) (yB ng s e (-9223372036854775808) true))=r at *;rw[ao]at hE;clear hF aM w1 w2 hE';generalize nH ng lg s e g [m0,m1] [d0,d1] a b c=er at *;generalize aR [m0,m1]=se at *;generalize ay m0 m1 12=M at *;generalize ay d0 d1 31=D at *;have h8:r=false->Q' (.a .i64 8):=λh=>hQ _ (by rw[h];rfl);have h9:r->Q' (.a .i64 0):=λh=>hQ _ (by rw[h];rfl);clear hQ;simp only[az,reduceCtorEq]
     (repeat' first|exact trivial|refine⟨?_,?_⟩|intro)<;>first|contradiction|omega|assumption|(exact h8 (by assumption))|(exact h9 (by assumption))
theorem G9(hS:ak Tryz.prog cfg S):ak Tryz.prog cfg (d5 S 42 tx):=au hS λargs t v he hv=>by
 unfold tx at he;split at he
 . cases he;obtain⟨⟨h1,h2,h3,h4,h5,h6,h7,h8,-⟩,hv⟩:=aF hv;rw[al]at h1 h2 h3;rw[aE]at h4 h5 h6 h7 h8;simp only[eH,eE]at h4 h5 h6 h7 h8;cases hv;grind [zQ]
 grind
theorem gA{b d:Int}:bA a b c d=0↔(a=0\/a = -1/\b=0)/\(c=0\/c=1/\d=0)/\(a<c\/a=c/\b<=d):=by
 have h1:=xF a b c d;grind [bA,cw]
theorem aik{b d e f h:Int}(hq:bA a b c d=0)(hr:bA e f g h=0)(hd:d<=9223372036854775807)(hh:h<=9223372036854775807) :
 (0<In a b c d e f g h\/vz a b c d e f g h=true)↔(0<=gc c d e f\/ada a b c d e f g h=true):=by
 have k1:=gA.1 hq;have k2:=gA.1 hr;have c1:=xF a b e f;have c2:=xF c d g h;have c3:=xF e f a b;have c4:=xF c d e f;have c5:=xF e f c d;have c6:=xF a b g h;have t1:=@Hr c d;have t2:=@Hr g h;have e1:cw c d=0:=t1.2 (by grind);have e2:cw g h=0:=t2.2 (by grind);have hR:0<In a b c d e f g h↔(e<a\/a=e/\f<b)\/(a=e/\b=f)/\(g<c\/c=g/\h<d):=by
  clear c3 c4 c5 c6 t1 t2 e1 e2 hq hr k1 k2;unfold In;split<;>omega
 have l3:gc e f a b<0↔(e<a\/e=a/\f<b):=by clear c1 c2 c4 c5 c6 t1 t2 e1 e2 hq hr k1 k2 hR;omega
 have l3':0<=gc e f a b↔¬(e<a\/e=a/\f<b):=by rw[<-l3];omega
 have l4:0<=gc c d e f↔(e<c\/e=c/\f<=d):=by clear c1 c2 c3 c5 c6 t1 t2 e1 e2 hq hr k1 k2 hR l3 l3';omega
 have l5:gc e f c d<=0↔(e<c\/e=c/\f<=d):=by clear c1 c2 c3 c4 c6 t1 t2 e1 e2 hq hr k1 k2 hR l3 l3' l4;omega
 have l6:gc a b g h<=0↔(a<g\/a=g/\b<=h):=by clear c1 c2 c3 c4 c5 t1 t2 e1 e2 hq hr k1 k2 hR l3 l3' l4 l5;omega
 rw[hR];simp only[vz,ada,aat,abv,cP,s6,zAc,hq,hr,e1,e2,true_and,l3,l3',l4,l5,l6];clear hq hr hR t1 t2 e1 e2 l3 l3' l4 l5 l6 c1 c2 c3 c4 c5 c6;obtain⟨ha,hc,hac⟩:=k1;obtain⟨he,hg,heg⟩:=k2;rcases ha with rfl|⟨rfl,rfl⟩<;>rcases hc with rfl|⟨rfl,rfl⟩<;>rcases he with rfl|⟨rfl,rfl⟩<;>rcases hg with rfl|⟨rfl,rfl⟩<;>simp(config:={ decide:=true }) only[true_and,and_true,false_and,and_false,true_or,or_true,false_or,or_false,ne_eq,not_true_eq_false,not_false_eq_true,iff_true,true_iff,iff_false,false_iff]at hac heg ⊢<;>omega
def S8:aQ:=pX S7 99 aiv
theorem I4:ak Tryz.prog cfg S8:=eG vQ af3
structure Rn where
 a:Int
 b:Int
 c:Int
 d:Int
def fo:Rn:=⟨0,0,0,0⟩
def bh:List Rn->List AV
 | []=>[]
 | r::rs=>.a .i8 r.a::r.b::.a .i8 r.c::r.d::bh rs
def tC(f:Nat->Int):Nat->Nat->Int
 | _,0=>0
 | i,n+1=>if f i=0 then tC f (i+1) n else f i
def LO(q r:Rn)(i:Nat):Int:=if bA r.a r.b r.c r.d=0 then(if 0<i/\(0<In q.a q.b q.c q.d r.a r.b r.c r.d\/vz q.a q.b q.c q.d r.a r.b r.c r.d=true)then 12 else 0)else bA r.a r.b r.c r.d
def ahv(q r:Rn)(i:Nat):Int:=if bA r.a r.b r.c r.d=0 then(if 0<i/\(0<=gc q.c q.d r.a r.b\/ada q.a q.b q.c q.d r.a r.b r.c r.d=true)then 12 else 0)else bA r.a r.b r.c r.d
def qn(R:List Rn)(i:Nat):Int:=LO (R.getD (i-1) fo) (R.getD i fo) i
def abz(R:List Rn)(i:Nat):Int:=ahv (R.getD (i-1) fo) (R.getD i fo) i
def jo(R:List Rn):Int:=tC (qn R) 0 R.length
def abH(R:List Rn):Int:=tC (abz R) 0 R.length
def Yq(R:List Rn):dW:=λ
 | [.b 14 0 n k,.a .i64 z,.b 14 0 n' k',.a .i64 n'',.a .i64 i],⟨0,[],[]⟩=>some (aH [π n 1000,ς R.length n,ς n' n,aa n'' (ν n),aa i 0,aa z 0] (.d0 (aa (jo R) 0) λb=>bif b then .a0 (.b 0,[.b 14 0 n k,.a .i64 0,.b 14 0 n' k',n'',n''],dO)else .f0 λJ=>.a0 (.c,[.b 14 0 n k,(jo R),.b 14 0 n' k',n'',.j (J 0)],dO)))
 | _,_=>none
def CW(R:List Rn):dW:=λ
 | [.b 14 0 n k,.a .i64 z,.a .i64 i],⟨0,[],[]⟩=>some (aH [π n 1000,ς R.length n,aa i 0,aa z 0] (.d0 (aa (abH R) 0) λb=>bif b then .a0 (.b 0,[.b 14 0 n k,.a .i64 0,(ν n)],dO)else .f0 λJ=>.a0 (.c,[.b 14 0 n k,(abH R),.j (J 0)],dO)))
 | _,_=>none
def L_(R:List Rn):cx:=iz jE 0 (d9 43 [0,2,9,10,11] (Yq R))
def Mf(R:List Rn):cx:=iz jE 0 (d9 51 [0,2,3] (CW R))
theorem VW.e0{C:bg}{kb tn:Nat}{rel:List Nat}{vs vs' vs'':List AV}{o o' o'':aB}(h1:VW cfg C kb tn rel vs o vs' o')(h2:VW cfg C kb tn rel vs' o' vs'' o''):VW cfg C kb tn rel vs o vs'' o'':=λJ=>(h1 J).c0 λs ⟨J',e⟩=>by rw[e];exact h2 J'
theorem GN{ws:List cD}{tn:Nat}{rel:List Nat}{vs vs':List AV}{o:aB}(hw:∀x∈ws,cR 14 x)(hle:o.le=[])(hvs:yw (kG (14+ws.length+0) [] 20) vs=some vs'):VW cfg (Cw cfg ws) 0 tn rel vs o vs' dO:=
 VW.d0 dI.lv (C:=Cw cfg ws) (kb:=0) (sel:=[]) (B6 hw) (υ _) (λs hs=>by grind) List.nodup_nil (λp hp=>by grind) hle.symm rfl rfl (λi hi=>absurd hi (σ i)) (λt ht=>absurd ht (σ t)) hvs
theorem As{f:Nat->Int}:∀{n i k:Nat},(∀j,i<=j->j<k->f j=0)->i<=k->k<i+n->f k≠0->tC f i n=f k
 | 0,i,k,_,h1,h2,_=>by omega
 | n+1,i,k,h,h1,h2,h3=>by
   rw[tC];by_cases e:i=k
   . grind
   . rw[if_pos (h i (τ _) (by omega))];exact As (λj hj hk=>h j (by omega) hk) (by omega) (by omega) h3
theorem xm{f:Nat->Int}:∀{n i:Nat},(∀j,i<=j->j<i+n->f j=0)->tC f i n=0
 | 0,_,_=>rfl
 | n+1,i,h=>by
   rw[tC,if_pos (h i (τ _) (by omega))];exact xm λj hj hk=>h j (by omega) (by omega)
theorem adG{f g:Nat->Int}:∀{n i:Nat},(∀j,i<=j->j<i+n->(∀k,i<=k->k<j->f k=0)->f j=g j)->tC f i n=tC g i n
 | 0,_,_=>rfl
 | n+1,i,h=>by
   have h0:=h i (τ _) (by omega) (λk hk hj=>by omega);rw[tC,tC,<-h0];by_cases e:f i=0
   . rw[if_pos e,if_pos e];exact adG λj hj hk hz=>h j (by omega) (by omega) λk h1 h2=>by
      grind
   omega
theorem o5{r:Rn}{rs:List Rn}{n:Nat}{v:AV}:(bh (r::rs)).getD (n+4) v=(bh rs).getD n v:=rfl
theorem wH{R:List Rn}{i:Nat}(h:i<R.length):(bh R).getD (i*4) (.c [])=.a .i8 (R.getD i fo).a/\(bh R).getD (i*4+1) (.c [])=.a .i64 (R.getD i fo).b/\(bh R).getD (i*4+2) (.c [])=.a .i8 (R.getD i fo).c/\(bh R).getD (i*4+3) (.c [])=.a .i64 (R.getD i fo).d:=by
 induction R generalizing i with
 | nil=>grind
 | cons r rs ih=>
   cases i with
   | zero=>exact⟨rfl,rfl,rfl,rfl⟩
   | succ i=>
     grind [o5]
theorem Q1{j:Nat}:Int.toNat (Int.sub (ν (j+1)) 1)=j:=by
 grind
theorem sR:∀{R:List Rn},bw (bh R)=[]
 | []=>rfl
 | r::rs=>by simp only[bh,bw,aC,List.nil_append];exact sR
theorem jz{R:List Rn}:∀x∈[cD.a (bh R) false none],cR 14 x:=λx hx=>by
 simp only[List.mem_singleton]at hx;subst hx;refine⟨rfl,λi hi=>?_⟩;grind [HL,sR]
theorem ZM{R:List Rn}(hR:∀i,i<R.length->IJ (R.getD i fo).d):cu Tryz.prog (cH cfg S8) (Cw cfg [.a (bh R) false none]) (lb 41 0) 43 [0,2,9,10,11] (Yq R):=by
 have hw:=@jz R;intro vs o t Q hv hq J;unfold Yq at hv;split at hv
 . rename_i n k z n' k' n'' i;cases hv;replace hq:=cO hq;obtain⟨⟨h1,h2,h3,h4,h5,h6,-⟩,hq⟩:=hq;rw[al]at h1;rw[aJ]at h2 h3;rw[ao]at h4 h5 h6;subst h2 h3 h4 h5 h6;simp only[aH,Tr.wp]at hq;refine ia I4 rfl rfl ai (ι:={i:Nat // i<=R.length/\∀j,j<i->qn R j=0}) (λx=>[.b 14 0 R.length k,.a .i64 0,.b 14 0 R.length k',(ν R.length),(ν x.1)]) (λ_=>dO) (λx=>R.length-x.1) 0 (λ_=>τ _) (λx J=>?_) (τ _) (λJ=>Wk.a0 ⟨⟨0,υ _,λj hj=>absurd hj (σ j)⟩,J,rfl⟩) J;obtain⟨i,hi,hz⟩:=x;dsimp only;refine jJ (bE 1120330005338810788121423275777747577774140522704) (R:=λQ=>(λ(C I N u2:AV)(G u0:Int)(u1:Nat)=>(λ(O V u4:AV)(A u3:Bool)(W u6:Int)(u5:Nat)=>(λ(u7:AV)(u9:Bool)(P:Int)(u8 ua:Nat)(B:Prop)=>(λ(ub uc:AV)(T:Int)(ud:Nat)=>(λ(ue:AV)(H U:Int)(uf:Nat)=>(λ(ui:AV)(uh:Bool)(ug:Int)(uj:Nat)(uk ul:Prop)=>(λ(uo up:AV)(um un:Bool)=>(λ(uq ur:Bool)(Y:Int)=>(λ(Z us:Bool)=>(λ(E:Bool)=>(λ(F:Prop)=>(λ(ut:Prop->Prop)=>(u3->aS i R.length/\eB .i8 u4/\eB .i64 u7/\eB .i8 ub/\eB .i64 uc/\(um->Q (.c,[I,ug,N,O,V],⟨1,[.a [.a .i8 P,T,.a .i8 U,H] true none],[]⟩))/\(um=false->(A->A/\A/\u9/\A/\ut (A/\uh/\un/\uq/\ur/\A/\A/\A/\A/\(E->E/\E/\u9/\E/\ut (E/\uh/\un/\uq/\ur/\E/\E/\af .i64 Y/\af .i64 H/\A/\Z=false/\A/\(us->uk)/\(us=false->ul)))/\(F->F/\F/\F/\F/\F/\F/\A/\Z/\A/\uk)))/\(B->B/\B/\B/\B/\B/\B/\B/\B/\B/\B/\ul)))/\(u3=false->Q (.b 0,[I,u2,N,O,V],⟨0,[],[]⟩))) (λuu=>ab 0 W/\aS ua R.length/\uu)) (E=false)) (not Z)) (not (ab (In (dx ue) (dx ui) (dx uo) Y P T U H) 0)) (vz (dx ue) (dx ui) (dx uo) Y P T U H)) (eB .i8 uo) (eB .i64 up) (dx up)) (ο (bh R) uj C) (ο (bh R) (ξ uj 1) C) (not (aa ug 0)) (eB .i64 ui)) (ο (bh R) uf C) (eB .i8 ue) (bA P T U H) (ξ uf 1) (Q (.c,[I,.a .i64 12,N,O,V],⟨1,[.a [.a .i8 P,T,.a .i8 U,H] true none],[]⟩)) (af .i64 u6/\Q (.a,[I,u2,N,O,u6],⟨1,[.a [.a .i8 P,T,.a .i8 U,H] true none],[]⟩))) (ο (bh R) ud C) (dx uc) (dx ub) (ξ ud 1)) (ο (bh R) u8 C) (ο (bh R) (ξ u8 1) C) (dx u7) (ξ 0 (Β ua 4))) (ο (bh R) u5 C) (af .i64 W) (dx u4) (ξ u5 1) W.toNat (A=false)) u0 G (ο (bh R) u1 C) (not (ab G 0)) (not (ab u0 G)) (Int.sub G 1) (Int.add G 1) (ξ u1 1)) (.c []) (.b 14 0 R.length k) (.b 14 0 R.length k') (.a .i64 0) (ν i) (ν R.length) (ξ 0 (Β i 4))) (λ_=>by rfl) λQ' hQ=>?_;try dsimp only
   have yes:i<R.length->∀e,qn R i=e->e≠0->∀J:Nat->Value,Q (.c,[.b 14 0 R.length k,e,.b 14 0 R.length k',(ν R.length),.j (J 0)],dO):=λhlt e he hne J2=>by
    have hc:jo R=e:=he▸As (λj _ hj=>hz j hj) (υ _) (by omega) (he.symm▸hne);rw[hc,aw.mpr hne]at hq;exact hq J2
   have no:i=R.length->Q (.b 0,[.b 14 0 R.length k,.a .i64 0,.b 14 0 R.length k',(ν R.length),(ν R.length)],dO):=λhe=>by
    subst he;have hc:jo R=0:=xm λj _ hj=>hz j (by omega);rw[hc]at hq;exact hq
   have next:qn R i=0->∀j,j<i+1->qn R j=0:=λh j hj=>by
    grind
   clear hq;by_cases hlt:i<R.length
   . obtain⟨f1,f2,f3,f4⟩:=wH hlt;have b1:=hR i hlt;have ret:∀(e:Int) (o:aB),o.le=[]->qn R i=e->e≠0->∃vs2 o2,VW cfg (Cw cfg [.a (bh R) false none]) 0 43 [0,2,9,10,11] [.b 14 0 R.length k,e,.b 14 0 R.length k',(ν R.length),(ν i)] o vs2 o2/\Q (.c,vs2,o2):=λe o ho he hne=>
      ⟨_,_,(GN hw ho rfl).e0 (VW.c0 (.same (.same (.same (.same (.int .nil))))) rfl),yes hlt e he hne (jv [_])⟩
     have go:∀(o:aB),o.le=[]->qn R i=0->∃y:{i:Nat // i<=R.length/\∀j,j<i->qn R j=0},R.length-y.1<R.length-i/\VW cfg (Cw cfg [.a (bh R) false none]) 0 43 [0,2,9,10,11] [.b 14 0 R.length k,.a .i64 0,.b 14 0 R.length k',(ν R.length),(Int.add (ν i) 1)] o [.b 14 0 R.length k,.a .i64 0,.b 14 0 R.length k',(ν R.length),(ν y.1)] dO:=λo ho h0=>
      ⟨⟨i+1,by omega,next h0⟩,by dsimp only;omega,GN hw ho rfl⟩
     have hE:qn R i=LO (R.getD (i-1) fo) (R.getD i fo) i:=rfl;rw[hE]at ret go;clear yes no next hz hE;cases i with
     | zero=>
       clear hR;simp only[χ,ω,Γ,Δ,f1,f2,f3,f4,eB,dx,zb,abw]at *;generalize R.getD 0 fo=r at *;unfold LO at ret go;simp only[az,reduceCtorEq]
       (repeat' first|exact trivial|refine⟨?_,?_⟩|intro)<;>first|contradiction|omega|assumption|refine hQ _ ?_
       . exact ret _ _ rfl (by rw[if_neg (by assumption)]) (by assumption)
       . exact go _ rfl (by rw[if_pos (by assumption),if_neg (by omega)])
     | succ j=>
       obtain⟨g1,g2,g3,g4⟩:=wH (R:=R) (i:=j) (by omega);have b2:=hR j (by omega);clear hR;rw[show j+1-1=j by omega]at ret go;simp only[Q1,χ,ω,Γ,Δ,f1,f2,f3,f4,g1,g2,g3,g4,eB,dx,zb,abw]at *;generalize R.getD (j+1) fo=r at *;generalize R.getD j fo=q at *;unfold LO at ret go;unfold IJ at b1 b2;simp only[az,reduceCtorEq]
       (repeat' first|exact trivial|refine⟨?_,?_⟩|intro)<;>first|contradiction|omega|assumption|refine hQ _ ?_
       all_goals first
        | exact ret _ _ rfl (by rw[if_neg (by assumption)]) (by assumption)
        | exact ret 12 _ rfl (by rw[if_pos (by assumption),if_pos ⟨by omega,.inl (by assumption)⟩]) (by decide)
        | exact ret 12 _ rfl (by rw[if_pos (by assumption),if_pos ⟨by omega,.inr (by assumption)⟩]) (by decide)
        | exact go _ rfl (by rw[if_pos (by assumption),if_neg (by rintro⟨_,h|h⟩<;>simp_all<;>omega)])
   . obtain rfl:i=R.length:=by omega
     have no:=no rfl;simp only[az,reduceCtorEq]
     (repeat' first|exact trivial|refine⟨?_,?_⟩|intro)<;>first|contradiction|omega|assumption|(refine hQ _ ?_;exact⟨_,_,VW.a0,no⟩)
 . cases hv
theorem aoz{R:List Rn}(hR:∀i,i<R.length->IJ (R.getD i fo).d):cu Tryz.prog (cH cfg S8) (Cw cfg [.a (bh R) false none]) (lb 45 0) 51 [0,2,3] (CW R):=by
 have hw:=@jz R;intro vs o t Q hv hq J;unfold CW at hv;split at hv
 . rename_i n k z i;cases hv;replace hq:=cO hq;obtain⟨⟨h1,h2,h3,h4,-⟩,hq⟩:=hq;rw[al]at h1;rw[aJ]at h2;rw[ao]at h3 h4;subst h2 h3 h4;simp only[aH,Tr.wp]at hq;refine ia I4 rfl rfl ai (ι:={i:Nat // i<=R.length/\∀j,j<i->abz R j=0}) (λx=>[.b 14 0 R.length k,.a .i64 0,(ν x.1)]) (λ_=>dO) (λx=>R.length-x.1) 0 (λ_=>τ _) (λx J=>?_) (τ _) (λJ=>Wk.a0 ⟨⟨0,υ _,λj hj=>absurd hj (σ j)⟩,J,rfl⟩) J;obtain⟨i,hi,hz⟩:=x;dsimp only;refine jJ (bE 1120330638888107888121423277702277774227702777741422704) (R:=λQ=>(λ(C H W:AV)(I:Bool)(G:Int)(N:Nat)=>(λ(O Z:AV)(A Y:Bool)(P u2:Int)(u0 u1:Nat)=>(λ(u4 u8 u9:AV)(u3 u6:Bool)(u5 u7:Nat)(B ua ub:Prop)=>(λ(ud ue:AV)(uc:Bool)(T:Nat)=>(λ(ui:AV)(uf ug:Bool)(U:Int)(uh uj:Nat)=>(λ(ul um un:AV)(uk:Int)(uo:Nat)=>(λ(uq ur:AV)(V up:Bool)=>(λ(E us:Bool)=>(λ(F:Prop)=>(λ(ut:Prop->Prop)=>(Y->I/\u3/\uc/\uf/\ug/\(up->Q (.c,[H,uk,O],⟨0,[],[]⟩))/\(up=false->(A->A/\A/\u6/\A/\ut (A/\A/\eB .i8 ul/\eB .i64 um/\A/\A/\A/\I/\A/\A/\eB .i8 u8/\eB .i64 u9/\A/\A/\A/\(E->E/\E/\u6/\E/\ut (E/\eB .i8 ui/\eB .i64 un/\eB .i8 uq/\eB .i64 ur/\E/\E/\E/\I/\E/\u3/\uc/\uf/\ug/\E/\af .i64 (dx ur)/\af .i64 U/\A/\V=false/\A/\(us->ua)/\(us=false->ub)))/\(F->F/\F/\F/\F/\F/\F/\F/\F/\F/\A/\V/\A/\ua)))/\(B->B/\B/\B/\B/\B/\B/\B/\B/\B/\B/\B/\B/\B/\B/\B/\ub)))/\(Y=false->Q (.b 0,[H,W,O],⟨0,[],[]⟩))) (λuu=>ab 0 P/\aS u7 R.length/\uu)) (E=false)) (not V) (ada (dx ui) (dx un) (dx uq) (dx ur) (dx Z) (dx u4) (dx ud) U)) (ο (bh R) uo C) (ο (bh R) (ξ uo 1) C) (ab 0 (gc (dx ul) (dx um) (dx u8) (dx u9))) (not (aa uk 0))) (ο (bh R) uh C) (ο (bh R) (ξ uh 1) C) (ο (bh R) uj C) (bA (dx Z) (dx u4) (dx ud) U) (ξ uj 1)) (ο (bh R) T C) (eB .i8 ud) (eB .i64 ue) (dx ue) (ξ T 2) (ξ T 1)) (ο (bh R) u5 C) (ο (bh R) (ξ u5 1) C) (eB .i64 u4) (ξ 0 (Β u7 4))) (ο (bh R) u0 C) (ο (bh R) u1 C) (ο (bh R) (ξ u1 1) C) (eB .i8 Z) (af .i64 P) (ξ u0 1) P.toNat (A=false) (Q (.c,[H,.a .i64 12,O],⟨0,[],[]⟩)) (af .i64 u2/\Q (.a,[H,W,u2],⟨0,[],[]⟩))) G (ο (bh R) N C) (not (ab G 0)) (not (ab (ν R.length) G)) (Int.sub G 1) (Int.add G 1) (ξ N 1) (ξ N 0)) (.c []) (.b 14 0 R.length k) (.a .i64 0) (aS i R.length) (ν i) (ξ 0 (Β i 4))) (λ_=>by rfl) λQ' hQ=>?_;try dsimp only
   have yes:i<R.length->∀e,abz R i=e->e≠0->∀J:Nat->Value,Q (.c,[.b 14 0 R.length k,e,.j (J 0)],dO):=λhlt e he hne J2=>by
    have hc:abH R=e:=he▸As (λj _ hj=>hz j hj) (υ _) (by omega) (he.symm▸hne);rw[hc,aw.mpr hne]at hq;exact hq J2
   have no:i=R.length->Q (.b 0,[.b 14 0 R.length k,.a .i64 0,(ν R.length)],dO):=λhe=>by
    subst he;have hc:abH R=0:=xm λj _ hj=>hz j (by omega);rw[hc]at hq;exact hq
   have next:abz R i=0->∀j,j<i+1->abz R j=0:=λh j hj=>by
    grind
   clear hq;by_cases hlt:i<R.length
   . obtain⟨f1,f2,f3,f4⟩:=wH hlt;have b1:=hR i hlt;have ret:∀(e:Int) (o:aB),o.le=[]->abz R i=e->e≠0->∃vs2 o2,VW cfg (Cw cfg [.a (bh R) false none]) 0 51 [0,2,3] [.b 14 0 R.length k,e,(ν i)] o vs2 o2/\Q (.c,vs2,o2):=λe o ho he hne=>
      ⟨_,_,(GN hw ho rfl).e0 (VW.c0 (.same (.same (.int .nil))) rfl),yes hlt e he hne (jv [_])⟩
     have go:∀(o:aB),o.le=[]->abz R i=0->∃y:{i:Nat // i<=R.length/\∀j,j<i->abz R j=0},R.length-y.1<R.length-i/\VW cfg (Cw cfg [.a (bh R) false none]) 0 51 [0,2,3] [.b 14 0 R.length k,.a .i64 0,(Int.add (ν i) 1)] o [.b 14 0 R.length k,.a .i64 0,(ν y.1)] dO:=λo ho h0=>
      ⟨⟨i+1,by omega,next h0⟩,by dsimp only;omega,GN hw ho rfl⟩
     have hE:abz R i=ahv (R.getD (i-1) fo) (R.getD i fo) i:=rfl;rw[hE]at ret go;clear yes no next hz hE;cases i with
     | zero=>
       clear hR;simp only[χ,ω,Γ,Δ,f1,f2,f3,f4,eB,dx,zb,abw]at *;generalize R.getD 0 fo=r at *;unfold ahv at ret go;simp only[az,reduceCtorEq]
       (repeat' first|exact trivial|refine⟨?_,?_⟩|intro)<;>first|contradiction|omega|assumption|refine hQ _ ?_
       . exact ret _ _ rfl (by rw[if_neg (by assumption)]) (by assumption)
       . exact go _ rfl (by rw[if_pos (by assumption),if_neg (by omega)])
     | succ j=>
       obtain⟨g1,g2,g3,g4⟩:=wH (R:=R) (i:=j) (by omega);have b2:=hR j (by omega);clear hR;rw[show j+1-1=j by omega]at ret go;simp only[Q1,χ,ω,Γ,Δ,f1,f2,f3,f4,g1,g2,g3,g4,eB,dx,zb,abw]at *;generalize R.getD (j+1) fo=r at *;generalize R.getD j fo=q at *;unfold ahv at ret go;unfold IJ at b1 b2;simp only[az,reduceCtorEq]
       (repeat' first|exact trivial|refine⟨?_,?_⟩|intro)<;>first|contradiction|omega|assumption|refine hQ _ ?_
       all_goals first
        | exact ret _ _ rfl (by rw[if_neg (by assumption)]) (by assumption)
        | exact ret 12 _ rfl (by rw[if_pos (by assumption),if_pos ⟨by omega,.inl (by assumption)⟩]) (by decide)
        | exact ret 12 _ rfl (by rw[if_pos (by assumption),if_pos ⟨by omega,.inr (by assumption)⟩]) (by decide)
        | exact go _ rfl (by rw[if_pos (by assumption),if_neg (by rintro⟨_,h|h⟩<;>simp_all<;>omega)])
   . obtain rfl:i=R.length:=by omega
     have no:=no rfl;simp only[az,reduceCtorEq]
     (repeat' first|exact trivial|refine⟨?_,?_⟩|intro)<;>first|contradiction|omega|assumption|(refine hQ _ ?_;exact⟨_,_,VW.a0,no⟩)
 . cases hv
def g8:List AV->List Rn
 | .a .i8 a::.a .i64 b::.a .i8 c::.a .i64 d::r=>⟨a,b,c,d⟩::g8 r
 | _=>[]
def eJ:List AV->Bool
 | []=>true
 | .a .i8 _::.a .i64 b::.a .i8 _::.a .i64 d::r=>af .i64 b&&(af .i64 d&&eJ r)
 | _=>false
theorem hZ:∀{w:List AV},eJ w->bh (g8 w)=w
 | [],_=>rfl
 | .a .i8 a::.a .i64 b::.a .i8 c::.a .i64 d::r,h=>by
   simp only[eJ,zAa]at h;simp only[g8,bh,hZ h.2.2]
theorem Hk:∀{w:List AV},eJ w->∀i,i<(g8 w).length->IJ ((g8 w).getD i fo).d
 | [],_,i,hi=>absurd hi (σ _)
 | .a .i8 a::.a .i64 b::.a .i8 c::.a .i64 d::r,h,i,hi=>by
   simp only[eJ,zAa,aE,eH,eE]at h;cases i with
   | zero=>exact h.2.1
   | succ i=>exact Hk h.2.2 i (by grind [g8])
theorem ai3{R:List Rn}(hR:∀i,i<R.length->IJ (R.getD i fo).d):jo R=abH R:=by
 unfold jo abH;refine adG λj _ hj hz=>?_;unfold qn abz LO ahv;by_cases h:bA (R.getD j fo).a (R.getD j fo).b (R.getD j fo).c (R.getD j fo).d=0
 . rw[if_pos h,if_pos h];cases j with
   | zero=>rw[if_neg (by omega),if_neg (by omega)]
   | succ j=>
     have hp:=hz j (υ _) (by omega);have hq:bA (R.getD j fo).a (R.getD j fo).b (R.getD j fo).c (R.getD j fo).d=0:=by
      unfold qn LO at hp;by_cases e:bA (R.getD j fo).a (R.getD j fo).b (R.getD j fo).c (R.getD j fo).d=0
      . exact e
      . rw[if_neg e]at hp;exact absurd hp e
     have:=aik hq h (hR j (by omega)).2 (hR (j+1) (by omega)).2;simp only[show j+1-1=j by omega,this]
 . rw[if_neg h,if_neg h]
theorem Rt:ec eS 41=some (dH 41,aL 41):=by rfl
theorem OH:(bz (aL 41)).map (·.1)=[0]:=by rfl
theorem IW{R:List Rn}{k:fg}(hR:∀i,i<R.length->IJ (R.getD i fo).d)(hn:R.length<=1000):bu Tryz.prog cfg 41 [.b 14 0 R.length k] [.a (bh R) false none] (jo R) []:=by
 refine P0 I4 (L:=L_ R) jz Rt (by simp) (dv OH λi hi e he st Q hw=>?_) (jJ (bE 11400273) (R:=λQ=>(λ(B:Bool)(A:Int)=>not (ab A 4096)=false/\π R.length 1000/\ς R.length R.length/\ς R.length R.length/\aa A A/\(B->(∀J1:Nat->Value,Q (.a .i64 0)))/\(B=false->(∀J1 J2:Nat->Value,Q (jo R)))) (aa (jo R) 0) (ν R.length)) (λ_=>by rfl) λQ' hQ=>?_) (by rfl)
 . have hi:i=0:=by grind
   subst hi;cases he;exact bR (cC.a0 I4) (by decide) rfl (ZM hR) hw
 . have h0:jo R=0->Q' (.a .i64 0):=λh=>hQ _ (by rw[h]);simp_all [az];omega
def YK:aav:=λ
 | [.b 14 0 n k],[.a w false none]=>some (aH [eJ w,ς (g8 w).length n,π n 1000] (.a0 ((jo (g8 w)),[])))
 | _,_=>none
theorem UQ(hS:ak Tryz.prog cfg S):ak Tryz.prog cfg (eQ S 41 (fl 14 [4] YK)):=by
 refine bm hS (fW dI.lv Az λargs ws t r he hr=>?_);unfold YK at he;split at he
 . rename_i n k w;cases he;replace hr:=aF hr;obtain⟨⟨h1,h2,h3,-⟩,hr⟩:=hr;rw[aJ]at h2;rw[al]at h3;subst h2;cases hr;grind [IW,Hk,hZ]
 grind
theorem akt:ec eS 45=some (dH 45,aL 45):=by rfl
theorem aix:(bz (aL 45)).map (·.1)=[0]:=by rfl
theorem Jc{R:List Rn}{k:fg}(hR:∀i,i<R.length->IJ (R.getD i fo).d)(hn:R.length<=1000):bu Tryz.prog cfg 45 [.b 14 0 R.length k] [.a (bh R) false none] (abH R) []:=by
 refine P0 I4 (L:=Mf R) jz akt (by simp) (dv aix λi hi e he st Q hw=>?_) (jJ (bE 11400223) (R:=λQ=>(λ(A:Bool)=>not (ab (ν R.length) 4096)=false/\π R.length 1000/\ς R.length R.length/\(A->(∀J1:Nat->Value,Q (.a .i64 0)))/\(A=false->(∀J1 J2:Nat->Value,Q (abH R)))) (aa (abH R) 0)) (λ_=>by rfl) λQ' hQ=>?_) (by rfl)
 . have hi:i=0:=by grind
   subst hi;cases he;exact bR (cC.a0 I4) (by decide) rfl (aoz hR) hw
 . have h0:abH R=0->Q' (.a .i64 0):=λh=>hQ _ (by rw[h]);simp_all [az];omega
def Ff:aav:=λ
 | [.b 14 0 n k],[.a w false none]=>some (aH [eJ w,ς (g8 w).length n,π n 1000] (.a0 ((abH (g8 w)),[])))
 | _,_=>none
theorem amI(hS:ak Tryz.prog cfg S):ak Tryz.prog cfg (eQ S 45 (fl 14 [4] Ff)):=by
 refine bm hS (fW dI.lv Az λargs ws t r he hr=>?_);unfold Ff at he;split at he
 . rename_i n k w;cases he;replace hr:=aF hr;obtain⟨⟨h1,h2,h3,-⟩,hr⟩:=hr;rw[aJ]at h2;rw[al]at h3;subst h2;cases hr;grind [Jc,Hk,hZ]
 grind
end Go.Ev
