import Derived.Test.YtcffhjfdlflbgaaGreatDoorP28
set_option linter.all false
open Bool renaming not->ν,and->ς,not_eq_false'->Α,false->Β,true->Γ
open HAppend renaming hAppend->ξ
open Nat renaming ble->ο
open List renaming length->π,nil->χ
open Int renaming ofNat->σ,sub->υ,add->ω
open HAdd renaming hAdd->τ
set_option linter.all false
set_option maxRecDepth 100000
set_option maxHeartbeats 4000000
namespace Go.Ev
open Go Go.Proofs
variable{ng lg:Bool}{s mo da:List UInt8}{g x y z a c:Int}{S:aQ}{Q:AV->Prop}
theorem Cc{e:Int}(h:bW ng lg s e g mo da x y z=0):nH ng lg s e g mo da x y z=0:=by
 unfold bW at h;cases hE:aa (nH ng lg s e g mo da x y z) 0 with
 | true=>exact ao.mp hE
 | false=>grind
theorem acz{e:Int}(h:nH ng lg s e g mo da x y z=0):nH ng lg s e g mo da 0 0 0=0/\oc ng lg s e g mo=true:=by
 grind [nH,errMk]
theorem ak5{e:Int}(h:bW ng lg s e g mo da x y z=0):bW ng lg s e g mo da 0 0 0=0:=by
 grind [Cc,acz,bW]
theorem aek{g:Nat}(hg:g<=99)(h:eW mo g)(hx:eC mo 88 88=0):H4 mo/\1<=XR mo/\XR mo<=g:=by
 unfold eW at h;obtain⟨k,hk,ha⟩:=List.any_eq_true.1 h;rw[List.mem_range]at hk;have hn:=Oo hx
 match mo,ha,hn with
 | [c0,c1],ha,hn=>
   grind [Gu,H4,XR,ko,dB]
 | [],ha,_=>simp[agr]at ha
 | [_],ha,_=>simp[agr]at ha
 | _::_::_::_,ha,_=>simp[agr]at ha
theorem aaj{e:Int}{b:Int}(h0:bW ng lg s e g mo da a b c=0)(hx:eA (s++mo++da)=false)(hs:s.length<=1000):agm s e/\(aV ng lg s e g&&Nat.beq (eC s 88 88) 0)/\H4 mo/\H4 da/\kY (dY ng s e) (XR mo) (XR da)/\ae mo []=aa (XR mo) 0/\ae da []=aa (XR da) 0:=by
 have hd:=Cc h0;obtain⟨hY,_,_,hm,hda⟩:=dC hd dE;have hD:=(acz hd).2;unfold eA at hx;rw[Α,aJ,Dj,Dj]at hx;have hx1:eC s 88 88=0:=by omega
 have hx2:eC mo 88 88=0:=by omega
 have hx3:eC da 88 88=0:=by omega
 obtain⟨he,hl,hdg,hmk,hmv⟩:=Bk hY hx1;have hy : -10000000000000000<=dY ng s e/\dY ng s e<=10000000000000000:=by grind [dY]
 refine⟨?_,?_,?_⟩
 . grind [agm,al,aq]
 . simp_all
 by_cases h1:aR mo=0
 . cases hb:ae mo []with
   | true=>
     have hmo:mo=[]:=by grind [bV]
     have hda0:ae da []=true:=by
      grind
     have hdn:da=[]:=by grind [bV]
     subst hmo hdn;exact⟨rfl,rfl,ju.2 ⟨hy,by decide,.inl rfl⟩,rfl,rfl⟩
   | false=>
     obtain⟨n1,n2,n3⟩:=aek (by omega) (hm ⟨hb,h1⟩) hx2;have e1:false=aa (XR mo) 0:=by grind [aw]
     cases hb2:ae da []with
     | true=>
       have hdn:da=[]:=by grind [bV]
       subst hdn;exact⟨n1,rfl,ju.2 ⟨hy,by decide,.inr (.inl ⟨n2,n3⟩)⟩,e1,rfl⟩
     | false=>
       obtain⟨m1,m2,m3⟩:=aek (by omega) (hda hb2).2.2 hx3;grind [ju,aw]
 . have hz:=h1;obtain⟨h1,h2⟩:=(L6 mo).resolve_left hz
   . have hc:21<=aR mo/\aR mo<=41:=by grind [qH]
     have hb:ae mo []=false:=by
      rw[<-Bool.not_eq_true];intro k;rw[bV,beq_iff_eq]at k;subst k;exact hz rfl
     have hda0:ae da []=true:=by
      grind
     have hdn:da=[]:=by grind [bV]
     subst hdn;unfold oc at hD;rw[zAc]at hD;obtain⟨_,_,hD⟩:=hD;refine⟨h1,rfl,ju.2 ⟨hy,by decide,.inr (.inr ?_)⟩,?_,rfl⟩<;>grind [N_,dY,aw]
theorem ahZ{e:Int}(hk:aV ng lg s e g)(hg:1<=g):(-10000000000000000<=jI ng s e g/\jI ng s e g<=10000000000000000)/\(-10000000000000000<=jL ng s e g/\jL ng s e g<=10000000000000000)/\jI ng s e g<=jL ng s e g:=by
 obtain⟨u,m,r,_⟩:=ad3 hk hg;grind [jI,jL,wN,oS,EB]
theorem aho{l:List UInt8}{g:Nat}(hg:g<=99)(h:x∈Co l g)(hx:eC l 88 88=0):XR l=x/\1<=x/\x<=g:=by
 have hn:=Oo hx;unfold Co at h;split at h
 . rename_i c0 c1;obtain⟨h1,h2⟩:=iG.1 h;have hi:=Gu.1 h2;have n0:=hn c0 (by simp);have n1:=hn c1 (by simp);refine⟨?_,h1⟩;show 10*((c0.toNat:Int)-48)+((c1.toNat:Int)-48)=x;omega
 grind
theorem aaR{e:Int}{b:Int}(h0:bW ng lg s e g mo da a b c=0)(hx:eA (s++mo++da)=false)(hd:ae da []=false):1<=XR mo/\XR mo<=12/\1<=XR da/\XR da<=d6 (dY ng s e) (XR mo):=by
 have hE:=Cc h0;obtain⟨hY,hX,_⟩:=dC hE dE;have hf:qK ng s e mo da=true:=by
  unfold bW at h0;rw[hE,hd]at h0;cases h:qK ng s e mo da with
  | true=>rfl
  | false=>rw[h]at h0;exact absurd h0 (by decide)
 unfold eA at hx;rw[Α,aJ,Dj,Dj]at hx;obtain⟨k,h1,_,m,hm,d,hd',hle⟩:=(zg hY hX hd (by decide) _ _ (Nat.le_refl _)).1 hf;unfold mK at h1;rw[show Nat.beq (eC s 88 88) 0=true from aJ.mpr (by omega),cond_true]at h1;obtain⟨e1,m1,m2⟩:=aho (by decide) hm (by omega);obtain⟨e2,d1,d2⟩:=aho (by decide) hd' (by omega);subst h1 e1 e2;exact⟨m1,m2,d1,hle⟩
theorem aaU{e:Int}{b:Int}(h0:bW ng lg s e g mo da a b c=0)(hx:eA (s++mo++da)=false)(hm:ae mo []=false)(hs:aR mo=0):1<=XR mo/\XR mo<=12:=by
 obtain⟨_,_,_,h4,_⟩:=dC (Cc h0) dE;unfold eA at hx;rw[Α,aJ,Dj,Dj]at hx;exact(aek (by decide) (h4 ⟨hm,hs⟩) (by omega)).2
def Cr:dP:=λ
 | [.f [a,b]]=>some (aH [dB a&&dB b] (.a0 (.c [(ko a b),.k])))
 | _=>none
def TB:aQ:=d5 (d5 (d5 (d5 (d5 (d5 (d5 (d5 (d5 (d5 (d5 gZ 42 tx) 80 Wa) 146 Ol) 167 NO) 229 Nz) 289 Sd) 290 QV) 293 Q4) 294 Qw) 246 Pq) 241 Cr
def fL(ng lg:Bool)(s:List UInt8)(e g:Int)(mo da:List UInt8)(a b c:Int):Bool:=ο s.length 1000&&af .i64 e&&af .u8 a&&af .u8 b&&af .u8 c&&aa (bW ng lg s e g mo da a b c) 0&&!(eA (s++mo++da))&&aa g 0
def aP(ng:Bool)(s:List UInt8)(e:Int)(mo da:List UInt8):Int:=iO (dY ng s e) (XR mo) (XR da)
def bq(ng:Bool)(s:List UInt8)(e:Int)(mo da:List UInt8):Int:=iD (dY ng s e) (XR mo) (XR da)
def xY:dP:=λ
 | [.g [.e ng,.e lg,.f s,.a .i64 e,.a .i64 g,.f mo,.f da,.a .u8 a,.a .u8 b,.a .u8 c]]=>some (aH [fL ng lg s e g mo da a b c] (.a0 (.c [vR (aP ng s e mo da) (bq ng s e mo da),.a .i64 0])))
 | _=>none
theorem am3(hS:ak Tryz.prog cfg S):ak Tryz.prog cfg (d5 S 241 Cr):=by
 refine au hS λargs t v he hv=>?_;unfold Cr at he;split at he
 . rename_i a b;cases he;replace hv:=aF hv;obtain⟨⟨h1,-⟩,hv⟩:=hv;cases hv;unfold dB at h1;simp only[zAa,zAc]at h1;refine jD aW ai (bE 1035732052203205332002200066) (R:=λQ=>not (aa (σ a.toNat) 45)/\not (aa (σ a.toNat) 45)/\not (aa (σ a.toNat) 45)/\aa (σ a.toNat) 45=false/\aa (σ a.toNat) 43=false/\af .u8 (υ (σ a.toNat) 48)/\not (ab (υ (σ a.toNat) 48) 9)=false/\af .i64 (υ (σ a.toNat) 48)/\af .i64 (ω 0 (υ (σ a.toNat) 48))/\af .u8 (υ (σ b.toNat) 48)/\not (ab (υ (σ b.toNat) 48) 9)=false/\af .i64 (Int.mul (ω 0 (υ (σ a.toNat) 48)) 10)/\af .i64 (υ (σ b.toNat) 48)/\af .i64 (ω (Int.mul (ω 0 (υ (σ a.toNat) 48)) 10) (υ (σ b.toNat) 48))/\aa (σ a.toNat) 45=false/\Q (.c [(ω (Int.mul (ω 0 (υ (σ a.toNat) 48)) 10) (υ (σ b.toNat) 48)),AV.k])) (λ_=>by rfl) λQ' hQ=>?_;have fin:∀x:Int,x=ko a b->Q' (.c [x,.k]):=λx h=>hQ _ (by rw[h]);clear hQ;unfold ko at fin;simp only[az,reduceCtorEq]at fin ⊢;grind
 grind
theorem afw:ak Tryz.prog cfg TB:=am3 (bm (bm (bm (bm (bm (MA (bm (Ks (bm (G9 aW) (Uy 80 _ rfl))) (FM 167 _ rfl))) (Bg 289 _ rfl)) (Bg 290 _ rfl)) (EG 293 _ rfl)) (A_ 294 _ rfl)) (JT 246 _ rfl))
theorem aa0(x:Int):aa x x=true:=ao.mpr rfl
theorem ye{e:Int}{b:Int}:fL ng lg s e g mo da a b c=true↔s.length<=1000/\af .i64 e/\af .u8 a/\af .u8 b/\af .u8 c/\bW ng lg s e g mo da a b c=0/\eA (s++mo++da)=false/\g=0:=by
 grind [fL,al,ao]
theorem x5{l:List UInt8}(h:H4 l):l=[]\/∃a b,l=[a,b]/\(dB a&&dB b)=true:=by
 match l,h with
 | [],_=>simp
 | [a,b],h=>exact .inr ⟨a,b,rfl,h⟩
 | [_],h=>grind [H4]
 | _::_::_::_,h=>grind [H4]
theorem ajG(hS:ak Tryz.prog cfg S):ak Tryz.prog cfg (d5 S 205 xY):=by
 refine au hS λargs t v he hv=>?_;unfold xY at he;split at he
 . rename_i ng lg s e g mo da a b c;cases he;replace hv:=aF hv;obtain⟨⟨h1,-⟩,hv⟩:=hv;cases hv;obtain⟨h6,i1,i2,i3,i4,h0,hx,rfl⟩:=ye.1 h1;obtain⟨p1,p2,p3,p4,p5,p6,p7⟩:=aaj h0 hx h6;obtain⟨hy,-,hm⟩:=ju.1 p5;have yb:=bX.2 hy;have n1:ο s.length 1000=true:=al.mpr h6;rcases x5 p3 with rfl|⟨m0,m1,rfl,hmd⟩
   . rcases x5 p4 with rfl|⟨d0,d1,rfl,hdd⟩
     . refine jD afw ai (bE 1052025570200255666666622000522027002025663702002006) (R:=λQ=>ο s.length 1000/\af .i64 e/\af .u8 a/\af .u8 b/\af .u8 c/\not (aa (bW ng lg s e 0 [] [] a b c) 0)=false/\ο (τ s.length 0) 1000000/\ο (τ (π (s++[])) 0) 1000000/\ο (π ((s++[])++[])) 1000000/\not (eA ((s++[])++[]))/\not (eA ((s++[])++[]))/\not (eA ((s++[])++[]))/\not (eA ((s++[])++[]))/\not (eA ((s++[])++[]))/\ο s.length 1000/\and (aV ng lg s e 0) (Nat.beq (eC s 88 88) 0)/\ο s.length 1000/\af .i64 e/\af .u8 a/\af .u8 b/\af .u8 c/\eO (dY ng s e)/\eO (dY ng s e)/\Q (.c [.g [.a .i8 0,(bf (dY ng s e)),.a .i8 0,(HSub.hSub (bf (τ (dY ng s e) 1)) 1)],.a .i64 0])) (λ_=>by kernel_rfl) (hi:=(by rfl)) λQ' hQ=>?_;have hQ:Q' (.c [vR (bf (dY ng s e)) (bf (dY ng s e+1)-1),.a .i64 0]):=hQ _ rfl;simp_all [vR,aa0];omega
     . have:=(aaR h0 hx rfl).1;exact absurd this (by decide)
   . have l0:(s++[m0,m1]).length=s.length+2:=by simp
     have l1:ο (s.length+2) 1000000=true:=al.mpr (by omega);have hz:aa (XR [m0,m1]) 0=false:=p6.symm;have hm0:XR [m0,m1]=ko m0 m1:=rfl;rcases x5 p4 with rfl|⟨d0,d1,rfl,hdd⟩
     . have l2:ο ((s++[m0,m1]).length+0) 1000000=true:=al.mpr (by omega);have l3:ο (s++[m0,m1]++[]).length 1000000=true:=al.mpr (by grind);have hQ0:vR (aP ng s e [m0,m1] []) (bq ng s e [m0,m1] [])=(bif ab 13 (ko m0 m1)then vR (aG (dY ng s e) (fR (ko m0 m1))) (aG (fq (dY ng s e) (ko m0 m1)) (kX (dY ng s e) (ko m0 m1)+2)-1)else vR (aG (dY ng s e) (ko m0 m1)) (aG (dY ng s e) (ko m0 m1+1)-1)):=by
        unfold aP bq iO iD;rw[hz,hm0];cases ab 13 (ko m0 m1)<;>rfl
       cases hc:ab 13 (ko m0 m1)with
       | true=>
         have hc':=hc;rw[aq]at hc';have hs:aa (aR [m0,m1]) 0=false:=by
          grind [aw,aaU]
         rw[hc,cond_true]at hQ0;rw[hQ0];refine nF afw ai (bE 1000570520070200206666620022000522027002025663702002006) (R:=λQ=>ο s.length 1000/\af .i64 e/\af .u8 a/\af .u8 b/\af .u8 c/\not (aa (bW ng lg s e 0 [m0,m1] [] a b c) 0)=false/\ο (τ s.length 2) 1000000/\ο (τ (π (s++[m0,m1])) 0) 1000000/\ο (π ((s++[m0,m1])++[])) 1000000/\not (eA ((s++[m0,m1])++[]))/\not (eA ((s++[m0,m1])++[]))/\not (eA ((s++[m0,m1])++[]))/\not (eA ((s++[m0,m1])++[]))/\not (eA ((s++[m0,m1])++[]))/\ο s.length 1000/\and (aV ng lg s e 0) (Nat.beq (eC s 88 88) 0)/\and (dB m0) (dB m1)/\ο s.length 1000/\af .i64 e/\af .u8 a/\af .u8 b/\af .u8 c/\not (aa (aR [m0,m1]) 0)/\eO (dY ng s e)/\zI (ko m0 m1)/\eO (fq (dY ng s e) (ko m0 m1))/\Q (.c [.g [.a .i8 0,(aG (dY ng s e) (fR (ko m0 m1))),.a .i8 0,(HSub.hSub (aG (fq (dY ng s e) (ko m0 m1)) (τ (kX (dY ng s e) (ko m0 m1)) 2)) 1)],.a .i64 0])) (λ_=>by kernel_rfl) (hi:=(by rfl)) λQ' hQ=>?_;grind [vR,mg,aa0]
       | false=>
         have hc':=hc;rw[bF]at hc';have hs:aa (aR [m0,m1]) 0=true:=by
          grind [ao,L6,qH]
         rw[hc,cond_false]at hQ0;rw[hQ0];refine nF afw ai (bE 10522522630070200206666620022000522027002025663702002006) (R:=λQ=>ο s.length 1000/\af .i64 e/\af .u8 a/\af .u8 b/\af .u8 c/\not (aa (bW ng lg s e 0 [m0,m1] [] a b c) 0)=false/\ο (τ s.length 2) 1000000/\ο (τ (π (s++[m0,m1])) 0) 1000000/\ο (π ((s++[m0,m1])++[])) 1000000/\not (eA ((s++[m0,m1])++[]))/\not (eA ((s++[m0,m1])++[]))/\not (eA ((s++[m0,m1])++[]))/\not (eA ((s++[m0,m1])++[]))/\not (eA ((s++[m0,m1])++[]))/\ο s.length 1000/\and (aV ng lg s e 0) (Nat.beq (eC s 88 88) 0)/\and (dB m0) (dB m1)/\ο s.length 1000/\af .i64 e/\af .u8 a/\af .u8 b/\af .u8 c/\not (aa (aR [m0,m1]) 0)=false/\eO (dY ng s e)/\tL (ko m0 m1)/\eO (dY ng s e)/\tL (ko m0 m1)/\Q (.c [.g [.a .i8 0,(aG (dY ng s e) (ko m0 m1)),.a .i8 0,(HSub.hSub (aG (dY ng s e) (τ (ko m0 m1) 1)) 1)],.a .i64 0])) (λ_=>by kernel_rfl) (hi:=(by rfl)) λQ' hQ=>?_;grind [vR,gX,aa0]
     . obtain⟨q1,q2,q3,q4⟩:=aaR h0 hx rfl;have hd0:XR [d0,d1]=ko d0 d1:=rfl;rw[hm0]at q1 q2 q4;rw[hd0]at q3 q4;have l2:ο ((s++[m0,m1]).length+2) 1000000=true:=al.mpr (by omega);have l3:ο (s++[m0,m1]++[d0,d1]).length 1000000=true:=al.mpr (by grind);have hQ0:vR (aP ng s e [m0,m1] [d0,d1]) (bq ng s e [m0,m1] [d0,d1])=vR (aG (dY ng s e) (ko m0 m1)+ko d0 d1-1) (aG (dY ng s e) (ko m0 m1)+ko d0 d1-1):=by
        unfold aP bq iO iD;rw[hz,hm0,hd0,show ab 13 (ko m0 m1)=false from bF.mpr (by omega),show aa (ko d0 d1) 0=false from aw.mpr (by omega)];rfl
       rw[hQ0];refine nF afw ai (bE 10522022533220220022667020020006620020022000522027002025663702002006) (R:=λQ=>ο s.length 1000/\af .i64 e/\af .u8 a/\af .u8 b/\af .u8 c/\not (aa (bW ng lg s e 0 [m0,m1] [d0,d1] a b c) 0)=false/\ο (τ s.length 2) 1000000/\ο (τ (π (s++[m0,m1])) 2) 1000000/\ο (π ((s++[m0,m1])++[d0,d1])) 1000000/\not (eA ((s++[m0,m1])++[d0,d1]))/\not (eA ((s++[m0,m1])++[d0,d1]))/\not (eA ((s++[m0,m1])++[d0,d1]))/\not (eA ((s++[m0,m1])++[d0,d1]))/\not (eA ((s++[m0,m1])++[d0,d1]))/\ο s.length 1000/\and (aV ng lg s e 0) (Nat.beq (eC s 88 88) 0)/\and (dB m0) (dB m1)/\and (dB d0) (dB d1)/\ο s.length 1000/\af .i64 e/\af .u8 a/\af .u8 b/\af .u8 c/\eO (dY ng s e)/\tL (ko m0 m1)/\not (not (ab 1 (ko d0 d1)))/\not (not (ab 1 (ko d0 d1)))/\not (not (ab 1 (ko d0 d1)))/\not (not (ab 1 (ko d0 d1)))/\not (ab 1 (ko d0 d1))=false/\not (ab (ko d0 d1) (d6 (dY ng s e) (ko m0 m1)))=false/\eO (dY ng s e)/\tL (ko m0 m1)/\af .i64 (ω (aG (dY ng s e) (ko m0 m1)) (ko d0 d1))/\af .i64 (υ (ω (aG (dY ng s e) (ko m0 m1)) (ko d0 d1)) 1)/\Q (.c [.g [.a .i8 0,(υ (ω (aG (dY ng s e) (ko m0 m1)) (ko d0 d1)) 1),.a .i8 0,(υ (ω (aG (dY ng s e) (ko m0 m1)) (ko d0 d1)) 1)],.a .i64 0])) (λ_=>by kernel_rfl) (hi:=(by rfl)) λQ' hQ=>?_;unfold vR at hQ;have ml:=jk (dY ng s e) (ko m0 m1);have mb:=@mst_bd (dY ng s e) (ko m0 m1) hy q1 (by omega);have k1:tL (ko m0 m1)=true:=gX.2 ⟨q1,q2⟩;have k2:ab 1 (ko d0 d1)=true:=aq.mpr q3;have k3:ab (ko d0 d1) (d6 (dY ng s e) (ko m0 m1))=true:=aq.mpr q4;grind [aE,eH,eE,aa0]
 grind
def wa(ng lg:Bool)(s:List UInt8)(e g:Int)(mo da:List UInt8)(a b c:Int):Bool:=ο s.length 1000&&af .i64 e&&af .i64 g&&af .u8 a&&af .u8 b&&af .u8 c&&aa (bW ng lg s e g mo da a b c) 0
def cK(s:List UInt8)(g:Int)(mo da:List UInt8):Bool:=!(eA (s++mo++da))&&aa g 0
def eX(s:List UInt8)(g:Int)(mo da:List UInt8):Bool:=cK s g mo da&&aa (aR mo) 0
def yc:dP:=λ
 | [.g [.e ng,.e lg,.f s,.a .i64 e,.a .i64 g,.f mo,.f da,.a .u8 a,.a .u8 b,.a .u8 c]]=>some (aH [wa ng lg s e g mo da a b c] (.a0 (eX s g mo da)))
 | _=>none
def TC:aQ:=d5 (d5 (d5 gZ 42 tx) 80 Wa) 167 NO
def tZ:dP:=λ
 | [.g [.e ng,.e lg,.f s,.a .i64 e,.a .i64 g,.f mo,.f da,.a .u8 a,.a .u8 b,.a .u8 c]]=>some (aH [fL ng lg s e g mo da a b c] (.a0 (.c [vR (aP ng s e mo da) (bq ng s e mo da),.a .i64 0])))
 | _=>none
theorem aga:ak Tryz.prog cfg TC:=bm (bm (G9 aW) (Uy 80 _ rfl)) (FM 167 _ rfl)
theorem yn{e:Int}{b:Int}:wa ng lg s e g mo da a b c=true↔s.length<=1000/\af .i64 e/\af .i64 g/\af .u8 a/\af .u8 b/\af .u8 c/\bW ng lg s e g mo da a b c=0:=by
 grind [wa,al,ao]
theorem aex{l:List UInt8}{g:Nat}(hg:g<=99)(h:eW l g):l.length=2:=by
 grind [oi]
theorem aaX{e:Int}{b:Int}(h0:bW ng lg s e g mo da a b c=0):mo.length<=2/\da.length<=2/\(ae da []=false->ae mo []=false/\aa (aR mo) 0=true):=by
 obtain⟨_,_,_,h4,h5⟩:=dC (Cc h0) dE;refine⟨?_,?_,λh=>⟨(h5 h).1,ao.mpr (h5 h).2.1⟩⟩
 . cases hm:ae mo []with
   | true=>
     grind [bV]
   | false=>
     rcases L6 mo with k|⟨k,_⟩
     . rw[aex (by decide) (h4 ⟨hm,k⟩)];simp
     grind [x5]
 . cases hd:ae da []with
   | true=>
     grind [bV]
   | false=>rw[aex (by decide) (h5 hd).2.2];simp
theorem abT(h6:s.length<=1000)(hm:mo.length<=2)(hd:da.length<=2):ο s.length 1000/\ο mo.length 1000/\ο da.length 1000/\ο (s.length+mo.length) 1000000/\ο ((s++mo).length+da.length) 1000000/\ο (s++mo++da).length 1000000=true:=by
 simp;omega
theorem aj2(hS:ak Tryz.prog cfg S):ak Tryz.prog cfg (d5 S 265 yc):=by
 refine au hS λargs t v he hv=>?_;unfold yc at he;split at he
 . rename_i ng lg s e g mo da a b c;cases he;replace hv:=aF hv;obtain⟨⟨h1,-⟩,hv⟩:=hv;cases hv;obtain⟨h6,i1,i2,i3,i4,i5,h0⟩:=yn.1 h1;obtain⟨lm,ld,hds⟩:=aaX h0;obtain⟨n1,n2,n3,n4,n5,n6⟩:=abT h6 lm ld;refine nF aga ai (bE 15238181221224012241224022770062064702242002020006206777006) (R:=λQ=>ο s.length 1000/\ο mo.length 1000/\ο da.length 1000/\af .i64 e/\af .i64 g/\af .u8 a/\af .u8 b/\af .u8 c/\aa (bW ng lg s e g mo da a b c) 0/\aa (bW ng lg s e g mo da a b c) 0/\ο (τ s.length mo.length) 1000000/\ο (τ (π (s++mo)) da.length) 1000000/\ο (π ((s++mo)++da)) 1000000/\(not (eA ((s++mo)++da))->not (eA ((s++mo)++da))/\not (eA ((s++mo)++da))/\not (eA ((s++mo)++da))/\not (eA ((s++mo)++da))/\aa (bW ng lg s e g mo da a b c) 0/\(aa g 0->aa g 0/\ο s.length 1000/\ο mo.length 1000/\ο da.length 1000/\af .i64 e/\af .i64 g/\af .u8 a/\af .u8 b/\af .u8 c/\(not (ae da [])->aa g 0/\aa g 0/\Q true)/\(not (ae da [])=false->(not (aa (aR mo) 0)->aa g 0/\aa g 0/\Q false)/\(not (aa (aR mo) 0)=false->(not (ae mo [])->aa g 0/\aa g 0/\Q true)/\(not (ae mo [])=false->aa g 0/\aa g 0/\Q true))))/\(aa g 0=false->aa g 0=false/\aa g 0=false/\aa g 0=false/\Q false))/\(not (eA ((s++mo)++da))=false->not (eA ((s++mo)++da))=false/\not (eA ((s++mo)++da))=false/\not (eA ((s++mo)++da))=false/\not (eA ((s++mo)++da))=false/\aa (bW ng lg s e g mo da a b c) 0/\Q false)) (λ_=>by rfl) λQ' hQ=>?_;unfold eX cK at hQ;rw[n1,n2,n3,n4,n5,n6,i1,i2,i3,i4,i5,h0];cases hx:eA (s++mo++da)<;>rw[hx]at hQ<;>cases hg:aa g 0<;>rw[hg]at hQ<;>cases hd:ae da []<;>cases hs:aa (aR mo) 0<;>rw[hs]at hQ<;>first|(rw[(hds hd).2]at hs;cases hs;done)|grind [aa0]
 grind
theorem alq:ec eS 75=some (dH 75,aL 75):=by rfl
theorem afy(hS:ak Tryz.prog cfg S):ak Tryz.prog cfg (d5 S 75 tZ):=by
 refine au hS λargs t v he hv=>?_;unfold tZ at he;split at he
 . rename_i ng lg s e g mo da a b c;cases he;replace hv:=aF hv;obtain⟨⟨h1,-⟩,hv⟩:=hv;cases hv;obtain⟨h6,i1,i2,i3,i4,h0,hx,rfl⟩:=ye.1 h1;obtain⟨lm,ld,-⟩:=aaX h0;obtain⟨p1,p2,p3,p4,p5,p6,p7⟩:=aaj h0 hx h6;have n1:ο s.length 1000=true:=al.mpr h6;have n2:ο mo.length 1000=true:=al.mpr (by omega);have n3:ο da.length 1000=true:=al.mpr (by omega);have q6:=acr.2 p6;have q7:=acr.2 p7;unfold afT at q6 q7;refine kA alb (L:=jE) alq (by simp) ai (eD λQ' hQ=>cg ((Of ng lg s e 0 mo da a b c).mpr ?_)) (by rfl);have hQ:=hQ _ rfl;unfold vR aP bq at hQ;show(ο s.length 1000->_)/\_;rw[n1,n2,n3,i1,i2,i3,i4,h0];simp only[hx,p2,p3,p4,p5,q6,q7,aa0,show af .i64 (0:Int)=true from rfl,show ab 1 (0:Int)=false from rfl,Bool.or_false,Bool.false_or,true_imp_iff,reduceCtorEq,false_imp_iff,and_true,true_and,Bool.not_true,Bool.not_false];omega
 grind
structure Da where
 ng:Bool
 lg:Bool
 s:List UInt8
 e:Int
 g:Int
 mo:List UInt8
 da:List UInt8
 a:Int
 b:Int
 c:Int
def Da.cs(x:Da):List AV:=[x.ng,x.lg,x.s,x.e,x.g,x.mo,x.da,.a .u8 x.a,.a .u8 x.b,.a .u8 x.c]
def CC:dP:=λ
 | [.g [.e ng,.e lg,.f s,.a .i64 e,.a .i64 g,.f mo,.f da,.a .u8 a,.a .u8 b,.a .u8 c]]=>some (aH [wa ng lg s e g mo da a b c] (.a0 (.a .u8 (bif aa (aR mo) 0 then dq mo da else 0))))
 | _=>none
def mV(s:List UInt8)(ng:Bool)(e g:Int)(mo da:List UInt8)(s':List UInt8)(ng':Bool)(e' g':Int)(mo' da':List UInt8):Bool:=eX s g mo da&&(eX s' g' mo' da'&&(aa (dq mo da) (dq mo' da')&&ab (aP ng s e mo da) (aP ng' s' e' mo' da')))
def Cz:dP:=λ
 | [.g [.e ng,.e lg,.f s,.a .i64 e,.a .i64 g,.f mo,.f da,.a .u8 a,.a .u8 b,.a .u8 c],.g [.e ng',.e lg',.f s',.a .i64 e',.a .i64 g',.f mo',.f da',.a .u8 a',.a .u8 b',.a .u8 c']]=>some (aH [wa ng lg s e g mo da a b c,wa ng' lg' s' e' g' mo' da' a' b' c',mV s ng e g mo da s' ng' e' g' mo' da'] (.a0 true))
 | _=>none
def TD:aQ:=pX (d5 (d5 (d5 gZ 265 yc) 259 CC) 205 xY) 92 FB
def tz:dP:=λ
 | [.g [.e ng,.e lg,.f s,.a .i64 e,.a .i64 g,.f mo,.f da,.a .u8 a,.a .u8 b,.a .u8 c]]=>some (aH [wa ng lg s e g mo da a b c] (.a0 (cK s g mo da)))
 | _=>none
def wD:dP:=λ
 | [.g [.e ng,.e lg,.f s,.a .i64 e,.a .i64 g,.f mo,.f da,.a .u8 a,.a .u8 b,.a .u8 c]]=>some (aH [wa ng lg s e g mo da a b c] (.a0 (.a .i64 0)))
 | _=>none
def TF:aQ:=d5 (d5 (d5 gZ 42 wD) 262 Cz) 264 tz
def mB(r k:Bool)(va va' or dz no:Bool):Bool:=va&&((bif r then va'&&or else dz)&&(!k || no))
def Cu:dP:=λ
 | [.g [.e ng,.e lg,.f s,.a .i64 e,.a .i64 g,.f mo,.f da,.a .u8 a,.a .u8 b,.a .u8 c,.e r,.e ng',.e lg',.f s',.a .i64 e',.a .i64 g',.f mo',.f da',.a .u8 a',.a .u8 b',.a .u8 c'],.a .u8 k]=>some (aH [aa k 3 || aa k 4,mB r (aa k 4) (wa ng lg s e g mo da a b c) (wa ng' lg' s' e' g' mo' da' a' b' c') (mV s ng e g mo da s' ng' e' g' mo' da') (dZ ng' lg' s' e' g' mo' da' a' b' c') (cK s g mo da)] (.a0 (.a .i64 0)))
 | _=>none
theorem Px(ng lg:Bool)(s:List UInt8)(e g:Int)(mo da:List UInt8)(a b c:Int):gG Q (pT TC jE 259 [.g [ng,lg,s,e,g,mo,da,.a .u8 a,.a .u8 b,.a .u8 c]]) (bE 1140141402277006)=(ο (π s) 1000/\(ο (π mo) 1000/\(ο (π da) 1000/\(af .i64 e/\(af .i64 g/\(af .u8 a/\(af .u8 b/\(af .u8 c/\((ν (ae da χ)->Q (AV.a .u8 3))/\(ν (ae da χ)=false->((ν (aa (aR mo) 0)->Q (AV.a .u8 0))/\(ν (aa (aR mo) 0)=false->((ν (ae mo χ)->Q (AV.a .u8 2))/\(ν (ae mo χ)=false->Q (AV.a .u8 1))))))))))))))):=by rfl
def Pi(x y:Da):gG Q (pT TD jE 262 [.g x.cs,.g y.cs]) (bE 1052000620061432202062202062322020622006)=(wa x.1 x.2 x.3 x.4 x.5 x.6 x.7 x.8 x.9 x.10/\(ν (ν (eX x.3 x.5 x.6 x.7))/\(ν (ν (eX x.3 x.5 x.6 x.7))/\(wa y.1 y.2 y.3 y.4 y.5 y.6 y.7 y.8 y.9 y.10/\(ν (ν (eX x.3 x.5 x.6 x.7))/\(ν (eX x.3 x.5 x.6 x.7)=false/\(ν (ν (eX y.3 y.5 y.6 y.7))/\(ν (ν (eX y.3 y.5 y.6 y.7))/\(wa x.1 x.2 x.3 x.4 x.5 x.6 x.7 x.8 x.9 x.10/\(ν (ν (eX y.3 y.5 y.6 y.7))/\(ν (ν (eX y.3 y.5 y.6 y.7))/\(wa y.1 y.2 y.3 y.4 y.5 y.6 y.7 y.8 y.9 y.10/\(ν (ν (eX y.3 y.5 y.6 y.7))/\(ν (eX y.3 y.5 y.6 y.7)=false/\((ν (aa (cond (aa (aR x.6) 0) (dq x.6 x.7) 0) (cond (aa (aR y.6) 0) (dq y.6 y.7) 0))->Q Β)/\(ν (aa (cond (aa (aR x.6) 0) (dq x.6 x.7) 0) (cond (aa (aR y.6) 0) (dq y.6 y.7) 0))=false->(fL x.1 x.2 x.3 x.4 x.5 x.6 x.7 x.8 x.9 x.10/\(fL y.1 y.2 y.3 y.4 y.5 y.6 y.7 y.8 y.9 y.10/\Q (ab (gc 0 (aP x.1 x.3 x.4 x.6 x.7) 0 (aP y.1 y.3 y.4 y.6 y.7)) 0))))))))))))))))))):=by kernel_rfl
theorem OE(ng lg:Bool)(s:List UInt8)(e g:Int)(mo da:List UInt8)(a b c:Int):gG Q (pT TC jE 264 [.g [ng,lg,s,e,g,mo,da,.a .u8 a,.a .u8 b,.a .u8 c]]) (bE 13812202242002020006)=(ο (τ (π s) (π mo)) 1000000/\(ο (τ (π (ξ s mo)) (π da)) 1000000/\(ο (π (ξ (ξ s mo) da)) 1000000/\((ν (eA (ξ (ξ s mo) da))->(ν (eA (ξ (ξ s mo) da))/\(ν (eA (ξ (ξ s mo) da))/\(ν (eA (ξ (ξ s mo) da))/\(ν (eA (ξ (ξ s mo) da))/\Q (aa g 0))))))/\(ν (eA (ξ (ξ s mo) da))=false->(ν (eA (ξ (ξ s mo) da))=false/\(ν (eA (ξ (ξ s mo) da))=false/\(ν (eA (ξ (ξ s mo) da))=false/\(ν (eA (ξ (ξ s mo) da))=false/\Q Β))))))))):=by rfl
def Pc(x y:Da)(k:Int):gG Q (pT TF jE 207 [.g (x.cs++.e false::y.cs),.a .u8 k]) (bE 1000338556635566200063310010470206225566355662006322040)=((ν (aa k 3)->(ν (aa k 3)/\(ν (aa k 3)/\(ν (aa k 4)=false/\(wa x.1 x.2 x.3 x.4 x.5 x.6 x.7 x.8 x.9 x.10/\(ν (ς (ς (bQ y.1 Β) (ς (bQ y.2 Β) (ς (ae y.3 χ) (ς (aa y.4 0) (ς (aa y.5 0) Γ))))) (ς (ae y.6 χ) (ς (ae y.7 χ) (ς (ς (aa y.8 0) (ς (aa y.9 0) (ς (aa y.10 0) Γ))) Γ))))=false/\(aa k 4/\(aa k 4/\(aa k 4/\(wa x.1 x.2 x.3 x.4 x.5 x.6 x.7 x.8 x.9 x.10/\(aa k 4/\(aa k 4/\((ν (cK x.3 x.5 x.6 x.7)->Q (AV.a .i64 10))/\(ν (cK x.3 x.5 x.6 x.7)=false->Q (AV.a .i64 0)))))))))))))))/\(ν (aa k 3)=false->(ν (aa k 3)=false/\(ν (aa k 3)=false/\(wa x.1 x.2 x.3 x.4 x.5 x.6 x.7 x.8 x.9 x.10/\(ν (ς (ς (bQ y.1 Β) (ς (bQ y.2 Β) (ς (ae y.3 χ) (ς (aa y.4 0) (ς (aa y.5 0) Γ))))) (ς (ae y.6 χ) (ς (ae y.7 χ) (ς (ς (aa y.8 0) (ς (aa y.9 0) (ς (aa y.10 0) Γ))) Γ))))=false/\(aa k 4=false/\(aa k 4=false/\(aa k 4=false/\(aa k 4=false/\(aa k 4=false/\Q (AV.a .i64 0)))))))))))):=by kernel_rfl
def Pd(x y:Da)(k:Int):gG Q (pT TF jE 207 [.g (x.cs++.e true::y.cs),.a .u8 k]) (bE 100033800067056666620562000633100104702062200067056666620562006322040)=((ν (aa k 3)->(ν (aa k 3)/\(ν (aa k 3)/\(ν (aa k 4)=false/\(wa x.1 x.2 x.3 x.4 x.5 x.6 x.7 x.8 x.9 x.10/\(wa y.1 y.2 y.3 y.4 y.5 y.6 y.7 y.8 y.9 y.10/\(wa x.1 x.2 x.3 x.4 x.5 x.6 x.7 x.8 x.9 x.10/\(wa y.1 y.2 y.3 y.4 y.5 y.6 y.7 y.8 y.9 y.10/\(mV x.3 x.1 x.4 x.5 x.6 x.7 y.3 y.1 y.4 y.5 y.6 y.7/\(aa k 4/\(aa k 4/\(aa k 4/\(wa x.1 x.2 x.3 x.4 x.5 x.6 x.7 x.8 x.9 x.10/\(aa k 4/\(aa k 4/\((ν (cK x.3 x.5 x.6 x.7)->Q (AV.a .i64 10))/\(ν (cK x.3 x.5 x.6 x.7)=false->Q (AV.a .i64 0))))))))))))))))))/\(ν (aa k 3)=false->(ν (aa k 3)=false/\(ν (aa k 3)=false/\(wa x.1 x.2 x.3 x.4 x.5 x.6 x.7 x.8 x.9 x.10/\(wa y.1 y.2 y.3 y.4 y.5 y.6 y.7 y.8 y.9 y.10/\(wa x.1 x.2 x.3 x.4 x.5 x.6 x.7 x.8 x.9 x.10/\(wa y.1 y.2 y.3 y.4 y.5 y.6 y.7 y.8 y.9 y.10/\(mV x.3 x.1 x.4 x.5 x.6 x.7 y.3 y.1 y.4 y.5 y.6 y.7/\(aa k 4=false/\(aa k 4=false/\(aa k 4=false/\(aa k 4=false/\(aa k 4=false/\Q (AV.a .i64 0))))))))))))))):=by kernel_rfl
theorem alv:ec eS 259=some (dH 259,aL 259):=by rfl
theorem alu:ec eS 262=some (dH 262,aL 262):=by rfl
theorem akH:ec eS 264=some (dH 264,aL 264):=by rfl
theorem ahI:ec eS 207=some (dH 207,aL 207):=by rfl
theorem anx(hS:ak Tryz.prog cfg S):ak Tryz.prog cfg (d5 S 259 CC):=by
 refine au hS λargs t v he hv=>?_;unfold CC at he;split at he
 . rename_i ng lg s e g mo da a b c;cases he;replace hv:=aF hv;obtain⟨⟨h1,-⟩,hv⟩:=hv;cases hv;obtain⟨h6,i1,i2,i3,i4,i5,h0⟩:=yn.1 h1;obtain⟨lm,ld,hds⟩:=aaX h0;obtain⟨n1,n2,n3,-⟩:=abT h6 lm ld;refine kA aga (L:=jE) alv (by simp) ai (eD λQ' hQ=>cg ((Px ng lg s e g mo da a b c).mpr ?_)) (by simp[aC]);have hQ:=hQ _ rfl;unfold dq at hQ;rw[n1,n2,n3,i1,i2,i3,i4,i5];cases hd:ae da []<;>rw[hd]at hQ<;>cases hs:aa (aR mo) 0<;>rw[hs]at hQ<;>cases hm:ae mo []<;>rw[hm]at hQ<;>first|(rw[(hds hd).2]at hs;cases hs;done)|(rw[(hds hd).1]at hm;cases hm;done)|(simp only[zAj]at hQ;simp;exact hQ)
 . cases he
theorem anL(hS:ak Tryz.prog cfg S):ak Tryz.prog cfg (d5 S 264 tz):=by
 refine au hS λargs t v he hv=>?_;unfold tz at he;split at he
 . rename_i ng lg s e g mo da a b c;cases he;replace hv:=aF hv;obtain⟨⟨h1,-⟩,hv⟩:=hv;cases hv;obtain⟨h6,i1,i2,i3,i4,i5,h0⟩:=yn.1 h1;obtain⟨lm,ld,-⟩:=aaX h0;obtain⟨-,-,-,n4,n5,n6⟩:=abT h6 lm ld;refine kA aga (L:=jE) akH (by simp) ai (eD λQ' hQ=>cg ((OE ng lg s e g mo da a b c).mpr ?_)) (by simp[aC]);have hQ:=hQ _ rfl;unfold cK at hQ;rw[n4,n5,n6];cases hx:eA (s++mo++da)<;>rw[hx]at hQ<;>simp only[Bool.not_true,Bool.not_false,Bool.true_and,Bool.false_and]at hQ<;>simp[hQ]
 . cases he
theorem aib(hS:ak Tryz.prog cfg S):ak Tryz.prog cfg (d5 S 42 wD):=by
 refine au hS λargs t v he hv=>?_;unfold wD at he;split at he
 . rename_i ng lg s e g mo da a b c;cases he;replace hv:=aF hv;obtain⟨⟨h1,-⟩,hv⟩:=hv;cases hv;obtain⟨h6,i1,i2,i3,i4,i5,h0⟩:=yn.1 h1;obtain⟨lm,ld,-⟩:=aaX h0;rw[aE]at i1 i2 i3 i4 i5;have:=zQ h6 (by omega) (by omega) i1 i2 i3 i4 i5 (ng:=ng) (lg:=lg) (s:=s) (mo:=mo) (da:=da);grind
 grind
theorem qd{e:Int}{b:Int}(h:wa ng lg s e g mo da a b c)(hn:cK s g mo da):fL ng lg s e g mo da a b c=true:=by
 grind [yn,cK,ao,ye]
theorem qc:eX s g mo da=true↔cK s g mo da/\aa (aR mo) 0=true:=by grind [eX]
theorem amC:ak Tryz.prog cfg TD:=eG (ajG (anx (aj2 aW))) NE
theorem amK(hS:ak Tryz.prog cfg S):ak Tryz.prog cfg (d5 S 262 Cz):=by
 refine au hS λargs t v he hv=>?_;unfold Cz at he;split at he
 . rename_i ng lg s e g mo da a b c ng' lg' s' e' g' mo' da' a' b' c';cases he;replace hv:=aF hv;obtain⟨⟨h1,h2,h3,-⟩,hv⟩:=hv;cases hv;unfold mV at h3;simp only[zAa]at h3;obtain⟨k1,k2,k3,k4⟩:=h3;have e1:=qd h1 (qc.1 k1).1;have e2:=qd h2 (qc.1 k2).1;refine kA amC (L:=jE) alu (by simp) ai (eD λQ' hQ=>cg ((Pi ⟨ng,lg,s,e,g,mo,da,a,b,c⟩ ⟨ng',lg',s',e',g',mo',da',a',b',c'⟩).mpr ?_)) (by rfl);dsimp only;have hQ:=hQ _ rfl;have k5:ab (gc 0 (aP ng s e mo da) 0 (aP ng' s' e' mo' da')) 0=true:=by
    rw[aq]at k4 ⊢;have:=xF 0 (aP ng s e mo da) 0 (aP ng' s' e' mo' da');omega
   grind [qc]
 grind
theorem aj5:ak Tryz.prog cfg TF:=anL (amK (aib aW))
theorem amk(hS:ak Tryz.prog cfg S):ak Tryz.prog cfg (d5 S 207 Cu):=by
 refine au hS λargs t v he hv=>?_;unfold Cu at he;split at he
 . rename_i ng lg s e g mo da a b c r ng' lg' s' e' g' mo' da' a' b' c' k;cases he;replace hv:=aF hv;obtain⟨⟨h1,h2,-⟩,hv⟩:=hv;cases hv;unfold mB at h2;rw[Bool.or_eq_true]at h1;simp only[zAa,Bool.or_eq_true,Bool.not_eq_true']at h2;obtain⟨v1,v2,v3⟩:=h2;have k34:aa k 4=!(aa k 3):=by
    grind [ao]
   cases r with
   | false=>
     rw[cond_false]at v2;refine kA aj5 (L:=jE) ahI (by simp) ai (eD λQ' hQ=>cg ((Pc ⟨ng,lg,s,e,g,mo,da,a,b,c⟩ ⟨ng',lg',s',e',g',mo',da',a',b',c'⟩ k).mpr ?_)) (by rfl);have hQ:=hQ _ rfl;unfold dZ at v2;rw[k34]at v3 ⊢;grind
   | true=>
     rw[cond_true,zAa]at v2;refine kA aj5 (L:=jE) ahI (by simp) ai (eD λQ' hQ=>cg ((Pd ⟨ng,lg,s,e,g,mo,da,a,b,c⟩ ⟨ng',lg',s',e',g',mo',da',a',b',c'⟩ k).mpr ?_)) (by rfl);have hQ:=hQ _ rfl;rw[k34]at v3 ⊢;grind
 grind
end Go.Ev
