import Derived.Test.YtcffhjfdlflbgaaGreatDoorP29
set_option linter.all false
open Int renaming ofNat->ν,sub->ξ,add->ο,mul->υ,tdiv->χ,tmod->ω
open Nat renaming ble->π,beq->Β
open HSub renaming hSub->ς
open HAdd renaming hAdd->σ
open List renaming length->τ
open Bool renaming not_eq_false'->Α
set_option linter.all false
set_option maxRecDepth 100000
set_option maxHeartbeats 4000000
namespace Go.Ev
open Go Go.Proofs
variable{ng lg:Bool}{s mo da:List UInt8}{g x y z a b c:Int}{S:aQ}
def fG(s:List UInt8)(e g:Int):Int:=lK (ν s.length+e-g)
def gf(s:List UInt8)(e:Int):Int:=ν (cF s e.toNat)
def oS(s:List UInt8)(e g:Int):Int:=gf s e-gf s e%fG s e g
def wN(s:List UInt8)(e g:Int):Int:=gY (oS s e g+fG s e g-1) 10000000000000000
def jI(ng:Bool)(s:List UInt8)(e g:Int):Int:=bif ng then -(wN s e g)else oS s e g
def jL(ng:Bool)(s:List UInt8)(e g:Int):Int:=bif ng then -(oS s e g)else wN s e g
def B8:dP:=λ
 | [.h [.b ng,.b lg,.e s,.a .i64 e,.a .i64 g]]=>some (aH [π s.length 1000,aV ng lg s e g,ab 1 g] (.a0 (.d [.a .i64 (jI ng s e g),.a .i64 (jL ng s e g),.a .i64 0])))
 | _=>none
def BN:dP:=λ
 | [.h [.b ng,.b lg,.e s,.a .i64 e,.a .i64 g,.e mo,.e da,.a .u8 a,.a .u8 b,.a .u8 c]]=>some (aH [π s.length 1000,aV ng lg s e g,ab 1 g] (.a0 (.d [.a .i64 (jI ng s e g),.a .i64 (jL ng s e g)])))
 | _=>none
def Dg:dW:=λvs o=>match vs,o with
 | [.g 14 0,.a .i64 y,.a .i64 z,.g 15 0,.a .i64 v,.a .i64 u,.a .i64 k],⟨2,[.a [.b nf,.b lf,.e sf,.a .i64 ef,.a .i64 g] true none,.a w true none],[]⟩=>some (aH [aa y 0,aa z 0,aa u 1,ab g k,ab (k-g) 16,ab 0 g,ab k 1000] (.a0 (.b 0,[.g 14 0,.a .i64 0,.a .i64 0,.g 15 0,.a .i64 v,.a .i64 (lK (k-g)),.a .i64 g],o)))
 | _,_=>none
def Mm:cx:=iz jE 0 (d9 48 [1,2,3,4,5,6,7] Dg)
def yK:aQ:=d5 gZ 88 aiX
theorem akU:ec tab 86=some (dH 86,aL 86):=by rfl
theorem aiP:(bz (aL 86)).map (·.1)=[0]:=by rfl
theorem aeO:∀(r:List UInt8) (n:Nat),n*10^r.length<=r.foldl (λn b=>n*10+(b.toNat-48)) n
 | [],n=>by simp
 | b::r,n=>by
   have h:=aeO r (n*10+(b.toNat-48));have:n*10^(r.length+1)<=(n*10+(b.toNat-48))*10^r.length:=by
    rw[Nat.pow_succ,<-Nat.mul_assoc,Nat.mul_right_comm];grind
   grind
theorem ac9{e:Int}(hk:aV ng lg s e g)(hg:1<=g):eC s 88 88=0/\g<=s.length+e/\s.length+e<=17:=by
 have h:=hk;unfold aV at h;rw[zAc]at h;have hx:eC s 88 88=0:=by omega
 refine⟨hx,by omega,?_⟩;rcases h with⟨k1,k2,⟨l1,l2,l3,l4⟩|⟨l1,l2,l3,l4,l5,l6,l7,l8,l9,l10⟩⟩
 . omega
 . unfold magOk at l10;rw[al]at l10
   match s,l3,l4,l5,l10,k1 with
   | [],l3,_,_,_,_=>grind
   | c::r,l3,l4,l5,l10,k1=>
     have l5:c.toNat≠48:=l5;have hd:dV (c::r)=true:=oV (by omega);have hc:=@pz (c::r) hd 0 (by simp);have hc:48<=c.toNat/\c.toNat<=57:=hc;have h1:(c.toNat-48)*10^r.length<=numL (c::r):=by
      have:=aeO r (0*10+(c.toNat-48));rw[Nat.zero_mul,Nat.zero_add]at this;show _<=r.foldl _ (0*10+(c.toNat-48));grind
     have h2:10^r.length<=numL (c::r):=Nat.le_trans (Nat.le_mul_of_pos_left _ (by omega)) h1;have h3:10^(r.length+e.toNat)<=10^16:=by
      rw[Nat.pow_add];exact Nat.le_trans (Nat.mul_le_mul_right _ h2) l10
     have h4:r.length+e.toNat<=16:=(Nat.pow_le_pow_iff_right (by decide)).1 h3;grind
theorem agL{k:Int}(h:k<=16):1<=lK k/\lK k<=10000000000000000:=by
 unfold lK;have h1:1<=10^k.toNat:=Nat.pos_of_ne_zero (by simp);have h2:10^k.toNat<=10^16:=Nat.pow_le_pow_right (by decide) (by omega);omega
theorem ad3{e:Int}(hk:aV ng lg s e g)(hg:1<=g):(1<=fG s e g/\fG s e g<=10000000000000000)/\(0<=gf s e/\gf s e<=10000000000000000)/\(0<=gf s e%fG s e g/\gf s e%fG s e g<fG s e g/\gf s e%fG s e g<=gf s e)/\(gf s e).tdiv (fG s e g)*fG s e g=oS s e g/\(0<=(gf s e).tdiv (fG s e g)/\(gf s e).tdiv (fG s e g)<=gf s e)/\(gf s e).tmod (fG s e g)=gf s e%fG s e g:=by
 obtain⟨hx,h1,h2⟩:=ac9 hk hg;obtain⟨_,_,_,_,hv⟩:=Bk hk hx;have u:1<=fG s e g/\fG s e g<=10000000000000000:=agL (by grind);have m:0<=gf s e/\gf s e<=10000000000000000:=by grind [gf]
 have r0:=Int.emod_nonneg (gf s e) (show fG s e g≠0 by omega);have r1:=Int.emod_lt_of_pos (gf s e) (show 0<fG s e g by omega);have ed:=Int.emod_add_mul_ediv (gf s e) (fG s e g);have dn:=Int.ediv_nonneg m.1 (show 0<=fG s e g by omega);have pn:0<=fG s e g*(gf s e/fG s e g):=Int.mul_nonneg (by omega) dn;simp_all [Int.tdiv_eq_ediv_of_nonneg,Int.tmod_eq_emod_of_nonneg,Int.mul_comm,oS,Int.ediv_le_self];omega
theorem apq:cu Tryz.prog (cH cfg yK) (Cw cfg []) (lb 86 0) 48 [1,2,3,4,5,6,7] Dg:=by
 have hS:ak Tryz.prog cfg yK:=bm aW ((ae0 aW) 88 _ rfl);intro vs o t Q hv hq J;unfold Dg at hv;split at hv
 . rename_i y z v u k nf lf sf ef g w;cases hv;replace hq:=cO hq;obtain⟨⟨h1,h2,h3,h4,h5,h6,h7,-⟩,hq⟩:=hq;rw[ao]at h1 h2 h3;rw[aq]at h4 h5 h6 h7;subst h1 h2 h3;simp only[aH,Tr.wp]at hq;refine ia hS rfl rfl ai (ι:={i:Nat // (i:Int)<=k-g}) (λx=>[.g 14 0,.a .i64 0,.a .i64 0,.g 15 0,.a .i64 v,.a .i64 (lK x.1),.a .i64 (k-x.1)]) (λ_=>⟨2,[.a [.b nf,.b lf,.e sf,.a .i64 ef,.a .i64 g] true none,.a w true none],[]⟩) (λx=>(k-g-x.1).toNat) 2 (λ_=>Nat.le_refl _) (λx J=>?_) (Nat.le_refl _) (λJ=>Wk.a0 ⟨⟨0,by omega⟩,J,by dsimp only;rw[show k-((0:Nat):Int)=k by omega];rfl⟩) J;obtain⟨i,hi⟩:=x;dsimp only;have hb:=@agL i (by omega);have hs:lK ((i+1:Nat):Int)=lK i*10:=by
    rfl
   refine jJ (bE 112240) (R:=λQ=>(not (ab (k-i) g)->af .i64 (υ (lK i) 10)/\af .i64 (ξ (k-i) 1)/\Q (.a,[.g 14 0,.a .i64 0,.a .i64 0,.g 15 0,.a .i64 v,.a .i64 (υ (lK i) 10),.a .i64 (ξ (k-i) 1)],⟨2,[.a [.b nf,.b lf,.e sf,.a .i64 ef,.a .i64 g] true none,.a w true none],[]⟩))/\(not (ab (k-i) g)=false->Q (.b 0,[.g 14 0,.a .i64 0,.a .i64 0,.g 15 0,.a .i64 v,.a .i64 (lK i),.a .i64 (k-i)],⟨2,[.a [.b nf,.b lf,.e sf,.a .i64 ef,.a .i64 g] true none,.a w true none],[]⟩))) (λ_=>by rfl) λQ' hQ=>?_;have next:(i:Int)<k-g->∀x:Int,x=k-i-1->∃z:{i:Nat // (i:Int)<=k-g},(k-g-z.1).toNat<(k-g-i).toNat/\VW cfg (Cw cfg []) 2 48 [1,2,3,4,5,6,7] [.g 14 0,.a .i64 0,.a .i64 0,.g 15 0,.a .i64 v,.a .i64 (lK i*10),.a .i64 x] ⟨2,[.a [.b nf,.b lf,.e sf,.a .i64 ef,.a .i64 g] true none,.a w true none],[]⟩ [.g 14 0,.a .i64 0,.a .i64 0,.g 15 0,.a .i64 v,.a .i64 (lK z.1),.a .i64 (k-z.1)] ⟨2,[.a [.b nf,.b lf,.e sf,.a .i64 ef,.a .i64 g] true none,.a w true none],[]⟩:=λh x hx=>by
    subst hx;exact⟨⟨i+1,by omega⟩,by grind,VW.b0 (by grind) rfl⟩
   have fin:(i:Int)=k-g->Q (.b 0,[.g 14 0,.a .i64 0,.a .i64 0,.g 15 0,.a .i64 v,.a .i64 (lK i),.a .i64 (k-i)],⟨2,[.a [.b nf,.b lf,.e sf,.a .i64 ef,.a .i64 g] true none,.a w true none],[]⟩):=λh=>by
    grind
   clear hq hs;generalize lK i=U at *;simp only[az,reduceCtorEq]
   (repeat' first|exact trivial|refine⟨?_,?_⟩|intro)<;>first|omega|refine hQ _ ?_
   . exact next (by omega) _ (by omega)
   grind [VW.a0]
 grind
theorem ane(hS:ak Tryz.prog cfg S):ak Tryz.prog cfg (d5 S 73 B8):=by
 refine au hS λargs t v he hv=>?_;unfold B8 at he;split at he
 . rename_i ng lg s e g;cases he;replace hv:=aF hv;obtain⟨⟨h1,hk,hg,-⟩,hv⟩:=hv;cases hv;rw[al]at h1;rw[aq]at hg;obtain⟨hx,g1,g2⟩:=ac9 hk hg;obtain⟨he',hl,hd,hm,_⟩:=Bk hk hx;obtain⟨u1,m1,r1,e1,t1,_⟩:=ad3 hk hg;refine nF nt ai (bE 1122402770202002077005300532005) (R:=λQ=>π s.length 140737488351232/\not (aa (cond (aV ng lg s e g) 0 6) 0)=false/\not (Β (eC s 88 88) 0)=false/\dV s/\aS 0 s.length/\π s.length 18/\ab 0 e/\ab e 16/\magOk s e.toNat/\not (ab g 0)/\af .i64 (ο (ν s.length) e)/\af .i64 (ξ (ο (ν s.length) e) g)/\ab 0 (ξ (ο (ν s.length) e) g)/\ab (ξ (ο (ν s.length) e) g) 18/\not (aa (kh (lK (ξ (ο (ν s.length) e) g)) 1) 0)/\af .i64 (χ (ν (cF s e.toNat)) (kh (lK (ξ (ο (ν s.length) e) g)) 1))/\af .i64 (υ (χ (ν (cF s e.toNat)) (kh (lK (ξ (ο (ν s.length) e) g)) 1)) (lK (ξ (ο (ν s.length) e) g)))/\af .i64 (ο (υ (χ (ν (cF s e.toNat)) (kh (lK (ξ (ο (ν s.length) e) g)) 1)) (lK (ξ (ο (ν s.length) e) g))) (lK (ξ (ο (ν s.length) e) g)))/\af .i64 (ξ (ο (υ (χ (ν (cF s e.toNat)) (kh (lK (ξ (ο (ν s.length) e) g)) 1)) (lK (ξ (ο (ν s.length) e) g))) (lK (ξ (ο (ν s.length) e) g))) 1)/\(ng->af .i64 (ξ 0 (gY (ξ (ο (υ (χ (ν (cF s e.toNat)) (kh (lK (ξ (ο (ν s.length) e) g)) 1)) (lK (ξ (ο (ν s.length) e) g))) (lK (ξ (ο (ν s.length) e) g))) 1) 10000000000000000))/\af .i64 (ξ 0 (υ (χ (ν (cF s e.toNat)) (kh (lK (ξ (ο (ν s.length) e) g)) 1)) (lK (ξ (ο (ν s.length) e) g))))/\Q (.d [.a .i64 (ξ 0 (gY (ξ (ο (υ (χ (ν (cF s e.toNat)) (kh (lK (ξ (ο (ν s.length) e) g)) 1)) (lK (ξ (ο (ν s.length) e) g))) (lK (ξ (ο (ν s.length) e) g))) 1) 10000000000000000)),.a .i64 (ξ 0 (υ (χ (ν (cF s e.toNat)) (kh (lK (ξ (ο (ν s.length) e) g)) 1)) (lK (ξ (ο (ν s.length) e) g)))),.a .i64 0]))/\(ng=false->Q (.d [.a .i64 (υ (χ (ν (cF s e.toNat)) (kh (lK (ξ (ο (ν s.length) e) g)) 1)) (lK (ξ (ο (ν s.length) e) g))),.a .i64 (gY (ξ (ο (υ (χ (ν (cF s e.toNat)) (kh (lK (ξ (ο (ν s.length) e) g)) 1)) (lK (ξ (ο (ν s.length) e) g))) (lK (ξ (ο (ν s.length) e) g))) 1) 10000000000000000),.a .i64 0]))) (λ_=>by rfl) λQ' hQ=>?_;unfold jI jL wN at hQ;have eu:lK (ξ (ο (ν s.length) e) g)=fG s e g:=rfl;have em:ν (cF s e.toNat)=gf s e:=rfl;have mx:kh (fG s e g) 1=fG s e g:=by rw[kP];omega
   have e2:υ ((gf s e).tdiv (fG s e g)) (fG s e g)=oS s e g:=e1;rw[eu,em,mx,e2,hx,hd,hm,hk];have lb:0<=oS s e g/\oS s e g<=10000000000000000:=by unfold oS;omega
   generalize oS s e g=l at *;generalize (gf s e).tdiv (fG s e g)=q at *;generalize fG s e g=u at *;generalize gf s e=mm at *;show π s.length 140737488351232/\_;rw[show ξ (ο l u) 1=l+u-1 from rfl];have mb:gY (l+u-1) 10000000000000000<=10000000000000000/\0<=gY (l+u-1) 10000000000000000:=by rw[EB];omega
   generalize gY (l+u-1) 10000000000000000=h at *;cases ng<;>simp only[zAj]at hQ<;>simp only[az,reduceCtorEq]<;>(repeat' first|exact trivial|refine⟨?_,?_⟩|intro)<;>first|contradiction|omega|exact hQ|rfl|grind
 grind
theorem amn(hS:ak Tryz.prog cfg S):ak Tryz.prog cfg (d5 S 86 BN):=by
 have hS':ak Tryz.prog cfg yK:=bm aW ((ae0 aW) 88 _ rfl);refine au hS λargs t v he hv=>?_;unfold BN at he;split at he
 . rename_i ng lg s e g mo da a b c;cases he;replace hv:=aF hv;obtain⟨⟨h1,hk,hg,-⟩,hv⟩:=hv;cases hv;rw[al]at h1;rw[aq]at hg;obtain⟨hx,g1,g2⟩:=ac9 hk hg;obtain⟨he',hl,hd,hm,_⟩:=Bk hk hx;obtain⟨u1,m1,r1,e1,t1,t2⟩:=ad3 hk hg;refine kA hS' (L:=Mm) akU (by simp) (dv aiP λi hi e he st Q hw=>?_) (jJ (bE 112240227700020022756) (R:=λQ=>π s.length 1000/\dV s/\ab 0 e/\ab e 1000/\magOk s e.toNat/\af .i64 (ο (ν s.length) e)/\ab g (ο (ν s.length) e)/\ab (ς (ο (ν s.length) e) g) 16/\ab 0 g/\ab (ο (ν s.length) e) 1000/\(∀J1:Nat->Value,not (aa (lK (ς (ο (ν s.length) e) g)) 0)/\af .i64 (ξ (ν (cF s e.toNat)) (ω (ν (cF s e.toNat)) (lK (ς (ο (ν s.length) e) g))))/\af .i64 (ξ (lK (ς (ο (ν s.length) e) g)) 1)/\af .i64 (ο (ξ (ν (cF s e.toNat)) (ω (ν (cF s e.toNat)) (lK (ς (ο (ν s.length) e) g)))) (ξ (lK (ς (ο (ν s.length) e) g)) 1))/\(ng->af .i64 (ξ 0 (gY (ο (ξ (ν (cF s e.toNat)) (ω (ν (cF s e.toNat)) (lK (ς (ο (ν s.length) e) g)))) (ξ (lK (ς (ο (ν s.length) e) g)) 1)) 10000000000000000))/\af .i64 (ξ 0 (ξ (ν (cF s e.toNat)) (ω (ν (cF s e.toNat)) (lK (ς (ο (ν s.length) e) g)))))/\Q (.d [.a .i64 (ξ 0 (gY (ο (ξ (ν (cF s e.toNat)) (ω (ν (cF s e.toNat)) (lK (ς (ο (ν s.length) e) g)))) (ξ (lK (ς (ο (ν s.length) e) g)) 1)) 10000000000000000)),.a .i64 (ξ 0 (ξ (ν (cF s e.toNat)) (ω (ν (cF s e.toNat)) (lK (ς (ο (ν s.length) e) g)))))]))/\(ng=false->Q (.d [.a .i64 (ξ (ν (cF s e.toNat)) (ω (ν (cF s e.toNat)) (lK (ς (ο (ν s.length) e) g)))),.a .i64 (gY (ο (ξ (ν (cF s e.toNat)) (ω (ν (cF s e.toNat)) (lK (ς (ο (ν s.length) e) g)))) (ξ (lK (ς (ο (ν s.length) e) g)) 1)) 10000000000000000)])))) (λ_=>by rfl) λQ' hQ=>?_) (by rfl)
   . have hi:i=0:=by grind
     subst hi;cases he;exact bR (cC.a0 hS') (by decide) rfl apq hw
   have hQ:=hQ _ rfl;unfold jI jL wN oS at hQ;have eu:lK (ο (ν s.length) e-g)=fG s e g:=rfl;have em:ν (cF s e.toNat)=gf s e:=rfl;have t3:ω (gf s e) (fG s e g)=gf s e%fG s e g:=t2;rw[eu,em,t3,hd,hm];generalize gf s e%fG s e g=r at *;generalize fG s e g=u at *;generalize gf s e=mm at *;show π s.length 1000/\_;rw[show ο (ξ mm r) (ξ u 1)=mm-r+u-1 by grind];have mb:gY (mm-r+u-1) 10000000000000000<=10000000000000000/\0<=gY (mm-r+u-1) 10000000000000000:=by rw[EB];omega
   generalize gY (mm-r+u-1) 10000000000000000=h at *;cases ng<;>simp only[zAj]at hQ<;>simp only[az,reduceCtorEq]<;>(repeat' first|exact trivial|refine⟨?_,?_⟩|intro)<;>first|contradiction|omega|exact hQ|rfl|grind
 grind
theorem Cc{e:Int}(h:bW ng lg s e g mo da x y z=0):nH ng lg s e g mo da x y z=0:=by
 unfold bW at h;cases hE:aa (nH ng lg s e g mo da x y z) 0 with
 | true=>exact ao.mp hE
 | false=>grind
theorem acz{e:Int}(h:nH ng lg s e g mo da x y z=0):nH ng lg s e g mo da 0 0 0=0/\oc ng lg s e g mo=true:=by
 grind [nH,errMk]
theorem ak5{e:Int}(h:bW ng lg s e g mo da x y z=0):bW ng lg s e g mo da 0 0 0=0:=by
 grind [Cc,acz,bW]
theorem aek{g:Nat}(hg:g<=99)(h:eW mo g)(hx:eC mo 88 88=0):H4 mo/\1<=XR mo/\XR mo<=g:=by
 unfold eW at h;obtain⟨k,hk,ha⟩:=List.any_eq_true.1 h;rw[List.mem_range]at hk;have hn:=Oo hx
 match mo,ha,hn with
 | [c0,c1],ha,hn=>
   grind [Gu,H4,XR,ko,dB]
 | [],ha,_=>simp[agr]at ha
 | [_],ha,_=>simp[agr]at ha
 | _::_::_::_,ha,_=>simp[agr]at ha
theorem aaj{e:Int}(h0:bW ng lg s e g mo da a b c=0)(hx:eA (s++mo++da)=false)(hs:s.length<=1000):agm s e/\(aV ng lg s e g&&Β (eC s 88 88) 0)/\H4 mo/\H4 da/\kY (dY ng s e) (XR mo) (XR da)/\ae mo []=aa (XR mo) 0/\ae da []=aa (XR da) 0:=by
 have hd:=Cc h0;obtain⟨hY,_,_,hm,hda⟩:=dC hd dE;have hD:=(acz hd).2;unfold eA at hx;rw[Α,aJ,Dj,Dj]at hx;have hx1:eC s 88 88=0:=by omega
 have hx2:eC mo 88 88=0:=by omega
 have hx3:eC da 88 88=0:=by omega
 obtain⟨he,hl,hdg,hmk,hmv⟩:=Bk hY hx1;have hy : -10000000000000000<=dY ng s e/\dY ng s e<=10000000000000000:=by grind [dY]
 refine⟨?_,?_,?_⟩
 . grind [agm,al,aq]
 . simp_all
 by_cases h1:aR mo=0
 . cases hb:ae mo []with
   | true=>
     have hmo:mo=[]:=by grind [bV]
     have hda0:ae da []=true:=by
      grind
     have hdn:da=[]:=by grind [bV]
     subst hmo hdn;exact⟨rfl,rfl,ju.2 ⟨hy,by decide,.inl rfl⟩,rfl,rfl⟩
   | false=>
     obtain⟨n1,n2,n3⟩:=aek (by omega) (hm ⟨hb,h1⟩) hx2;have e1:false=aa (XR mo) 0:=by grind [aw]
     cases hb2:ae da []with
     | true=>
       have hdn:da=[]:=by grind [bV]
       subst hdn;exact⟨n1,rfl,ju.2 ⟨hy,by decide,.inr (.inl ⟨n2,n3⟩)⟩,e1,rfl⟩
     | false=>
       obtain⟨m1,m2,m3⟩:=aek (by omega) (hda hb2).2.2 hx3;grind [ju,aw]
 . have hz:=h1;obtain⟨h1,h2⟩:=(L6 mo).resolve_left hz
   . have hc:21<=aR mo/\aR mo<=41:=by grind [qH]
     have hb:ae mo []=false:=by
      rw[<-Bool.not_eq_true];intro k;rw[bV,beq_iff_eq]at k;subst k;exact hz rfl
     have hda0:ae da []=true:=by
      grind
     have hdn:da=[]:=by grind [bV]
     subst hdn;unfold oc at hD;rw[zAc]at hD;obtain⟨_,_,hD⟩:=hD;refine⟨h1,rfl,ju.2 ⟨hy,by decide,.inr (.inr ?_)⟩,?_,rfl⟩<;>grind [N_,dY,aw]
theorem ahZ{e:Int}(hk:aV ng lg s e g)(hg:1<=g):(-10000000000000000<=jI ng s e g/\jI ng s e g<=10000000000000000)/\(-10000000000000000<=jL ng s e g/\jL ng s e g<=10000000000000000)/\jI ng s e g<=jL ng s e g:=by
 obtain⟨u,m,r,_⟩:=ad3 hk hg;grind [jI,jL,wN,oS,EB]
theorem aho{l:List UInt8}{g:Nat}(hg:g<=99)(h:x∈Co l g)(hx:eC l 88 88=0):XR l=x/\1<=x/\x<=g:=by
 have hn:=Oo hx;unfold Co at h;split at h
 . rename_i c0 c1;obtain⟨h1,h2⟩:=iG.1 h;have hi:=Gu.1 h2;have n0:=hn c0 (by simp);have n1:=hn c1 (by simp);refine⟨?_,h1⟩;show 10*((c0.toNat:Int)-48)+((c1.toNat:Int)-48)=x;omega
 grind
theorem aaR{e:Int}(h0:bW ng lg s e g mo da a b c=0)(hx:eA (s++mo++da)=false)(hd:ae da []=false):1<=XR mo/\XR mo<=12/\1<=XR da/\XR da<=d6 (dY ng s e) (XR mo):=by
 have hE:=Cc h0;obtain⟨hY,hX,_⟩:=dC hE dE;have hf:qK ng s e mo da=true:=by
  unfold bW at h0;rw[hE,hd]at h0;cases h:qK ng s e mo da with
  | true=>rfl
  | false=>rw[h]at h0;exact absurd h0 (by decide)
 unfold eA at hx;rw[Α,aJ,Dj,Dj]at hx;obtain⟨k,h1,_,m,hm,d,hd',hle⟩:=(zg hY hX hd (by decide) _ _ (Nat.le_refl _)).1 hf;unfold mK at h1;rw[show Β (eC s 88 88) 0=true from aJ.mpr (by omega),cond_true]at h1;obtain⟨e1,m1,m2⟩:=aho (by decide) hm (by omega);obtain⟨e2,d1,d2⟩:=aho (by decide) hd' (by omega);subst h1 e1 e2;exact⟨m1,m2,d1,hle⟩
theorem aaU{e:Int}(h0:bW ng lg s e g mo da a b c=0)(hx:eA (s++mo++da)=false)(hm:ae mo []=false)(hs:aR mo=0):1<=XR mo/\XR mo<=12:=by
 obtain⟨_,_,_,h4,_⟩:=dC (Cc h0) dE;unfold eA at hx;rw[Α,aJ,Dj,Dj]at hx;exact(aek (by decide) (h4 ⟨hm,hs⟩) (by omega)).2
def Cr:dP:=λ
 | [.e [a,b]]=>some (aH [dB a&&dB b] (.a0 (.d [.a .i64 (ko a b),.k])))
 | _=>none
def TB:aQ:=d5 (d5 (d5 (d5 (d5 (d5 (d5 (d5 (d5 (d5 (d5 gZ 42 tx) 80 Wa) 146 Ol) 167 NO) 229 Nz) 289 Sd) 290 QV) 293 Q4) 294 Qw) 246 Pq) 241 Cr
def fL(ng lg:Bool)(s:List UInt8)(e g:Int)(mo da:List UInt8)(a b c:Int):Bool:=π s.length 1000&&af .i64 e&&af .u8 a&&af .u8 b&&af .u8 c&&aa (bW ng lg s e g mo da a b c) 0&&!(eA (s++mo++da))&&aa g 0
def aP(ng:Bool)(s:List UInt8)(e:Int)(mo da:List UInt8):Int:=iO (dY ng s e) (XR mo) (XR da)
def bq(ng:Bool)(s:List UInt8)(e:Int)(mo da:List UInt8):Int:=iD (dY ng s e) (XR mo) (XR da)
def xY:dP:=λ
 | [.h [.b ng,.b lg,.e s,.a .i64 e,.a .i64 g,.e mo,.e da,.a .u8 a,.a .u8 b,.a .u8 c]]=>some (aH [fL ng lg s e g mo da a b c] (.a0 (.d [vR (aP ng s e mo da) (bq ng s e mo da),.a .i64 0])))
 | _=>none
theorem am3(hS:ak Tryz.prog cfg S):ak Tryz.prog cfg (d5 S 241 Cr):=by
 refine au hS λargs t v he hv=>?_;unfold Cr at he;split at he
 . rename_i a b;cases he;replace hv:=aF hv;obtain⟨⟨h1,-⟩,hv⟩:=hv;cases hv;unfold dB at h1;simp only[zAa,zAc]at h1;refine jD aW ai (bE 1035732052203205332002200066) (R:=λQ=>not (aa (ν a.toNat) 45)/\not (aa (ν a.toNat) 45)/\not (aa (ν a.toNat) 45)/\aa (ν a.toNat) 45=false/\aa (ν a.toNat) 43=false/\af .u8 (ξ (ν a.toNat) 48)/\not (ab (ξ (ν a.toNat) 48) 9)=false/\af .i64 (ξ (ν a.toNat) 48)/\af .i64 (ο 0 (ξ (ν a.toNat) 48))/\af .u8 (ξ (ν b.toNat) 48)/\not (ab (ξ (ν b.toNat) 48) 9)=false/\af .i64 (υ (ο 0 (ξ (ν a.toNat) 48)) 10)/\af .i64 (ξ (ν b.toNat) 48)/\af .i64 (ο (υ (ο 0 (ξ (ν a.toNat) 48)) 10) (ξ (ν b.toNat) 48))/\aa (ν a.toNat) 45=false/\Q (.d [.a .i64 (ο (υ (ο 0 (ξ (ν a.toNat) 48)) 10) (ξ (ν b.toNat) 48)),AV.k])) (λ_=>by rfl) λQ' hQ=>?_;have fin:∀x:Int,x=ko a b->Q' (.d [.a .i64 x,.k]):=λx h=>hQ _ (by rw[h]);clear hQ;unfold ko at fin;simp only[az,reduceCtorEq]at fin ⊢;grind
 grind
theorem afw:ak Tryz.prog cfg TB:=am3 (bm (bm (bm (bm (bm (MA (bm (Ks (bm (G9 aW) (Uy 80 _ rfl))) (FM 167 _ rfl))) (Bg 289 _ rfl)) (Bg 290 _ rfl)) (EG 293 _ rfl)) (A_ 294 _ rfl)) (JT 246 _ rfl))
theorem aa0(x:Int):aa x x=true:=ao.mpr rfl
theorem ye{e:Int}:fL ng lg s e g mo da a b c=true↔s.length<=1000/\af .i64 e/\af .u8 a/\af .u8 b/\af .u8 c/\bW ng lg s e g mo da a b c=0/\eA (s++mo++da)=false/\g=0:=by
 grind [fL,al,ao]
theorem x5{l:List UInt8}(h:H4 l):l=[]\/∃a b,l=[a,b]/\(dB a&&dB b)=true:=by
 match l,h with
 | [],_=>simp
 | [a,b],h=>exact .inr ⟨a,b,rfl,h⟩
 | [_],h=>grind [H4]
 | _::_::_::_,h=>grind [H4]
theorem ajG(hS:ak Tryz.prog cfg S):ak Tryz.prog cfg (d5 S 205 xY):=by
 refine au hS λargs t v he hv=>?_;unfold xY at he;split at he
 . rename_i ng lg s e g mo da a b c;cases he;replace hv:=aF hv;obtain⟨⟨h1,-⟩,hv⟩:=hv;cases hv;obtain⟨h6,i1,i2,i3,i4,h0,hx,rfl⟩:=ye.1 h1;obtain⟨p1,p2,p3,p4,p5,p6,p7⟩:=aaj h0 hx h6;obtain⟨hy,-,hm⟩:=ju.1 p5;have yb:=bX.2 hy;have n1:π s.length 1000=true:=al.mpr h6;rcases x5 p3 with rfl|⟨m0,m1,rfl,hmd⟩
   . rcases x5 p4 with rfl|⟨d0,d1,rfl,hdd⟩
     . refine jD afw ai (bE 1052025570200255666666622000522027002025663702002006) (R:=λQ=>π s.length 1000/\af .i64 e/\af .u8 a/\af .u8 b/\af .u8 c/\not (aa (bW ng lg s e 0 [] [] a b c) 0)=false/\π (σ s.length 0) 1000000/\π (σ (τ (s++[])) 0) 1000000/\π (τ ((s++[])++[])) 1000000/\not (eA ((s++[])++[]))/\not (eA ((s++[])++[]))/\not (eA ((s++[])++[]))/\not (eA ((s++[])++[]))/\not (eA ((s++[])++[]))/\π s.length 1000/\and (aV ng lg s e 0) (Β (eC s 88 88) 0)/\π s.length 1000/\af .i64 e/\af .u8 a/\af .u8 b/\af .u8 c/\eO (dY ng s e)/\eO (dY ng s e)/\Q (.d [.h [.a .i8 0,.a .i64 (bf (dY ng s e)),.a .i8 0,.a .i64 (ς (bf (σ (dY ng s e) 1)) 1)],.a .i64 0])) (λ_=>by kernel_rfl) (hi:=(by rfl)) λQ' hQ=>?_;have hQ:Q' (.d [vR (bf (dY ng s e)) (bf (dY ng s e+1)-1),.a .i64 0]):=hQ _ rfl;simp_all [vR,aa0];omega
     . have:=(aaR h0 hx rfl).1;exact absurd this (by decide)
   . have l0:(s++[m0,m1]).length=s.length+2:=by simp
     have l1:π (s.length+2) 1000000=true:=al.mpr (by omega);have hz:aa (XR [m0,m1]) 0=false:=p6.symm;have hm0:XR [m0,m1]=ko m0 m1:=rfl;rcases x5 p4 with rfl|⟨d0,d1,rfl,hdd⟩
     . have l2:π ((s++[m0,m1]).length+0) 1000000=true:=al.mpr (by omega);have l3:π (s++[m0,m1]++[]).length 1000000=true:=al.mpr (by grind);have hQ0:vR (aP ng s e [m0,m1] []) (bq ng s e [m0,m1] [])=(bif ab 13 (ko m0 m1)then vR (aG (dY ng s e) (fR (ko m0 m1))) (aG (fq (dY ng s e) (ko m0 m1)) (kX (dY ng s e) (ko m0 m1)+2)-1)else vR (aG (dY ng s e) (ko m0 m1)) (aG (dY ng s e) (ko m0 m1+1)-1)):=by
        unfold aP bq iO iD;rw[hz,hm0];cases ab 13 (ko m0 m1)<;>rfl
       cases hc:ab 13 (ko m0 m1)with
       | true=>
         have hc':=hc;rw[aq]at hc';have hs:aa (aR [m0,m1]) 0=false:=by
          grind [aw,aaU]
         rw[hc,cond_true]at hQ0;rw[hQ0];refine nF afw ai (bE 1000570520070200206666620022000522027002025663702002006) (R:=λQ=>π s.length 1000/\af .i64 e/\af .u8 a/\af .u8 b/\af .u8 c/\not (aa (bW ng lg s e 0 [m0,m1] [] a b c) 0)=false/\π (σ s.length 2) 1000000/\π (σ (τ (s++[m0,m1])) 0) 1000000/\π (τ ((s++[m0,m1])++[])) 1000000/\not (eA ((s++[m0,m1])++[]))/\not (eA ((s++[m0,m1])++[]))/\not (eA ((s++[m0,m1])++[]))/\not (eA ((s++[m0,m1])++[]))/\not (eA ((s++[m0,m1])++[]))/\π s.length 1000/\and (aV ng lg s e 0) (Β (eC s 88 88) 0)/\and (dB m0) (dB m1)/\π s.length 1000/\af .i64 e/\af .u8 a/\af .u8 b/\af .u8 c/\not (aa (aR [m0,m1]) 0)/\eO (dY ng s e)/\zI (ko m0 m1)/\eO (fq (dY ng s e) (ko m0 m1))/\Q (.d [.h [.a .i8 0,.a .i64 (aG (dY ng s e) (fR (ko m0 m1))),.a .i8 0,.a .i64 (ς (aG (fq (dY ng s e) (ko m0 m1)) (σ (kX (dY ng s e) (ko m0 m1)) 2)) 1)],.a .i64 0])) (λ_=>by kernel_rfl) (hi:=(by rfl)) λQ' hQ=>?_;grind [vR,mg,aa0]
       | false=>
         have hc':=hc;rw[bF]at hc';have hs:aa (aR [m0,m1]) 0=true:=by
          grind [ao,L6,qH]
         rw[hc,cond_false]at hQ0;rw[hQ0];refine nF afw ai (bE 10522522630070200206666620022000522027002025663702002006) (R:=λQ=>π s.length 1000/\af .i64 e/\af .u8 a/\af .u8 b/\af .u8 c/\not (aa (bW ng lg s e 0 [m0,m1] [] a b c) 0)=false/\π (σ s.length 2) 1000000/\π (σ (τ (s++[m0,m1])) 0) 1000000/\π (τ ((s++[m0,m1])++[])) 1000000/\not (eA ((s++[m0,m1])++[]))/\not (eA ((s++[m0,m1])++[]))/\not (eA ((s++[m0,m1])++[]))/\not (eA ((s++[m0,m1])++[]))/\not (eA ((s++[m0,m1])++[]))/\π s.length 1000/\and (aV ng lg s e 0) (Β (eC s 88 88) 0)/\and (dB m0) (dB m1)/\π s.length 1000/\af .i64 e/\af .u8 a/\af .u8 b/\af .u8 c/\not (aa (aR [m0,m1]) 0)=false/\eO (dY ng s e)/\tL (ko m0 m1)/\eO (dY ng s e)/\tL (ko m0 m1)/\Q (.d [.h [.a .i8 0,.a .i64 (aG (dY ng s e) (ko m0 m1)),.a .i8 0,.a .i64 (ς (aG (dY ng s e) (σ (ko m0 m1) 1)) 1)],.a .i64 0])) (λ_=>by kernel_rfl) (hi:=(by rfl)) λQ' hQ=>?_;grind [vR,gX,aa0]
     . obtain⟨q1,q2,q3,q4⟩:=aaR h0 hx rfl;have hd0:XR [d0,d1]=ko d0 d1:=rfl;rw[hm0]at q1 q2 q4;rw[hd0]at q3 q4;have l2:π ((s++[m0,m1]).length+2) 1000000=true:=al.mpr (by omega);have l3:π (s++[m0,m1]++[d0,d1]).length 1000000=true:=al.mpr (by grind);have hQ0:vR (aP ng s e [m0,m1] [d0,d1]) (bq ng s e [m0,m1] [d0,d1])=vR (aG (dY ng s e) (ko m0 m1)+ko d0 d1-1) (aG (dY ng s e) (ko m0 m1)+ko d0 d1-1):=by
        unfold aP bq iO iD;rw[hz,hm0,hd0,show ab 13 (ko m0 m1)=false from bF.mpr (by omega),show aa (ko d0 d1) 0=false from aw.mpr (by omega)];rfl
       rw[hQ0];refine nF afw ai (bE 10522022533220220022667020020006620020022000522027002025663702002006) (R:=λQ=>π s.length 1000/\af .i64 e/\af .u8 a/\af .u8 b/\af .u8 c/\not (aa (bW ng lg s e 0 [m0,m1] [d0,d1] a b c) 0)=false/\π (σ s.length 2) 1000000/\π (σ (τ (s++[m0,m1])) 2) 1000000/\π (τ ((s++[m0,m1])++[d0,d1])) 1000000/\not (eA ((s++[m0,m1])++[d0,d1]))/\not (eA ((s++[m0,m1])++[d0,d1]))/\not (eA ((s++[m0,m1])++[d0,d1]))/\not (eA ((s++[m0,m1])++[d0,d1]))/\not (eA ((s++[m0,m1])++[d0,d1]))/\π s.length 1000/\and (aV ng lg s e 0) (Β (eC s 88 88) 0)/\and (dB m0) (dB m1)/\and (dB d0) (dB d1)/\π s.length 1000/\af .i64 e/\af .u8 a/\af .u8 b/\af .u8 c/\eO (dY ng s e)/\tL (ko m0 m1)/\not (not (ab 1 (ko d0 d1)))/\not (not (ab 1 (ko d0 d1)))/\not (not (ab 1 (ko d0 d1)))/\not (not (ab 1 (ko d0 d1)))/\not (ab 1 (ko d0 d1))=false/\not (ab (ko d0 d1) (d6 (dY ng s e) (ko m0 m1)))=false/\eO (dY ng s e)/\tL (ko m0 m1)/\af .i64 (ο (aG (dY ng s e) (ko m0 m1)) (ko d0 d1))/\af .i64 (ξ (ο (aG (dY ng s e) (ko m0 m1)) (ko d0 d1)) 1)/\Q (.d [.h [.a .i8 0,.a .i64 (ξ (ο (aG (dY ng s e) (ko m0 m1)) (ko d0 d1)) 1),.a .i8 0,.a .i64 (ξ (ο (aG (dY ng s e) (ko m0 m1)) (ko d0 d1)) 1)],.a .i64 0])) (λ_=>by kernel_rfl) (hi:=(by rfl)) λQ' hQ=>?_;unfold vR at hQ;have ml:=jk (dY ng s e) (ko m0 m1);have mb:=@mst_bd (dY ng s e) (ko m0 m1) hy q1 (by omega);have k1:tL (ko m0 m1)=true:=gX.2 ⟨q1,q2⟩;have k2:ab 1 (ko d0 d1)=true:=aq.mpr q3;have k3:ab (ko d0 d1) (d6 (dY ng s e) (ko m0 m1))=true:=aq.mpr q4;grind [aE,eH,eE,aa0]
 grind
def wa(ng lg:Bool)(s:List UInt8)(e g:Int)(mo da:List UInt8)(a b c:Int):Bool:=π s.length 1000&&af .i64 e&&af .i64 g&&af .u8 a&&af .u8 b&&af .u8 c&&aa (bW ng lg s e g mo da a b c) 0
def cK(s:List UInt8)(g:Int)(mo da:List UInt8):Bool:=!(eA (s++mo++da))&&aa g 0
def eX(s:List UInt8)(g:Int)(mo da:List UInt8):Bool:=cK s g mo da&&aa (aR mo) 0
def yc:dP:=λ
 | [.h [.b ng,.b lg,.e s,.a .i64 e,.a .i64 g,.e mo,.e da,.a .u8 a,.a .u8 b,.a .u8 c]]=>some (aH [wa ng lg s e g mo da a b c] (.a0 (.b (eX s g mo da))))
 | _=>none
def TC:aQ:=d5 (d5 (d5 gZ 42 tx) 80 Wa) 167 NO
def tZ:dP:=λ
 | [.h [.b ng,.b lg,.e s,.a .i64 e,.a .i64 g,.e mo,.e da,.a .u8 a,.a .u8 b,.a .u8 c]]=>some (aH [fL ng lg s e g mo da a b c] (.a0 (.d [vR (aP ng s e mo da) (bq ng s e mo da),.a .i64 0])))
 | _=>none
theorem aga:ak Tryz.prog cfg TC:=bm (bm (G9 aW) (Uy 80 _ rfl)) (FM 167 _ rfl)
theorem yn{e:Int}:wa ng lg s e g mo da a b c=true↔s.length<=1000/\af .i64 e/\af .i64 g/\af .u8 a/\af .u8 b/\af .u8 c/\bW ng lg s e g mo da a b c=0:=by
 grind [wa,al,ao]
theorem aex{l:List UInt8}{g:Nat}(hg:g<=99)(h:eW l g):l.length=2:=by
 grind [oi]
theorem aaX{e:Int}(h0:bW ng lg s e g mo da a b c=0):mo.length<=2/\da.length<=2/\(ae da []=false->ae mo []=false/\aa (aR mo) 0=true):=by
 obtain⟨_,_,_,h4,h5⟩:=dC (Cc h0) dE;refine⟨?_,?_,λh=>⟨(h5 h).1,ao.mpr (h5 h).2.1⟩⟩
 . cases hm:ae mo []with
   | true=>
     grind [bV]
   | false=>
     rcases L6 mo with k|⟨k,_⟩
     . rw[aex (by decide) (h4 ⟨hm,k⟩)];simp
     grind [x5]
 . cases hd:ae da []with
   | true=>
     grind [bV]
   | false=>rw[aex (by decide) (h5 hd).2.2];simp
theorem abT(h6:s.length<=1000)(hm:mo.length<=2)(hd:da.length<=2):π s.length 1000/\π mo.length 1000/\π da.length 1000/\π (s.length+mo.length) 1000000/\π ((s++mo).length+da.length) 1000000/\π (s++mo++da).length 1000000=true:=by
 simp;omega
theorem aj2(hS:ak Tryz.prog cfg S):ak Tryz.prog cfg (d5 S 265 yc):=by
 refine au hS λargs t v he hv=>?_;unfold yc at he;split at he
 . rename_i ng lg s e g mo da a b c;cases he;replace hv:=aF hv;obtain⟨⟨h1,-⟩,hv⟩:=hv;cases hv;obtain⟨h6,i1,i2,i3,i4,i5,h0⟩:=yn.1 h1;obtain⟨lm,ld,hds⟩:=aaX h0;obtain⟨n1,n2,n3,n4,n5,n6⟩:=abT h6 lm ld;refine nF aga ai (bE 15238181221224012241224022770062064702242002020006206777006) (R:=λQ=>π s.length 1000/\π mo.length 1000/\π da.length 1000/\af .i64 e/\af .i64 g/\af .u8 a/\af .u8 b/\af .u8 c/\aa (bW ng lg s e g mo da a b c) 0/\aa (bW ng lg s e g mo da a b c) 0/\π (σ s.length mo.length) 1000000/\π (σ (τ (s++mo)) da.length) 1000000/\π (τ ((s++mo)++da)) 1000000/\(not (eA ((s++mo)++da))->not (eA ((s++mo)++da))/\not (eA ((s++mo)++da))/\not (eA ((s++mo)++da))/\not (eA ((s++mo)++da))/\aa (bW ng lg s e g mo da a b c) 0/\(aa g 0->aa g 0/\π s.length 1000/\π mo.length 1000/\π da.length 1000/\af .i64 e/\af .i64 g/\af .u8 a/\af .u8 b/\af .u8 c/\(not (ae da [])->aa g 0/\aa g 0/\Q (.b true))/\(not (ae da [])=false->(not (aa (aR mo) 0)->aa g 0/\aa g 0/\Q (.b false))/\(not (aa (aR mo) 0)=false->(not (ae mo [])->aa g 0/\aa g 0/\Q (.b true))/\(not (ae mo [])=false->aa g 0/\aa g 0/\Q (.b true)))))/\(aa g 0=false->aa g 0=false/\aa g 0=false/\aa g 0=false/\Q (.b false)))/\(not (eA ((s++mo)++da))=false->not (eA ((s++mo)++da))=false/\not (eA ((s++mo)++da))=false/\not (eA ((s++mo)++da))=false/\not (eA ((s++mo)++da))=false/\aa (bW ng lg s e g mo da a b c) 0/\Q (.b false))) (λ_=>by rfl) λQ' hQ=>?_;unfold eX cK at hQ;rw[n1,n2,n3,n4,n5,n6,i1,i2,i3,i4,i5,h0];cases hx:eA (s++mo++da)<;>rw[hx]at hQ<;>cases hg:aa g 0<;>rw[hg]at hQ<;>cases hd:ae da []<;>cases hs:aa (aR mo) 0<;>rw[hs]at hQ<;>first|(rw[(hds hd).2]at hs;cases hs;done)|grind [aa0]
 grind
theorem alq:ec tab 75=some (dH 75,aL 75):=by rfl
theorem afy(hS:ak Tryz.prog cfg S):ak Tryz.prog cfg (d5 S 75 tZ):=by
 refine au hS λargs t v he hv=>?_;unfold tZ at he;split at he
 . rename_i ng lg s e g mo da a b c;cases he;replace hv:=aF hv;obtain⟨⟨h1,-⟩,hv⟩:=hv;cases hv;obtain⟨h6,i1,i2,i3,i4,h0,hx,rfl⟩:=ye.1 h1;obtain⟨lm,ld,-⟩:=aaX h0;obtain⟨p1,p2,p3,p4,p5,p6,p7⟩:=aaj h0 hx h6;have n1:π s.length 1000=true:=al.mpr h6;have n2:π mo.length 1000=true:=al.mpr (by omega);have n3:π da.length 1000=true:=al.mpr (by omega);have q6:=acr.2 p6;have q7:=acr.2 p7;unfold afT at q6 q7;refine kA alb (L:=jE) alq (by simp) ai (eD λQ' hQ=>cg ((Of ng lg s e 0 mo da a b c).mpr ?_)) (by rfl);have hQ:=hQ _ rfl;unfold vR aP bq at hQ;show(π s.length 1000->_)/\_;rw[n1,n2,n3,i1,i2,i3,i4,h0];simp only[hx,p2,p3,p4,p5,q6,q7,aa0,show af .i64 (0:Int)=true from rfl,show ab 1 (0:Int)=false from rfl,Bool.or_false,Bool.false_or,true_imp_iff,reduceCtorEq,false_imp_iff,and_true,true_and,Bool.not_true,Bool.not_false];omega
 grind
end Go.Ev
