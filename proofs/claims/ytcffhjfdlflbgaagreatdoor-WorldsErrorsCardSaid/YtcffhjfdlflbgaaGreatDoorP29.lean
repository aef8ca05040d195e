import Derived.Test.YtcffhjfdlflbgaaGreatDoorP28
set_option linter.all false
open Int renaming ofNat->ν,sub->π,add->ς,mul->ω,tdiv->Β
open HAppend renaming hAppend->ξ
open Nat renaming ble->ο,beq->Δ
open List renaming length->σ,cons->τ,nil->Α
open HAdd renaming hAdd->υ
open UInt8 renaming toNat->χ
open Bool renaming not->ψ,not_eq_false'->Γ
set_option linter.all false
set_option maxRecDepth 100000
set_option maxHeartbeats 4000000
namespace Go.Ev
open Go Go.Proofs
variable{Q:AV->Prop}{S:aQ}{ng lg:Bool}{s mo da:List UInt8}{g x y z a b c:Int}
def agm(s:List UInt8)(e:Int):Bool:=ο s.length 1000&&(dV s&&(ab 0 e&&(ab e 1000&&magOk s e.toNat)))
def aiQ:dP:=λ
 | [.e l]=>some (aH [H4 l] (.a0 (.a .i64 (XR l))))
 | _=>none
def aj8:dP:=λ
 | [.g [.b ng,.b lg,.e s,.a .i64 e,.a .i64 g,.e mo,.e da,.a .u8 a,.a .u8 b,.a .u8 c]]=>some (aH [ο s.length 1000,ο mo.length 1000,ο da.length 1000] (.a0 (.b (eA (s++mo++da) || ab 1 g))))
 | _=>none
def afT(a b:Bool):Bool:=bif a then b else !b
def akc:dP:=λ
 | [.g [.b ng,.b lg,.e s,.a .i64 e,.a .i64 g,.e mo,.e da,.a .u8 a,.a .u8 b,.a .u8 c],.g [.a .i64 y,.a .i64 m,.a .i64 d]]=>some (aH [kY y m d,afT (ae mo []) (aa m 0),afT (ae da []) (aa d 0)] (.a0 (.d [vR (iO y m d) (iD y m d),.a .i64 0])))
 | _=>none
def F2:aQ:=aK (aK (aK (aK (aK gZ 42 tx) 146 Ol) 81 aiQ) 145 aj8) 147 akc
def B_:dP:=λ
 | [.a .i64 y,.a .u8 p]=>some (aH [eO y,aa p 1] (.a0 (.d [vR (bf y) (bf (y+1)-1),.a .i64 0])))
 | _=>none
theorem am4:gG Q (pT gZ jE 81 [.e []]) (.e (.e .z))=Q (AV.a .i64 0):=κ
theorem amS(a b:UInt8)(ha:48<=a.toNat/\a.toNat<=57)(hb:48<=b.toNat/\b.toNat<=57):gG Q (pT gZ jE 81 [.e [a,b]]) (bE 10027057005)=(af .u8 (π (ν (χ a)) 48)/\(af .i64 (π (ν (χ a)) 48)/\(af .i64 (ς 0 (π (ν (χ a)) 48))/\(af .i64 (ω 10 (ς 0 (π (ν (χ a)) 48)))/\(af .u8 (π (ν (χ b)) 48)/\(af .i64 (π (ν (χ b)) 48)/\(af .i64 (ς (ω 10 (ς 0 (π (ν (χ a)) 48))) (π (ν (χ b)) 48))/\Q (AV.a .i64 (ς (ω 10 (ς 0 (π (ν (χ a)) 48))) (π (ν (χ b)) 48)))))))))):=κ
theorem aos(ng lg:Bool)(s:List UInt8)(e g:Int)(mo da:List UInt8)(a b c:Int)(hs:s.length<=1000)(hm:mo.length<=1000)(hd:da.length<=1000):gG Q (pT X1 jE 145 [.g [.b ng,.b lg,.e s,.a .i64 e,.a .i64 g,.e mo,.e da,.a .u8 a,.a .u8 b,.a .u8 c]]) (bE 11128132022440040200)=(ο (υ (σ s) (σ mo)) 1000000/\((ο (υ (σ (ξ s mo)) (σ da)) 1000000->((ο (σ (ξ (ξ s mo) da)) 1000000->((ψ (eA (ξ (ξ s mo) da))->(ψ (eA (ξ (ξ s mo) da))/\(ψ (eA (ξ (ξ s mo) da))/\(ψ (eA (ξ (ξ s mo) da))/\(eA (ξ (ξ s mo) da)=false/\Q (AV.b (ψ (ab g 0))))))))/\(ψ (eA (ξ (ξ s mo) da))=false->(ψ (eA (ξ (ξ s mo) da))=false/\(ψ (eA (ξ (ξ s mo) da))=false/\(ψ (eA (ξ (ξ s mo) da))=false/\(eA (ξ (ξ s mo) da)/\Q (AV.b Bool.true))))))))/\(ο (σ (ξ (ξ s mo) da)) 1000000=false->False)))/\(ο (υ (σ (ξ s mo)) (σ da)) 1000000=false->False))):=κ
def Of(ng lg:Bool)(s:List UInt8)(e g:Int)(mo da:List UInt8)(a b c:Int):gG Q (pT F2 jE 75 [.g [.b ng,.b lg,.e s,.a .i64 e,.a .i64 g,.e mo,.e da,.a .u8 a,.a .u8 b,.a .u8 c]]) (bE 111111111001111110444040045642005104700610444444444006)=((ο (σ s) 1000->((ο (σ mo) 1000->((ο (σ da) 1000->((af .i64 e->((af .i64 g->((af .u8 a->((af .u8 b->((af .u8 c->((ψ (aa (bW ng lg s e g mo da a b c) 0)->Q (AV.d (τ (AV.g (τ (AV.a .i8 0) (τ (AV.a .i64 0) (τ (AV.a .i8 0) (τ (AV.a .i64 0) Α))))) (τ (AV.a .i64 (bW ng lg s e g mo da a b c)) Α))))/\(ψ (aa (bW ng lg s e g mo da a b c) 0)=false->(ο (σ s) 1000/\(ο (σ mo) 1000/\(ο (σ da) 1000/\((Bool.or (eA (ξ (ξ s mo) da)) (ab 1 g)->Q (AV.d (τ (AV.g (τ (AV.a .i8 0) (τ (AV.a .i64 0) (τ (AV.a .i8 0) (τ (AV.a .i64 0) Α))))) (τ (AV.a .i64 1) Α))))/\(Bool.or (eA (ξ (ξ s mo) da)) (ab 1 g)=false->(ο (σ s) 1000/\((Bool.and (aV ng lg s e g) (Δ (dT s 88 88) 0)->((H4 mo->((H4 da->((kY (dY ng s e) (XR mo) (XR da)->((cond (ae mo Α) (aa (XR mo) 0) (ψ (aa (XR mo) 0))=true->((cond (ae da Α) (aa (XR da) 0) (ψ (aa (XR da) 0))=true->Q (AV.d (τ (AV.g (τ (AV.a .i8 0) (τ (AV.a .i64 (iO (dY ng s e) (XR mo) (XR da))) (τ (AV.a .i8 0) (τ (AV.a .i64 (iD (dY ng s e) (XR mo) (XR da))) Α))))) (τ (AV.a .i64 0) Α))))/\(cond (ae da Α) (aa (XR da) 0) (ψ (aa (XR da) 0))=false->False)))/\(cond (ae mo Α) (aa (XR mo) 0) (ψ (aa (XR mo) 0))=false->False)))/\(kY (dY ng s e) (XR mo) (XR da)=false->False)))/\(H4 da=false->False)))/\(H4 mo=false->False)))/\(Bool.and (aV ng lg s e g) (Δ (dT s 88 88) 0)=false->Q (AV.d (τ (AV.g (τ (AV.a .i8 0) (τ (AV.a .i64 0) (τ (AV.a .i8 0) (τ (AV.a .i64 0) Α))))) (τ (AV.a .i64 6) Α))))))))))))))/\(af .u8 c=false->False)))/\(af .u8 b=false->False)))/\(af .u8 a=false->False)))/\(af .i64 g=false->False)))/\(af .i64 e=false->False)))/\(ο (σ da) 1000=false->False)))/\(ο (σ mo) 1000=false->False)))/\(ο (σ s) 1000=false->False)):=ε
theorem Oe(y:Int)(hy : -10000000000000000<=y/\y<=10000000000000000):gG Q (pT R7 jE 74 [.a .i64 y,.a .u8 1]) (bE 110520406)=((eO y->(eO y/\Q (AV.d (τ (AV.g (τ (AV.a .i8 0) (τ (AV.a .i64 (bf y)) (τ (AV.a .i8 0) (τ (AV.a .i64 (HSub.hSub (bf (υ y 1)) 1)) Α))))) (τ (AV.a .i64 0) Α)))))/\(eO y=false->False)):=κ
theorem afW:aY tab 81=some (dH 81,aL 81):=κ
theorem aiF:aY tab 145=some (dH 145,aL 145):=κ
theorem alP:aY tab 74=some (dH 74,aL 74):=κ
theorem acr{a b:Bool}:afT a b=true↔a=b:=by cases a<;>cases b<;>decide
theorem ahQ(hS:ak Tryz.prog cfg S):ak Tryz.prog cfg (aK S 81 aiQ):=by
 refine au hS λargs t v he hv=>?_;unfold aiQ at he;split at he
 . rename_i l;cases he;obtain⟨h1,hv'⟩:=ex hv;clear hv;have hv:=hv';clear hv'
   cases hv
   match l,h1 with
   | [],_=>exact kA aW (L:=jE) afW θ ai (bb λQ' hQ=>cg (am4.mpr (hQ _ rfl))) κ
   | [a,b],h1=>
     unfold H4 dB at h1;simp only[zAa,zAc]at h1;refine kA aW (L:=jE) afW θ ai (bb λQ' hQ=>cg ((amS a b h1.1 h1.2).mpr ?_)) κ;have fin:∀x:Int,x=ko a b->Q' (.a .i64 x):=λx h=>hQ _ (by rw[h];rfl);simp_all [ko,Pp,eH,eE];omega
   | [_],h1=>grind [H4]
   | _::_::_::_,h1=>grind [H4]
 grind
theorem ake(hS:ak Tryz.prog cfg S):ak Tryz.prog cfg (aK S 145 aj8):=by
 refine au hS λargs t v he hv=>?_;unfold aj8 at he;split at he
 . rename_i ng lg s e g mo da a b c;cases he;replace hv:=aF hv;obtain⟨⟨h1,h2,h3,-⟩,hv⟩:=hv;cases hv;rw[al]at h1 h2 h3;refine kA Uy (L:=jE) aiF θ ai (bb λQ' hQ=>cg ((aos ng lg s e g mo da a b c h1 h2 h3).mpr ?_)) κ;grind [al,aq]
 grind
theorem akk(hS:ak Tryz.prog cfg S):ak Tryz.prog cfg (aK S 147 akc):=by
 refine au hS λargs t v he hv=>?_;unfold akc at he;split at he
 . rename_i ng lg s e g mo da a b c y m d;cases he;replace hv:=aF hv;obtain⟨⟨h1,h2,h3,-⟩,hv⟩:=hv;cases hv;rw[acr]at h2 h3;obtain⟨hy,hd,hm⟩:=ju.1 h1;have yb:=bX.2 hy;have cb:=@mg m;have hi:1<=m->m<=12->dc (12*y+m-1) 12=y/\j8 (12*y+m-1)=m-1:=λk1 k2=>by grind [dc,j8]
   have hid:aC (.d [vR (iO y m d) (iD y m d),.a .i64 0])=[]:=κ
   by_cases hm0:m=0
   . have hmo:ae mo []=true:=by grind [ao]
     subst hm0;refine kA J6 (L:=jE) afC θ ai (bb λQ' hQ=>cg ((amZ ng lg s e g mo da a b c y 0 d).mpr ?_)) hid;dsimp only;have hQ:Q' (.d [vR (bf y) (bf (y+1)-1),.a .i64 0]):=hQ _ rfl;grind [vR]
   . have hmo:ae mo []=false:=by grind [aw]
     have hm1:1<=m/\m<=41:=δ
     have b2:m<=12->-3652425000000000001<=aG (dc (12*y+m-1) 12) (j8 (12*y+m-1)+1)/\aG (dc (12*y+m-1) 12) (j8 (12*y+m-1)+1)<=3652425000000000800:=λh=>by
      obtain⟨e1,e2⟩:=hi hm1.1 h;rw[e1,e2];exact mst_bd hy δ δ
     refine kA J6 (L:=jE) afC θ ai (bb λQ' hQ=>cg ((anE ng lg s e g mo da a b c y m d).mpr ?_)) hid;dsimp only;have hQ:=hQ _ rfl;have hm0:aa m 0=false:=aw.mpr hm0;unfold vR iO iD at hQ;rw[hm0,cond_false,cond_false]at hQ;rw[yb,h3,hmo];generalize fq y m=sy at *;generalize kX y m=sm at *;generalize aG y (fR m)=k1 at *;generalize aG sy (sm+2)=k2 at *;cases h13:ab 13 m with
     | true=>
       grind [bF]
     | false=>
       rw[h13,cond_false,cond_false]at hQ;rw[bF]at h13;have h12:ab m 12=true:=by rw[aq];omega
       obtain⟨e1,e2⟩:=hi δ δ;have b3:=@mst_bd y m hy δ δ;rw[h12];rw[show π (ς (ω 12 y) m) 1=12*y+m-1 from rfl,e1,e2,yb,show m-1+1=m by omega,show m-1+2=m+1 by omega];clear b2 hi h2 h3;generalize aG y m=k3 at *;generalize aG y (m+1)=k4 at *;cases hd0:aa d 0 with
       | true=>
         simp_all [Pp,eH,eE];omega
       | false=>
         simp_all [Pp,eH,eE];omega
 grind
theorem anW(hS:ak Tryz.prog cfg S):ak Tryz.prog cfg (aK S 74 B_):=by
 refine au hS λargs t v he hv=>?_;unfold B_ at he;split at he
 . rename_i y p;cases he;replace hv:=aF hv;obtain⟨⟨h1,h2,-⟩,hv⟩:=hv;cases hv;rw[ao]at h2;subst h2;refine kA yF (L:=jE) alP θ ai (bb λQ' hQ=>cg ((Oe y (bX.1 h1)).mpr ?_)) κ;grind [vR]
 grind
theorem alb:ak Tryz.prog cfg F2:=akk (ake (ahQ (Ks (G9 aW))))
def fG(s:List UInt8)(e g:Int):Int:=lK (ν s.length+e-g)
def gf(s:List UInt8)(e:Int):Int:=ν (fa s e.toNat)
def oS(s:List UInt8)(e g:Int):Int:=gf s e-gf s e%fG s e g
def spH(s:List UInt8)(e g:Int):Int:=gY (oS s e g+fG s e g-1) 10000000000000000
def jI(ng:Bool)(s:List UInt8)(e g:Int):Int:=bif ng then -(spH s e g)else oS s e g
def jL(ng:Bool)(s:List UInt8)(e g:Int):Int:=bif ng then -(oS s e g)else spH s e g
def B8:dP:=λ
 | [.g [.b ng,.b lg,.e s,.a .i64 e,.a .i64 g]]=>some (aH [ο s.length 1000,aV ng lg s e g,ab 1 g] (.a0 (.d [.a .i64 (jI ng s e g),.a .i64 (jL ng s e g),.a .i64 0])))
 | _=>none
theorem aeO:∀(r:List UInt8) (n:Nat),n*10^r.length<=r.foldl (λn b=>n*10+(b.toNat-48)) n
 | [],n=>by simp
 | b::r,n=>by
   have h:=aeO r (n*10+(b.toNat-48));have:n*10^(r.length+1)<=(n*10+(b.toNat-48))*10^r.length:=by
    rw[Nat.pow_succ,<-Nat.mul_assoc,Nat.mul_right_comm];grind
   grind
theorem ac9{e:Int}(hk:aV ng lg s e g)(hg:1<=g):dT s 88 88=0/\g<=s.length+e/\s.length+e<=17:=by
 have h:=hk;unfold aV at h;rw[zAc]at h;have hx:dT s 88 88=0:=δ
 refine⟨hx,by omega,?_⟩;rcases h with⟨k1,k2,⟨l1,l2,l3,l4⟩|⟨l1,l2,l3,l4,l5,l6,l7,l8,l9,l10⟩⟩
 . omega
 . unfold magOk at l10;rw[al]at l10
   match s,l3,l4,l5,l10,k1 with
   | [],l3,_,_,_,_=>grind
   | c::r,l3,l4,l5,l10,k1=>
     have l5:c.toNat≠48:=l5;have hd:dV (c::r)=true:=oV δ;have hc:=@pz (c::r) hd 0 θ;have hc:48<=c.toNat/\c.toNat<=57:=hc;have h1:(c.toNat-48)*10^r.length<=numL (c::r):=by
      have:=aeO r (0*10+(c.toNat-48));rw[Nat.zero_mul,Nat.zero_add]at this;show _<=r.foldl _ (0*10+(c.toNat-48));grind
     have h2:10^r.length<=numL (c::r):=Nat.le_trans (Nat.le_mul_of_pos_left _ δ) h1;have h3:10^(r.length+e.toNat)<=10^16:=by
      rw[Nat.pow_add];exact Nat.le_trans (Nat.mul_le_mul_right _ h2) l10
     have h4:r.length+e.toNat<=16:=(Nat.pow_le_pow_iff_right ζ).1 h3;grind
theorem agL{k:Int}(h:k<=16):1<=lK k/\lK k<=10000000000000000:=by
 unfold lK;have h1:1<=10^k.toNat:=Nat.pos_of_ne_zero θ;have h2:10^k.toNat<=10^16:=Nat.pow_le_pow_right ζ δ;omega
theorem ad3{e:Int}(hk:aV ng lg s e g)(hg:1<=g):(1<=fG s e g/\fG s e g<=10000000000000000)/\(0<=gf s e/\gf s e<=10000000000000000)/\(0<=gf s e%fG s e g/\gf s e%fG s e g<fG s e g/\gf s e%fG s e g<=gf s e)/\(gf s e).tdiv (fG s e g)*fG s e g=oS s e g/\(0<=(gf s e).tdiv (fG s e g)/\(gf s e).tdiv (fG s e g)<=gf s e)/\(gf s e).tmod (fG s e g)=gf s e%fG s e g:=by
 obtain⟨hx,h1,h2⟩:=ac9 hk hg;obtain⟨_,_,_,_,hv⟩:=Bk hk hx;have u:1<=fG s e g/\fG s e g<=10000000000000000:=agL η;have m:0<=gf s e/\gf s e<=10000000000000000:=by grind [gf]
 have r0:=Int.emod_nonneg (gf s e) (show fG s e g≠0 by omega);have r1:=Int.emod_lt_of_pos (gf s e) (show 0<fG s e g by omega);have ed:=Int.emod_add_mul_ediv (gf s e) (fG s e g);have dn:=Int.ediv_nonneg m.1 (show 0<=fG s e g by omega);have pn:0<=fG s e g*(gf s e/fG s e g):=Int.mul_nonneg δ dn;simp_all [Int.tdiv_eq_ediv_of_nonneg,Int.tmod_eq_emod_of_nonneg,Int.mul_comm,oS,Int.ediv_le_self];omega
theorem ane(hS:ak Tryz.prog cfg S):ak Tryz.prog cfg (aK S 73 B8):=by
 refine au hS λargs t v he hv=>?_;unfold B8 at he;split at he
 . rename_i ng lg s e g;cases he;replace hv:=aF hv;obtain⟨⟨h1,hk,hg,-⟩,hv⟩:=hv;cases hv;rw[al]at h1;rw[aq]at hg;obtain⟨hx,g1,g2⟩:=ac9 hk hg;obtain⟨he',hl,hd,hm,_⟩:=Bk hk hx;obtain⟨u1,m1,r1,e1,t1,_⟩:=ad3 hk hg;refine nF nt ai (bE 1122402770202002077005300532005) (R:=λQ=>ο s.length 140737488351232/\not (aa (cond (aV ng lg s e g) 0 6) 0)=false/\not (Δ (dT s 88 88) 0)=false/\dV s/\aS 0 s.length/\ο s.length 18/\ab 0 e/\ab e 16/\magOk s e.toNat/\not (ab g 0)/\af .i64 (ς (ν s.length) e)/\af .i64 (π (ς (ν s.length) e) g)/\ab 0 (π (ς (ν s.length) e) g)/\ab (π (ς (ν s.length) e) g) 18/\not (aa (kh (lK (π (ς (ν s.length) e) g)) 1) 0)/\af .i64 (Β (ν (fa s e.toNat)) (kh (lK (π (ς (ν s.length) e) g)) 1))/\af .i64 (ω (Β (ν (fa s e.toNat)) (kh (lK (π (ς (ν s.length) e) g)) 1)) (lK (π (ς (ν s.length) e) g)))/\af .i64 (ς (ω (Β (ν (fa s e.toNat)) (kh (lK (π (ς (ν s.length) e) g)) 1)) (lK (π (ς (ν s.length) e) g))) (lK (π (ς (ν s.length) e) g)))/\af .i64 (π (ς (ω (Β (ν (fa s e.toNat)) (kh (lK (π (ς (ν s.length) e) g)) 1)) (lK (π (ς (ν s.length) e) g))) (lK (π (ς (ν s.length) e) g))) 1)/\(ng->af .i64 (π 0 (gY (π (ς (ω (Β (ν (fa s e.toNat)) (kh (lK (π (ς (ν s.length) e) g)) 1)) (lK (π (ς (ν s.length) e) g))) (lK (π (ς (ν s.length) e) g))) 1) 10000000000000000))/\af .i64 (π 0 (ω (Β (ν (fa s e.toNat)) (kh (lK (π (ς (ν s.length) e) g)) 1)) (lK (π (ς (ν s.length) e) g))))/\Q (.d [.a .i64 (π 0 (gY (π (ς (ω (Β (ν (fa s e.toNat)) (kh (lK (π (ς (ν s.length) e) g)) 1)) (lK (π (ς (ν s.length) e) g))) (lK (π (ς (ν s.length) e) g))) 1) 10000000000000000)),.a .i64 (π 0 (ω (Β (ν (fa s e.toNat)) (kh (lK (π (ς (ν s.length) e) g)) 1)) (lK (π (ς (ν s.length) e) g)))),.a .i64 0]))/\(ng=false->Q (.d [.a .i64 (ω (Β (ν (fa s e.toNat)) (kh (lK (π (ς (ν s.length) e) g)) 1)) (lK (π (ς (ν s.length) e) g))),.a .i64 (gY (π (ς (ω (Β (ν (fa s e.toNat)) (kh (lK (π (ς (ν s.length) e) g)) 1)) (lK (π (ς (ν s.length) e) g))) (lK (π (ς (ν s.length) e) g))) 1) 10000000000000000),.a .i64 0]))) (λ_=>by rfl) λQ' hQ=>?_;unfold jI jL spH at hQ;have eu:lK (π (ς (ν s.length) e) g)=fG s e g:=rfl;have em:ν (fa s e.toNat)=gf s e:=rfl;have mx:kh (fG s e g) 1=fG s e g:=by rw[kP];omega
   have e2:ω ((gf s e).tdiv (fG s e g)) (fG s e g)=oS s e g:=e1;rw[eu,em,mx,e2,hx,hd,hm,hk];have lb:0<=oS s e g/\oS s e g<=10000000000000000:=by unfold oS;omega
   generalize oS s e g=l at *;generalize (gf s e).tdiv (fG s e g)=q at *;generalize fG s e g=u at *;generalize gf s e=mm at *;show ο s.length 140737488351232/\_;rw[show π (ς l u) 1=l+u-1 from rfl];have mb:gY (l+u-1) 10000000000000000<=10000000000000000/\0<=gY (l+u-1) 10000000000000000:=by rw[EB];omega
   generalize gY (l+u-1) 10000000000000000=h at *;cases ng<;>simp only[zAj]at hQ<;>simp only[az,reduceCtorEq]<;>(repeat' first|exact trivial|refine⟨?_,?_⟩|intro)<;>first|contradiction|omega|exact hQ|rfl|grind
 grind
theorem Cc{e:Int}(h:bW ng lg s e g mo da x y z=0):nH ng lg s e g mo da x y z=0:=by
 unfold bW at h;cases hE:aa (nH ng lg s e g mo da x y z) 0 with
 | true=>exact ao.mp hE
 | false=>grind
theorem acz{e:Int}(h:nH ng lg s e g mo da x y z=0):nH ng lg s e g mo da 0 0 0=0/\oc ng lg s e g mo=true:=by
 grind [nH,errMk]
theorem ak5{e:Int}(h:bW ng lg s e g mo da x y z=0):bW ng lg s e g mo da 0 0 0=0:=by
 grind [Cc,acz,bW]
theorem aek{g:Nat}(hg:g<=99)(h:eW mo g)(hx:dT mo 88 88=0):H4 mo/\1<=XR mo/\XR mo<=g:=by
 unfold eW at h;obtain⟨k,hk,ha⟩:=List.any_eq_true.1 h;rw[List.mem_range]at hk;have hn:=Oo hx
 match mo,ha,hn with
 | [c0,c1],ha,hn=>
   grind [Gu,H4,XR,ko,dB]
 | [],ha,_=>simp[agr]at ha
 | [_],ha,_=>simp[agr]at ha
 | _::_::_::_,ha,_=>simp[agr]at ha
theorem aaj{e:Int}(h0:bW ng lg s e g mo da a b c=0)(hx:eA (s++mo++da)=false)(hs:s.length<=1000):agm s e/\(aV ng lg s e g&&Δ (dT s 88 88) 0)/\H4 mo/\H4 da/\kY (dY ng s e) (XR mo) (XR da)/\ae mo []=aa (XR mo) 0/\ae da []=aa (XR da) 0:=by
 have hd:=Cc h0;obtain⟨hY,_,_,hm,hda⟩:=dC hd dE;have hD:=(acz hd).2;unfold eA at hx;rw[Γ,aJ,Dj,Dj]at hx;have hx1:dT s 88 88=0:=δ
 have hx2:dT mo 88 88=0:=δ
 have hx3:dT da 88 88=0:=δ
 obtain⟨he,hl,hdg,hmk,hmv⟩:=Bk hY hx1;have hy : -10000000000000000<=dY ng s e/\dY ng s e<=10000000000000000:=by grind [dY]
 refine⟨?_,?_,?_⟩
 . grind [agm,al,aq]
 . simp_all
 by_cases h1:aR mo=0
 . cases hb:ae mo []with
   | true=>
     have hmo:mo=[]:=by grind [bV]
     have hda0:ae da []=true:=by
      grind
     have hdn:da=[]:=by grind [bV]
     subst hmo hdn;exact⟨rfl,rfl,ju.2 ⟨hy,by decide,.inl rfl⟩,rfl,rfl⟩
   | false=>
     obtain⟨n1,n2,n3⟩:=aek δ (hm ⟨hb,h1⟩) hx2;have e1:false=aa (XR mo) 0:=by grind [aw]
     cases hb2:ae da []with
     | true=>
       have hdn:da=[]:=by grind [bV]
       subst hdn;exact⟨n1,rfl,ju.2 ⟨hy,by decide,.inr (.inl ⟨n2,n3⟩)⟩,e1,rfl⟩
     | false=>
       obtain⟨m1,m2,m3⟩:=aek δ (hda hb2).2.2 hx3;grind [ju,aw]
 . have hz:=h1;obtain⟨h1,h2⟩:=(L6 mo).resolve_left hz
   . have hc:21<=aR mo/\aR mo<=41:=by grind [qH]
     have hb:ae mo []=false:=by
      rw[<-Bool.not_eq_true];intro k;rw[bV,beq_iff_eq]at k;subst k;exact hz rfl
     have hda0:ae da []=true:=by
      grind
     have hdn:da=[]:=by grind [bV]
     subst hdn;unfold oc at hD;rw[zAc]at hD;obtain⟨_,_,hD⟩:=hD;refine⟨h1,rfl,ju.2 ⟨hy,by decide,.inr (.inr ?_)⟩,?_,rfl⟩<;>grind [N_,dY,aw]
theorem ahZ{e:Int}(hk:aV ng lg s e g)(hg:1<=g):(-10000000000000000<=jI ng s e g/\jI ng s e g<=10000000000000000)/\(-10000000000000000<=jL ng s e g/\jL ng s e g<=10000000000000000)/\jI ng s e g<=jL ng s e g:=by
 obtain⟨u,m,r,_⟩:=ad3 hk hg;grind [jI,jL,spH,oS,EB]
theorem aho{l:List UInt8}{g:Nat}(hg:g<=99)(h:x∈Co l g)(hx:dT l 88 88=0):XR l=x/\1<=x/\x<=g:=by
 have hn:=Oo hx;unfold Co at h;split at h
 . rename_i c0 c1;obtain⟨h1,h2⟩:=iG.1 h;have hi:=Gu.1 h2;have n0:=hn c0 θ;have n1:=hn c1 θ;refine⟨?_,h1⟩;show 10*((c0.toNat:Int)-48)+((c1.toNat:Int)-48)=x;omega
 grind
theorem aaR{e:Int}(h0:bW ng lg s e g mo da a b c=0)(hx:eA (s++mo++da)=false)(hd:ae da []=false):1<=XR mo/\XR mo<=12/\1<=XR da/\XR da<=d6 (dY ng s e) (XR mo):=by
 have hE:=Cc h0;obtain⟨hY,hX,_⟩:=dC hE dE;have hf:qK ng s e mo da=true:=by
  unfold bW at h0;rw[hE,hd]at h0;cases h:qK ng s e mo da with
  | true=>rfl
  | false=>rw[h]at h0;exact absurd h0 ζ
 unfold eA at hx;rw[Γ,aJ,Dj,Dj]at hx;obtain⟨k,h1,_,m,hm,d,hd',hle⟩:=(zg hY hX hd ζ _ _ (Nat.le_refl _)).1 hf;unfold mK at h1;rw[show Δ (dT s 88 88) 0=true from aJ.mpr δ,cond_true]at h1;obtain⟨e1,m1,m2⟩:=aho ζ hm δ;obtain⟨e2,d1,d2⟩:=aho ζ hd' δ;subst h1 e1 e2;exact⟨m1,m2,d1,hle⟩
theorem aaU{e:Int}(h0:bW ng lg s e g mo da a b c=0)(hx:eA (s++mo++da)=false)(hm:ae mo []=false)(hs:aR mo=0):1<=XR mo/\XR mo<=12:=by
 obtain⟨_,_,_,h4,_⟩:=dC (Cc h0) dE;unfold eA at hx;rw[Γ,aJ,Dj,Dj]at hx;exact(aek ζ (h4 ⟨hm,hs⟩) δ).2
def Cr:dP:=λ
 | [.e [a,b]]=>some (aH [dB a&&dB b] (.a0 (.d [.a .i64 (ko a b),.k])))
 | _=>none
def TB:aQ:=aK (aK (aK (aK (aK (aK (aK (aK (aK (aK (aK gZ 42 tx) 80 Wa) 146 Ol) 167 NO) 229 Nz) 289 Sd) 290 QV) 293 Q4) 294 Qw) 246 Pq) 241 Cr
def fL(ng lg:Bool)(s:List UInt8)(e g:Int)(mo da:List UInt8)(a b c:Int):Bool:=ο s.length 1000&&af .i64 e&&af .u8 a&&af .u8 b&&af .u8 c&&aa (bW ng lg s e g mo da a b c) 0&&!(eA (s++mo++da))&&aa g 0
def aP(ng:Bool)(s:List UInt8)(e:Int)(mo da:List UInt8):Int:=iO (dY ng s e) (XR mo) (XR da)
def bq(ng:Bool)(s:List UInt8)(e:Int)(mo da:List UInt8):Int:=iD (dY ng s e) (XR mo) (XR da)
def xY:dP:=λ
 | [.g [.b ng,.b lg,.e s,.a .i64 e,.a .i64 g,.e mo,.e da,.a .u8 a,.a .u8 b,.a .u8 c]]=>some (aH [fL ng lg s e g mo da a b c] (.a0 (.d [vR (aP ng s e mo da) (bq ng s e mo da),.a .i64 0])))
 | _=>none
theorem am3(hS:ak Tryz.prog cfg S):ak Tryz.prog cfg (aK S 241 Cr):=by
 refine au hS λargs t v he hv=>?_;unfold Cr at he;split at he
 . rename_i a b;cases he;replace hv:=aF hv;obtain⟨⟨h1,-⟩,hv⟩:=hv;cases hv;unfold dB at h1;simp only[zAa,zAc]at h1;refine jD aW ai (bE 1035732052203205332002200066) (R:=λQ=>not (aa (ν a.toNat) 45)/\not (aa (ν a.toNat) 45)/\not (aa (ν a.toNat) 45)/\aa (ν a.toNat) 45=false/\aa (ν a.toNat) 43=false/\af .u8 (π (ν a.toNat) 48)/\not (ab (π (ν a.toNat) 48) 9)=false/\af .i64 (π (ν a.toNat) 48)/\af .i64 (ς 0 (π (ν a.toNat) 48))/\af .u8 (π (ν b.toNat) 48)/\not (ab (π (ν b.toNat) 48) 9)=false/\af .i64 (ω (ς 0 (π (ν a.toNat) 48)) 10)/\af .i64 (π (ν b.toNat) 48)/\af .i64 (ς (ω (ς 0 (π (ν a.toNat) 48)) 10) (π (ν b.toNat) 48))/\aa (ν a.toNat) 45=false/\Q (.d [.a .i64 (ς (ω (ς 0 (π (ν a.toNat) 48)) 10) (π (ν b.toNat) 48)),AV.k])) (λ_=>by rfl) λQ' hQ=>?_;have fin:∀x:Int,x=ko a b->Q' (.d [.a .i64 x,.k]):=λx h=>hQ _ (by rw[h]);clear hQ;unfold ko at fin;simp only[az,reduceCtorEq]at fin ⊢;grind
 grind
theorem afw:ak Tryz.prog cfg TB:=am3 (bm (bm (bm (bm (bm (MA (bm (Ks (bm (G9 aW) (Uy 80 _ rfl))) (FM 167 _ rfl))) (Bg 289 _ rfl)) (Bg 290 _ rfl)) (EG 293 _ rfl)) (A_ 294 _ rfl)) (JT 246 _ rfl))
theorem aa0(x:Int):aa x x=true:=ao.mpr rfl
theorem U9{e:Int}:fL ng lg s e g mo da a b c=true↔s.length<=1000/\af .i64 e/\af .u8 a/\af .u8 b/\af .u8 c/\bW ng lg s e g mo da a b c=0/\eA (s++mo++da)=false/\g=0:=by
 grind [fL,al,ao]
theorem x5{l:List UInt8}(h:H4 l):l=[]\/∃a b,l=[a,b]/\(dB a&&dB b)=true:=by
 match l,h with
 | [],_=>simp
 | [a,b],h=>exact .inr ⟨a,b,rfl,h⟩
 | [_],h=>grind [H4]
 | _::_::_::_,h=>grind [H4]
theorem ajG(hS:ak Tryz.prog cfg S):ak Tryz.prog cfg (aK S 205 xY):=by
 refine au hS λargs t v he hv=>?_;unfold xY at he;split at he
 . rename_i ng lg s e g mo da a b c;cases he;replace hv:=aF hv;obtain⟨⟨h1,-⟩,hv⟩:=hv;cases hv;obtain⟨h6,i1,i2,i3,i4,h0,hx,rfl⟩:=U9.1 h1;obtain⟨p1,p2,p3,p4,p5,p6,p7⟩:=aaj h0 hx h6;obtain⟨hy,-,hm⟩:=ju.1 p5;have yb:=bX.2 hy;have n1:ο s.length 1000=true:=al.mpr h6;rcases x5 p3 with rfl|⟨m0,m1,rfl,hmd⟩
   . rcases x5 p4 with rfl|⟨d0,d1,rfl,hdd⟩
     . refine jD afw ai (bE 1052025570200255666666622000522027002025663702002006) (R:=λQ=>ο s.length 1000/\af .i64 e/\af .u8 a/\af .u8 b/\af .u8 c/\not (aa (bW ng lg s e 0 [] [] a b c) 0)=false/\ο (υ s.length 0) 1000000/\ο (υ (σ (s++[])) 0) 1000000/\ο (σ ((s++[])++[])) 1000000/\not (eA ((s++[])++[]))/\not (eA ((s++[])++[]))/\not (eA ((s++[])++[]))/\not (eA ((s++[])++[]))/\not (eA ((s++[])++[]))/\ο s.length 1000/\and (aV ng lg s e 0) (Δ (dT s 88 88) 0)/\ο s.length 1000/\af .i64 e/\af .u8 a/\af .u8 b/\af .u8 c/\eO (dY ng s e)/\eO (dY ng s e)/\Q (.d [.g [.a .i8 0,.a .i64 (bf (dY ng s e)),.a .i8 0,.a .i64 (HSub.hSub (bf (υ (dY ng s e) 1)) 1)],.a .i64 0])) (λ_=>by kernel_rfl) (hi:=κ) λQ' hQ=>?_;have hQ:Q' (.d [vR (bf (dY ng s e)) (bf (dY ng s e+1)-1),.a .i64 0]):=hQ _ rfl;simp_all [vR,aa0];omega
     . have:=(aaR h0 hx rfl).1;exact absurd this ζ
   . have l0:(s++[m0,m1]).length=s.length+2:=θ
     have l1:ο (s.length+2) 1000000=true:=al.mpr δ;have hz:aa (XR [m0,m1]) 0=false:=p6.symm;have hm0:XR [m0,m1]=ko m0 m1:=rfl;rcases x5 p4 with rfl|⟨d0,d1,rfl,hdd⟩
     . have l2:ο ((s++[m0,m1]).length+0) 1000000=true:=al.mpr δ;have l3:ο (s++[m0,m1]++[]).length 1000000=true:=al.mpr η;have hQ0:vR (aP ng s e [m0,m1] []) (bq ng s e [m0,m1] [])=(bif ab 13 (ko m0 m1)then vR (aG (dY ng s e) (fR (ko m0 m1))) (aG (fq (dY ng s e) (ko m0 m1)) (kX (dY ng s e) (ko m0 m1)+2)-1)else vR (aG (dY ng s e) (ko m0 m1)) (aG (dY ng s e) (ko m0 m1+1)-1)):=by
        unfold aP bq iO iD;rw[hz,hm0];cases ab 13 (ko m0 m1)<;>rfl
       cases hc:ab 13 (ko m0 m1)with
       | true=>
         have hc':=hc;rw[aq]at hc';have hs:aa (aR [m0,m1]) 0=false:=by
          grind [aw,aaU]
         rw[hc,cond_true]at hQ0;rw[hQ0];refine nF afw ai (bE 1000570520070200206666620022000522027002025663702002006) (R:=λQ=>ο s.length 1000/\af .i64 e/\af .u8 a/\af .u8 b/\af .u8 c/\not (aa (bW ng lg s e 0 [m0,m1] [] a b c) 0)=false/\ο (υ s.length 2) 1000000/\ο (υ (σ (s++[m0,m1])) 0) 1000000/\ο (σ ((s++[m0,m1])++[])) 1000000/\not (eA ((s++[m0,m1])++[]))/\not (eA ((s++[m0,m1])++[]))/\not (eA ((s++[m0,m1])++[]))/\not (eA ((s++[m0,m1])++[]))/\not (eA ((s++[m0,m1])++[]))/\ο s.length 1000/\and (aV ng lg s e 0) (Δ (dT s 88 88) 0)/\and (dB m0) (dB m1)/\ο s.length 1000/\af .i64 e/\af .u8 a/\af .u8 b/\af .u8 c/\not (aa (aR [m0,m1]) 0)/\eO (dY ng s e)/\zI (ko m0 m1)/\eO (fq (dY ng s e) (ko m0 m1))/\Q (.d [.g [.a .i8 0,.a .i64 (aG (dY ng s e) (fR (ko m0 m1))),.a .i8 0,.a .i64 (HSub.hSub (aG (fq (dY ng s e) (ko m0 m1)) (υ (kX (dY ng s e) (ko m0 m1)) 2)) 1)],.a .i64 0])) (λ_=>by kernel_rfl) (hi:=κ) λQ' hQ=>?_;grind [vR,mg,aa0]
       | false=>
         have hc':=hc;rw[bF]at hc';have hs:aa (aR [m0,m1]) 0=true:=by
          grind [ao,L6,qH]
         rw[hc,cond_false]at hQ0;rw[hQ0];refine nF afw ai (bE 10522522630070200206666620022000522027002025663702002006) (R:=λQ=>ο s.length 1000/\af .i64 e/\af .u8 a/\af .u8 b/\af .u8 c/\not (aa (bW ng lg s e 0 [m0,m1] [] a b c) 0)=false/\ο (υ s.length 2) 1000000/\ο (υ (σ (s++[m0,m1])) 0) 1000000/\ο (σ ((s++[m0,m1])++[])) 1000000/\not (eA ((s++[m0,m1])++[]))/\not (eA ((s++[m0,m1])++[]))/\not (eA ((s++[m0,m1])++[]))/\not (eA ((s++[m0,m1])++[]))/\not (eA ((s++[m0,m1])++[]))/\ο s.length 1000/\and (aV ng lg s e 0) (Δ (dT s 88 88) 0)/\and (dB m0) (dB m1)/\ο s.length 1000/\af .i64 e/\af .u8 a/\af .u8 b/\af .u8 c/\not (aa (aR [m0,m1]) 0)=false/\eO (dY ng s e)/\tL (ko m0 m1)/\eO (dY ng s e)/\tL (ko m0 m1)/\Q (.d [.g [.a .i8 0,.a .i64 (aG (dY ng s e) (ko m0 m1)),.a .i8 0,.a .i64 (HSub.hSub (aG (dY ng s e) (υ (ko m0 m1) 1)) 1)],.a .i64 0])) (λ_=>by kernel_rfl) (hi:=κ) λQ' hQ=>?_;grind [vR,gX,aa0]
     . obtain⟨q1,q2,q3,q4⟩:=aaR h0 hx rfl;have hd0:XR [d0,d1]=ko d0 d1:=rfl;rw[hm0]at q1 q2 q4;rw[hd0]at q3 q4;have l2:ο ((s++[m0,m1]).length+2) 1000000=true:=al.mpr δ;have l3:ο (s++[m0,m1]++[d0,d1]).length 1000000=true:=al.mpr η;have hQ0:vR (aP ng s e [m0,m1] [d0,d1]) (bq ng s e [m0,m1] [d0,d1])=vR (aG (dY ng s e) (ko m0 m1)+ko d0 d1-1) (aG (dY ng s e) (ko m0 m1)+ko d0 d1-1):=by
        unfold aP bq iO iD;rw[hz,hm0,hd0,show ab 13 (ko m0 m1)=false from bF.mpr δ,show aa (ko d0 d1) 0=false from aw.mpr δ];rfl
       rw[hQ0];refine nF afw ai (bE 10522022533220220022667020020006620020022000522027002025663702002006) (R:=λQ=>ο s.length 1000/\af .i64 e/\af .u8 a/\af .u8 b/\af .u8 c/\not (aa (bW ng lg s e 0 [m0,m1] [d0,d1] a b c) 0)=false/\ο (υ s.length 2) 1000000/\ο (υ (σ (s++[m0,m1])) 2) 1000000/\ο (σ ((s++[m0,m1])++[d0,d1])) 1000000/\not (eA ((s++[m0,m1])++[d0,d1]))/\not (eA ((s++[m0,m1])++[d0,d1]))/\not (eA ((s++[m0,m1])++[d0,d1]))/\not (eA ((s++[m0,m1])++[d0,d1]))/\not (eA ((s++[m0,m1])++[d0,d1]))/\ο s.length 1000/\and (aV ng lg s e 0) (Δ (dT s 88 88) 0)/\and (dB m0) (dB m1)/\and (dB d0) (dB d1)/\ο s.length 1000/\af .i64 e/\af .u8 a/\af .u8 b/\af .u8 c/\eO (dY ng s e)/\tL (ko m0 m1)/\not (not (ab 1 (ko d0 d1)))/\not (not (ab 1 (ko d0 d1)))/\not (not (ab 1 (ko d0 d1)))/\not (not (ab 1 (ko d0 d1)))/\not (ab 1 (ko d0 d1))=false/\not (ab (ko d0 d1) (d6 (dY ng s e) (ko m0 m1)))=false/\eO (dY ng s e)/\tL (ko m0 m1)/\af .i64 (ς (aG (dY ng s e) (ko m0 m1)) (ko d0 d1))/\af .i64 (π (ς (aG (dY ng s e) (ko m0 m1)) (ko d0 d1)) 1)/\Q (.d [.g [.a .i8 0,.a .i64 (π (ς (aG (dY ng s e) (ko m0 m1)) (ko d0 d1)) 1),.a .i8 0,.a .i64 (π (ς (aG (dY ng s e) (ko m0 m1)) (ko d0 d1)) 1)],.a .i64 0])) (λ_=>by kernel_rfl) (hi:=κ) λQ' hQ=>?_;unfold vR at hQ;have ml:=jk (dY ng s e) (ko m0 m1);have mb:=@mst_bd (dY ng s e) (ko m0 m1) hy q1 δ;have k1:tL (ko m0 m1)=true:=gX.2 ⟨q1,q2⟩;have k2:ab 1 (ko d0 d1)=true:=aq.mpr q3;have k3:ab (ko d0 d1) (d6 (dY ng s e) (ko m0 m1))=true:=aq.mpr q4;grind [aE,eH,eE,aa0]
 grind
def wa(ng lg:Bool)(s:List UInt8)(e g:Int)(mo da:List UInt8)(a b c:Int):Bool:=ο s.length 1000&&af .i64 e&&af .i64 g&&af .u8 a&&af .u8 b&&af .u8 c&&aa (bW ng lg s e g mo da a b c) 0
def cK(s:List UInt8)(g:Int)(mo da:List UInt8):Bool:=!(eA (s++mo++da))&&aa g 0
def eX(s:List UInt8)(g:Int)(mo da:List UInt8):Bool:=cK s g mo da&&aa (aR mo) 0
def yc:dP:=λ
 | [.g [.b ng,.b lg,.e s,.a .i64 e,.a .i64 g,.e mo,.e da,.a .u8 a,.a .u8 b,.a .u8 c]]=>some (aH [wa ng lg s e g mo da a b c] (.a0 (.b (eX s g mo da))))
 | _=>none
def TC:aQ:=aK (aK (aK gZ 42 tx) 80 Wa) 167 NO
def tZ:dP:=λ
 | [.g [.b ng,.b lg,.e s,.a .i64 e,.a .i64 g,.e mo,.e da,.a .u8 a,.a .u8 b,.a .u8 c]]=>some (aH [fL ng lg s e g mo da a b c] (.a0 (.d [vR (aP ng s e mo da) (bq ng s e mo da),.a .i64 0])))
 | _=>none
theorem aga:ak Tryz.prog cfg TC:=bm (bm (G9 aW) (Uy 80 _ rfl)) (FM 167 _ rfl)
theorem yn{e:Int}:wa ng lg s e g mo da a b c=true↔s.length<=1000/\af .i64 e/\af .i64 g/\af .u8 a/\af .u8 b/\af .u8 c/\bW ng lg s e g mo da a b c=0:=by
 grind [wa,al,ao]
theorem aex{l:List UInt8}{g:Nat}(hg:g<=99)(h:eW l g):l.length=2:=by
 grind [oi]
theorem aaX{e:Int}(h0:bW ng lg s e g mo da a b c=0):mo.length<=2/\da.length<=2/\(ae da []=false->ae mo []=false/\aa (aR mo) 0=true):=by
 obtain⟨_,_,_,h4,h5⟩:=dC (Cc h0) dE;refine⟨?_,?_,λh=>⟨(h5 h).1,ao.mpr (h5 h).2.1⟩⟩
 . cases hm:ae mo []with
   | true=>
     grind [bV]
   | false=>
     rcases L6 mo with k|⟨k,_⟩
     . rw[aex ζ (h4 ⟨hm,k⟩)];simp
     grind [x5]
 . cases hd:ae da []with
   | true=>
     grind [bV]
   | false=>rw[aex ζ (h5 hd).2.2];simp
theorem abT(h6:s.length<=1000)(hm:mo.length<=2)(hd:da.length<=2):ο s.length 1000/\ο mo.length 1000/\ο da.length 1000/\ο (s.length+mo.length) 1000000/\ο ((s++mo).length+da.length) 1000000/\ο (s++mo++da).length 1000000=true:=by
 simp;omega
theorem aj2(hS:ak Tryz.prog cfg S):ak Tryz.prog cfg (aK S 265 yc):=by
 refine au hS λargs t v he hv=>?_;unfold yc at he;split at he
 . rename_i ng lg s e g mo da a b c;cases he;replace hv:=aF hv;obtain⟨⟨h1,-⟩,hv⟩:=hv;cases hv;obtain⟨h6,i1,i2,i3,i4,i5,h0⟩:=yn.1 h1;obtain⟨lm,ld,hds⟩:=aaX h0;obtain⟨n1,n2,n3,n4,n5,n6⟩:=abT h6 lm ld;refine nF aga ai (bE 15238181221224012241224022770062064702242002020006206777006) (R:=λQ=>ο s.length 1000/\ο mo.length 1000/\ο da.length 1000/\af .i64 e/\af .i64 g/\af .u8 a/\af .u8 b/\af .u8 c/\aa (bW ng lg s e g mo da a b c) 0/\aa (bW ng lg s e g mo da a b c) 0/\ο (υ s.length mo.length) 1000000/\ο (υ (σ (s++mo)) da.length) 1000000/\ο (σ ((s++mo)++da)) 1000000/\(not (eA ((s++mo)++da))->not (eA ((s++mo)++da))/\not (eA ((s++mo)++da))/\not (eA ((s++mo)++da))/\not (eA ((s++mo)++da))/\aa (bW ng lg s e g mo da a b c) 0/\(aa g 0->aa g 0/\ο s.length 1000/\ο mo.length 1000/\ο da.length 1000/\af .i64 e/\af .i64 g/\af .u8 a/\af .u8 b/\af .u8 c/\(not (ae da [])->aa g 0/\aa g 0/\Q (.b true))/\(not (ae da [])=false->(not (aa (aR mo) 0)->aa g 0/\aa g 0/\Q (.b false))/\(not (aa (aR mo) 0)=false->(not (ae mo [])->aa g 0/\aa g 0/\Q (.b true))/\(not (ae mo [])=false->aa g 0/\aa g 0/\Q (.b true)))))/\(aa g 0=false->aa g 0=false/\aa g 0=false/\aa g 0=false/\Q (.b false)))/\(not (eA ((s++mo)++da))=false->not (eA ((s++mo)++da))=false/\not (eA ((s++mo)++da))=false/\not (eA ((s++mo)++da))=false/\not (eA ((s++mo)++da))=false/\aa (bW ng lg s e g mo da a b c) 0/\Q (.b false))) (λ_=>by rfl) λQ' hQ=>?_;unfold eX cK at hQ;rw[n1,n2,n3,n4,n5,n6,i1,i2,i3,i4,i5,h0];cases hx:eA (s++mo++da)<;>rw[hx]at hQ<;>cases hg:aa g 0<;>rw[hg]at hQ<;>cases hd:ae da []<;>cases hs:aa (aR mo) 0<;>rw[hs]at hQ<;>first|(rw[(hds hd).2]at hs;cases hs;done)|grind [aa0]
 grind
theorem alq:aY tab 75=some (dH 75,aL 75):=κ
theorem afy(hS:ak Tryz.prog cfg S):ak Tryz.prog cfg (aK S 75 tZ):=by
 refine au hS λargs t v he hv=>?_;unfold tZ at he;split at he
 . rename_i ng lg s e g mo da a b c;cases he;replace hv:=aF hv;obtain⟨⟨h1,-⟩,hv⟩:=hv;cases hv;obtain⟨h6,i1,i2,i3,i4,h0,hx,rfl⟩:=U9.1 h1;obtain⟨lm,ld,-⟩:=aaX h0;obtain⟨p1,p2,p3,p4,p5,p6,p7⟩:=aaj h0 hx h6;have n1:ο s.length 1000=true:=al.mpr h6;have n2:ο mo.length 1000=true:=al.mpr δ;have n3:ο da.length 1000=true:=al.mpr δ;have q6:=acr.2 p6;have q7:=acr.2 p7;unfold afT at q6 q7;refine kA alb (L:=jE) alq θ ai (bb λQ' hQ=>cg ((Of ng lg s e 0 mo da a b c).mpr ?_)) κ;have hQ:=hQ _ rfl;unfold vR aP bq at hQ;show(ο s.length 1000->_)/\_;rw[n1,n2,n3,i1,i2,i3,i4,h0];simp only[hx,p2,p3,p4,p5,q6,q7,aa0,show af .i64 (0:Int)=true from rfl,show ab 1 (0:Int)=false from rfl,Bool.or_false,Bool.false_or,true_imp_iff,reduceCtorEq,false_imp_iff,and_true,true_and,Bool.not_true,Bool.not_false];omega
 grind
end Go.Ev
