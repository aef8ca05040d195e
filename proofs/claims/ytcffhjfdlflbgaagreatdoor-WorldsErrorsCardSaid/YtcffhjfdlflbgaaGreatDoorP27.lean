import Derived.Test.YtcffhjfdlflbgaaGreatDoorP26
set_option linter.all false
open UInt8 renaming ofNat->ν
open Int renaming ofNat->ξ,add->υ,ofNat_eq_natCast->ψ,sub->Γ
open Bool renaming and->ο,true->ς,not_true->τ
open Option renaming none->π
open List renaming not_mem_nil->σ,mem_cons->χ,length->Α,take->Β,nil->Δ
open Nat renaming ble->ω
open HAdd renaming hAdd->Ε
set_option linter.all false
set_option maxRecDepth 100000
set_option maxHeartbeats 4000000
namespace Go.Ev
open Go Go.Proofs
variable{a b c y m:Int}{S:aQ}{ng lg:Bool}{s mo da:List UInt8}{Q:AV->Prop}
def F1:aQ:=aK (pX gZ 40 Pm) 97 Sf
def i6(a b c d p:Int):Bool:=!(!(aa a 0)&&!(aa c 0))&&(aa (bA a b c d) 0&&((!(aa a 0) || (lT b p&&aa (CK b p) b))&&(!(aa c 0) || (lT d p&&aa (PU d p) d))))
def YH:dP:=λ
 | [.g [.a .i8 a,.a .i64 b,.a .i8 c,.a .i64 d],.a .u8 p]=>some (aH [af .i8 a,af .i64 b,af .i8 c,af .i64 d,ab 1 p,ab p 3] (.a0 (.b (i6 a b c d p))))
 | _=>none
theorem UK:ak Tryz.prog cfg F1:=RG (eG aW Es)
theorem I1{d p:Int}(ha : -128<=a/\a<=127)(hb : -9223372036854775808<=b/\b<=9223372036854775807)(hc : -128<=c/\c<=127)(hd : -9223372036854775808<=d/\d<=9223372036854775807)(hp:1<=p/\p<=3):bu Tryz.prog cfg 44 [kw a b c d,.a .u8 p] [] (.b (i6 a b c d p)) []:=by
 refine nF UK ai (bE 155115511400642200401400642200201455381023315511400642200203014322542202240) (R:=λQ=>(λ(E G N O P U:Bool)(A T:Prop)=>(λ(B H:Bool)(V W:Prop)=>(λ(F:Bool)(C:Prop)=>(λ(I:Prop)=>(B->B/\B/\B/\B/\(F->F/\F/\H=false/\(N->A)/\(V->G=false/\E/\W))/\(I->I/\I/\H/\A))/\(C->C/\C/\C/\C/\(N->A)/\(V->G/\af .i64 b/\O/\(lT b p->(U->A)/\(U=false->(E->W)/\(E=false->T)))/\(lT b p=false->A)))) (F=false)) (not H) (B=false)) (not G) (not E) (N=false) (af .i64 d/\O/\(lT d p->(P->A)/\(P=false->T))/\(lT d p=false->A))) (aa c 0) (aa a 0) (not (aa (bA a b c d) 0)) (and (ab 1 p) (ab p 3)) (not (and (aa 0 c) (and (aa (PU d p) d) true))) (not (and (aa 0 a) (and (aa (CK b p) b) true))) (Q (.b false)) (Q (.b true))) (λ_=>by kernel_rfl) λQ' hQ=>?_;try dsimp only
 unfold i6 at hQ;generalize bA a b c d=r at *;generalize lT b p=o1 at *;generalize lT d p=o2 at *;generalize CK b p=l1 at *;generalize PU d p=l2 at *;have iff:(!(!(aa a 0)&&!(aa c 0))&&(aa r 0&&((!(aa a 0) || (o1&&aa l1 b))&&(!(aa c 0) || (o2&&aa l2 d)))))=true↔(a=0\/c=0)/\r=0/\(a=0->o1/\l1=b)/\(c=0->o2/\l2=d):=by
  grind [aw]
 have yes:((a=0\/c=0)/\r=0/\(a=0->o1/\l1=b)/\(c=0->o2/\l2=d))->Q' (.b true):=λh=>by grind
 have no:¬((a=0\/c=0)/\r=0/\(a=0->o1/\l1=b)/\(c=0->o2/\l2=d))->Q' (.b false):=λh=>by rw[<-iff,Bool.not_eq_true]at h;grind
 simp_all [az]
theorem Vn(hS:ak Tryz.prog cfg S):ak Tryz.prog cfg (aK S 44 YH):=au hS λargs t v he hv=>by
 unfold YH at he;split at he
 . cases he;obtain⟨⟨h1,h2,h3,h4,h5,h6,-⟩,hv⟩:=aF hv;rw[aE]at h1 h2 h3 h4;simp only[eH,eE]at h1 h2 h3 h4;rw[aq]at h5 h6;cases hv;grind [I1]
 grind
def mZ(x y z:Int):Bool:=ο (aa x 0) (ο (aa y 0) (ο (aa z 0) ς))
def dZ(ng lg:Bool)(s:List UInt8)(e g:Int)(mo da:List UInt8)(x y z:Int):Bool:=ο (ο (bQ ng Bool.false) (ο (bQ lg Bool.false) (ο (ae s Δ) (ο (aa e 0) (ο (aa g 0) ς))))) (ο (ae mo Δ) (ο (ae da Δ) (ο (ο (aa x 0) (ο (aa y 0) (ο (aa z 0) ς))) ς)))
def sZ(a b c d:Int):Bool:=ο (ο (aa a 0) (ο (aa b 0) ς)) (ο (ο (aa c 0) (ο (aa d 0) ς)) ς)
def iT(k:Int)(n:Nat)(ch:Int)(dz:Bool)(p:Int)(sz:Bool)(ef g:Int)(xb mz ft:Bool)(rk a c:Int):Int:=
 if k<1\/5<k then 18 else
 if k=1 then(if dz=true/\p=0/\sz=true then(if n=0 then 17 else ch)else 5)else
 if k=2 then(if n=0/\p=0/\sz=true then(if ef=0 then(if g=0/\xb/\mz=true then 0 else 1)else ef)else 5)else
 if k=3 then(if n=0/\dz=true then(if 1<=p/\p<=3 then(if ft=true then 0 else 1)else 18)else 5)else
 if n=0/\dz/\p=0 then(if rk=0/\(k=4/\a = -1/\c=0\/k=5/\a=0/\c=1)then 0 else 1)else 5
theorem tf{e g:Int}{x z:Int}:ο (ο (bQ ng Bool.false) (ο (bQ lg Bool.false) (ο (ae s Δ) (ο (aa e 0) (ο (aa g 0) ς))))) (ο (ae mo Δ) (ο (ae da Δ) (ο (ο (aa x 0) (ο (aa y 0) (ο (aa z 0) ς))) ς)))=dZ ng lg s e g mo da x y z:=rfl
theorem tR{d:Int}:ο (ο (aa a 0) (ο (aa b 0) ς)) (ο (ο (aa c 0) (ο (aa d 0) ς)) ς)=sZ a b c d:=rfl
theorem tI{x z:Int}:ο (aa x 0) (ο (aa y 0) (ο (aa z 0) ς))=mZ x y z:=rfl
theorem x7{a b c d:Int}:0<=bA a b c d:=by grind [bA]
theorem wk{ng lg:Bool}{s:List UInt8}{e g:Int}{mo da:List UInt8}{x y z:Int}:0<=bW ng lg s e g mo da x y z:=by
 have h:0<=nH ng lg s e g mo da x y z:=by
  have:=@dE x y z (dq mo da);grind [nH]
 grind [bW]
theorem agN{ng lg:Bool}{s:List UInt8}{e g:Int}{mo da:List UInt8}{x y z:Int}(h:bW ng lg s e g mo da x y z=0):0<=g:=by
 have hd:nH ng lg s e g mo da x y z=0:=by
  unfold bW at h;cases hE:aa (nH ng lg s e g mo da x y z) 0 with
  | true=>exact ao.mp hE
  | false=>grind
 have:=(dC hd dE).1;grind [aV]
def Nx(R:List Rn):Prop:=∀i,i<R.length->IJ (R.getD i x9).b/\IJ (R.getD i x9).d
theorem kz:∀{R:List Rn},(bh R).length=R.length*4
 | []=>rfl
 | r::rs=>by simp only[bh,zAd,kz (R:=rs)];omega
theorem iJ:∀{R:List Rn},Xw (bh R)=R
 | []=>rfl
 | r::rs=>by simp only[bh,Xw,iJ (R:=rs)]
theorem pD:∀{R:List Rn},Nx R->eJ (bh R)=true
 | [],_=>rfl
 | r::rs,h=>by
   have h0:=h 0 (Nat.succ_pos _);have h0:IJ r.b/\IJ r.d:=h0;unfold IJ at h0;simp only[bh,eJ,zAa,aE,eH,eE];exact⟨h0.1,h0.2,pD λi hi=>h (i+1) η⟩
theorem Vo:∀{R:List Rn},bc 14 (bh R)=true
 | []=>rfl
 | r::rs=>by
   have:=Vo (R:=rs);unfold bc at this ⊢;simp only[bh,List.all_cons,zAa];exact⟨rfl,rfl,rfl,rfl,this⟩
theorem l_{R:List Rn}:b_ (bh R) 0 (R.length*4)=bh R:=by
 grind [b_,kz]
theorem zi{a b c d p:Int}:i6 a b c d p=true↔(a=0\/c=0)/\bA a b c d=0/\(a=0->lT b p/\CK b p=b)/\(c=0->lT d p/\PU d p=d):=by
 grind [i6,aw]
def ko(a b:UInt8):Int:=10*(ξ a.toNat-48)+(ξ b.toNat-48)
def XR(l:List UInt8):Int:=match l with
 | [a,b]=>ko a b
 | _=>0
def H4(l:List UInt8):Bool:=match l with
 | []=>true
 | [a,b]=>dB a&&dB b
 | _=>false
def YY(i:Int):Int:=aG (dc i 12) (d8 i 12+1)
def vR(lo hi:Int):AV:=.g [.a .i8 0,.a .i64 lo,.a .i8 0,.a .i64 hi]
def iO(y m d:Int):Int:=bif aa m 0 then bf y else bif ab 13 m then aG y (fR m)else bif aa d 0 then aG y m else aG y m+d-1
def iD(y m d:Int):Int:=bif aa m 0 then bf (y+1)-1 else bif ab 13 m then aG (fq y m) (kX y m+2)-1 else bif aa d 0 then aG y (m+1)-1 else aG y m+d-1
def kY(y m d:Int):Bool:=eO y&&(ab 0 d&&ab d 31&&(aa m 0 || (tL m || zI m&&eO (fq y m))))
theorem VS(y:Int):aG y 13=aG (y+1) 1:=Go.Proofs.YtcffhjfdlflbgaaGreatDoor.mst_next y
theorem af1(i:Int):YY (i+1)=YY i+d6 (dc i 12) (d8 i 12+1)/\YY (i+1)=aG (dc i 12) (d8 i 12+2):=by
 have hm:0<=d8 i 12/\d8 i 12<=11:=by unfold d8;omega
 have hs:=@p9 (dc i 12) (d8 i 12+1) δ δ;have e:YY (i+1)=aG (dc i 12) (d8 i 12+2):=by
  unfold YY;by_cases h:d8 i 12=11<;>grind [dc,d8,VS]
 refine⟨?_,e⟩;rw[e,show d8 i 12+2=d8 i 12+1+1 by omega,hs];rfl
theorem EX(i:Int)(k:Nat):YY i+28*k<=YY (i+k)/\YY (i+k)<=YY i+31*k:=by
 induction k with
 | zero=>simp
 | succ k ih=>
   have h:=(af1 (i+k)).1;have b:=jk (dc (i+k) 12) (d8 (i+k) 12+1);grind
theorem ju{d:Int}:kY y m d=true↔(-10000000000000000<=y/\y<=10000000000000000)/\(0<=d/\d<=31)/\(m=0\/(1<=m/\m<=12)\/(21<=m/\m<=41)/\eO (fq y m)=true):=by
 grind [kY,bX,ao,gX,aq,mg]
def yq:aQ:=aK R7 229 Nz
theorem amZ(ng lg:Bool)(s:List UInt8)(e g:Int)(mo da:List UInt8)(a b c y m d:Int):gG Q (pT yq jE 147 [.g [.b ng,.b lg,.e s,.a .i64 e,.a .i64 g,.e mo,.e da,.a .u8 a,.a .u8 b,.a .u8 c],.g [.a .i64 y,.a .i64 m,.a .i64 d]]) (bE 1052020020)=((λ(A:AV)=>ae mo []/\eO y/\eO y/\Q (.d [.g [A,.a .i64 (bf y),A,.a .i64 (HSub.hSub (bf (Ε y 1)) 1)],.a .i64 0])) (.a .i8 0)):=κ
theorem anE(ng lg:Bool)(s:List UInt8)(e g:Int)(mo da:List UInt8)(a b c y m d:Int):gG Q (pT yq jE 147 [.g [.b ng,.b lg,.e s,.a .i64 e,.a .i64 g,.e mo,.e da,.a .u8 a,.a .u8 b,.a .u8 c],.g [.a .i64 y,.a .i64 m,.a .i64 d]]) (bE 1000220220220220201000220220204010104220004030)=((λ(A B:AV)(G H I:Bool)(N:Int)=>(λ(O:Bool)(P:Int)=>(λ(T:Bool)(E:Int)=>(λ(C:Bool)(F:Int)=>(λ(U:Int)=>(λ(V:Int)=>(λ(W:Bool)(Y:Int)=>(λ(u0:AV)(Z:Bool)=>ae mo []=false/\(G->eO y/\zI m/\(H->Q (.d [.g [A,.a .i64 (aG y (fR m)),A,.a .i64 (HSub.hSub (aG (fq y m) (Ε (kX y m) 2)) 1)],B]))/\(H=false->Q (.d [.g [A,B,A,B],.a .i64 6])))/\(G=false->(I->O/\T/\C/\C/\eO F/\Q (.d [.g [A,.a .i64 U,A,.a .i64 (HSub.hSub (aG F (Ε (j8 E) 2)) 1)],B]))/\(I=false->O/\T/\C/\C/\eO F/\W/\Z/\W/\Z/\Q (.d [.g [A,u0,A,u0],B])))) (.a .i64 Y) (af .i64 Y)) (af .i64 V) (Γ V 1)) (υ U d)) (aG F (Ε (j8 E) 1))) (af .i64 E) (dc E 12)) (af .i64 P) (Γ P 1)) (af .i64 N) (υ N m)) (.a .i8 0) (.a .i64 0) (not (ab m 12)) (eO (fq y m)) (ae da []) (Int.mul 12 y)):=κ
theorem afC:aY tab 147=some (dH 147,aL 147):=κ
theorem J6:ak Tryz.prog cfg yq:=MA yF
theorem Dj(s t:List UInt8)(a b:Int):dT (s++t) a b=dT s a b+dT t a b:=by
 grind [dT]
theorem Oo(h:dT s 88 88=0):∀c∈s,c.toNat≠88:=λc hc h88=>by
 grind [dT,List.filter_eq_nil_iff]
theorem Yz{t:List UInt8}{r:Int}(h1:H4 t/\XR t=c)(h2:r=0\/(H4 mo/\XR mo=r)):(bif ae mo t then c else r)=0\/(H4 mo/\XR mo=bif ae mo t then c else r):=by
 cases hb:ae mo t<;>grind [bV]
theorem L6(mo:List UInt8):aR mo=0\/(H4 mo/\XR mo=aR mo):=by
 unfold aR
 (repeat' refine Yz ⟨by decide,by decide⟩ ?_)
 simp
theorem N_(hc:21<=c/\c<=41)(hy : -10000000000000000<=y/\y<=10000000000000000)(h:(c≠24/\c≠28/\c≠30)\/y≠10000000000000000):eO (fq y c)=true:=by
 obtain⟨h1,h2,h3⟩:=KJ hc;grind [bX,fq,dc]
theorem Gx{d:Int}(h:kY y m d) : -3652425000000000002<=iO y m d/\iO y m d<=iD y m d/\iD y m d<=3652425000000002000:=by
 obtain⟨hy,hd,hm⟩:=ju.1 h;unfold iO iD;cases hm0:aa m 0 with
 | true=>
   have b1:=@rm y hy.1 δ;have ys:bf (y+1)=bf y+365+iE y:=Go.Proofs.YtcffhjfdlflbgaaGreatDoor.yst_succ y;have bl:0<=iE y/\iE y<=1:=Go.Proofs.YtcffhjfdlflbgaaGreatDoor.lp_01 y;grind
 | false=>
   rw[aw]at hm0;simp only[cond_false];cases h13:ab 13 m with
   | true=>
     rw[aq]at h13;simp only[cond_true];have hc:21<=m/\m<=41:=δ
     obtain⟨⟨f1,f2⟩,n1,n2⟩:=xH hc;have b0:=@mst_bd y (fR m) hy f1 δ;have hs:=(af1 (12*y+fR m-1+(mR m-1))).2;rw[show 12*y+fR m-1+(mR m-1)+1=12*y+fR m-1+mR m by omega,show 12*y+fR m-1+(mR m-1)=12*y+(fR m-1)+(mR m-1)by omega]at hs;have e0:YY (12*y+fR m-1)=aG y (fR m):=by
      grind [YY,dc,d8]
     have bk:=EX (12*y+fR m-1) (mR m).toNat;grind [fq,kX]
   | false=>
     rw[bF]at h13;simp only[cond_false];have b2:=@mst_bd y m hy δ δ;have e:=@p9 y m δ δ;have hn:=jk y m;grind
theorem yR{y:Int}:aN (bf y)=y/\aN (bf (y+1)-1)=y:=by
 have ys:bf (y+1)=bf y+365+iE y:=Go.Proofs.YtcffhjfdlflbgaaGreatDoor.yst_succ y;have bl:0<=iE y/\iE y<=1:=Go.Proofs.YtcffhjfdlflbgaaGreatDoor.lp_01 y;refine⟨Go.Proofs.YtcffhjfdlflbgaaGreatDoor.yOf_unique (Int.le_refl _) ?_,Go.Proofs.YtcffhjfdlflbgaaGreatDoor.yOf_unique ?_ ?_⟩<;>grind [bf]
theorem eF(h:a<=b):bf a<=bf b:=Go.Proofs.YtcffhjfdlflbgaaGreatDoor.yst_le h
theorem Ze:bf (-10000000000000000) = -3652425000000000000/\bf 10000000000000000=3652425000000000000:=ζ
abbrev Um:List UInt8:=[ν 48,ν 49,ν 50,ν 51,ν 52,ν 53,ν 54,ν 55,ν 56,ν 57]
def Bc(k:Int):UInt8:=Um.getD k.toNat 0
def d0(n:Int):UInt8:=Bc (n%10000/1000)
def d1(n:Int):UInt8:=Bc (n%10000/100%10)
def d2(n:Int):UInt8:=Bc (n%10000/10%10)
def d3(n:Int):UInt8:=Bc (n%10000%10)
theorem tY{k:Int}(h:0<=k/\k<=9):k=0\/k=1\/k=2\/k=3\/k=4\/k=5\/k=6\/k=7\/k=8\/k=9:=δ
theorem oZ{k:Int}(h:0<=k/\k<=9):((Bc k).toNat:Int)=48+k:=by
 rcases tY h with rfl|rfl|rfl|rfl|rfl|rfl|rfl|rfl|rfl|rfl<;>rfl
def Rh(a b n:Int):List UInt8:=[bif aa 0 a || aa 0 b then ν 88 else d0 n,bif aa 1 a || aa 1 b then ν 88 else d1 n,bif aa 2 a || aa 2 b then ν 88 else d2 n,bif aa 3 a || aa 3 b then ν 88 else d3 n]
def I3(n z0:Int):List UInt8:=[Bc (z0%9+1),d0 n,d1 n,d2 n,d3 n]
def gw(f n z0 z1:Int):List UInt8:=bif aa (f%6) 3 then Rh (z0%4) (z1%4) n else bif aa (f%6) 5 then(bif ab (z1%3) 0 then I3 n z0 else Β (1+z1%5).toNat (I3 n z0))else[d0 n,d1 n,d2 n,d3 n]
def kQ(f z1:Int):Int:=bif aa (f%6) 5 then(bif ab (z1%3) 0 then 0 else 1+z1/16%11)else 0
def dr(f n z0 z1:Int):Int:=bif aa (f%6) 4 then 1+z0%4 else bif aa (f%6) 5 then z0/16%(ξ (gw f n z0 z1).length+kQ f z1+1)else 0
def sY(f:Int):Bool:=aa (f%6) 5
def qV(f:Int)(ng:Bool)(n z0 z1:Int):Bool:=ng&&aV ng (sY f) (gw f n z0 z1) (kQ f z1) (dr f n z0 z1)
def XN:List (List UInt8):=[[ν 48,ν 88],[ν 49,ν 88],[ν 88,ν 50],[ν 88,ν 88],[ν 88,ν 48],[ν 88,ν 57]]
def XO:List (List UInt8):=[[ν 48,ν 88],[ν 49,ν 88],[ν 50,ν 88],[ν 51,ν 88],[ν 88,ν 48],[ν 88,ν 49],[ν 88,ν 88],[ν 88,ν 56]]
def Av(k:Int):List UInt8:=bif aa k 0 then[]else bif ab k 12 then pZ k else bif ab k 33 then pZ (k+8)else XN.getD (k-34).toNat []
def WP(mo:List UInt8):Bool:=ae mo [ν 48,ν 52] || (ae mo [ν 48,ν 54] || (ae mo [ν 48,ν 57] || (ae mo [ν 49,ν 49] || ae mo [ν 88,ν 57])))
def JS(mo:List UInt8):Int:=bif ae mo [ν 48,ν 50]then 28 else bif WP mo then 30 else 31
def Gt(k:Int)(mo:List UInt8):List UInt8:=bif aa k 0 then[]else bif ab k 31 then pZ (gY k (JS mo))else XO.getD (bif ae mo [ν 48,ν 50]&&aa k 35 then 2 else(k-32).toNat) []
def jZ(f n z0 z1 m:Int):List UInt8:=bif aa (dr f n z0 z1) 0 then Av (m%40)else[]
def nY(f n z0 z1 m d:Int):List UInt8:=bif !(ae (jZ f n z0 z1 m) [])&&aa (aR (jZ f n z0 z1 m)) 0 then Gt (d%40) (jZ f n z0 z1 m)else[]
def Em(c:Int)(i x:Int):Int:=bif ab c i then 0 else x%4
theorem mN{c:UInt8}:dT (c::s) a b=(if a<=(c.toNat:Int)/\(c.toNat:Int)<=b then 1 else 0)+dT s a b:=by
 grind [dT]
theorem rg:dT [] a b=0:=rfl
theorem G8{n:Int}:(48<=(d0 n).toNat/\(d0 n).toNat<=57)/\(48<=(d1 n).toNat/\(d1 n).toNat<=57)/\(48<=(d2 n).toNat/\(d2 n).toNat<=57)/\(48<=(d3 n).toNat/\(d3 n).toNat<=57):=by
 grind [oZ,d0,d1,d2,d3]
theorem N3{n z0:Int}{k:Nat}(hk:1<=k)(hz:0<=z0):∃t:List UInt8,Β k (I3 n z0)=Bc (z0%9+1)::t/\(∀c∈Β k (I3 n z0),48<=c.toNat/\c.toNat<=57)/\(Β k (I3 n z0)).length<=5/\(k<=5->(Β k (I3 n z0)).length=k):=by
 obtain⟨h0,h1,h2,h3⟩:=@G8 n;have h9:=oZ (k:=z0%9+1) δ;unfold I3
 match k,hk with
 | k+1,_=>
   refine⟨Β k [d0 n,d1 n,d2 n,d3 n],rfl,λc hc=>?_,?_,λh=>?_⟩<;>grind
theorem alR{f n z0 z1:Int}(hz0:0<=z0/\z0<=255)(hz1:0<=z1/\z1<=255) :
 (sY f=false/\kQ f z1=0/\(gw f n z0 z1).length=4/\(∀c∈gw f n z0 z1,(48<=c.toNat/\c.toNat<=57)\/c.toNat=88)/\0<=dr f n z0 z1/\dr f n z0 z1<=4/\(0<dr f n z0 z1->∀c∈gw f n z0 z1,48<=c.toNat/\c.toNat<=57))\/
 (sY f/\(∀c∈gw f n z0 z1,48<=c.toNat/\c.toNat<=57)/\1<=(gw f n z0 z1).length/\(gw f n z0 z1).length<=5/\((gw f n z0 z1).getD 0 0).toNat≠48/\0<=kQ f z1/\kQ f z1<=11/\(kQ f z1=0->(gw f n z0 z1).length=5)/\0<=dr f n z0 z1/\dr f n z0 z1<=(gw f n z0 z1).length+kQ f z1):=by
 obtain⟨h0,h1,h2,h3⟩:=@G8 n;have h9:=oZ (k:=z0%9+1) δ;by_cases c5:f%6=5
 . right
   have e5:aa (f%6) 5=true:=ao.mpr c5;have e4:aa (f%6) 4=false:=aw.mpr δ;have e3:aa (f%6) 3=false:=aw.mpr δ;have key:∀(S:List UInt8) (E:Int),gw f n z0 z1=S->kQ f z1=E->(∃t,S=Bc (z0%9+1)::t)->(∀c∈S,48<=c.toNat/\c.toNat<=57)->S.length<=5->0<=E->E<=11->(E=0->S.length=5)->sY f/\(∀c∈gw f n z0 z1,48<=c.toNat/\c.toNat<=57)/\1<=(gw f n z0 z1).length/\(gw f n z0 z1).length<=5/\((gw f n z0 z1).getD 0 0).toNat≠48/\0<=kQ f z1/\kQ f z1<=11/\(kQ f z1=0->(gw f n z0 z1).length=5)/\0<=dr f n z0 z1/\dr f n z0 z1<=(gw f n z0 z1).length+kQ f z1:=by
    intro S E hS hE ⟨t,ht⟩ hd hl e0 e11 he;have hg:dr f n z0 z1=z0/16%(ξ S.length+E+1):=by grind [dr]
    rw[hS,hE,hg];have hl1:1<=S.length:=η
    have hm:0<ξ S.length+E+1:=η
    have m0:=Int.emod_nonneg (z0/16) (show ξ S.length+E+1≠0 by omega);have m1:=Int.emod_lt_of_pos (z0/16) hm;grind [sY]
   by_cases c3:z1%3<=0
   . have e0:ab (z1%3) 0=true:=aq.mpr c3;refine key (I3 n z0) 0 (by unfold gw;rw[e3,e5,e0];rfl) (by unfold kQ;rw[e5,e0];rfl) ⟨_,rfl⟩ (λc hc=>?_) (Nat.le_refl _) δ δ (λ_=>rfl);unfold I3 at hc;simp only[χ,σ,or_false]at hc;rcases hc with rfl|rfl|rfl|rfl|rfl<;>first|assumption|omega
   . have e0:ab (z1%3) 0=false:=bF.mpr δ;obtain⟨t,t1,t2,t3,t4⟩:=@N3 n z0 (1+z1%5).toNat δ hz0.1;exact key _ (1+z1/16%11) (by unfold gw;rw[e3,e5,e0];rfl) (by unfold kQ;rw[e5,e0];rfl) ⟨t,t1⟩ t2 t3 δ δ (λh=>by omega)
 . left
   have e5:aa (f%6) 5=false:=aw.mpr c5;have hL:sY f=false:=e5;have hE:kQ f z1=0:=by unfold kQ;rw[e5];rfl
   by_cases c3:f%6=3
   . have e3:aa (f%6) 3=true:=ao.mpr c3;have e4:aa (f%6) 4=false:=aw.mpr δ;have hS:gw f n z0 z1=Rh (z0%4) (z1%4) n:=by unfold gw;rw[e3];rfl
     have hG:dr f n z0 z1=0:=by unfold dr;rw[e4,e5];rfl
     rw[hS,hG];refine⟨hL,hE,rfl,λc hc=>?_,by omega,by omega,λh=>by omega⟩;unfold Rh at hc;have sp:∀(b:Bool) (d:UInt8),(48<=d.toNat/\d.toNat<=57)->(48<=(bif b then ν 88 else d).toNat/\(bif b then ν 88 else d).toNat<=57)\/(bif b then ν 88 else d).toNat=88:=λb d hd=>by cases b;exact .inl hd;exact .inr rfl
     simp only[χ,σ,or_false]at hc;rcases hc with rfl|rfl|rfl|rfl<;>exact sp _ _ (by assumption)
   . have e3:aa (f%6) 3=false:=aw.mpr c3;have hS:gw f n z0 z1=[d0 n,d1 n,d2 n,d3 n]:=by unfold gw;rw[e3,e5];rfl
     have hd:∀c∈[d0 n,d1 n,d2 n,d3 n],48<=c.toNat/\c.toNat<=57:=λc hc=>by
      simp only[χ,σ,or_false]at hc;rcases hc with rfl|rfl|rfl|rfl<;>assumption
     rw[hS];have hG:0<=dr f n z0 z1/\dr f n z0 z1<=4:=by
      unfold dr;rw[e5];cases aa (f%6) 4<;>simp only[zAj]<;>omega
     exact⟨hL,hE,rfl,λc hc=>.inl (hd c hc),hG.1,hG.2,λ_=>hd⟩
theorem al8{y m:Int}(h:1<=m/\m<=12):bf y<=aG y m/\aG y m<aG y (m+1)/\aG y (m+1)<=bf (y+1)/\aG y m+d6 y m=aG y (m+1):=by
 have ys:bf (y+1)=bf y+365+iE y:=Go.Proofs.YtcffhjfdlflbgaaGreatDoor.yst_succ y;have bl:0<=iE y/\iE y<=1:=Go.Proofs.YtcffhjfdlflbgaaGreatDoor.lp_01 y;have e:=@p9 y m h.1 δ;have hn:=jk y m;have key:∀k:Int,1<=k->k<=13->bf y<=aG y k/\aG y k<=bf y+365+iE y:=λk h1 h2=>by
  have:aG y k=bf y+Go.Proofs.YtcffhjfdlflbgaaGreatDoor.mcum y k:=rfl;have hl:iE y=Go.Proofs.YtcffhjfdlflbgaaGreatDoor.lp y:=rfl;rw[this,hl];rw[hl]at bl;unfold Go.Proofs.YtcffhjfdlflbgaaGreatDoor.mcum
  (repeat' split)<;>omega
 have k1:=key m h.1 δ;have k2:=key (m+1) δ δ;omega
theorem aq0{d:Int}(h:1<=m/\m<=12)(h1:aG y m<=d)(h2:d<aG y (m+1)):aN d=y/\bZ d=m:=by
 obtain⟨a,b,c,e⟩:=@al8 y m h;have hy:aN d=y:=Go.Proofs.YtcffhjfdlflbgaaGreatDoor.yOf_unique (show bf y<=d by omega) (show d<bf (y+1)by omega);have hy':Go.Proofs.YtcffhjfdlflbgaaGreatDoor.yOf d=y:=hy;refine⟨hy,Go.Proofs.YtcffhjfdlflbgaaGreatDoor.mOf_unique h.1 ?_ ?_⟩
 . rw[hy'];exact h1
 . rw[hy'];exact h2
theorem aeC:∀{cs vs:List AV},cs.length=vs.length->F8 cs vs=vs
 | [],[],_=>rfl
 | _::cs,v::vs,h=>by rw[F8,aeC (cs:=cs) (vs:=vs) η]
theorem X6:∀{R:List Rn},dM (bh R)=true
 | []=>rfl
 | r::rs=>by simp only[bh,dM,KU,X6 (R:=rs),Bool.and_self]
def kI(mo:List UInt8):List Int:=bif ae mo []then[0]else bif aa (aR mo) 0 then Co mo 12 else[aR mo]
def sd(da:List UInt8):List Int:=bif ae da []then[0]else Co da 31
theorem abb{e g:Int}(h:bW ng lg s e g mo da a b c=0):nH ng lg s e g mo da a b c=0:=by
 unfold bW at h;cases hE:aa (nH ng lg s e g mo da a b c) 0 with
 | true=>exact ao.mp hE
 | false=>rw[hE,cond_false]at h;exact h
theorem acT{L:List Int}(h:L≠[]):gU L=false:=by unfold gU;cases L with|nil=>exact absurd rfl h|cons x xs=>rfl
theorem oy{l:List UInt8}:ae l []=true↔l=[]:=by rw[bV,beq_iff_eq]
def Ul(f:Int->Nat):List Int->Nat
 | []=>0
 | x::l=>f x+Ul f l
theorem abp{f:Int->Nat}:∀{l k:List Int},Ul f (l++k)=Ul f l+Ul f k
 | [],k=>(Nat.zero_add _).symm
 | x::l,k=>by
   show f x+Ul f (l++k)=f x+Ul f l+Ul f k;rw[abp];omega
def VU(f:Int->Nat):Int->Nat->Nat
 | _,0=>0
 | a,n+1=>f a+VU f (a+1) n
theorem Zb{f g h:Int->Nat}:∀{n:Nat} {a:Int},(∀k,a<=k->k<a+n->f k=g k+h k)->VU f a n=VU g a n+VU h a n
 | 0,_,_=>rfl
 | n+1,a,H=>by
   rw[VU,VU,VU,H a (Int.le_refl _) δ,Zb (g:=g) (h:=h) λk h1 h2=>H k δ δ];omega
theorem Wv{f:Int->Nat}:∀{n:Nat} {a:Int},(∀k,a<=k->k<a+n->f k=0)->VU f a n=0
 | 0,_,_=>rfl
 | n+1,a,H=>by
   rw[VU,H a (Int.le_refl _) δ,Wv λk h1 h2=>H k δ δ]
theorem ade{f g:Int->Nat}{n:Nat}(H:∀k,a<=k->k<a+n->f k=g k):VU f a n=VU g a n:=by
 rw[Zb (g:=g) (h:=λ_=>0) λk h1 h2=>by rw[H k h1 h2];rfl,Wv (f:=λ_=>0) λ_ _ _=>rfl];omega
theorem abq{y:Int}{c:Nat}:∀{n:Nat} {a:Int},a<=y->y<a+n->VU (λk=>bif aa k y then c else 0) a n=c
 | 0,a,h1,h2=>by omega
 | n+1,a,h1,h2=>by
   rw[VU];by_cases he:a=y
   . subst he;rw[ao.mpr rfl,cond_true,Wv λk h3 _=>by rw[aw.mpr δ,cond_false]];rfl
   . rw[aw.mpr he,cond_false,abq δ δ];omega
def UY(da:List UInt8)(D:List Int)(y m:Int):Nat:=(D.filter λd=>ab d (kN y m da)).length
def VE(da:List UInt8)(M D:List Int)(y:Int):Nat:=Ul (UY da D y) M
def agk(ng:Bool)(s:List UInt8)(e:Int)(da:List UInt8)(M D:List Int):Nat->Int->Bool->Nat
 | 0,_,_=>0
 | f+1,y,ok=>bif ok then VE da M D y+agk ng s e da M D f (yV ng s e (y+1) true) (yB ng s e (y+1) true)else 0
def Vf(ng:Bool)(s:List UInt8)(e:Int)(da:List UInt8)(M D:List Int)(y:Int)(ok:Bool):Nat:=agk ng s e da M D (MZ y ok+1) y ok
theorem Zw{ng lg:Bool}{s:List UInt8}{e g:Int}{da:List UInt8}{M D:List Int}(ho:aV ng lg s e g):∀(f f':Nat) (y:Int) (ok:Bool),y<=10000000000000000->MZ y ok<f->MZ y ok<f'->agk ng s e da M D f y ok=agk ng s e da M D f' y ok
 | 0,_,_,_,_,h,_=>absurd h (Nat.not_lt_zero _)
 | _+1,0,_,_,_,_,h=>absurd h (Nat.not_lt_zero _)
 | f+1,f'+1,y,ok,hy,h1,h2=>by
   unfold agk;cases ok with
   | false=>rfl
   | true=>
     rw[cond_true,cond_true];have hm:=mC (ng:=ng) (s:=s) (e:=e) hy;rw[Zw ho f f' _ _ (iP ho).2 δ δ]
theorem ad5{e:Int}{M D:List Int}:Vf ng s e da M D y false=0:=rfl
theorem Zu{ng lg:Bool}{s:List UInt8}{e g:Int}{da:List UInt8}{M D:List Int}{y:Int}(ho:aV ng lg s e g)(hy:y<=10000000000000000):Vf ng s e da M D y true=VE da M D y+Vf ng s e da M D (yV ng s e (y+1) true) (yB ng s e (y+1) true):=by
 have hm:=mC (ng:=ng) (s:=s) (e:=e) hy;unfold Vf;rw[agk,cond_true];rw[Zw ho _ (MZ (yV ng s e (y+1) true) (yB ng s e (y+1) true)+1) _ _ (iP ho).2 δ δ]
def UW(ng:Bool)(s:List UInt8)(e:Int)(g:Int->Nat)(n k:Int):Nat:=bif mP ng s e k&&ab n k then g k else 0
theorem aj7{ng lg:Bool}{s:List UInt8}{e g:Int}{da:List UInt8}{M D:List Int}(ho:aV ng lg s e g)(hx:lP s):∀(t:Nat) (n:Int),MZ (yV ng s e n true) (yB ng s e n true)<=t->
 Vf ng s e da M D (yV ng s e n true) (yB ng s e n true)=VU (UW ng s e (VE da M D) n) (jR ng s e) (Zi ng s e+1-jR ng s e).toNat
 | t,n,ht=>by
   cases hb:yB ng s e n true with
   | false=>
     rw[ad5,Wv λk _ _=>?_];unfold UW;cases hk:mP ng s e k with
     | false=>rfl
     | true=>
       have:=Jj hx hb (Xc.1 hk);rw[bF.mpr this];rfl
   | true=>
     obtain⟨p1,p2,p3⟩:=yE hb;have bd:=iP (n:=n) (up:=true) ho;have lh:=Kx hx p1;rw[Zu ho bd.2];have hm:=mC (ng:=ng) (s:=s) (e:=e) bd.2;rw[hb]at ht;have ih:Vf ng s e da M D (yV ng s e (yV ng s e n true+1) true) (yB ng s e (yV ng s e n true+1) true)=VU (UW ng s e (VE da M D) (yV ng s e n true+1)) (jR ng s e) (Zi ng s e+1-jR ng s e).toNat:=by
      match t,ht with
      | 0,ht=>omega
      | t+1,ht=>exact aj7 ho hx t _ δ
     rw[ih];generalize yV ng s e n true=y at *;rw[Zb (f:=UW ng s e (VE da M D) n) (g:=λk=>bif aa k y then VE da M D y else 0) (h:=UW ng s e (VE da M D) (y+1)) λk _ _=>?_,abq lh.1 δ];unfold UW;cases hk:mP ng s e k with
     | false=>
       have:k≠y:=λh=>by subst h;rw[Xc.2 p1]at hk;cases hk
       rw[aw.mpr this];rfl
     | true=>
       by_cases he:k=y
       . subst he;rw[ao.mpr rfl,aq.mpr p2,bF.mpr δ];rfl
       . rw[aw.mpr he];by_cases hn:n<=k
         . have:=p3 k (Xc.1 hk) hn;rw[aq.mpr hn,aq.mpr δ];simp
         . rw[bF.mpr δ,bF.mpr δ];rfl
def aoc(x:Int):Int:=12*aN x+(bZ x-1)
theorem aqX(x:Int):1<=bZ x/\bZ x<=12:=⟨(Go.Proofs.YtcffhjfdlflbgaaGreatDoor.mOf_spec x).1,(Go.Proofs.YtcffhjfdlflbgaaGreatDoor.mOf_spec x).2.1⟩
abbrev Ci:Type:=Int×Int×Int
def aqq(da:List UInt8)(y m:Int):List Ci:=bif ae da []then[(y,m,0)]else(Co da (bP y m).toNat).map λd=>(y,m,d)
def an7(mo da:List UInt8)(y:Int):List Ci:=(kI mo).flatMap (aqq da y)
def agj(f:Int->List Ci):Int->Nat->List Ci
 | _,0=>[]
 | a,n+1=>f a++agj f (a+1) n
def an6(ng:Bool)(s:List UInt8)(e:Int)(mo da:List UInt8)(k:Int):List Ci:=bif mP ng s e k then an7 mo da k else[]
def Yh(ng:Bool)(s:List UInt8)(e:Int)(mo da:List UInt8):List Ci:=agj (an6 ng s e mo da) (jR ng s e) (Zi ng s e+1-jR ng s e).toNat
theorem YR{c0 c1:UInt8}{n:Int}:∀{g:Nat},(ay c0 c1 g).filter (λd=>ab d n)=ay c0 c1 (if n<=g then n.toNat else g)
 | 0=>by
   have:(if n<=((0:Nat):Int)then n.toNat else 0)=0:=by split<;>omega
   rw[this];rfl
 | g+1=>by
   rw[aam,List.filter_append,YR];by_cases h:n<=((g+1:Nat):Int)
   . rw[if_pos h];by_cases h1:n<=(g:Int)
     . rw[if_pos h1];cases agr [c0,c1] ((g:Int)+1)with
       | false=>simp
       | true=>simp[List.filter,bF.mpr (show n<(g:Int)+1 by omega)]
     . rw[if_neg h1];have:n.toNat=g+1:=δ
       rw[this,aam];cases agr [c0,c1] ((g:Int)+1)with
       | false=>simp
       | true=>simp[List.filter,aq.mpr (show(g:Int)+1<=n by omega)]
   . rw[if_neg h,if_neg δ,aam];cases agr [c0,c1] ((g:Int)+1)with
     | false=>simp
     | true=>simp[List.filter,aq.mpr (show(g:Int)+1<=n by omega)]
theorem ajP:(aqq da y m).length=UY da (sd da) y m:=by
 unfold aqq UY sd kN;cases h:ae da []with
 | true=>
   simp only[cond_true];rw[show([0]:List Int).filter (λd=>ab d 0)=[0]from rfl];rfl
 | false=>
   simp only[cond_false];rw[List.length_map];unfold Co;split
   . rw[YR];have:=mr y m;rw[if_pos δ]
   . rfl
theorem aa6:(an7 mo da y).length=VE da (kI mo) (sd da) y:=by
 unfold an7 VE;induction kI mo with
 | nil=>rfl
 | cons m M ih=>rw[List.flatMap_cons,zAe,ih,ajP];rfl
theorem aaK{f:Int->List Ci}:∀{n:Nat} {a:Int},(agj f a n).length=VU (λk=>(f k).length) a n
 | 0,_=>rfl
 | n+1,a=>by rw[agj,VU,zAe,aaK]
theorem an9{ng lg:Bool}{s:List UInt8}{e g:Int}{mo da:List UInt8}(ho:aV ng lg s e g)(hx:lP s):Vf ng s e da (kI mo) (sd da) (yV ng s e (-9223372036854775808) true) (yB ng s e (-9223372036854775808) true)=(Yh ng s e mo da).length:=by
 have lh:=Bf ho hx;rw[aj7 ho hx _ _ (Nat.le_refl _)];unfold Yh;rw[aaK];refine ade λk h1 h2=>?_;unfold UW an6;cases hk:mP ng s e k with
 | false=>rfl
 | true=>
   rw[aq.mpr (show(-9223372036854775808:Int)<=k by omega),Bool.true_and,cond_true,cond_true];exact aa6.symm
def aae(mo da:List UInt8):Bool:=bif ae mo []then ae da []else bif aa (aR mo) 0 then(match mo with|[m0,m1]=>fC m0&&(fC m1&&!(gU (ay m0 m1 12)))|_=>false)&&(ae da [] || (match da with|[d0,d1]=>fC d0&&fC d1|_=>false))else ae da []
theorem acQ(h:aae mo da):(mo=[]/\da=[])\/(ae mo []=false/\aa (aR mo) 0=false/\da=[])\/(∃m0 m1,mo=[m0,m1]/\aa (aR mo) 0/\fC m0/\fC m1/\gU (ay m0 m1 12)=false/\(da=[]\/∃d0 d1,da=[d0,d1]/\fC d0/\fC d1=true)):=by
 unfold aae at h;cases hm:ae mo []with
 | true=>rw[hm,cond_true,oy]at h;exact .inl ⟨oy.1 hm,h⟩
 | false=>
   rw[hm,cond_false]at h;cases hs:aa (aR mo) 0 with
   | false=>rw[hs,cond_false,oy]at h;exact .inr (.inl ⟨rfl,rfl,h⟩)
   | true=>
     rw[hs,cond_true,zAa]at h;obtain⟨h1,h2⟩:=h;right;right
     split at h1
     . rename_i m0 m1;simp only[zAa,Bool.not_eq_true']at h1;refine⟨m0,m1,rfl,rfl,h1.1,h1.2.1,h1.2.2,?_⟩;rw[Bool.or_eq_true,oy]at h2;rcases h2 with h2|h2
       . exact .inl h2
       . right
         split at h2
         . rename_i d0 d1;rw[zAa]at h2;exact⟨d0,d1,rfl,h2.1,h2.2⟩
         . cases h2
     . cases h1
theorem aoi{e:Int}(hE:bW ng lg s e 0 mo da a b c=0):aae mo da=true:=by
 have hq:=dC (abb hE) dE;have nE:∀{l:List UInt8},l≠[]->ae l []=false:=λh=>by rw[<-Bool.not_eq_true,oy];exact h
 unfold aae;cases hd:ae da []with
 | false=>
   obtain⟨m0,m1,d0,d1,rfl,rfl,h0,h1,h2,h3,k0,k1,hse,_⟩:=adC (abb hE) hd;rw[show ae [m0,m1] []=false from rfl,ao.mpr hse];simp only[zAj,h0,h1,h2,h3,acT k0];rfl
 | true=>
   cases hm:ae mo []with
   | true=>rfl
   | false=>
     rw[cond_false];cases hs:aa (aR mo) 0 with
     | false=>rfl
     | true=>
       obtain⟨m0,m1,rfl,h0,h1,k0⟩:=oi ζ (hq.2.2.2.1 ⟨hm,ao.mp hs⟩);simp only[cond_true,h0,h1,acT k0];rfl
theorem ZS{M:List Int}{i:Nat}(h:i<M.length):M.take (i+1)=M.take i++[M.getD i 0]:=by
 rw[List.take_add_one,List.getElem?_eq_getElem h,zAf,List.getElem?_eq_getElem h];rfl
def aad(d p:Int):Int:=bif aa p 3 then d else bif aa p 1 then aN d else aoc d
theorem ZI{d p:Int}(hp:1<=p/\p<=3)(hok:lT d p):lT (CK d p) p/\CK (CK d p) p=CK d p/\PU (CK d p) p=PU d p/\aad (CK d p) p=aad d p:=by
 have hp:p=1\/p=2\/p=3:=δ
 rcases hp with rfl|rfl|rfl
 . have hc:cE d=true:=by simpa [lT,show aa 1 3=false from rfl]using hok
   have cb:=lO hc;have e:CK d 1=bf (aN d):=rfl;have ye:=(@yR (aN d)).1;have i1:=dR.1 hc;have sp:=Go.Proofs.YtcffhjfdlflbgaaGreatDoor.yOf_spec d;have hlo:bf (-10000000000000000)<=bf (aN d):=eF cb.1.1;rw[Ze.1]at hlo;have hd:bf (aN d)<=d:=sp.1;refine⟨?_,?_,?_,?_⟩
   . rw[e];exact Pa (dR.2 ⟨hlo,by omega⟩)
   . rw[e];show bf (aN (bf (aN d)))=_;rw[ye]
   . rw[e];show bf (aN (bf (aN d)))+364+iE (aN (bf (aN d)))=bf (aN d)+364+iE (aN d);rw[ye]
   . rw[e];show aN (bf (aN d))=aN d;rw[ye]
 . have hc:cE d=true:=by simpa [lT,show aa 2 3=false from rfl]using hok
   have cb:=lO hc;have e:CK d 2=aG (aN d) (bZ d):=rfl;have mi:=aqX d;have mn:=@al8 (aN d) (bZ d) mi;have ym:=aq0 mi (Int.le_refl (aG (aN d) (bZ d))) mn.2.1;have i1:=dR.1 hc;have sp:=Go.Proofs.YtcffhjfdlflbgaaGreatDoor.mOf_spec d;have hlo:bf (-10000000000000000)<=bf (aN d):=eF cb.1.1;rw[Ze.1]at hlo;have hd:aG (aN d) (bZ d)<=d:=sp.2.2.1;refine⟨?_,?_,?_,?_⟩
   . rw[e];exact Pa (dR.2 ⟨by omega,by omega⟩)
   . rw[e];show aG (aN (aG (aN d) (bZ d))) (bZ (aG (aN d) (bZ d)))=_;rw[ym.1,ym.2]
   . rw[e];show aG (aN (aG (aN d) (bZ d))) (bZ (aG (aN d) (bZ d)))+d6 (aN (aG (aN d) (bZ d))) (bZ (aG (aN d) (bZ d)))-1=aG (aN d) (bZ d)+d6 (aN d) (bZ d)-1;rw[ym.1,ym.2]
   . rw[e];show aoc (aG (aN d) (bZ d))=aoc d;unfold aoc;rw[ym.1,ym.2]
 . exact⟨rfl,rfl,rfl,rfl⟩
def Ya(ng:Bool)(s:List UInt8)(e:Int)(mo da:List UInt8):Int:=bif ae da []&&(!ng&&!(Nat.beq (dT s 88 88) 0))then((10^dT s 88 88*(kI mo).length:Nat):Int)else((Yh ng s e mo da).length:Int)
def aq9:dP:=λargs=>match args with
 | [.g [.a .i8 a,.a .i64 L,.a .i8 c,.a .i64 H],.a .u8 p]=>some (aH [aa a 0,aa c 0,af .i64 L,af .i64 H,ab 1 p,ab p 3,lT L p,aa (CK L p) L,aa (PU L p) H] (.a0 (.d [.a .i64 (aad L p),.a .i64 0])))
 | _=>none
def SX:aQ:=aK R7 97 Sf
def arQ(L H:Int):gG Q (pT SX jE 113 [.g [.a .i8 0,.a .i64 L,.a .i8 0,.a .i64 H],.a .u8 1]) (bE 11220005145620400056)=((λ(u1:Bool)(u0:Prop)=>(u0->lT L 1/\(u1->Q (AV.d [AV.a .i64 0,AV.a .i64 1]))/\(u1=false->u0/\cE L/\Q (AV.d [AV.a .i64 (aN L),AV.a .i64 0])))/\(af .i64 L=false->False)) (not (and (and true (and (aa (CK L 1) L) true)) (and (and true (and (aa (PU L 1) H) true)) true))) (af .i64 L=true)):=ε
def arR(L H:Int):gG Q (pT SX jE 113 [.g [.a .i8 0,.a .i64 L,.a .i8 0,.a .i64 H],.a .u8 2]) (bE 1114114411411444220005145620400056)=((λ(u2:AV)(u1:Bool)(u3:Int)(u0:Prop)=>(λ(u4 u5:Int)=>(λ(u6 u7 u9 ua:Int)=>(u0->lT L 2/\(u1->Q (AV.d [u2,AV.a .i64 1]))/\(u1=false->u0/\cE L/\(af .i64 u3->(af .i64 u4->(af .i64 u6->Q (AV.d [AV.a .i64 u6,u2]))/\(af .i64 u6=false->Q (AV.d [AV.a .i64 (IntKind.wrap .i64 u6),u2])))/\(af .i64 u4=false->(af .i64 u7->Q (AV.d [AV.a .i64 u7,u2]))/\(af .i64 u7=false->Q (AV.d [AV.a .i64 (IntKind.wrap .i64 u7),u2]))))/\(af .i64 u3=false->(af .i64 u5->(af .i64 u9->Q (AV.d [AV.a .i64 u9,u2]))/\(af .i64 u9=false->Q (AV.d [AV.a .i64 (IntKind.wrap .i64 u9),u2])))/\(af .i64 u5=false->(af .i64 ua->Q (AV.d [AV.a .i64 ua,u2]))/\(af .i64 ua=false->Q (AV.d [AV.a .i64 (IntKind.wrap .i64 ua),u2]))))))/\(af .i64 L=false->False)) (Γ u4 1) (Γ (IntKind.wrap .i64 u4) 1) (Γ u5 1) (Γ (IntKind.wrap .i64 u5) 1)) (υ u3 (bZ L)) (υ (IntKind.wrap .i64 u3) (bZ L))) (AV.a .i64 0) (not (and (and true (and (aa (CK L 2) L) true)) (and (and true (and (aa (PU L 2) H) true)) true))) (Int.mul 12 (aN L)) (af .i64 L=true)):=ε
def arS(L H:Int):gG Q (pT SX jE 113 [.g [.a .i8 0,.a .i64 L,.a .i8 0,.a .i64 H],.a .u8 3]) (bE 11005140056400056)=((λ(u0:Bool)=>(af .i64 L->(u0->Q (AV.d [AV.a .i64 0,AV.a .i64 1]))/\(u0=false->Q (AV.d [AV.a .i64 L,AV.a .i64 0])))/\(af .i64 L=false->False)) (not (and (and true (and (aa (CK L 3) L) true)) (and (and true (and (aa (PU L 3) H) true)) true)))):=ε
def ZZ:aY tab 113=some (dH 113,aL 113):=ε
theorem aim:ak Tryz.prog cfg SX:=RG yF
theorem Yu{d p:Int}(h:lT d p)(hp:p=1\/p=2):cE d=true:=by
 unfold lT at h;rcases hp with rfl|rfl<;>simpa [show aa 1 3=false from rfl,show aa 2 3=false from rfl]using h
theorem apW(hS:ak Tryz.prog cfg S):ak Tryz.prog cfg (aK S 113 aq9):=au hS λargs t v he hv=>by
 unfold aq9 at he;split at he
 . rename_i a L c H p;cases he;replace hv:=aF hv;obtain⟨⟨h1,h2,h3,h4,h5,h6,h7,h8,h9,-⟩,hv⟩:=hv;rw[ao]at h1 h2;rw[aq]at h5 h6;subst h1 h2;cases hv;have hp:p=1\/p=2\/p=3:=δ
   have hid:aC (.d [.a .i64 (aad L p),.a .i64 0])=[]:=by simp[aC,bw]
   rcases hp with rfl|rfl|rfl
   . have hc:=Yu h7 (.inl rfl);refine kA aim (L:=jE) ZZ θ ai (bb λQ' hQ=>cg ((arQ L H).mpr ?_)) hid;dsimp only;have hQ:=hQ _ rfl;try dsimp only
     simp only[h3,h7,h8,h9,hc,Bool.and_true,τ,reduceCtorEq,zAh];exact hQ
   . have hc:=Yu h7 (.inr rfl);have cb:=lO hc;have i1:af .i64 (Int.mul 12 (aN L))=true:=by rw[aE];simp only[eH,eE];show _<=12*aN L/\12*aN L<=_;omega
     have i2:af .i64 (υ (Int.mul 12 (aN L)) (bZ L))=true:=by rw[aE];simp only[eH,eE];show _<=12*aN L+bZ L/\12*aN L+bZ L<=_;omega
     have i3:af .i64 (Γ (υ (Int.mul 12 (aN L)) (bZ L)) 1)=true:=by rw[aE];simp only[eH,eE];show _<=12*aN L+bZ L-1/\12*aN L+bZ L-1<=_;omega
     refine kA aim (L:=jE) ZZ θ ai (bb λQ' hQ=>cg ((arR L H).mpr ?_)) hid;dsimp only;have hQ:=hQ _ rfl;have e:aad L 2=Γ (υ (Int.mul 12 (aN L)) (bZ L)) 1:=by show 12*aN L+(bZ L-1)=12*aN L+bZ L-1;omega
     rw[e]at hQ;try dsimp only
     simp only[h3,h7,h8,h9,hc,i1,i2,i3,Bool.and_true,τ,reduceCtorEq,zAh];exact hQ
   . refine kA aim (L:=jE) ZZ θ ai (bb λQ' hQ=>cg ((arS L H).mpr ?_)) hid;dsimp only;have hQ:=hQ _ rfl;try dsimp only
     simp only[h3,h7,h8,h9,Bool.and_true,τ,reduceCtorEq,zAh];exact hQ
 . cases he
end Go.Ev
set_option linter.all false
set_option maxRecDepth 100000
set_option maxHeartbeats 4000000
namespace Go.Ev
open Go Go.Proofs
variable{S:aQ}{Q:EQ->Prop}
def aq7:dP:=λargs=>match args with
 | [.e [c0,c1,c2,c3],.a .u8 n]=>some (aH [aa n 88] (.a0 (.a .i64 (ξ (dT [c0,c1,c2,c3] 88 88)))))
 | _=>none
def SMC:aQ:=pX (aK (aK gZ 216 XJ) 141 Vk) 318 aq7
def sMC:dP:=λargs=>match args with
 | [.e [c0,c1,c2,c3]]=>some (aH [fC c0,fC c1,fC c2,fC c3] (.a0 (.d [.a .i64 (lK (ξ (dT [c0,c1,c2,c3] 88 88))),.a .i64 0])))
 | _=>none
def bMC(c0 c1 c2 c3:UInt8){Q:AV->Prop}:gG Q (pT SMC jE 188 [.e [c0,c1,c2,c3]]) (bE 11111145544440)=((λ(u0:Int)=>(fC c0->(fC c1->(fC c2->(fC c3->(ab u0 18->Q (AV.d [AV.a .i64 (lK u0),AV.a .i64 0]))/\(ab u0 18=false->False))/\(fC c3=false->False))/\(fC c2=false->False))/\(fC c1=false->False))/\(fC c0=false->False)) (ξ (dT [c0,c1,c2,c3] 88 88))):=ε
def aqf:aY tab 188=some (dH 188,aL 188):=ε
theorem asd{c0 c1 c2 c3:UInt8}:(ByteArray.mk ⟨[c0,c1,c2,c3]⟩).foldl (λ(n:Int) x=>if x==(88:UInt8)then n+1 else n) ((0:Nat):Int)=ξ (dT [c0,c1,c2,c3] 88 88):=by
 have st:∀c:UInt8,(c==(88:UInt8))=decide (c.toNat=88):=λc=>by
  rw[Bool.eq_iff_iff,beq_iff_eq,zAc];constructor
  . rintro rfl;rfl
  . intro h;exact UInt8.toNat_inj.1 h
 have e:(ByteArray.mk ⟨[c0,c1,c2,c3]⟩).foldl (λ(n:Int) x=>if x==(88:UInt8)then n+1 else n) ((0:Nat):Int)=(λ(n:Int)=>if c3==(88:UInt8)then n+1 else n) ((λ(n:Int)=>if c2==(88:UInt8)then n+1 else n) ((λ(n:Int)=>if c1==(88:UInt8)then n+1 else n) ((λ(n:Int)=>if c0==(88:UInt8)then n+1 else n) 0))):=rfl;rw[e];simp only[st,zAc];have hx:∀c:UInt8,((88:Int)<=(c.toNat:Int)/\(c.toNat:Int)<=88)↔c.toNat=88:=λc=>by omega
 rw[mN,mN,mN,mN,rg];simp only[hx,ψ];by_cases h0:c0.toNat=88<;>by_cases h1:c1.toNat=88<;>by_cases h2:c2.toNat=88<;>by_cases h3:c3.toNat=88<;>simp only[h0,h1,h2,h3,if_true,if_false]<;>rfl
theorem an_(s:List UInt8)(n:Int)(hn:(ByteArray.mk ⟨s⟩).foldl (λ(n:Int) x=>if x==(88:UInt8)then n+1 else n) ((0:Nat):Int)=n)(w:World):(callFunc 318 #[.string ⟨⟨s⟩⟩,.int .u8 88]).run Tryz.prog w=.ok (.value (.int .i64 n)) w:=by
 have h1:Extern.findNext Tryz.f318=none:=by kernel_rfl
 have h2:Extern.find Tryz.f318=some Extern.BytealgCount.count:=by kernel_rfl
 have h3:Tryz.f318.body.isNone=true:=by kernel_rfl
 have h4:(Tryz.f318.name == "runtime.NumGoroutine")=false:=by kernel_rfl
 rw[run_callFunc_extern Tryz.func318 h4 h3 h1 h2];have hb:(Extern.Bytes.asByte (.int .u8 88)).run Tryz.prog w=.ok (88:UInt8) w:=rfl;have hx:∀x y,Extern.BytealgCount.count #[x,y]=(do
  let b <-Extern.Bytes.bytesOf x
  let c <-Extern.Bytes.asByte y
  pure (Go.goInt (b.foldl (λn x=>if x==c then n+1 else n) (0:Nat)))):=λ_ _=>rfl
 rw[hx];simp only[Extern.Bytes.bytesOf,Go.Sem.run_bind,Go.Sem.run_pure,Result.andThen_ok,hb,hn];rfl
theorem aqx:ky Tryz.prog cfg 318 aq7:=λargs t v he hv=>by
 unfold aq7 at he;split at he
 . rename_i c0 c1 c2 c3 n;cases he;obtain⟨h1,hv⟩:=ex hv;rw[ao]at h1;subst h1;cases hv;exact λC D m o w hi hok=>.inr ⟨.int .i64 (ξ (dT [c0,c1,c2,c3] 88 88)),w,by simpa [aD,aj]using an_ _ _ asd w,by simp[aj],ek (by simp[aC]),dw.h0 hi,⟨λ_ _=>rfl,λi h1 h2=>absurd h1 h2⟩⟩
 . cases he
theorem apk:ak Tryz.prog cfg SMC:=eG (bm (bm aW (Pv 216 _ rfl)) (Jv 141 _ rfl)) aqx
theorem arJ(hS:ak Tryz.prog cfg S):ak Tryz.prog cfg (aK S 188 sMC):=au hS λargs t v he hv=>by
 unfold sMC at he;split at he
 . rename_i c0 c1 c2 c3;cases he;replace hv:=aF hv;obtain⟨⟨h1,h2,h3,h4,-⟩,hv⟩:=hv;cases hv;refine kA apk (L:=jE) aqf θ ai (bb λQ' hQ=>cg ((bMC c0 c1 c2 c3).mpr ?_)) (by simp[aC,bw]);dsimp only;have hQ:=hQ _ rfl;have hl:=ab6 [c0,c1,c2,c3] 88 88;generalize dT [c0,c1,c2,c3] 88 88=n at *;simp only[zAd,List.length_nil]at hl;have g1:ab 0 (ξ n)=true:=aq.mpr (Int.natCast_nonneg n);have g2:ab (ξ n) 18=true:=aq.mpr (by simp only[ψ];omega);try dsimp only
   simp only[h1,h2,h3,h4,g1,g2,reduceCtorEq,zAh];exact hQ
 . cases he
def agF(mo:List UInt8):Bool:=ae mo [] || !(aa (aR mo) 0)
def kL(b:Bool):fg:=bif b then .a 1 else .b 0
def gL(b:Bool):Option Nat:=bif b then none else some 1
def Uc(l:List Int):Nat:=l.length
def arq:aav:=λargs ws=>match args,ws with
 | [.g [.b ng,.b lg,.e s,.a .i64 e,.a .i64 g,.e mo,.e da,.a .u8 a,.a .u8 b,.a .u8 c]],[]=>some (aH [aae mo da,ω s.length 1000,ω mo.length 1000,ω da.length 1000,af .i64 e,af .i64 g,af .u8 a,af .u8 b,af .u8 c,ae da [] || !(gU (sd da))] (.a0 (.g [.b ng,.b lg,.e s,.a .i64 e,.a .i64 g,.e mo,.e da,.a .u8 a,.a .u8 b,.a .u8 c,.c 14 0 (Uc (kI mo)) (kL (agF mo)),.c 15 0 (Uc (sd da)) (kL (ae da []))],[.a (aI (sd da)) true (gL (ae da [])),.a (aI (kI mo)) true (gL (agF mo))])))
 | _,_=>none
noncomputable def SOm:aQ:=eQ (aK gZ 167 NO) 172 (fl 14 [] QR)
def att(ng lg:Bool)(s:List UInt8)(e g a b c:Int):gG Q (bT SOm jE [] 95 [.g [.b ng,.b lg,.e s,.a .i64 e,.a .i64 g,.e [],.e [],.a .u8 a,.a .u8 b,.a .u8 c]]) (bE 11111116644444004566)=((λ(u2:cD)(u1:AV)(u0:Bool)=>(λ(u3:List AV)=>(λ(u4:cD)=>(u0->(af .i64 e->(af .i64 g->(af .u8 a->(af .u8 b->(af .u8 c->Q (AV.g u3,{ n:=5,os:=[u4,u2,u2,u4,cD.a [AV.b ng,AV.b lg,AV.e s,AV.a .i64 e,AV.a .i64 g,u1,u1,AV.a .u8 a,AV.a .u8 b,AV.a .u8 c] true π],le:=[] }))/\(af .u8 c=false->False))/\(af .u8 b=false->False))/\(af .u8 a=false->False))/\(af .i64 g=false->False))/\(af .i64 e=false->False))/\(u0=false->False)) (cD.a u3 true π)) [AV.b ng,AV.b lg,AV.e s,AV.a .i64 e,AV.a .i64 g,u1,u1,AV.a .u8 a,AV.a .u8 b,AV.a .u8 c,AV.c 16 0 1 (fg.a 1),AV.c 17 0 1 (fg.a 1)]) (cD.a [AV.a .i64 0] true π) (AV.e []) (ω (Α s) 1000)):=ε
def atu(ng lg:Bool)(s mo:List UInt8)(e g a b c:Int):gG Q (bT SOm jE [] 95 [.g [.b ng,.b lg,.e s,.a .i64 e,.a .i64 g,.e mo,.e [],.a .u8 a,.a .u8 b,.a .u8 c]]) (bE 1111111100056244444044566)=((λ(u3:cD)(u0 u1:Bool)(u2:List AV)=>(λ(u4:cD)=>(u0->(u1->(af .i64 e->(af .i64 g->(af .u8 a->(af .u8 b->(af .u8 c->not (aa (aR mo) 0)/\Q (AV.g u2,{ n:=6,os:=[cD.a [AV.a .i64 (aR mo)] true π,u4,u3,u3,u4,cD.a [AV.b ng,AV.b lg,AV.e s,AV.a .i64 e,AV.a .i64 g,AV.e mo,AV.e [],AV.a .u8 a,AV.a .u8 b,AV.a .u8 c] true π],le:=[] }))/\(af .u8 c=false->False))/\(af .u8 b=false->False))/\(af .u8 a=false->False))/\(af .i64 g=false->False))/\(af .i64 e=false->False))/\(u1=false->False))/\(u0=false->False)) (cD.a u2 true π)) (cD.a [AV.a .i64 0] true π) (ω (Α s) 1000) (ω (Α mo) 1000) [AV.b ng,AV.b lg,AV.e s,AV.a .i64 e,AV.a .i64 g,AV.e mo,AV.e [],AV.a .u8 a,AV.a .u8 b,AV.a .u8 c,AV.c 19 0 1 (fg.a 1),AV.c 17 0 1 (fg.a 1)]):=ε
def atv(ng lg:Bool)(s:List UInt8)(m0 m1:UInt8)(e g a b c:Int):gG Q (bT SOm jE [] 95 [.g [.b ng,.b lg,.e s,.a .i64 e,.a .i64 g,.e [m0,m1],.e [],.a .u8 a,.a .u8 b,.a .u8 c]]) (bE 11111111100056300445344444004566)=((λ(u3:cD)(u2:AV)(u0:Bool)(u1:List Int)=>(λ(u4:List AV)=>(λ(u5:cD)=>(u0->(af .i64 e->(af .i64 g->(af .u8 a->(af .u8 b->(af .u8 c->not (aa (aR [m0,m1]) 0)=false/\(fC m0->(fC m1->gU u1=false/\Q (AV.g u4,{ n:=6,os:=[cD.a (aI u1) true (Option.some 1),u5,u3,u3,u5,cD.a [AV.b ng,AV.b lg,AV.e s,AV.a .i64 e,AV.a .i64 g,u2,AV.e [],AV.a .u8 a,AV.a .u8 b,AV.a .u8 c] true π],le:=[] }))/\(fC m1=false->False))/\(fC m0=false->False))/\(af .u8 c=false->False))/\(af .u8 b=false->False))/\(af .u8 a=false->False))/\(af .i64 g=false->False))/\(af .i64 e=false->False))/\(u0=false->False)) (cD.a u4 true π)) [AV.b ng,AV.b lg,AV.e s,AV.a .i64 e,AV.a .i64 g,u2,AV.e [],AV.a .u8 a,AV.a .u8 b,AV.a .u8 c,AV.c 19 0 (dG u1) (fg.b 0),AV.c 17 0 1 (fg.a 1)]) (cD.a [AV.a .i64 0] true π) (AV.e [m0,m1]) (ω (Α s) 1000) (ay m0 m1 12)):=ε
def atw(ng lg:Bool)(s:List UInt8)(m0 m1 d0 d1:UInt8)(e g a b c:Int):gG Q (bT SOm jE [] 95 [.g [.b ng,.b lg,.e s,.a .i64 e,.a .i64 g,.e [m0,m1],.e [d0,d1],.a .u8 a,.a .u8 b,.a .u8 c]]) (bE 111111111110563004405300445344444004566)=((λ(u5:cD)(u3 u4:AV)(u0:Bool)(u1 u2:List Int)=>(λ(u6:List AV)=>(λ(u7:cD)=>(u0->(af .i64 e->(af .i64 g->(af .u8 a->(af .u8 b->(af .u8 c->not (aa (aR [m0,m1]) 0)=false/\(fC m0->(fC m1->gU u1=false/\(fC d0->(fC d1->gU u2=false/\Q (AV.g u6,{ n:=7,os:=[cD.a (aI u2) true (Option.some 1),cD.a (aI u1) true (Option.some 1),u7,u5,u5,u7,cD.a [AV.b ng,AV.b lg,AV.e s,AV.a .i64 e,AV.a .i64 g,u3,u4,AV.a .u8 a,AV.a .u8 b,AV.a .u8 c] true π],le:=[] }))/\(fC d1=false->False))/\(fC d0=false->False))/\(fC m1=false->False))/\(fC m0=false->False))/\(af .u8 c=false->False))/\(af .u8 b=false->False))/\(af .u8 a=false->False))/\(af .i64 g=false->False))/\(af .i64 e=false->False))/\(u0=false->False)) (cD.a u6 true π)) [AV.b ng,AV.b lg,AV.e s,AV.a .i64 e,AV.a .i64 g,u3,u4,AV.a .u8 a,AV.a .u8 b,AV.a .u8 c,AV.c 19 0 (dG u1) (fg.b 0),AV.c 20 0 (dG u2) (fg.b 0)]) (cD.a [AV.a .i64 0] true π) (AV.e [m0,m1]) (AV.e [d0,d1]) (ω (Α s) 1000) (ay m0 m1 12) (ay d0 d1 31)):=ε
def Yo:aY tab 95=some (dH 95,aL 95):=ε
theorem ZV:ak Tryz.prog cfg SOm:=bm (bm aW (GK 167 _ rfl)) (Pl 172 _ rfl)
theorem dL.f0{v v':AV}{x1 x2:cD}{os:List cD}{n k1 k2:Nat}(hk1:k1<n)(hk2:k2<n)(hne:k1≠k2)(h1:os.getD (n-1-k1) .b=x1)(h2:os.getD (n-1-k2) .b=x2)(hx1:cR 14 x1)(hx2:cR 14 x2)(hv:kG 14 [(14+k1,14),(14+k2,15)] 20 v'=some v):dL [] v [x2,x1] (v',⟨n,os,[]⟩):=by
 have hv':kG ((Cw cfg []).lo+0) (fY (Cw cfg []).lo 0 [k1,k2]) 20 v'=some v:=hv;have a1:(⟨n,os,[]⟩:aB).at k1=x1:=h1;have a2:(⟨n,os,[]⟩:aB).at k2=x2:=h2;refine(oX gR.lv (C:=Cw cfg []) (st:=⟨.c0 v' .a0 .a0,1,⟨n,os,[]⟩,[],none⟩) (kb:=0) (sel:=[k1,k2]) (ts':=.c0 v .a0 .a0) (o':=⟨2,[x2,x1],[]⟩) zW (Nat.zero_le _) (λs hs=>?_) (by simp[hne]) (λp hp=>by cases hp) rfl rfl rfl (λi hi=>absurd hi (Nat.not_lt_zero i)) (λt ht=>?_) ?_ (λd hd=>by cases hd) (λi hi=>by cases hi)).b0 λs hs=>?_
 . simp only[χ,σ,or_false]at hs;rcases hs with rfl|rfl
   . exact⟨Nat.zero_le _,hk1⟩
   . exact⟨Nat.zero_le _,hk2⟩
 . have:t=0\/t=1:=by simp at ht;omega
   rcases this with rfl|rfl
   . refine .inl ⟨?_,?_⟩
     . show x1=(⟨n,os,[]⟩:aB).at k1;rw[a1]
     . show cR 14 ((⟨n,os,[]⟩:aB).at k1);rw[a1];exact hx1
   . refine .inl ⟨?_,?_⟩
     . show x2=(⟨n,os,[]⟩:aB).at k2;rw[a2]
     . show cR 14 ((⟨n,os,[]⟩:aB).at k2);rw[a2];exact hx2
 . simp only[xB,hv',ob]
 . rw[hs];exact⟨rfl,rfl⟩
theorem apX(hS:ak Tryz.prog cfg S):ak Tryz.prog cfg (eQ S 95 (fl 14 [] arq)):=by
 refine bm hS (fW gR.lv Az λargs ws t r he hr=>?_);unfold arq at he;split at he
 . rename_i ng lg s e g mo da a b c;cases he;replace hr:=aF hr;obtain⟨⟨h1,h2,h3,h4,h5,h6,h7,h8,h9,h10,-⟩,hr⟩:=hr;cases hr;have lowI:∀{L:List Int} {rw:Bool} {gr:Option Nat},cR 14 (.a (aI L) rw gr):=λ{L rw gr}=>aO (gj.1 yY);refine⟨?_,λx hx=>?_⟩
   . rcases acQ h1 with⟨rfl,rfl⟩|⟨k1,k2,rfl⟩|⟨m0,m1,rfl,k1,k2,k3,k4,k5⟩
     . refine Bu ZV (L:=jE) Yo θ ai (bb λQ' hQ=>cg ((att ng lg s e g a b c).mpr ?_));dsimp only;have hQ2:=hQ _ (dL.f0 (k1:=2) (k2:=3) (n:=5) (os:=[.a [.b ng,.b lg,.e s,.a .i64 e,.a .i64 g,.e [],.e [],.a .u8 a,.a .u8 b,.a .u8 c,.c 16 0 1 (.a 1),.c 17 0 1 (.a 1)] true none,.a [.a .i64 0] true none,.a [.a .i64 0] true none,.a [.b ng,.b lg,.e s,.a .i64 e,.a .i64 g,.e [],.e [],.a .u8 a,.a .u8 b,.a .u8 c,.c 16 0 1 (.a 1),.c 17 0 1 (.a 1)] true none,.a [.b ng,.b lg,.e s,.a .i64 e,.a .i64 g,.e [],.e [],.a .u8 a,.a .u8 b,.a .u8 c] true none]) (v':=.g [.b ng,.b lg,.e s,.a .i64 e,.a .i64 g,.e [],.e [],.a .u8 a,.a .u8 b,.a .u8 c,.c 16 0 1 (.a 1),.c 17 0 1 (.a 1)]) ζ ζ ζ rfl rfl lowI lowI rfl);try dsimp only
       simp only[h2,h5,h6,h7,h8,h9,reduceCtorEq,zAh];exact hQ2
     . have eM:kI mo=[aR mo]:=by unfold kI;rw[k1,k2];rfl
       have eL:agF mo=true:=by unfold agF;rw[k2];simp
       rw[eM,eL]at *;refine Bu ZV (L:=jE) Yo θ ai (bb λQ' hQ=>cg ((atu ng lg s mo e g a b c).mpr ?_));dsimp only;have hQ2:=hQ _ (dL.f0 (k1:=5) (k2:=3) (n:=6) (os:=[.a [.a .i64 (aR mo)] true none,.a [.b ng,.b lg,.e s,.a .i64 e,.a .i64 g,.e mo,.e [],.a .u8 a,.a .u8 b,.a .u8 c,.c 19 0 1 (.a 1),.c 17 0 1 (.a 1)] true none,.a [.a .i64 0] true none,.a [.a .i64 0] true none,.a [.b ng,.b lg,.e s,.a .i64 e,.a .i64 g,.e mo,.e [],.a .u8 a,.a .u8 b,.a .u8 c,.c 19 0 1 (.a 1),.c 17 0 1 (.a 1)] true none,.a [.b ng,.b lg,.e s,.a .i64 e,.a .i64 g,.e mo,.e [],.a .u8 a,.a .u8 b,.a .u8 c] true none]) (v':=.g [.b ng,.b lg,.e s,.a .i64 e,.a .i64 g,.e mo,.e [],.a .u8 a,.a .u8 b,.a .u8 c,.c 19 0 1 (.a 1),.c 17 0 1 (.a 1)]) ζ ζ ζ rfl rfl lowI lowI rfl);try dsimp only
       simp only[h2,h3,h5,h6,h7,h8,h9,k2,Bool.not_false,reduceCtorEq,zAh];exact hQ2
     . have eM:kI [m0,m1]=ay m0 m1 12:=by unfold kI;rw[k1];rfl
       have eL:agF [m0,m1]=false:=by unfold agF;rw[k1];rfl
       rw[eM,eL]at *;rcases k5 with rfl|⟨d0,d1,rfl,k6,k7⟩
       . refine Bu ZV (L:=jE) Yo θ ai (bb λQ' hQ=>cg ((atv ng lg s m0 m1 e g a b c).mpr ?_));dsimp only;generalize ay m0 m1 12=M at *;have hQ2:=hQ _ (dL.f0 (k1:=5) (k2:=3) (n:=6) (os:=[.a (aI M) true (some 1),.a [.b ng,.b lg,.e s,.a .i64 e,.a .i64 g,.e [m0,m1],.e [],.a .u8 a,.a .u8 b,.a .u8 c,.c 19 0 (dG M) (.b 0),.c 17 0 1 (.a 1)] true none,.a [.a .i64 0] true none,.a [.a .i64 0] true none,.a [.b ng,.b lg,.e s,.a .i64 e,.a .i64 g,.e [m0,m1],.e [],.a .u8 a,.a .u8 b,.a .u8 c,.c 19 0 (dG M) (.b 0),.c 17 0 1 (.a 1)] true none,.a [.b ng,.b lg,.e s,.a .i64 e,.a .i64 g,.e [m0,m1],.e [],.a .u8 a,.a .u8 b,.a .u8 c] true none]) (v':=.g [.b ng,.b lg,.e s,.a .i64 e,.a .i64 g,.e [m0,m1],.e [],.a .u8 a,.a .u8 b,.a .u8 c,.c 19 0 (dG M) (.b 0),.c 17 0 1 (.a 1)]) ζ ζ ζ rfl rfl lowI lowI rfl);try dsimp only
         simp only[h2,h5,h6,h7,h8,h9,k1,k2,k3,k4,τ,reduceCtorEq,zAh];exact hQ2
       . have eD:sd [d0,d1]=ay d0 d1 31:=rfl;rw[eD]at *;have n2:gU (ay d0 d1 31)=false:=by
          rw[show ae [d0,d1] []=false from rfl,Bool.false_or,Bool.not_eq_true']at h10;exact h10
         refine Bu ZV (L:=jE) Yo θ ai (bb λQ' hQ=>cg ((atw ng lg s m0 m1 d0 d1 e g a b c).mpr ?_));dsimp only;generalize ay m0 m1 12=M at *;generalize ay d0 d1 31=D at *;have hQ2:=hQ _ (dL.f0 (k1:=5) (k2:=6) (n:=7) (os:=[.a (aI D) true (some 1),.a (aI M) true (some 1),.a [.b ng,.b lg,.e s,.a .i64 e,.a .i64 g,.e [m0,m1],.e [d0,d1],.a .u8 a,.a .u8 b,.a .u8 c,.c 19 0 (dG M) (.b 0),.c 20 0 (dG D) (.b 0)] true none,.a [.a .i64 0] true none,.a [.a .i64 0] true none,.a [.b ng,.b lg,.e s,.a .i64 e,.a .i64 g,.e [m0,m1],.e [d0,d1],.a .u8 a,.a .u8 b,.a .u8 c,.c 19 0 (dG M) (.b 0),.c 20 0 (dG D) (.b 0)] true none,.a [.b ng,.b lg,.e s,.a .i64 e,.a .i64 g,.e [m0,m1],.e [d0,d1],.a .u8 a,.a .u8 b,.a .u8 c] true none]) (v':=.g [.b ng,.b lg,.e s,.a .i64 e,.a .i64 g,.e [m0,m1],.e [d0,d1],.a .u8 a,.a .u8 b,.a .u8 c,.c 19 0 (dG M) (.b 0),.c 20 0 (dG D) (.b 0)]) ζ ζ ζ rfl rfl lowI lowI rfl);try dsimp only
         simp only[h2,h5,h6,h7,h8,h9,k1,k2,k3,k4,k6,k7,n2,τ,reduceCtorEq,zAh];exact hQ2
   . simp only[χ,σ,or_false]at hx;rcases hx with rfl|rfl
     . exact lowI
     . exact lowI
 . cases he
theorem VM{n i:Nat}:ab (ξ n) (ξ i)=decide (n<=i):=by
 rw[q5];congr 1;rw[eq_iff_iff];simp only[ψ];omega
noncomputable def SCn:aQ:=eQ (aK (aK V2 42 tx) 188 sMC) 95 (fl 14 [] arq)
def Vz(D:List Int)(most:Int):Nat:=(D.filter λd=>ab d most).length
abbrev agG:List Nat:=[5,8,9,13,63,64,65,74,75,76]
abbrev ac0:List Nat:=[5,8,9,63,64,65]
def arp:dW:=λvs o=>match vs,o with
 | [.h 17 0,.a .i64 sm,.a .i64 y,.a .i64 mx,.c 15 0 nM km,.a .i64 lM,.a .i64 i,.c 16 0 nD kd,.a .i64 lD,.a .i64 j],⟨4,[.a F true none,.a w2 true gd,.a w1 true gm,.a B true none],[]⟩=>
   some (aH [aa j 0,aa lD (ξ nD),ω nD 1000,List.all w2 (eB .i64),Nat.beq w2.length nD,ab 0 sm,ab sm 1000000000,iw w1,iw B,af .i64 mx,bc 18 F] (.a0 (.b 4,[.h 17 0,.a .i64 (sm+ξ (Vz (d7 w2) mx)),.a .i64 y,.a .i64 mx,.c 15 0 nM km,.a .i64 lM,.a .i64 i,.c 16 0 nD kd,.a .i64 lD,.a .i64 lD],o)))
 | _,_=>none
def atW(F w2 w1 B:List AV)(gd gm:Option Nat)(nM nD:Nat)(km kd:fg)(sm y mx lM i:Int)(j:Nat)(J:Nat->Value){Q:VQ->Prop}:gG Q (rT SCn jE [] 112 2 88 agG [.h 17 0,.a .i64 sm,.a .i64 y,.a .i64 mx,.c 15 0 nM km,.a .i64 lM,.a .i64 i,.c 16 0 nD kd,.a .i64 (ξ nD),.a .i64 (ξ j)] J ⟨4,[.a F true none,.a w2 true gd,.a w1 true gm,.a B true none],[]⟩) (bE 11114114114444204)=((λ(u1 u3 u4 u5 u6 u7 u8 u9 ua ub:AV)(u0 u2:Int)=>(λ(uf ug:AV)(uc ud:Bool)(ue:Int)=>(λ(ui uk:AV)(uh uj:Prop)=>(uc->aS j nD/\(eB .i64 u1->(ud->(af .i64 u2->(uh->Q (AX.a,([u3,uf,u4,u5,u6,u7,u8,u9,ua,ui],{ n:=4,os:=[cD.a F true π,cD.a w2 true gd,cD.a w1 true gm,cD.a B true π],le:=[] })))/\(uj->Q (AX.a,([u3,uf,u4,u5,u6,u7,u8,u9,ua,uk],{ n:=4,os:=[cD.a F true π,cD.a w2 true gd,cD.a w1 true gm,cD.a B true π],le:=[] }))))/\(af .i64 u2=false->(uh->Q (AX.a,([u3,ug,u4,u5,u6,u7,u8,u9,ua,ui],{ n:=4,os:=[cD.a F true π,cD.a w2 true gd,cD.a w1 true gm,cD.a B true π],le:=[] })))/\(uj->Q (AX.a,([u3,ug,u4,u5,u6,u7,u8,u9,ua,uk],{ n:=4,os:=[cD.a F true π,cD.a w2 true gd,cD.a w1 true gm,cD.a B true π],le:=[] })))))/\(ud=false->(uh->Q (AX.a,([u3,ub,u4,u5,u6,u7,u8,u9,ua,ui],{ n:=4,os:=[cD.a F true π,cD.a w2 true gd,cD.a w1 true gm,cD.a B true π],le:=[] })))/\(uj->Q (AX.a,([u3,ub,u4,u5,u6,u7,u8,u9,ua,uk],{ n:=4,os:=[cD.a F true π,cD.a w2 true gd,cD.a w1 true gm,cD.a B true π],le:=[] })))))/\(eB .i64 u1=false->False))/\(uc=false->Q (AX.b 4,([u3,ub,u4,u5,u6,u7,u8,u9,ua,AV.a .i64 u0],{ n:=4,os:=[cD.a F true π,cD.a w2 true gd,cD.a w1 true gm,cD.a B true π],le:=[] })))) (AV.a .i64 ue) (AV.a .i64 (IntKind.wrap .i64 ue)) (af .i64 ue=true) (af .i64 ue=false)) (AV.a .i64 u2) (AV.a .i64 (IntKind.wrap .i64 u2)) (not (ab (ξ nD) u0)) (ab (dx u1) mx) (υ u0 1)) (List.getD w2 (Ε 0 (HMul.hMul j 1)) (AV.d [])) (AV.h 17 0) (AV.a .i64 y) (AV.a .i64 mx) (AV.c 15 0 nM km) (AV.a .i64 lM) (AV.a .i64 i) (AV.c 16 0 nD kd) (AV.a .i64 (ξ nD)) (AV.a .i64 sm) (ξ j) (υ sm 1)):=ε
theorem TV:ak Tryz.prog cfg SCn:=apX (arJ (G9 qY))
theorem aj3{D:List Int}{mx:Int}{j:Nat}(h:j<D.length):ξ (Vz (D.take (j+1)) mx)=ξ (Vz (D.take j) mx)+bI (ab (D.getD j 0) mx):=by
 rw[ZS h];unfold Vz;rw[List.filter_append,zAe];cases hb:ab (D.getD j 0) mx with
 | true=>simp only[List.filter_cons,hb,if_true,List.filter_nil,zAd,List.length_nil,bI,cond_true];rfl
 | false=>simp only[List.filter_cons,hb,List.filter_nil,List.length_nil,bI,cond_false,Nat.add_zero];exact(Int.add_zero _).symm
theorem asN:cu Tryz.prog (cH cfg SCn) (Cw cfg []) (lb 112 2) 88 agG arp:=by
 intro vs o t Q hv hq J;unfold arp at hv;split at hv
 . rename_i sm y mx nM km lM i nD kd lD j F w2 gd w1 gm B;cases hv;replace hq:=cO hq;obtain⟨⟨k1,k2,k3,k4,k5,k6,k7,k8,k9,k10,k11,-⟩,hq⟩:=hq;rw[ao]at k1 k2;rw[al]at k3;rw[aJ]at k5;rw[aq]at k6 k7;subst k1 k2;have ew:=gV k4;have el:(d7 w2).length=w2.length:=by unfold d7;rw[List.length_map]
   generalize d7 w2=D at *;rw[k5]at el;subst el ew;have hq:Q (.b 4,[.h 17 0,.a .i64 (sm+ξ (Vz D mx)),.a .i64 y,.a .i64 mx,.c 15 0 nM km,.a .i64 lM,.a .i64 i,.c 16 0 D.length kd,.a .i64 (ξ D.length),.a .i64 (ξ D.length)],⟨4,[.a F true none,.a (aI D) true gd,.a w1 true gm,.a B true none],[]⟩):=hq;refine ia TV rfl rfl ai (ι:={j:Nat // j<=D.length}) (λz=>[.h 17 0,.a .i64 (sm+ξ (Vz (D.take z.1) mx)),.a .i64 y,.a .i64 mx,.c 15 0 nM km,.a .i64 lM,.a .i64 i,.c 16 0 D.length kd,.a .i64 (ξ D.length),.a .i64 (ξ z.1)]) (λz=>⟨4,[.a F true none,.a (aI D) true gd,.a w1 true gm,.a B true none],[]⟩) (λz=>D.length-z.1) 4 (λz=>Nat.le_refl _) (λz J=>?_) (Nat.le_refl _) (λJ=>Wk.a0 ⟨⟨0,Nat.zero_le _⟩,J,by simp only[List.take_zero];rw[show sm+ξ (Vz [] mx)=sm from Int.add_zero sm];rfl⟩) J;obtain⟨j,hj⟩:=z;dsimp only;have one:=@aj3 D mx j;have hcl:Vz (D.take j) mx<=1000:=by
    have h1:Vz (D.take j) mx<=(D.take j).length:=by unfold Vz;exact List.length_filter_le _ _
    rw[List.length_take]at h1;omega
   have fin:j=D.length->∃vs2 o2,VW cfg (Cw cfg []) 4 88 agG [.h 17 0,.a .i64 (sm+ξ (Vz (D.take j) mx)),.a .i64 y,.a .i64 mx,.c 15 0 nM km,.a .i64 lM,.a .i64 i,.c 16 0 D.length kd,.a .i64 (ξ D.length),.a .i64 (ξ j)] ⟨4,[.a F true none,.a (aI D) true gd,.a w1 true gm,.a B true none],[]⟩ vs2 o2/\Q (.b 4,vs2,o2):=λh=>by
    subst h;rw[List.take_length];exact⟨_,_,VW.a0,hq⟩
   have go:j<D.length->∀vs o,VW cfg (Cw cfg []) 4 88 agG vs o [.h 17 0,.a .i64 (sm+ξ (Vz (D.take (j+1)) mx)),.a .i64 y,.a .i64 mx,.c 15 0 nM km,.a .i64 lM,.a .i64 i,.c 16 0 D.length kd,.a .i64 (ξ D.length),.a .i64 (ξ (j+1))] ⟨4,[.a F true none,.a (aI D) true gd,.a w1 true gm,.a B true none],[]⟩->∃z:{j:Nat // j<=D.length},D.length-z.1<D.length-j/\VW cfg (Cw cfg []) 4 88 agG vs o [.h 17 0,.a .i64 (sm+ξ (Vz (D.take z.1) mx)),.a .i64 y,.a .i64 mx,.c 15 0 nM km,.a .i64 lM,.a .i64 i,.c 16 0 D.length kd,.a .i64 (ξ D.length),.a .i64 (ξ z.1)] ⟨4,[.a F true none,.a (aI D) true gd,.a w1 true gm,.a B true none],[]⟩:=λh vs o hv=>⟨⟨j+1,h⟩,by dsimp only;omega,hv⟩;clear hq;have ca:=@sW D j;generalize Vz (D.take j) mx=m at *;refine bb λQ' hQ=>cg ((atW F (aI D) w1 B gd gm nM D.length km kd (sm+ξ m) y mx lM i j J).mpr ?_);dsimp only;rw[VM];by_cases h0:j<D.length
   . have go2:=go h0;rw[one h0]at go2;have hl:aS j D.length=true:=aU.2 h0;have b3:af .i64 (υ (ξ j) 1)=true:=by rw[aE];simp only[eH,eE];show _<=(j:Int)+1/\(j:Int)+1<=_;omega
     have b4:af .i64 (υ (sm+ξ m) 1)=true:=by
      rw[aE];simp only[eH,eE];show _<=sm+(m:Int)+1/\sm+(m:Int)+1<=_;omega
     clear go fin;try dsimp only
     rw[decide_eq_false δ,ca h0];generalize D.getD j 0=dd at *;cases kk:ab dd mx with
     | true=>
       have go3:=hQ (.a,_,_) (go2 _ _ VW.a0);rw[kk,show bI true=1 from rfl,<-Int.add_assoc]at go3;simp only[eB,dx,zb,abw,show Nat.beq 3 3=true from rfl,hl,b3,b4,kk,Bool.not_false,reduceCtorEq,zAh];exact go3
     | false=>
       have go3:=hQ (.a,_,_) (go2 _ _ VW.a0);rw[kk,show bI false=0 from rfl,Int.add_zero]at go3;simp only[eB,dx,zb,abw,show Nat.beq 3 3=true from rfl,hl,b3,b4,kk,Bool.not_false,reduceCtorEq,zAh];exact go3
   . have fin2:=hQ (.b 4,_,_) (fin δ);try dsimp only
     rw[decide_eq_true δ];simp only[τ,reduceCtorEq,zAh];exact fin2
 . cases hv
end Go.Ev
