import Derived.Test.YtoghlpcacfnjbaaGreatDoorP37
set_option linter.all false
set_option maxRecDepth 100000
set_option maxHeartbeats 4000000
namespace Go.Ev
open Go Go.Proofs
variable{x y m d e b c g:Int}{ng lg:Bool}{s mo da:List UInt8}
theorem RS(i:Int):eG i<eG (i+1):=by
 have:=(nK i).1;have:=iF (cV i 12) (d_ i 12+1);omega
theorem BI{i j:Int}(h:i<=j):eG i<=eG j:=by
 obtain⟨n,rfl⟩:∃n:Nat,j=i+n:=⟨(j-i).toNat,by omega⟩;clear h;induction n with
 | zero=>rw[show i+((0:Nat):Int)=i by omega];exact Int.le_refl _
 | succ n ih=>
   have:=RS (i+(n:Int));rw[show i+((n+1:Nat):Int)=i+(n:Int)+1 by omega];omega
theorem Bi{y m:Int}(h:1<=m/\m<=12):eG (12*y+(m-1))=aG y m:=by
 unfold eG;rw[show cV (12*y+(m-1)) 12=y by unfold cV;omega,show d_ (12*y+(m-1)) 12=m-1 by unfold d_;omega,show m-1+1=m by omega]
theorem Jm(y:Int):eG (12*y)=bf y:=by
 have:=@Bi y 1 (by omega);rw[show 12*y+(1-1)=12*y by omega]at this;rw[this];exact Go.Proofs.YtoghlpcacfnjbaaGreatDoor.mst_1 y
def jE(x:Int):Int:=12*aJ x+(bu x-1)
def sF(x:Int):Int:=x-aG (aJ x) (bu x)+1
theorem qz(x:Int):1<=bu x/\bu x<=12:=⟨(Go.Proofs.YtoghlpcacfnjbaaGreatDoor.mOf_spec x).1,(Go.Proofs.YtoghlpcacfnjbaaGreatDoor.mOf_spec x).2.1⟩
theorem Sj(x:Int):eG (jE x)<=x/\x<eG (jE x+1):=by
 obtain⟨h1,h2,h3,h4⟩:=Go.Proofs.YtoghlpcacfnjbaaGreatDoor.mOf_spec x;have e:=@Bi (aJ x) (bu x) ⟨h1,h2⟩;refine⟨by unfold jE;rw[e];exact h3,?_⟩;have s:=(nK (jE x)).1;have s2:=@pQ (aJ x) (bu x) h1 h2;unfold jE at s ⊢;rw[e,show cV (12*aJ x+(bu x-1)) 12=aJ x by unfold cV;have:=qz x;omega,show d_ (12*aJ x+(bu x-1)) 12=bu x-1 by unfold d_;have:=qz x;omega,show bu x-1+1=bu x by omega]at s;rw[s,<-s2];exact h4
theorem M6{i j:Int}:(eG i<=x/\x<=eG j-1)↔i<=jE x/\jE x<j:=by
 obtain⟨h1,h2⟩:=Sj x;constructor
 . rintro⟨a,b⟩;constructor
   . by_cases h:i<=jE x
     . exact h
     . have:=@BI (jE x+1) i (by omega);omega
   . by_cases h:jE x<j
     . exact h
     . have:=@BI j (jE x) (by omega);omega
 . rintro⟨a,b⟩;have:=BI a;have:=@BI (jE x+1) j (by omega);omega
def El(y m:Int):Int:=bif aa m 0 then 12*y else bif ab 13 m then 12*y+(fR m-1)else 12*y+(m-1)
def DC(y m:Int):Int:=bif aa m 0 then 12*y+12 else bif ab 13 m then 12*y+(fR m-1)+mR m else 12*y+m
theorem Kt{y m:Int}(h:m=0\/(1<=m/\m<=12)\/(21<=m/\m<=41)):jQ y m 0=eG (El y m)/\jV y m 0=eG (DC y m)-1:=by
 unfold jQ jV El DC;rcases h with rfl|h|h
 . rw[show aa 0 0=true from rfl];simp only[cond_true];rw[Jm,show 12*y+12=12*(y+1)by omega,Jm];exact⟨rfl,rfl⟩
 . rw[ay.mpr (show m≠0 by omega),bY.mpr (show m<13 by omega),show aa 0 0=true from rfl];simp only[zAj];rw[Bi h];refine⟨rfl,?_⟩;have s:=(nK (12*y+(m-1))).2;rw[show cV (12*y+(m-1)) 12=y by unfold cV;omega,show d_ (12*y+(m-1)) 12=m-1 by unfold d_;omega,show m-1+2=m+1 by omega,show 12*y+(m-1)+1=12*y+m by omega]at s;rw[s]
 . rw[ay.mpr (show m≠0 by omega),ao.mpr (show 13<=m by omega)];simp only[zAj];have b:=xN h;rw[Bi b.1];refine⟨rfl,?_⟩;have s:=(nK (12*y+(fR m-1)+(mR m-1))).2;rw[show 12*y+(fR m-1)+(mR m-1)+1=12*y+(fR m-1)+mR m by omega]at s;rw[s];rfl
def tw(y m d x:Int):Bool:=ab (jQ y m d) x&&ab x (jV y m d)
theorem qM:tw y m d x=true↔jQ y m d<=x/\x<=jV y m d:=by unfold tw;rw[zAa,ao,ao]
theorem Fz(h:m=0\/(1<=m/\m<=12)\/(21<=m/\m<=41)):tw y m 0 x=true↔El y m<=jE x/\jE x<DC y m:=by
 rw[qM,(Kt h).1,(Kt h).2,M6]
theorem Iu:tw y 0 0 x=true↔y=aJ x:=by
 rw[Fz (.inl rfl)];have:=qz x;unfold El DC jE;rw[show aa 0 0=true from rfl,cond_true,cond_true];omega
theorem Bg{y m x:Int}(h:1<=m/\m<=12):tw y m 0 x=true↔y=aJ x/\m=bu x:=by
 rw[Fz (.inr (.inl h))];have:=qz x;unfold El DC jE;rw[ay.mpr (show m≠0 by omega),bY.mpr (show m<13 by omega)];simp only[cond_false];omega
theorem Sq(h:21<=m/\m<=41)(hx:tw y m 0 x):y=aJ x\/y=aJ x-1:=by
 rw[Fz (.inr (.inr h))]at hx;have:=qz x;have:=xN h;unfold El DC jE at hx;rw[ay.mpr (show m≠0 by omega),ao.mpr (show 13<=m by omega)]at hx;simp only[zAj]at hx;omega
theorem Oc{z:Int}(h:21<=m/\m<=41)(hx:tw y m 0 x)(hz:tw z m 0 x):y=z:=by
 rw[Fz (.inr (.inr h))]at hx hz;have:=xN h;unfold El DC at hx hz;rw[ay.mpr (show m≠0 by omega),ao.mpr (show 13<=m by omega)]at hx hz;simp only[zAj]at hx hz;omega
theorem EH(h:1<=m/\m<=12)(hd:1<=d/\d<=bP y m):tw y m d x=true↔y=aJ x/\m=bu x/\d=sF x:=by
 rw[qM];have el:jQ y m d=aG y m+d-1:=by unfold jQ;rw[ay.mpr (show m≠0 by omega),bY.mpr (show m<13 by omega),ay.mpr (show d≠0 by omega)];rfl
 have eh:jV y m d=aG y m+d-1:=by unfold jV;rw[ay.mpr (show m≠0 by omega),bY.mpr (show m<13 by omega),ay.mpr (show d≠0 by omega)];rfl
 rw[el,eh];have hs:=@pQ y m h.1 h.2;have hl:bP y m=dX y m:=rfl;rw[hl]at hd;have hu:=@Bg y m x h;have s0:=@Kt y m (.inr (.inl h));rw[qM]at hu;have e1:jQ y m 0=aG y m:=by unfold jQ;rw[ay.mpr (show m≠0 by omega),bY.mpr (show m<13 by omega)];rfl
 have e2:jV y m 0=aG y (m+1)-1:=by unfold jV;rw[ay.mpr (show m≠0 by omega),bY.mpr (show m<13 by omega)];rfl
 rw[e1,e2]at hu;constructor
 . rintro⟨a,b⟩;obtain⟨k1,k2⟩:=hu.1 (by omega);refine⟨k1,k2,?_⟩;unfold sF;rw[<-k1,<-k2];omega
 . rintro⟨k1,k2,k3⟩;unfold sF at k3;rw[<-k1,<-k2]at k3;omega
theorem jg{a:Int}(hE:bJ ng lg s e 0 mo da a b c=0)(h:rz ng s e mo da y m d) :
 (mo=[]/\da=[]/\m=0/\d=0)\/(mo≠[]/\da=[]/\d=0/\aL mo≠0/\m=aL mo/\21<=m/\m<=41)\/(mo≠[]/\aL mo=0/\(1<=m/\m<=12)/\((da=[]/\d=0)\/(da≠[]/\1<=d/\d<=bP y m))):=by
 obtain⟨hy,hm,hd,hle⟩:=h;have hq:=fm (iG hE) fo;have hml:∀{s:List UInt8} {g:Nat} {k:Int},k∈Bx s g->1<=k/\k<=g:=λ{s g k} hk=>by
  unfold Bx at hk;split at hk
  . exact(iy.1 hk).1
  . cases hk
 have hda:da=[]/\d=0\/(da≠[]/\1<=d/\d<=bP y m/\mo≠[]/\aL mo=0):=by
  by_cases h0:da=[]
  . subst h0;left
    refine⟨rfl,?_⟩;have:eX []=[0]:=rfl;rw[this,zAf]at hd;exact hd
  . right
    have h1:af da []=false:=by rw[<-Bool.not_eq_true,aP];exact h0
    have h2:=hq.2.2.2.2 h1;unfold eX at hd;rw[h1,cond_false]at hd;unfold nw at hle;rw[h1,cond_false]at hle;refine⟨h0,(hml hd).1,hle,?_,h2.2.1⟩;intro h3;rw[aP.2 h3]at h2;cases h2.1
 by_cases hm0:mo=[]
 . subst hm0;left
   have:cu []=[0]:=rfl;rw[this,zAf]at hm;rcases hda with⟨h1,h2⟩|⟨_,_,_,h3,_⟩
   . exact⟨rfl,h1,hm,h2⟩
   . exact absurd rfl h3
 . right
   have h1:af mo []=false:=by rw[<-Bool.not_eq_true,aP];exact hm0
   unfold cu at hm;rw[h1,cond_false]at hm;cases hs:aa (aL mo) 0 with
   | false=>
     left
     rw[hs,cond_false,zAf]at hm;rw[ay]at hs;rcases hda with⟨h2,h3⟩|h2
     . have:=qc mo;exact⟨hm0,h2,h3,hs,hm,by omega,by omega⟩
     . exact absurd h2.2.2.2.2 hs
   | true=>
     right
     rw[hs,cond_true]at hm;rw[al]at hs;refine⟨hm0,hs,by have:=hml hm;omega,?_⟩;rcases hda with h2|h2
     . exact .inl h2
     . exact .inr ⟨h2.1,h2.2.1,h2.2.2.1⟩
theorem MM{a y' m' d':Int}(hE:bJ ng lg s e 0 mo da a b c=0)(h:rz ng s e mo da y m d)(h':rz ng s e mo da y' m' d')(hx:tw y m d x)(hx':tw y' m' d' x):y=y'/\m=m'/\d=d':=by
 have k:=jg hE h;have k':=jg hE h';rcases k with⟨a1,a2,rfl,rfl⟩|⟨a1,a2,rfl,a3,a4,a5⟩|⟨a1,a2,a3,a4⟩
 . rcases k' with⟨b1,b2,rfl,rfl⟩|⟨b1,_⟩|⟨b1,_⟩
   . rw[Iu]at hx hx';omega
   . exact absurd a1 b1
   . exact absurd a1 b1
 . rcases k' with⟨b1,_⟩|⟨b1,b2,rfl,b3,b4,b5⟩|⟨b1,b2,_⟩
   . exact absurd b1 a1
   . have:m=m':=by omega
     subst this;exact⟨Oc a5 hx hx',rfl,rfl⟩
   . exact absurd b2 a3
 . rcases k' with⟨b1,_⟩|⟨b1,b2,rfl,b3,b4,b5⟩|⟨b1,b2,b3,b4⟩
   . exact absurd b1 a1
   . exact absurd a2 b3
   . rcases a4 with⟨a4,rfl⟩|⟨a4,a5⟩
     . rcases b4 with⟨b4,rfl⟩|⟨b4,_⟩
       . rw[Bg a3]at hx;rw[Bg b3]at hx';omega
       . exact absurd a4 b4
     . rcases b4 with⟨b4,_⟩|⟨b4,b5⟩
       . exact absurd b4 a4
       . rw[EH a3 a5]at hx;rw[EH b3 b5]at hx';omega
def tU(ng:Bool)(s:List UInt8)(e:Int)(mo da:List UInt8)(y m d x:Int):Bool:=gB ng s e mo da y m d&&tw y (cM mo m) (cD da d) x
def s6(ng:Bool)(s:List UInt8)(e:Int)(mo da:List UInt8)(x:Int):Bool:=bif aa (aL mo) 0 then tU ng s e mo da (aJ x) (bu x) (sF x) x else tU ng s e mo da (aJ x) (aL mo) 0 x || tU ng s e mo da (aJ x-1) (aL mo) 0 x
theorem Gp{a:Int}(hE:bJ ng lg s e 0 mo da a b c=0):s6 ng s e mo da x=true↔∃y m d,rz ng s e mo da y m d/\tw y m d x=true:=by
 obtain⟨ho,hX,_⟩:=fm (iG hE) fo;have cand:∀y m d,tU ng s e mo da y m d x->∃y m d,rz ng s e mo da y m d/\tw y m d x=true:=λy m d h=>by
  unfold tU at h;rw[zAa,AT ho hX]at h;obtain⟨⟨m1,d1,hF,h1,h2⟩,h3⟩:=h;refine⟨y,m1,d1,hF,?_⟩;have hs:=jg hE hF;have e1:cM mo m=m1:=by
   unfold cM;by_cases h0:mo=[]
   . rw[aP.2 h0,cond_true];rcases hs with h|h|h
     . omega
     . exact absurd h0 h.1
     . exact absurd h0 h.1
   . rw[show af mo []=false by rw[<-Bool.not_eq_true,aP];exact h0,cond_false];rcases h1 with h1|h1
     . exact absurd h1 h0
     . exact h1.symm
  have e2:cD da d=d1:=by
   unfold cD;by_cases h0:da=[]
   . rw[aP.2 h0,cond_true];rcases hs with h|h|⟨_,_,_,h|h⟩
     . omega
     . omega
     . omega
     . exact absurd h0 h.1
   . rw[show af da []=false by rw[<-Bool.not_eq_true,aP];exact h0,cond_false];rcases h2 with h2|h2
     . exact absurd h2 h0
     . exact h2.symm
  rw[e1,e2]at h3;exact h3
 constructor
 . intro h;unfold s6 at h;cases hs:aa (aL mo) 0 with
   | true=>rw[hs,cond_true]at h;exact cand _ _ _ h
   | false=>
     rw[hs,cond_false,Bool.or_eq_true]at h;rcases h with h|h
     . exact cand _ _ _ h
     . exact cand _ _ _ h
 . rintro⟨y,m,d,hF,hU⟩;have back:∀m0 d0,(mo=[]\/m=m0)->(da=[]\/d=d0)->tw y (cM mo m0) (cD da d0) x->tU ng s e mo da y m0 d0 x=true:=λm0 d0 h1 h2 h3=>by
    unfold tU;rw[zAa,AT ho hX];exact⟨⟨m,d,hF,h1,h2⟩,h3⟩
   have nE:∀{l:List UInt8},l≠[]->af l []=false:=λh=>by rw[<-Bool.not_eq_true,aP];exact h
   unfold s6;rcases jg hE hF with⟨rfl,rfl,rfl,rfl⟩|⟨a1,rfl,rfl,a3,a4,a5⟩|⟨a1,a2,a3,a4⟩
   . rw[show aa (aL []) 0=true from rfl,cond_true];have:=Iu.1 hU;subst this;exact back _ _ (.inl rfl) (.inl rfl) hU
   . rw[ay.mpr a3,cond_false,Bool.or_eq_true];have hy:=Sq a5 hU;have hb:=back (aL mo) 0 (.inr a4) (.inl rfl) (by unfold cM;rw[nE a1,cond_false,<-a4];exact hU);rcases hy with rfl|rfl
     . exact .inl hb
     . exact .inr hb
   . rw[al.mpr a2,cond_true];rcases a4 with⟨rfl,rfl⟩|⟨a4,a5⟩
     . obtain⟨rfl,k2⟩:=(Bg a3).1 hU;exact back _ _ (.inr k2) (.inl rfl) (by unfold cM;rw[nE a1,cond_false,<-k2];exact hU)
     . obtain⟨rfl,k2,k3⟩:=(EH a3 a5).1 hU;exact back _ _ (.inr k2) (.inr k3) (by unfold cM cD;rw[nE a1,nE a4,cond_false,cond_false,<-k2,<-k3];exact hU)
abbrev Ci:Type:=Int×Int×Int
def pG(da:List UInt8)(y m:Int):List Ci:=bif af da []then[(y,m,0)]else(Bx da (bP y m).toNat).map λd=>(y,m,d)
def kZ(mo da:List UInt8)(y:Int):List Ci:=(cu mo).flatMap (pG da y)
def jL(f:Int->List Ci):Int->Nat->List Ci
 | _,0=>[]
 | a,n+1=>f a++jL f (a+1) n
def j9(ng:Bool)(s:List UInt8)(e:Int)(mo da:List UInt8)(k:Int):List Ci:=bif kB ng s e k then kZ mo da k else[]
def bZ(ng:Bool)(s:List UInt8)(e:Int)(mo da:List UInt8):List Ci:=jL (j9 ng s e mo da) (je ng s e) (qE ng s e+1-je ng s e).toNat
theorem xz{c0 c1:UInt8}{n:Int}:∀{g:Nat},(aw c0 c1 g).filter (λd=>ab d n)=aw c0 c1 (if n<=g then n.toNat else g)
 | 0=>by
   have:(if n<=((0:Nat):Int)then n.toNat else 0)=0:=by split<;>omega
   rw[this];rfl
 | g+1=>by
   rw[fW,List.filter_append,xz];by_cases h:n<=((g+1:Nat):Int)
   . rw[if_pos h];by_cases h1:n<=(g:Int)
     . rw[if_pos h1];cases agr [c0,c1] ((g:Int)+1)with
       | false=>simp
       | true=>simp[List.filter,bY.mpr (show n<(g:Int)+1 by omega)]
     . rw[if_neg h1];have:n.toNat=g+1:=by omega
       rw[this,fW];cases agr [c0,c1] ((g:Int)+1)with
       | false=>simp
       | true=>simp[List.filter,ao.mpr (show(g:Int)+1<=n by omega)]
   . rw[if_neg h,if_neg (by omega),fW];cases agr [c0,c1] ((g:Int)+1)with
     | false=>simp
     | true=>simp[List.filter,ao.mpr (show(g:Int)+1<=n by omega)]
theorem K1:(pG da y m).length=oe da (eX da) y m:=by
 unfold pG oe eX nw;cases h:af da []with
 | true=>
   simp only[cond_true];rw[show([0]:List Int).filter (λd=>ab d 0)=[0]from rfl];rfl
 | false=>
   simp only[cond_false];rw[List.length_map];unfold Bx;split
   . rw[xz];have:=jl y m;rw[if_pos (by omega)]
   . rfl
theorem Jz:(kZ mo da y).length=pH da (cu mo) (eX da) y:=by
 unfold kZ pH;induction cu mo with
 | nil=>rfl
 | cons m M ih=>rw[List.flatMap_cons,zAg,ih,K1];rfl
theorem yA{f:Int->List Ci}:∀{n:Nat} {a:Int},(jL f a n).length=mw (λk=>(f k).length) a n
 | 0,_=>rfl
 | n+1,a=>by rw[jL,mw,zAg,yA]
theorem Mu{ng lg:Bool}{s:List UInt8}{e g:Int}{mo da:List UInt8}(ho:aZ ng lg s e g)(hx:k_ s):nv ng s e da (cu mo) (eX da) (yV ng s e (-9223372036854775808) true) (yB ng s e (-9223372036854775808) true)=(bZ ng s e mo da).length:=by
 have lh:=vS ho hx;rw[JD ho hx _ _ (Nat.le_refl _)];unfold bZ;rw[yA];refine D8 λk h1 h2=>?_;unfold mQ j9;cases hk:kB ng s e k with
 | false=>rfl
 | true=>
   rw[ao.mpr (show(-9223372036854775808:Int)<=k by omega),Bool.true_and,cond_true,cond_true];exact Jz.symm
theorem rY{c:Ci}:c∈pG da y m↔c.1=y/\c.2.1=m/\c.2.2∈eX da/\c.2.2<=nw y m da:=by
 obtain⟨a,b,d⟩:=c;unfold pG eX nw;cases h:af da []with
 | true=>
   simp only[cond_true,zAf,Prod.mk.injEq];omega
 | false=>
   simp only[cond_false,List.mem_map,Prod.mk.injEq];have hb:=jl y m;unfold Bx;split
   . constructor
     . rintro⟨k,hk,rfl,rfl,rfl⟩;have:=iy.1 hk;exact⟨rfl,rfl,iy.2 ⟨by omega,this.2⟩,by omega⟩
     . rintro⟨rfl,rfl,hk,hle⟩;have:=iy.1 hk;exact⟨d,iy.2 ⟨by omega,this.2⟩,rfl,rfl,rfl⟩
   . simp
theorem xO{c:Ci}:c∈kZ mo da y↔c.1=y/\c.2.1∈cu mo/\c.2.2∈eX da/\c.2.2<=nw y c.2.1 da:=by
 unfold kZ;rw[List.mem_flatMap];constructor
 . rintro⟨m,hm,h⟩;obtain⟨h1,rfl,h3,h4⟩:=rY.1 h;exact⟨h1,hm,h3,h4⟩
 . rintro⟨h1,h2,h3,h4⟩;exact⟨c.2.1,h2,rY.2 ⟨h1,rfl,h3,h4⟩⟩
theorem yC{f:Int->List Ci}{c:Ci}:∀{n:Nat} {a:Int},c∈jL f a n↔∃k,a<=k/\k<a+n/\c∈f k
 | 0,a=>by
   refine⟨λh=>(by cases h),λ⟨k,h1,h2,_⟩=>?_⟩;exfalso;omega
 | n+1,a=>by
   rw[jL,List.mem_append,yC];constructor
   . rintro(h|⟨k,h1,h2,h3⟩)
     . exact⟨a,by omega,by omega,h⟩
     . exact⟨k,by omega,by omega,h3⟩
   . rintro⟨k,h1,h2,h3⟩;by_cases e:k=a
     . subst e;exact .inl h3
     . exact .inr ⟨k,by omega,by omega,h3⟩
theorem kq{c:Ci}(hx:k_ s):c∈bZ ng s e mo da↔rz ng s e mo da c.1 c.2.1 c.2.2:=by
 unfold bZ;rw[yC];unfold j9 rz;constructor
 . rintro⟨k,h1,h2,h3⟩;cases hk:kB ng s e k with
   | false=>rw[hk]at h3;cases h3
   | true=>
     rw[hk,cond_true]at h3;obtain⟨rfl,h4⟩:=xO.1 h3;exact⟨lW.1 hk,h4⟩
 . rintro⟨h1,h2⟩;have:=Eu hx h1;refine⟨c.1,this.1,by omega,?_⟩;rw[lW.2 h1,cond_true];exact xO.2 ⟨rfl,h2⟩
def pX(l:List Ci):Prop:=l.Pairwise (·≠·)
theorem Sb:pX (pG da y m):=by
 unfold pX pG;cases af da []with
 | true=>exact List.pairwise_singleton _ _
 | false=>
   rw[cond_false,List.pairwise_map];exact List.Pairwise.imp (λh he=>by simp only[Prod.mk.injEq,true_and]at he;omega) (@DY da _)
theorem Sh:pX (kZ mo da y):=by
 unfold kZ;have:=@FS mo;generalize cu mo=M at *;induction M with
 | nil=>exact List.Pairwise.nil
 | cons m M ih=>
   unfold BT at this;rw[List.pairwise_cons]at this;rw[List.flatMap_cons];unfold pX;rw[List.pairwise_append];refine⟨Sb,ih this.2,λa ha b hb he=>?_⟩;subst he;rw[List.mem_flatMap]at hb;obtain⟨k,hk,hb⟩:=hb;have:=this.1 k hk;have h1:=(rY.1 ha).2.1;have h2:=(rY.1 hb).2.1;omega
theorem Ji{f:Int->List Ci}(hf:∀k,pX (f k))(h1:∀k,∀c∈f k,c.1=k):∀{n:Nat} {a:Int},pX (jL f a n)
 | 0,_=>List.Pairwise.nil
 | n+1,a=>by
   rw[jL];unfold pX;rw[List.pairwise_append];refine⟨hf a,Ji hf h1,λx hx y hy he=>?_⟩;subst he;obtain⟨k,h2,h3,h4⟩:=yC.1 hy;have:=h1 _ _ hx;have:=h1 _ _ h4;omega
theorem RZ:pX (bZ ng s e mo da):=by
 refine Ji (λk=>?_) λk c hc=>?_
 . unfold j9;cases kB ng s e k with
   | true=>exact Sh
   | false=>exact List.Pairwise.nil
 . unfold j9 at hc;cases hk:kB ng s e k with
   | true=>rw[hk,cond_true]at hc;exact(xO.1 hc).1
   | false=>rw[hk]at hc;cases hc
def BB(x:Int)(C:List Ci):Nat:=(C.filter λc=>tw c.1 c.2.1 c.2.2 x).length
theorem Ri{a:Int}(hE:bJ ng lg s e 0 mo da a b c=0):BB x (bZ ng s e mo da)<=1:=by
 obtain⟨ho,hX,_⟩:=fm (iG hE) fo;unfold BB;have hd:pX ((bZ ng s e mo da).filter λc=>tw c.1 c.2.1 c.2.2 x):=List.Pairwise.sublist List.filter_sublist RZ;have hm:∀k∈(bZ ng s e mo da).filter λc=>tw c.1 c.2.1 c.2.2 x,rz ng s e mo da k.1 k.2.1 k.2.2/\tw k.1 k.2.1 k.2.2 x=true:=λk hk=>by
  rw[List.mem_filter]at hk;exact⟨(kq hX).1 hk.1,hk.2⟩
 generalize (bZ ng s e mo da).filter (λc=>tw c.1 c.2.1 c.2.2 x)=C at *
 match C,hd,hm with
 | [],_,_=>exact Nat.zero_le _
 | [_],_,_=>exact Nat.le_refl _
 | k::k'::C,hd,hm=>
   exfalso;unfold pX at hd;rw[List.pairwise_cons]at hd;have h1:=hm k (by simp);have h2:=hm k' (by simp);obtain⟨e1,e2,e3⟩:=MM hE h1.1 h2.1 h1.2 h2.2;exact hd.1 k' (by simp) (by obtain⟨a,b,c⟩:=k;obtain⟨a',b',c'⟩:=k';simp_all)
theorem NT{a:Int}(hE:bJ ng lg s e 0 mo da a b c=0):0<BB x (bZ ng s e mo da)↔s6 ng s e mo da x=true:=by
 obtain⟨ho,hX,_⟩:=fm (iG hE) fo;rw[Gp hE];unfold BB;rw[List.length_pos_iff_exists_mem];constructor
 . rintro⟨k,hk⟩;rw[List.mem_filter]at hk;exact⟨_,_,_,(kq hX).1 hk.1,hk.2⟩
 . rintro⟨y,m,d,h1,h2⟩;exact⟨(y,m,d),List.mem_filter.2 ⟨(kq hX).2 h1,h2⟩⟩
def sJ(y:Int)(w:List AV):Nat->List AV
 | 0=>[]
 | i+1=>sJ y w i++[.int .i64 y,.int .i64 (cQ w i),.int .i64 0]
def Ko:d9:=λvs o=>match vs,o with
 | [.int .i64 y,.ptr 14 0,.nilslice,.slice 15 0 nM (.rest 0),.int .i64 i],⟨2,[.cells w true (some 1),.cells [.bool ng,.bool lg,.str s,.int .i64 e,.int .i64 g,.str mo,.str [],.int .u8 a,.int .u8 b,.int .u8 c] true none],[]⟩=>
   some (aH [aa i 0,Nat.ble nM 1000,gh y,e_ w,List.all w (cq .i64),Nat.beq w.length nM] (.ret (.exit 0,[.int .i64 y,.ptr 14 0,e7 nM,.slice 15 0 nM (.rest 0),.int .i64 (Int.ofNat nM)],gV nM (sJ y w nM) (.cells w true (some 1)) (bx ng lg s e g mo [] a b c))))
 | _,_=>none
def VM:cz:=iz io 0 (eb 55 [1,2,5,6,7] Ko)
theorem A_{y:Int}{w:List AV}:∀{i:Nat},(sJ y w i).length=i*3
 | 0=>rfl
 | i+1=>by rw[sJ,zAg,A_];simp only[zAd,List.length_nil];omega
theorem Aw{y:Int}{w:List AV}:∀{i:Nat},bz (sJ y w i)=[]
 | 0=>rfl
 | i+1=>by rw[sJ,gu,Aw];rfl
theorem SP:cx Tryz.prog (cH cfg Z1) (Cw cfg []) (lb 93 0) 55 [1,2,5,6,7] Ko:=by
 intro vs o t Q hv hq J;unfold Ko at hv;split at hv
 . rename_i y nM i w ng lg s e g mo a b c;cases hv;replace hq:=cL hq;obtain⟨⟨k1,k2,k3,k6,k7,k8,-⟩,hq⟩:=hq;rw[al]at k1;rw[aq]at k2;rw[aK]at k8;subst k1;have hq:Q (.exit 0,[.int .i64 y,.ptr 14 0,e7 nM,.slice 15 0 nM (.rest 0),.int .i64 (Int.ofNat nM)],gV nM (sJ y w nM) (.cells w true (some 1)) (bx ng lg s e g mo [] a b c)):=hq;refine im q6 rfl rfl ag (ι:={i:Nat // i<=nM}) (λx=>[.int .i64 y,.ptr 14 0,e7 x.1,.slice 15 0 nM (.rest 0),.int .i64 (Int.ofNat x.1)]) (λx=>gV x.1 (sJ y w x.1) (.cells w true (some 1)) (bx ng lg s e g mo [] a b c)) (λx=>nM-x.1) 2 (λx=>DW) (λx J=>?_) (Nat.le_refl _) (λJ=>Wk.refl ⟨⟨0,Nat.zero_le _⟩,J,rfl⟩) J;obtain⟨i,hi⟩:=x;dsimp only;have wl:cR (14+2) (.cells w true (some 1)):=aO (fY.1 k6);have bl:cR (14+2) (bx ng lg s e g mo [] a b c):=aO (by simp[bz,aD]);have hkA:i<nM->cq .i64 (w.getD i (.tuple []))=true:=λh=>by
    rw[zAe,List.getElem?_eq_getElem (by omega)];exact List.all_eq_true.1 k7 _ (List.getElem_mem _)
   have fin:i=nM->∃vs2 o2,VW cfg (Cw cfg []) 2 55 [1,2,5,6,7] [.int .i64 y,.ptr 14 0,e7 i,.slice 15 0 nM (.rest 0),.int .i64 (Int.ofNat i)] (gV i (sJ y w i) (.cells w true (some 1)) (bx ng lg s e g mo [] a b c)) vs2 o2/\Q (.exit 0,vs2,o2):=λh=>by
    subst h;exact⟨_,_,VW.refl,hq⟩
   have go:i<nM->∀vs o,VW cfg (Cw cfg []) 2 55 [1,2,5,6,7] vs o [.int .i64 y,.ptr 14 0,e7 (i+1),.slice 15 0 nM (.rest 0),.int .i64 (Int.ofNat (i+1))] (gV (i+1) (sJ y w i++[.int .i64 y,.int .i64 (cQ w i),.int .i64 0]) (.cells w true (some 1)) (bx ng lg s e g mo [] a b c))->∃x:{i:Nat // i<=nM},nM-x.1<nM-i/\VW cfg (Cw cfg []) 2 55 [1,2,5,6,7] vs o [.int .i64 y,.ptr 14 0,e7 x.1,.slice 15 0 nM (.rest 0),.int .i64 (Int.ofNat x.1)] (gV x.1 (sJ y w x.1) (.cells w true (some 1)) (bx ng lg s e g mo [] a b c)):=λh vs o hv=>⟨⟨i+1,h⟩,by dsimp only;omega,hv⟩;have hlen:=@A_ y w i;have hids:=@Aw y w i;have hlow:∀z∈[aE.cells w true (some 1),bx ng lg s e g mo [] a b c],cR (14+2) z:=λz hz=>by
    simp only[List.mem_cons,List.not_mem_nil,or_false]at hz;rcases hz with rfl|rfl
    . exact wl
    . exact bl
   clear hq;have hA:cQ w i=bC (w.getD i (.tuple [])):=rfl;by_cases hN:i=0
   . subst hN;refine jT (bA 11005220004) (R:=λQ=>(λ(H I:aE)(A C E F G:AV)(B:Bool)=>(λ(N:List AV)=>(B->aW 0 nM/\cq .i64 C/\Q (.normal,[A,E,.slice 17 0 1 (eZ.rest 0),F,.int .i64 1],⟨4,[.cells N true (some 3),.cells N true none,H,I],[]⟩))/\(B=false->Q (.exit 0,[A,E,.nilslice,F,G],⟨2,[H,I],[]⟩))) [A,.int .i64 (bC C),G]) (.cells w true (some 1)) (.cells [.bool ng,.bool lg,.str s,.int .i64 e,.int .i64 g,.str mo,.str [],.int .u8 a,.int .u8 b,.int .u8 c] true none) (.int .i64 y) (List.getD w 0 (.tuple [])) (.ptr 14 0) (.slice 15 0 nM (eZ.rest 0)) (.int .i64 0) (not (ab (Int.ofNat nM) 0))) (λ_=>by kernel_rfl) λQ' hQ=>?_;try dsimp only
     have fin2:0=nM->Q' (.exit 0,[.int .i64 y,.ptr 14 0,.nilslice,.slice 15 0 nM (.rest 0),.int .i64 0],⟨2,[.cells w true (some 1),bx ng lg s e g mo [] a b c],[]⟩):=λh=>hQ _ (fin h);have go2:0<nM->Q' (.normal,[.int .i64 y,.ptr 14 0,.slice 17 0 1 (.rest 0),.slice 15 0 nM (.rest 0),.int .i64 1],⟨4,[.cells [.int .i64 y,.int .i64 (cQ w 0),.int .i64 0] true (some 3),.cells [.int .i64 y,.int .i64 (cQ w 0),.int .i64 0] true none,.cells w true (some 1),bx ng lg s e g mo [] a b c],[]⟩):=λh=>hQ (.normal,_,_) (go h _ _ (fu (x:=.cells [.int .i64 y,.int .i64 (cQ w 0),.int .i64 0] true (some 3)) (mid:=[.cells [.int .i64 y,.int .i64 (cQ w 0),.int .i64 0] true none]) (B:=[.cells w true (some 1),bx ng lg s e g mo [] a b c]) (k:=1) (kb:=2) (n:=4) rfl rfl rfl hlow (aO rfl) rfl));clear hQ fin go;try dsimp only
     rw[hA]at go2;have e0:ab (Int.ofNat nM) 0=decide (nM=0):=by rw[ea];simp
     rw[e0];by_cases h0:nM=0
     . subst h0;simp only[decide_true,Bool.not_true,reduceCtorEq,false_implies,true_implies,true_and];exact fin2 rfl
     . rw[decide_eq_false h0,hkA (by omega),aS.2 (by omega)];simp only[Bool.not_false,reduceCtorEq,zAh];exact go2 (by omega)
   . have hpos:0<i:=by omega
     rw[fQ hpos,fT hpos]at fin;rw[fQ hpos,fT hpos];refine jT (bA 1122520220004) (R:=λQ=>(λ(H I:aE)(B E G:AV)(C:eZ)(A:Int)(F:Nat)=>(λ(P:AV)(N:Bool)(O:Int)(T:List AV)=>(N->aW i nM/\cq .i64 E/\and (and (Nat.ble F 1000000) true) true/\and true (Nat.beq (sJ y w i).length (HMul.hMul i 3))/\ae .i64 O/\Q (.normal,[B,G,.slice 18 0 F C,P,.int .i64 O],⟨5,[.cells ((sJ y w i)++T) true (some 3),.cells T true none,aE.dead,H,I],[]⟩))/\(N=false->Q (.exit 0,[B,G,.slice 16 0 i C,P,.int .i64 A],⟨3,[.cells (sJ y w i) true (some 3),H,I],[]⟩))) (.slice 15 0 nM C) (not (ab (Int.ofNat nM) A)) (Int.add A 1) [B,.int .i64 (bC E),.int .i64 0]) (.cells w true (some 1)) (.cells [.bool ng,.bool lg,.str s,.int .i64 e,.int .i64 g,.str mo,.str [],.int .u8 a,.int .u8 b,.int .u8 c] true none) (.int .i64 y) (List.getD w (HAdd.hAdd 0 (HMul.hMul i 1)) (.tuple [])) (.ptr 14 0) (eZ.rest 0) (Int.ofNat i) (HAdd.hAdd i 1)) (λ_=>by kernel_rfl) λQ' hQ=>?_;try dsimp only
     have fin2:i=nM->Q' (.exit 0,[.int .i64 y,.ptr 14 0,.slice 16 0 i (.rest 0),.slice 15 0 nM (.rest 0),.int .i64 (Int.ofNat i)],⟨3,[.cells (sJ y w i) true (some 3),.cells w true (some 1),bx ng lg s e g mo [] a b c],[]⟩):=λh=>hQ _ (fin h);have go2:i<nM->Q' (.normal,[.int .i64 y,.ptr 14 0,.slice 18 0 (i+1) (.rest 0),.slice 15 0 nM (.rest 0),.int .i64 (Int.ofNat (i+1))],⟨5,[.cells (sJ y w i++[.int .i64 y,.int .i64 (cQ w i),.int .i64 0]) true (some 3),.cells [.int .i64 y,.int .i64 (cQ w i),.int .i64 0] true none,.dead,.cells w true (some 1),bx ng lg s e g mo [] a b c],[]⟩):=λh=>hQ (.normal,_,_) (go h _ _ (by
      rw[fQ (Nat.succ_pos i),fT (Nat.succ_pos i)];exact fu (tn:=55) (rel:=[1,2,5,6,7]) (vs:=[.int .i64 y,.ptr 14 0,.slice 18 0 (i+1) (.rest 0),.slice 15 0 nM (.rest 0),.int .i64 (Int.ofNat (i+1))]) (vs':=[.int .i64 y,.ptr 14 0,.slice 16 0 (i+1) (.rest 0),.slice 15 0 nM (.rest 0),.int .i64 (Int.ofNat (i+1))]) (x:=.cells (sJ y w i++[.int .i64 y,.int .i64 (cQ w i),.int .i64 0]) true (some 3)) (mid:=[.cells [.int .i64 y,.int .i64 (cQ w i),.int .i64 0] true none,.dead]) (B:=[.cells w true (some 1),bx ng lg s e g mo [] a b c]) (k:=2) (kb:=2) (n:=5) rfl rfl rfl hlow (aO (by rw[gu,hids];rfl)) rfl))
     clear hQ fin go;try dsimp only
     rw[hA]at go2;rw[show 0+i*1=i by omega];have e0:ab (Int.ofNat nM) (Int.ofNat i)=decide (i=nM):=by rw[ea];congr 1;rw[eq_iff_iff];constructor<;>intro h<;>simp only[Int.ofNat_eq_natCast]at *<;>omega
     rw[e0];by_cases h0:i=nM
     . rw[decide_eq_true h0];simp only[Bool.not_true,reduceCtorEq,false_implies,true_implies,true_and];exact fin2 h0
     . have b1:Nat.ble (i+1) 1000000=true:=aq.mpr (by omega);have b2:Nat.beq (sJ y w i).length (i*3)=true:=aK.mpr hlen;have b3:ae .i64 (Int.add (Int.ofNat i) 1)=true:=by rw[aB];simp only[dP,dR];show _<=(i:Int)+1/\(i:Int)+1<=_;omega
       rw[decide_eq_false h0,hkA (by omega),aS.2 (show i<nM by omega),b1,b2,b3];simp only[Bool.not_false,Bool.and_true,reduceCtorEq,zAh];exact go2 (by omega)
 . cases hv
def bF:List Ci->List AV
 | []=>[]
 | c::l=>.int .i64 c.1::.int .i64 c.2.1::.int .i64 c.2.2::bF l
theorem o5:∀{l k:List Ci},bF (l++k)=bF l++bF k
 | [],k=>rfl
 | c::l,k=>by
   show .int .i64 c.1::.int .i64 c.2.1::.int .i64 c.2.2::bF (l++k)=_;rw[o5];rfl
theorem lK:∀{l:List Ci},(bF l).length=l.length*3
 | []=>rfl
 | c::l=>by
   show(bF l).length+1+1+1=_;rw[lK,zAd];omega
theorem gK:∀{l:List Ci},bz (bF l)=[]
 | []=>rfl
 | c::l=>by
   show bz (.int .i64 c.1::.int .i64 c.2.1::.int .i64 c.2.2::bF l)=[];simp only[bz,aD,List.nil_append];exact gK
def sQ(mo da:List UInt8):Bool:=bif af mo []then af da []else bif aa (aL mo) 0 then(match mo with|[m0,m1]=>cg m0&&(cg m1&&!(g9 (aw m0 m1 12)))|_=>false)&&(af da [] || (match da with|[d0,d1]=>cg d0&&cg d1|_=>false))else af da []
theorem yO(h:sQ mo da):(mo=[]/\da=[])\/(af mo []=false/\aa (aL mo) 0=false/\da=[])\/(∃m0 m1,mo=[m0,m1]/\aa (aL mo) 0/\cg m0/\cg m1/\g9 (aw m0 m1 12)=false/\(da=[]\/∃d0 d1,da=[d0,d1]/\cg d0/\cg d1=true)):=by
 unfold sQ at h;cases hm:af mo []with
 | true=>rw[hm,cond_true,aP]at h;exact .inl ⟨aP.1 hm,h⟩
 | false=>
   rw[hm,cond_false]at h;cases hs:aa (aL mo) 0 with
   | false=>rw[hs,cond_false,aP]at h;exact .inr (.inl ⟨rfl,rfl,h⟩)
   | true=>
     rw[hs,cond_true,zAa]at h;obtain⟨h1,h2⟩:=h;right;right
     split at h1
     . rename_i m0 m1;simp only[zAa,Bool.not_eq_true']at h1;refine⟨m0,m1,rfl,rfl,h1.1,h1.2.1,h1.2.2,?_⟩;rw[Bool.or_eq_true,aP]at h2;rcases h2 with h2|h2
       . exact .inl h2
       . right
         split at h2
         . rename_i d0 d1;rw[zAa]at h2;exact⟨d0,d1,rfl,h2.1,h2.2⟩
         . cases h2
     . cases h1
theorem Fp{a:Int}(hE:bJ ng lg s e 0 mo da a b c=0):sQ mo da=true:=by
 have hq:=fm (iG hE) fo;have nE:∀{l:List UInt8},l≠[]->af l []=false:=λh=>by rw[<-Bool.not_eq_true,aP];exact h
 unfold sQ;cases hd:af da []with
 | false=>
   obtain⟨m0,m1,d0,d1,rfl,rfl,h0,h1,h2,h3,k0,k1,hse,_⟩:=iT (iG hE) hd;rw[show af [m0,m1] []=false from rfl,al.mpr hse];simp only[zAj,h0,h1,h2,h3,tB k0];rfl
 | true=>
   cases hm:af mo []with
   | true=>rfl
   | false=>
     rw[cond_false];cases hs:aa (aL mo) 0 with
     | false=>rfl
     | true=>
       obtain⟨m0,m1,rfl,h0,h1,k0⟩:=oD (by decide) (hq.2.2.2.1 ⟨hm,al.mp hs⟩);simp only[cond_true,h0,h1,tB k0];rfl
theorem Da{M:List Int}{i:Nat}(h:i<M.length):cQ (aQ M) i=M.getD i 0:=by
 have e:=@qT M i h;rw[show 0+i*1=i by omega]at e;unfold cQ;rw[e];rfl
theorem oW{M:List Int}{i:Nat}(h:i<M.length):M.take (i+1)=M.take i++[M.getD i 0]:=by
 rw[List.take_add_one,List.getElem?_eq_getElem h,zAe,List.getElem?_eq_getElem h];rfl
theorem Lg{y:Int}{M:List Int}:∀{i:Nat},i<=M.length->sJ y (aQ M) i=bF ((M.take i).flatMap (pG [] y))
 | 0,_=>by rw[List.take_zero];rfl
 | i+1,h=>by
   rw[sJ,Lg (by omega),oW (by omega),List.flatMap_append,o5,Da (by omega)];rfl
theorem Gs{y m:Int}:∀{L:List Int},dU y m L=bF (L.map λd=>(y,m,d))
 | []=>rfl
 | d::L=>by
   show _::_::_::dU y m L=_;rw[Gs];rfl
theorem OS{d0 d1:UInt8}{y:Int}{M:List Int}:∀{i:Nat},i<=M.length->yL d0 d1 y (aQ M) i=bF ((M.take i).flatMap (pG [d0,d1] y))/\yN d0 d1 y (aQ M) i=((M.take i).flatMap (pG [d0,d1] y)).length
 | 0,_=>by rw[List.take_zero];exact⟨rfl,rfl⟩
 | i+1,h=>by
   obtain⟨h1,h2⟩:=OS (d0:=d0) (d1:=d1) (y:=y) (M:=M) (i:=i) (by omega);rw[yL,yN,h1,h2,oW (by omega),List.flatMap_append,o5,Da (by omega),zAg];have e:([M.getD i 0]:List Int).flatMap (pG [d0,d1] y)=(j6 d0 d1 y (M.getD i 0)).map λd=>(y,M.getD i 0,d):=by
    rw[List.flatMap_cons,List.flatMap_nil,List.append_nil];rfl
   rw[e,List.length_map,Gs];exact⟨rfl,rfl⟩
def H6(C:List Ci):Tr (AV×List aE):=.test (Nat.beq C.length 0) λb=>bif b then .ret (.nilslice,[])else .ret (.slice 14 0 C.length (.rest 0),[.cells (bF C) true (some 3)])
def I2:lB:=λargs ws=>match args,ws with
 | [.agg [.bool ng,.bool lg,.str s,.int .i64 e,.int .i64 g,.str mo,.str da,.int .u8 a,.int .u8 b,.int .u8 c],.int .i64 y],[]=>some (aH [sQ mo da,gh y] (H6 (kZ mo da y)))
 | _,_=>none
theorem Wp{m0 m1:UInt8}{a:Int}{v:AV}{news:List aE}(hy : -10000000000000000<=y/\y<=10000000000000000)(h0:cg m0)(h1:cg m1)(hse:aa (aL [m0,m1]) 0)(hn:g9 (aw m0 m1 12)=false)
 (hv:dL [] v news (e7 (dy (aw m0 m1 12)),gV (dy (aw m0 m1 12)) (sJ y (aQ (aw m0 m1 12)) (dy (aw m0 m1 12))) (.cells (aQ (aw m0 m1 12)) true (some 1)) (bx ng lg s e g [m0,m1] [] a b c))) :
 bt Tryz.prog cfg 93 [.agg [.bool ng,.bool lg,.str s,.int .i64 e,.int .i64 g,.str [m0,m1],.str [],.int .u8 a,.int .u8 b,.int .u8 c],.int .i64 y] [] v news:=by
 refine Bp q6 (L:=VM) FU (by simp) (dv BS λi hi e he st Q hw=>?_) (jT (bA 1227027006) (R:=λQ=>(λ(C:List Int)=>(λ(B:List AV)(A:Nat)=>cg m0/\cg m1/\aa (aL [m0,m1]) 0/\not (g9 C)/\Nat.ble A 1000/\and (ab (Neg.neg 10000000000000000) y) (ab y 10000000000000000)/\e_ B/\List.all B (cq .i64)/\Nat.beq B.length A/\(∀J1:Nat->Value,Q (Prod.fst (Prod.fst (e7 A,Prod.snd ([.int .i64 y,.ptr 14 0,e7 A,.slice 15 0 A (eZ.rest 0),.int .i64 (Int.ofNat A)],gV A (sJ y B A) (.cells B true (some 1)) (.cells [.bool ng,.bool lg,.str s,.int .i64 e,.int .i64 g,.str [m0,m1],.str [],.int .u8 a,.int .u8 b,.int .u8 c] true none))),Prod.snd (e7 A,Prod.snd ([.int .i64 y,.ptr 14 0,e7 A,.slice 15 0 A (eZ.rest 0),.int .i64 (Int.ofNat A)],gV A (sJ y B A) (.cells B true (some 1)) (.cells [.bool ng,.bool lg,.str s,.int .i64 e,.int .i64 g,.str [m0,m1],.str [],.int .u8 a,.int .u8 b,.int .u8 c] true none)))),Prod.snd (Prod.fst (e7 A,Prod.snd ([.int .i64 y,.ptr 14 0,e7 A,.slice 15 0 A (eZ.rest 0),.int .i64 (Int.ofNat A)],gV A (sJ y B A) (.cells B true (some 1)) (.cells [.bool ng,.bool lg,.str s,.int .i64 e,.int .i64 g,.str [m0,m1],.str [],.int .u8 a,.int .u8 b,.int .u8 c] true none))),Prod.snd (e7 A,Prod.snd ([.int .i64 y,.ptr 14 0,e7 A,.slice 15 0 A (eZ.rest 0),.int .i64 (Int.ofNat A)],gV A (sJ y B A) (.cells B true (some 1)) (.cells [.bool ng,.bool lg,.str s,.int .i64 e,.int .i64 g,.str [m0,m1],.str [],.int .u8 a,.int .u8 b,.int .u8 c] true none))))))) (aQ C) (dy C)) (aw m0 m1 12)) (λ_=>by kernel_rfl) λQ' hQ=>?_)
 . have hi:i=0\/i=1:=by simp at hi;omega
   rcases hi with rfl|rfl
   . cases he;exact b7 (cF.good q6) (by decide) rfl SP hw
   . cases he
 . have hQ:=hQ _ hv;have l1:dy (aw m0 m1 12)=(aw m0 m1 12).length:=rfl;have z1:=eU m0 m1 12;have c1:=@rB (aw m0 m1 12);have c2:=@gR (aw m0 m1 12);have c3:Nat.beq (aQ (aw m0 m1 12)).length (dy (aw m0 m1 12))=true:=aK.mpr dF;have z2:Nat.ble (dy (aw m0 m1 12)) 1000=true:=aq.mpr (by omega);have yb:(ab (-10000000000000000) y&&ab y 10000000000000000)=true:=fi.2 hy;clear hv l1 z1;try dsimp only
   generalize sJ y (aQ (aw m0 m1 12)) (dy (aw m0 m1 12))=C at *;generalize e7 (dy (aw m0 m1 12))=oN at *;have yb1:=(Bool.and_eq_true _ _).mp yb;simp only[h0,h1,hse,hn,c1,c2,c3,z2,yb1.1,yb1.2,show Neg.neg (10000000000000000:Int) = -10000000000000000 from rfl,Bool.and_true,Bool.true_and,Bool.not_false,reduceCtorEq,zAh];exact λ_=>hQ
theorem Vp{a:Int}:bt Tryz.prog cfg 93 [.agg [.bool ng,.bool lg,.str s,.int .i64 e,.int .i64 g,.str [],.str [],.int .u8 a,.int .u8 b,.int .u8 c],.int .i64 y] [] (.slice 14 0 1 (.rest 0)) [.cells [.int .i64 y,.int .i64 0,.int .i64 0] true (some 3)]:=by
 refine BO gi ag (bA 1000566) (R:=λQ=>(λ(A B:AV)=>(λ(E:aE)(C:List AV)=>Q (.slice 18 0 1 (eZ.rest 0),⟨5,[.cells C true (some 3),.cells C true none,.cells [A] true none,E,E],[]⟩)) (.cells [.bool ng,.bool lg,.str s,.int .i64 e,.int .i64 g,B,B,.int .u8 a,.int .u8 b,.int .u8 c] true none) [.int .i64 y,A,A]) (.int .i64 0) (.str [])) (λ_=>by kernel_rfl) λQ' hQ=>?_;exact hQ _ (dL.last (k:=4) rfl rfl (aO rfl) rfl)
theorem Vg{a:Int}(hm:af mo []=false)(hs:aa (aL mo) 0=false):bt Tryz.prog cfg 93 [.agg [.bool ng,.bool lg,.str s,.int .i64 e,.int .i64 g,.str mo,.str [],.int .u8 a,.int .u8 b,.int .u8 c],.int .i64 y] [] (.slice 14 0 1 (.rest 0)) [.cells [.int .i64 y,.int .i64 (aL mo),.int .i64 0] true (some 3)]:=by
 have hn:=yc mo;rw[ay]at hs;refine BO gi ag (bA 10056620063006) (R:=λQ=>(λ(B:aE)(A:AV)=>(λ(C:List AV)=>af mo []=false/\not (ab (aL mo) 0)/\Q (.slice 18 0 1 (eZ.rest 0),⟨5,[.cells C true (some 3),.cells C true none,.cells [A] true none,B,B],[]⟩)) [.int .i64 y,A,.int .i64 0]) (.cells [.bool ng,.bool lg,.str s,.int .i64 e,.int .i64 g,.str mo,.str [],.int .u8 a,.int .u8 b,.int .u8 c] true none) (.int .i64 (aL mo))) (λ_=>by kernel_rfl) λQ' hQ=>?_;try dsimp only
 have h1:ab (aL mo) 0=false:=bY.mpr (by omega);refine⟨hm,by rw[h1];rfl,?_⟩;exact hQ _ (dL.last (k:=4) rfl rfl (aO rfl) rfl)
theorem N8{S:aR}(hS:ak Tryz.prog cfg S):ak Tryz.prog cfg (fw S 93 (fy 14 [] I2)):=by
 refine bm hS (ga dG.lv AD λargs ws t r he hr=>?_);unfold I2 at he;split at he
 . rename_i ng lg s e g mo da a b c y;cases he;replace hr:=aF hr;obtain⟨⟨k1,k2,-⟩,hr⟩:=hr;rw[fi]at k2;have lowC:∀{C:List Ci} {x:aE},x∈[aE.cells (bF C) true (some 3)]->cR 14 x:=λh=>by
    simp only[zAf]at h;subst h;exact aO gK
   have key:∀{C:List Ci} {r:AV×List aE},(H6 C).run=some r->(0<C.length->bt Tryz.prog cfg 93 [.agg [.bool ng,.bool lg,.str s,.int .i64 e,.int .i64 g,.str mo,.str da,.int .u8 a,.int .u8 b,.int .u8 c],.int .i64 y] [] (.slice 14 0 C.length (.rest 0)) [.cells (bF C) true (some 3)])->(C.length=0->bt Tryz.prog cfg 93 [.agg [.bool ng,.bool lg,.str s,.int .i64 e,.int .i64 g,.str mo,.str da,.int .u8 a,.int .u8 b,.int .u8 c],.int .i64 y] [] .nilslice [])->bt Tryz.prog cfg 93 [.agg [.bool ng,.bool lg,.str s,.int .i64 e,.int .i64 g,.str mo,.str da,.int .u8 a,.int .u8 b,.int .u8 c],.int .i64 y] [] r.1 r.2/\∀x∈r.2,cR 14 x:=λ{C r} hr h1 h2=>by
    unfold H6 at hr;simp only[Tr.run]at hr;cases hb:Nat.beq C.length 0 with
    | true=>rw[hb]at hr;cases hr;exact⟨h2 (aK.mp hb),λx hx=>by cases hx⟩
    | false=>rw[hb]at hr;cases hr;rw[cr]at hb;exact⟨h1 (by omega),λx hx=>lowC hx⟩
   rcases yO k1 with⟨rfl,rfl⟩|⟨h1,h2,rfl⟩|⟨m0,m1,rfl,h1,h2,h3,h4,h5⟩
   . refine key hr (λ_=>?_) (λh=>absurd h (by show ¬(1=0);omega));exact Vp
   . have e1:kZ mo [] y=[(y,aL mo,0)]:=by unfold kZ cu;rw[h1,h2];rfl
     rw[e1]at hr;refine key hr (λ_=>?_) (λh=>absurd h (by show ¬(1=0);omega));exact Vg h1 h2
   . have eM:cu [m0,m1]=aw m0 m1 12:=by unfold cu;rw[h1];rfl
     rcases h5 with rfl|⟨d0,d1,rfl,h6,h7⟩
     . have e1:bF (kZ [m0,m1] [] y)=sJ y (aQ (aw m0 m1 12)) (dy (aw m0 m1 12)):=by
        unfold kZ;rw[eM];have:=@Lg y (aw m0 m1 12) (dy (aw m0 m1 12)) (Nat.le_refl _);rw[this];unfold dy;rw[List.take_length]
       have e2:(kZ [m0,m1] [] y).length=dy (aw m0 m1 12):=by
        have:=congrArg List.length e1;rw[lK,A_]at this;omega
       have hp:0<dy (aw m0 m1 12):=by
        unfold g9 at h4;unfold dy;cases hf:aw m0 m1 12 with
        | nil=>rw[hf]at h4;cases h4
        | cons x xs=>simp
       refine key hr (λ_=>?_) (λh=>absurd h (by omega));rw[e1,e2];refine Wp k2 h2 h3 h1 h4 ?_;rw[fQ hp,fT hp];exact dL.last (k:=2) rfl rfl (aO Aw) rfl
     . have ey:=@OS d0 d1 y (aw m0 m1 12) (dy (aw m0 m1 12)) (Nat.le_refl _);have et:(aw m0 m1 12).take (dy (aw m0 m1 12))=aw m0 m1 12:=by unfold dy;rw[List.take_length]
       rw[et]at ey;have ec:kZ [m0,m1] [d0,d1] y=(aw m0 m1 12).flatMap (pG [d0,d1] y):=by unfold kZ;rw[eM]
       rw[ec]at hr;have f:=λv news=>@N_ ng lg s e g m0 m1 d0 d1 a b c y v news k2 h2 h3 h6 h7 h1 h4;rw[ey.1,ey.2]at f;refine key hr (λh=>f _ _ ?_) (λh=>f _ _ ?_)
       . rw[fQ h,fT h];exact dL.last (k:=2) rfl rfl (aO gK) rfl
       . rw[h];exact dL.plain rfl (by simp[e7,aD]) rfl rfl
 . cases he
end Go.Ev
