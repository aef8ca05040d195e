import Derived.Test.YtoghlpcacfnjbaaGreatDoorP37
set_option linter.all false
set_option maxRecDepth 100000
set_option maxHeartbeats 4000000
namespace Go.Ev
open Go Go.Proofs
variable{x y m d e b c g:Int}{ng lg:Bool}{s mo da:List UInt8}
theorem TG(i:Int):eN i<eN (i+1):=by
 have:=(ox i).1;have:=jk (dc i 12) (d8 i 12+1);omega
theorem kB{i j:Int}(h:i<=j):eN i<=eN j:=by
 obtain⟨n,rfl⟩:∃n:Nat,j=i+n:=⟨(j-i).toNat,by omega⟩;clear h;induction n with
 | zero=>rw[show i+((0:Nat):Int)=i by omega];exact Int.le_refl _
 | succ n ih=>
   have:=TG (i+(n:Int));rw[show i+((n+1:Nat):Int)=i+(n:Int)+1 by omega];omega
theorem yh{y m:Int}(h:1<=m/\m<=12):eN (12*y+(m-1))=aG y m:=by
 unfold eN;rw[show dc (12*y+(m-1)) 12=y by unfold dc;omega,show d8 (12*y+(m-1)) 12=m-1 by unfold d8;omega,show m-1+1=m by omega]
theorem Lg(y:Int):eN (12*y)=bf y:=by
 have:=@yh y 1 (by omega);rw[show 12*y+(1-1)=12*y by omega]at this;rw[this];exact Go.Proofs.YtoghlpcacfnjbaaGreatDoor.mst_1 y
def jM(x:Int):Int:=12*aN x+(bZ x-1)
def Ot(x:Int):Int:=x-aG (aN x) (bZ x)+1
theorem tx(x:Int):1<=bZ x/\bZ x<=12:=⟨(Go.Proofs.YtoghlpcacfnjbaaGreatDoor.mOf_spec x).1,(Go.Proofs.YtoghlpcacfnjbaaGreatDoor.mOf_spec x).2.1⟩
theorem S0(x:Int):eN (jM x)<=x/\x<eN (jM x+1):=by
 obtain⟨h1,h2,h3,h4⟩:=Go.Proofs.YtoghlpcacfnjbaaGreatDoor.mOf_spec x;have e:=@yh (aN x) (bZ x) ⟨h1,h2⟩;refine⟨by unfold jM;rw[e];exact h3,?_⟩;have s:=(ox (jM x)).1;have s2:=@p9 (aN x) (bZ x) h1 h2;unfold jM at s ⊢;rw[e,show dc (12*aN x+(bZ x-1)) 12=aN x by unfold dc;have:=tx x;omega,show d8 (12*aN x+(bZ x-1)) 12=bZ x-1 by unfold d8;have:=tx x;omega,show bZ x-1+1=bZ x by omega]at s;rw[s,<-s2];exact h4
theorem Oc{i j:Int}:(eN i<=x/\x<=eN j-1)↔i<=jM x/\jM x<j:=by
 obtain⟨h1,h2⟩:=S0 x;constructor
 . rintro⟨a,b⟩;constructor
   . by_cases h:i<=jM x
     . exact h
     . have:=@kB (jM x+1) i (by omega);omega
   . by_cases h:jM x<j
     . exact h
     . have:=@kB j (jM x) (by omega);omega
 . rintro⟨a,b⟩;have:=kB a;have:=@kB (jM x+1) j (by omega);omega
def wi(y m:Int):Int:=bif aa m 0 then 12*y else bif ab 13 m then 12*y+(fR m-1)else 12*y+(m-1)
def sU(y m:Int):Int:=bif aa m 0 then 12*y+12 else bif ab 13 m then 12*y+(fR m-1)+mR m else 12*y+m
theorem qp{y m:Int}(h:m=0\/(1<=m/\m<=12)\/(21<=m/\m<=41)):iO y m 0=eN (wi y m)/\iD y m 0=eN (sU y m)-1:=by
 unfold iO iD wi sU;rcases h with rfl|h|h
 . rw[show aa 0 0=true from rfl];simp only[cond_true];rw[Lg,show 12*y+12=12*(y+1)by omega,Lg];exact⟨rfl,rfl⟩
 . rw[aw.mpr (show m≠0 by omega),bF.mpr (show m<13 by omega),show aa 0 0=true from rfl];simp only[zAj];rw[yh h];refine⟨rfl,?_⟩;have s:=(ox (12*y+(m-1))).2;rw[show dc (12*y+(m-1)) 12=y by unfold dc;omega,show d8 (12*y+(m-1)) 12=m-1 by unfold d8;omega,show m-1+2=m+1 by omega,show 12*y+(m-1)+1=12*y+m by omega]at s;rw[s]
 . rw[aw.mpr (show m≠0 by omega),aq.mpr (show 13<=m by omega)];simp only[zAj];have b:=xH h;rw[yh b.1];refine⟨rfl,?_⟩;have s:=(ox (12*y+(fR m-1)+(mR m-1))).2;rw[show 12*y+(fR m-1)+(mR m-1)+1=12*y+(fR m-1)+mR m by omega]at s;rw[s];rfl
def vZ(y m d x:Int):Bool:=ab (iO y m d) x&&ab x (iD y m d)
theorem j7:vZ y m d x=true↔iO y m d<=x/\x<=iD y m d:=by unfold vZ;rw[zAa,aq,aq]
theorem Gw(h:m=0\/(1<=m/\m<=12)\/(21<=m/\m<=41)):vZ y m 0 x=true↔wi y m<=jM x/\jM x<sU y m:=by
 rw[j7,(qp h).1,(qp h).2,Oc]
theorem Lo:vZ y 0 0 x=true↔y=aN x:=by
 rw[Gw (.inl rfl)];have:=tx x;unfold wi sU jM;rw[show aa 0 0=true from rfl,cond_true,cond_true];omega
theorem Bn{y m x:Int}(h:1<=m/\m<=12):vZ y m 0 x=true↔y=aN x/\m=bZ x:=by
 rw[Gw (.inr (.inl h))];have:=tx x;unfold wi sU jM;rw[aw.mpr (show m≠0 by omega),bF.mpr (show m<13 by omega)];simp only[cond_false];omega
theorem R0(h:21<=m/\m<=41)(hx:vZ y m 0 x):y=aN x\/y=aN x-1:=by
 rw[Gw (.inr (.inr h))]at hx;have:=tx x;have:=xH h;unfold wi sU jM at hx;rw[aw.mpr (show m≠0 by omega),aq.mpr (show 13<=m by omega)]at hx;simp only[zAj]at hx;omega
theorem OZ{z:Int}(h:21<=m/\m<=41)(hx:vZ y m 0 x)(hz:vZ z m 0 x):y=z:=by
 rw[Gw (.inr (.inr h))]at hx hz;have:=xH h;unfold wi sU at hx hz;rw[aw.mpr (show m≠0 by omega),aq.mpr (show 13<=m by omega)]at hx hz;simp only[zAj]at hx hz;omega
theorem EA(h:1<=m/\m<=12)(hd:1<=d/\d<=bP y m):vZ y m d x=true↔y=aN x/\m=bZ x/\d=Ot x:=by
 rw[j7];have el:iO y m d=aG y m+d-1:=by unfold iO;rw[aw.mpr (show m≠0 by omega),bF.mpr (show m<13 by omega),aw.mpr (show d≠0 by omega)];rfl
 have eh:iD y m d=aG y m+d-1:=by unfold iD;rw[aw.mpr (show m≠0 by omega),bF.mpr (show m<13 by omega),aw.mpr (show d≠0 by omega)];rfl
 rw[el,eh];have hs:=@p9 y m h.1 h.2;have hl:bP y m=d6 y m:=rfl;rw[hl]at hd;have hu:=@Bn y m x h;have s0:=@qp y m (.inr (.inl h));rw[j7]at hu;have e1:iO y m 0=aG y m:=by unfold iO;rw[aw.mpr (show m≠0 by omega),bF.mpr (show m<13 by omega)];rfl
 have e2:iD y m 0=aG y (m+1)-1:=by unfold iD;rw[aw.mpr (show m≠0 by omega),bF.mpr (show m<13 by omega)];rfl
 rw[e1,e2]at hu;constructor
 . rintro⟨a,b⟩;obtain⟨k1,k2⟩:=hu.1 (by omega);refine⟨k1,k2,?_⟩;unfold Ot;rw[<-k1,<-k2];omega
 . rintro⟨k1,k2,k3⟩;unfold Ot at k3;rw[<-k1,<-k2]at k3;omega
theorem gH{a:Int}(hE:bW ng lg s e 0 mo da a b c=0)(h:f_ ng s e mo da y m d) :
 (mo=[]/\da=[]/\m=0/\d=0)\/(mo≠[]/\da=[]/\d=0/\aR mo≠0/\m=aR mo/\21<=m/\m<=41)\/(mo≠[]/\aR mo=0/\(1<=m/\m<=12)/\((da=[]/\d=0)\/(da≠[]/\1<=d/\d<=bP y m))):=by
 obtain⟨hy,hm,hd,hle⟩:=h;have hq:=dC (gq hE) dE;have hml:∀{s:List UInt8} {g:Nat} {k:Int},k∈Co s g->1<=k/\k<=g:=λ{s g k} hk=>by
  unfold Co at hk;split at hk
  . exact(iG.1 hk).1
  . cases hk
 have hda:da=[]/\d=0\/(da≠[]/\1<=d/\d<=bP y m/\mo≠[]/\aR mo=0):=by
  by_cases h0:da=[]
  . subst h0;left
    refine⟨rfl,?_⟩;have:dF []=[0]:=rfl;rw[this,zAe]at hd;exact hd
  . right
    have h1:ae da []=false:=by rw[<-Bool.not_eq_true,ba];exact h0
    have h2:=hq.2.2.2.2 h1;unfold dF at hd;rw[h1,cond_false]at hd;unfold kN at hle;rw[h1,cond_false]at hle;refine⟨h0,(hml hd).1,hle,?_,h2.2.1⟩;intro h3;rw[ba.2 h3]at h2;cases h2.1
 by_cases hm0:mo=[]
 . subst hm0;left
   have:cA []=[0]:=rfl;rw[this,zAe]at hm;rcases hda with⟨h1,h2⟩|⟨_,_,_,h3,_⟩
   . exact⟨rfl,h1,hm,h2⟩
   . exact absurd rfl h3
 . right
   have h1:ae mo []=false:=by rw[<-Bool.not_eq_true,ba];exact hm0
   unfold cA at hm;rw[h1,cond_false]at hm;cases hs:aa (aR mo) 0 with
   | false=>
     left
     rw[hs,cond_false,zAe]at hm;rw[aw]at hs;rcases hda with⟨h2,h3⟩|h2
     . have:=qH mo;exact⟨hm0,h2,h3,hs,hm,by omega,by omega⟩
     . exact absurd h2.2.2.2.2 hs
   | true=>
     right
     rw[hs,cond_true]at hm;rw[ao]at hs;refine⟨hm0,hs,by have:=hml hm;omega,?_⟩;rcases hda with h2|h2
     . exact .inl h2
     . exact .inr ⟨h2.1,h2.2.1,h2.2.2.1⟩
theorem Oa{a y' m' d':Int}(hE:bW ng lg s e 0 mo da a b c=0)(h:f_ ng s e mo da y m d)(h':f_ ng s e mo da y' m' d')(hx:vZ y m d x)(hx':vZ y' m' d' x):y=y'/\m=m'/\d=d':=by
 have k:=gH hE h;have k':=gH hE h';rcases k with⟨a1,a2,rfl,rfl⟩|⟨a1,a2,rfl,a3,a4,a5⟩|⟨a1,a2,a3,a4⟩
 . rcases k' with⟨b1,b2,rfl,rfl⟩|⟨b1,_⟩|⟨b1,_⟩
   . rw[Lo]at hx hx';omega
   . exact absurd a1 b1
   . exact absurd a1 b1
 . rcases k' with⟨b1,_⟩|⟨b1,b2,rfl,b3,b4,b5⟩|⟨b1,b2,_⟩
   . exact absurd b1 a1
   . have:m=m':=by omega
     subst this;exact⟨OZ a5 hx hx',rfl,rfl⟩
   . exact absurd b2 a3
 . rcases k' with⟨b1,_⟩|⟨b1,b2,rfl,b3,b4,b5⟩|⟨b1,b2,b3,b4⟩
   . exact absurd b1 a1
   . exact absurd a2 b3
   . rcases a4 with⟨a4,rfl⟩|⟨a4,a5⟩
     . rcases b4 with⟨b4,rfl⟩|⟨b4,_⟩
       . rw[Bn a3]at hx;rw[Bn b3]at hx';omega
       . exact absurd a4 b4
     . rcases b4 with⟨b4,_⟩|⟨b4,b5⟩
       . exact absurd b4 a4
       . rw[EA a3 a5]at hx;rw[EA b3 b5]at hx';omega
def y8(ng:Bool)(s:List UInt8)(e:Int)(mo da:List UInt8)(y m d x:Int):Bool:=jU ng s e mo da y m d&&vZ y (cM mo m) (cD da d) x
def Dg(ng:Bool)(s:List UInt8)(e:Int)(mo da:List UInt8)(x:Int):Bool:=bif aa (aR mo) 0 then y8 ng s e mo da (aN x) (bZ x) (Ot x) x else y8 ng s e mo da (aN x) (aR mo) 0 x || y8 ng s e mo da (aN x-1) (aR mo) 0 x
theorem wG{a:Int}(hE:bW ng lg s e 0 mo da a b c=0):Dg ng s e mo da x=true↔∃y m d,f_ ng s e mo da y m d/\vZ y m d x=true:=by
 obtain⟨ho,hX,_⟩:=dC (gq hE) dE;have cand:∀y m d,y8 ng s e mo da y m d x->∃y m d,f_ ng s e mo da y m d/\vZ y m d x=true:=λy m d h=>by
  unfold y8 at h;rw[zAa,Be ho hX]at h;obtain⟨⟨m1,d1,hF,h1,h2⟩,h3⟩:=h;refine⟨y,m1,d1,hF,?_⟩;have hs:=gH hE hF;have e1:cM mo m=m1:=by
   unfold cM;by_cases h0:mo=[]
   . rw[ba.2 h0,cond_true];rcases hs with h|h|h
     . omega
     . exact absurd h0 h.1
     . exact absurd h0 h.1
   . rw[show ae mo []=false by rw[<-Bool.not_eq_true,ba];exact h0,cond_false];rcases h1 with h1|h1
     . exact absurd h1 h0
     . exact h1.symm
  have e2:cD da d=d1:=by
   unfold cD;by_cases h0:da=[]
   . rw[ba.2 h0,cond_true];rcases hs with h|h|⟨_,_,_,h|h⟩
     . omega
     . omega
     . omega
     . exact absurd h0 h.1
   . rw[show ae da []=false by rw[<-Bool.not_eq_true,ba];exact h0,cond_false];rcases h2 with h2|h2
     . exact absurd h2 h0
     . exact h2.symm
  rw[e1,e2]at h3;exact h3
 constructor
 . intro h;unfold Dg at h;cases hs:aa (aR mo) 0 with
   | true=>rw[hs,cond_true]at h;exact cand _ _ _ h
   | false=>
     rw[hs,cond_false,Bool.or_eq_true]at h;rcases h with h|h
     . exact cand _ _ _ h
     . exact cand _ _ _ h
 . rintro⟨y,m,d,hF,hU⟩;have back:∀m0 d0,(mo=[]\/m=m0)->(da=[]\/d=d0)->vZ y (cM mo m0) (cD da d0) x->y8 ng s e mo da y m0 d0 x=true:=λm0 d0 h1 h2 h3=>by
    unfold y8;rw[zAa,Be ho hX];exact⟨⟨m,d,hF,h1,h2⟩,h3⟩
   have nE:∀{l:List UInt8},l≠[]->ae l []=false:=λh=>by rw[<-Bool.not_eq_true,ba];exact h
   unfold Dg;rcases gH hE hF with⟨rfl,rfl,rfl,rfl⟩|⟨a1,rfl,rfl,a3,a4,a5⟩|⟨a1,a2,a3,a4⟩
   . rw[show aa (aR []) 0=true from rfl,cond_true];have:=Lo.1 hU;subst this;exact back _ _ (.inl rfl) (.inl rfl) hU
   . rw[aw.mpr a3,cond_false,Bool.or_eq_true];have hy:=R0 a5 hU;have hb:=back (aR mo) 0 (.inr a4) (.inl rfl) (by unfold cM;rw[nE a1,cond_false,<-a4];exact hU);rcases hy with rfl|rfl
     . exact .inl hb
     . exact .inr hb
   . rw[ao.mpr a2,cond_true];rcases a4 with⟨rfl,rfl⟩|⟨a4,a5⟩
     . obtain⟨rfl,k2⟩:=(Bn a3).1 hU;exact back _ _ (.inr k2) (.inl rfl) (by unfold cM;rw[nE a1,cond_false,<-k2];exact hU)
     . obtain⟨rfl,k2,k3⟩:=(EA a3 a5).1 hU;exact back _ _ (.inr k2) (.inr k3) (by unfold cM cD;rw[nE a1,nE a4,cond_false,cond_false,<-k2,<-k3];exact hU)
abbrev Ci:Type:=Int×Int×Int
def sM(da:List UInt8)(y m:Int):List Ci:=bif ae da []then[(y,m,0)]else(Co da (bP y m).toNat).map λd=>(y,m,d)
def nk(mo da:List UInt8)(y:Int):List Ci:=(cA mo).flatMap (sM da y)
def jQ(f:Int->List Ci):Int->Nat->List Ci
 | _,0=>[]
 | a,n+1=>f a++jQ f (a+1) n
def ks(ng:Bool)(s:List UInt8)(e:Int)(mo da:List UInt8)(k:Int):List Ci:=bif mP ng s e k then nk mo da k else[]
def aP(ng:Bool)(s:List UInt8)(e:Int)(mo da:List UInt8):List Ci:=jQ (ks ng s e mo da) (jR ng s e) (s5 ng s e+1-jR ng s e).toNat
theorem Dr{f:Int->List Ci}:∀{n:Nat} {a:Int},(jQ f a n).length=K8 (λk=>(f k).length) a n
 | 0,_=>rfl
 | n+1,a=>by rw[jQ,K8,zAg,Dr]
theorem sI{c:Ci}:c∈sM da y m↔c.1=y/\c.2.1=m/\c.2.2∈dF da/\c.2.2<=kN y m da:=by
 obtain⟨a,b,d⟩:=c;unfold sM dF kN;cases h:ae da []with
 | true=>
   simp only[cond_true,zAe,Prod.mk.injEq];omega
 | false=>
   simp only[cond_false,List.mem_map,Prod.mk.injEq];have hb:=mr y m;unfold Co;split
   . constructor
     . rintro⟨k,hk,rfl,rfl,rfl⟩;have:=iG.1 hk;exact⟨rfl,rfl,iG.2 ⟨by omega,this.2⟩,by omega⟩
     . rintro⟨rfl,rfl,hk,hle⟩;have:=iG.1 hk;exact⟨d,iG.2 ⟨by omega,this.2⟩,rfl,rfl,rfl⟩
   . simp
theorem xL{c:Ci}:c∈nk mo da y↔c.1=y/\c.2.1∈cA mo/\c.2.2∈dF da/\c.2.2<=kN y c.2.1 da:=by
 unfold nk;rw[List.mem_flatMap];constructor
 . rintro⟨m,hm,h⟩;obtain⟨h1,rfl,h3,h4⟩:=sI.1 h;exact⟨h1,hm,h3,h4⟩
 . rintro⟨h1,h2,h3,h4⟩;exact⟨c.2.1,h2,sI.2 ⟨h1,rfl,h3,h4⟩⟩
theorem xQ{f:Int->List Ci}{c:Ci}:∀{n:Nat} {a:Int},c∈jQ f a n↔∃k,a<=k/\k<a+n/\c∈f k
 | 0,a=>by
   refine⟨λh=>(by cases h),λ⟨k,h1,h2,_⟩=>?_⟩;exfalso;omega
 | n+1,a=>by
   rw[jQ,List.mem_append,xQ];constructor
   . rintro(h|⟨k,h1,h2,h3⟩)
     . exact⟨a,by omega,by omega,h⟩
     . exact⟨k,by omega,by omega,h3⟩
   . rintro⟨k,h1,h2,h3⟩;by_cases e:k=a
     . subst e;exact .inl h3
     . exact .inr ⟨k,by omega,by omega,h3⟩
theorem fy{c:Ci}(hx:lP s):c∈aP ng s e mo da↔f_ ng s e mo da c.1 c.2.1 c.2.2:=by
 unfold aP;rw[xQ];unfold ks f_;constructor
 . rintro⟨k,h1,h2,h3⟩;cases hk:mP ng s e k with
   | false=>rw[hk]at h3;cases h3
   | true=>
     rw[hk,cond_true]at h3;obtain⟨rfl,h4⟩:=xL.1 h3;exact⟨y4.1 hk,h4⟩
 . rintro⟨h1,h2⟩;have:=Kx hx h1;refine⟨c.1,this.1,by omega,?_⟩;rw[y4.2 h1,cond_true];exact xL.2 ⟨rfl,h2⟩
def p_(l:List Ci):Prop:=l.Pairwise (·≠·)
theorem Tt:p_ (sM da y m):=by
 unfold p_ sM;cases ae da []with
 | true=>exact List.pairwise_singleton _ _
 | false=>
   rw[cond_false,List.pairwise_map];exact List.Pairwise.imp (λh he=>by simp only[Prod.mk.injEq,true_and]at he;omega) (@EY da _)
theorem QE:p_ (nk mo da y):=by
 unfold nk;have:=@wR mo;generalize cA mo=M at *;induction M with
 | nil=>exact List.Pairwise.nil
 | cons m M ih=>
   unfold zS at this;rw[List.pairwise_cons]at this;rw[List.flatMap_cons];unfold p_;rw[List.pairwise_append];refine⟨Tt,ih this.2,λa ha b hb he=>?_⟩;subst he;rw[List.mem_flatMap]at hb;obtain⟨k,hk,hb⟩:=hb;have:=this.1 k hk;have h1:=(sI.1 ha).2.1;have h2:=(sI.1 hb).2.1;omega
theorem MV{f:Int->List Ci}(hf:∀k,p_ (f k))(h1:∀k,∀c∈f k,c.1=k):∀{n:Nat} {a:Int},p_ (jQ f a n)
 | 0,_=>List.Pairwise.nil
 | n+1,a=>by
   rw[jQ];unfold p_;rw[List.pairwise_append];refine⟨hf a,MV hf h1,λx hx y hy he=>?_⟩;subst he;obtain⟨k,h2,h3,h4⟩:=xQ.1 hy;have:=h1 _ _ hx;have:=h1 _ _ h4;omega
theorem P_:p_ (aP ng s e mo da):=by
 refine MV (λk=>?_) λk c hc=>?_
 . unfold ks;cases mP ng s e k with
   | true=>exact QE
   | false=>exact List.Pairwise.nil
 . unfold ks at hc;cases hk:mP ng s e k with
   | true=>rw[hk,cond_true]at hc;exact(xL.1 hc).1
   | false=>rw[hk]at hc;cases hc
def yZ(x:Int)(C:List Ci):Nat:=(C.filter λc=>vZ c.1 c.2.1 c.2.2 x).length
theorem SE{a:Int}(hE:bW ng lg s e 0 mo da a b c=0):yZ x (aP ng s e mo da)<=1:=by
 obtain⟨ho,hX,_⟩:=dC (gq hE) dE;unfold yZ;have hd:p_ ((aP ng s e mo da).filter λc=>vZ c.1 c.2.1 c.2.2 x):=List.Pairwise.sublist List.filter_sublist P_;have hm:∀k∈(aP ng s e mo da).filter λc=>vZ c.1 c.2.1 c.2.2 x,f_ ng s e mo da k.1 k.2.1 k.2.2/\vZ k.1 k.2.1 k.2.2 x=true:=λk hk=>by
  rw[List.mem_filter]at hk;exact⟨(fy hX).1 hk.1,hk.2⟩
 generalize (aP ng s e mo da).filter (λc=>vZ c.1 c.2.1 c.2.2 x)=C at *
 match C,hd,hm with
 | [],_,_=>exact Nat.zero_le _
 | [_],_,_=>exact Nat.le_refl _
 | k::k'::C,hd,hm=>
   exfalso;unfold p_ at hd;rw[List.pairwise_cons]at hd;have h1:=hm k (by simp);have h2:=hm k' (by simp);obtain⟨e1,e2,e3⟩:=Oa hE h1.1 h2.1 h1.2 h2.2;exact hd.1 k' (by simp) (by obtain⟨a,b,c⟩:=k;obtain⟨a',b',c'⟩:=k';simp_all)
theorem B8{a:Int}(hE:bW ng lg s e 0 mo da a b c=0):0<yZ x (aP ng s e mo da)↔Dg ng s e mo da x=true:=by
 obtain⟨ho,hX,_⟩:=dC (gq hE) dE;rw[wG hE];unfold yZ;rw[List.length_pos_iff_exists_mem];constructor
 . rintro⟨k,hk⟩;rw[List.mem_filter]at hk;exact⟨_,_,_,(fy hX).1 hk.1,hk.2⟩
 . rintro⟨y,m,d,h1,h2⟩;exact⟨(y,m,d),List.mem_filter.2 ⟨(fy hX).2 h1,h2⟩⟩
def tw(y:Int)(w:List AV):Nat->List AV
 | 0=>[]
 | i+1=>tw y w i++[.a .i64 y,.a .i64 (cS w i),.a .i64 0]
def LE:dW:=λvs o=>match vs,o with
 | [.a .i64 y,.g 14 0,.f,.c 15 0 nM (.a 0),.a .i64 i],⟨2,[.a w true (some 1),.a [.b ng,.b lg,.d s,.a .i64 e,.a .i64 g,.d mo,.d [],.a .u8 a,.a .u8 b,.a .u8 c] true none],[]⟩=>
   some (aH [aa i 0,Nat.ble nM 1000,lq y,iw w,List.all w (bC .i64),Nat.beq w.length nM] (.a0 (.b 0,[.a .i64 y,.g 14 0,e9 nM,.c 15 0 nM (.a 0),.a .i64 (Int.ofNat nM)],g9 nM (tw y w nM) (.a w true (some 1)) (bB ng lg s e g mo [] a b c))))
 | _,_=>none
def XK:cx:=iz jE 0 (d9 55 [1,2,5,6,7] LE)
theorem Cm{y:Int}{w:List AV}:∀{i:Nat},(tw y w i).length=i*3
 | 0=>rfl
 | i+1=>by rw[tw,zAg,Cm];simp only[zAf,List.length_nil];omega
theorem Bi{y:Int}{w:List AV}:∀{i:Nat},bw (tw y w i)=[]
 | 0=>rfl
 | i+1=>by rw[tw,gC,Bi];rfl
theorem SV:cu Tryz.prog (cH cfg Z1) (Cw cfg []) (lb 93 0) 55 [1,2,5,6,7] LE:=by
 intro vs o t Q hv hq J;unfold LE at hv;split at hv
 . rename_i y nM i w ng lg s e g mo a b c;cases hv;replace hq:=cO hq;obtain⟨⟨k1,k2,k3,k6,k7,k8,-⟩,hq⟩:=hq;rw[ao]at k1;rw[al]at k2;rw[aJ]at k8;subst k1;have hq:Q (.b 0,[.a .i64 y,.g 14 0,e9 nM,.c 15 0 nM (.a 0),.a .i64 (Int.ofNat nM)],g9 nM (tw y w nM) (.a w true (some 1)) (bB ng lg s e g mo [] a b c)):=hq;refine ia q_ rfl rfl ai (ι:={i:Nat // i<=nM}) (λx=>[.a .i64 y,.g 14 0,e9 x.1,.c 15 0 nM (.a 0),.a .i64 (Int.ofNat x.1)]) (λx=>g9 x.1 (tw y w x.1) (.a w true (some 1)) (bB ng lg s e g mo [] a b c)) (λx=>nM-x.1) 2 (λx=>E9) (λx J=>?_) (Nat.le_refl _) (λJ=>Wk.a0 ⟨⟨0,Nat.zero_le _⟩,J,rfl⟩) J;obtain⟨i,hi⟩:=x;dsimp only;have wl:cR (14+2) (.a w true (some 1)):=aO (gj.1 k6);have bl:cR (14+2) (bB ng lg s e g mo [] a b c):=aO (by simp[bw,aC]);have hkA:i<nM->bC .i64 (w.getD i (.e []))=true:=λh=>by
    rw[zAd,List.getElem?_eq_getElem (by omega)];exact List.all_eq_true.1 k7 _ (List.getElem_mem _)
   have fin:i=nM->∃vs2 o2,VW cfg (Cw cfg []) 2 55 [1,2,5,6,7] [.a .i64 y,.g 14 0,e9 i,.c 15 0 nM (.a 0),.a .i64 (Int.ofNat i)] (g9 i (tw y w i) (.a w true (some 1)) (bB ng lg s e g mo [] a b c)) vs2 o2/\Q (.b 0,vs2,o2):=λh=>by
    subst h;exact⟨_,_,VW.b0,hq⟩
   have go:i<nM->∀vs o,VW cfg (Cw cfg []) 2 55 [1,2,5,6,7] vs o [.a .i64 y,.g 14 0,e9 (i+1),.c 15 0 nM (.a 0),.a .i64 (Int.ofNat (i+1))] (g9 (i+1) (tw y w i++[.a .i64 y,.a .i64 (cS w i),.a .i64 0]) (.a w true (some 1)) (bB ng lg s e g mo [] a b c))->∃x:{i:Nat // i<=nM},nM-x.1<nM-i/\VW cfg (Cw cfg []) 2 55 [1,2,5,6,7] vs o [.a .i64 y,.g 14 0,e9 x.1,.c 15 0 nM (.a 0),.a .i64 (Int.ofNat x.1)] (g9 x.1 (tw y w x.1) (.a w true (some 1)) (bB ng lg s e g mo [] a b c)):=λh vs o hv=>⟨⟨i+1,h⟩,by dsimp only;omega,hv⟩;have hlen:=@Cm y w i;have hids:=@Bi y w i;have hlow:∀z∈[aD.a w true (some 1),bB ng lg s e g mo [] a b c],cR (14+2) z:=λz hz=>by
    simp only[List.mem_cons,List.not_mem_nil,or_false]at hz;rcases hz with rfl|rfl
    . exact wl
    . exact bl
   clear hq;have hA:cS w i=aK (w.getD i (.e [])):=rfl;by_cases hN:i=0
   . subst hN;refine jJ (bE 11005220004) (R:=λQ=>(λ(H I:aD)(A C E F G:AV)(B:Bool)=>(λ(N:List AV)=>(B->aS 0 nM/\bC .i64 C/\Q (.a,[A,E,.c 17 0 1 (fg.a 0),F,.a .i64 1],⟨4,[.a N true (some 3),.a N true none,H,I],[]⟩))/\(B=false->Q (.b 0,[A,E,.f,F,G],⟨2,[H,I],[]⟩))) [A,.a .i64 (aK C),G]) (.a w true (some 1)) (.a [.b ng,.b lg,.d s,.a .i64 e,.a .i64 g,.d mo,.d [],.a .u8 a,.a .u8 b,.a .u8 c] true none) (.a .i64 y) (List.getD w 0 (.e [])) (.g 14 0) (.c 15 0 nM (fg.a 0)) (.a .i64 0) (not (ab (Int.ofNat nM) 0))) (λ_=>by kernel_rfl) λQ' hQ=>?_;try dsimp only
     have fin2:0=nM->Q' (.b 0,[.a .i64 y,.g 14 0,.f,.c 15 0 nM (.a 0),.a .i64 0],⟨2,[.a w true (some 1),bB ng lg s e g mo [] a b c],[]⟩):=λh=>hQ _ (fin h);have go2:0<nM->Q' (.a,[.a .i64 y,.g 14 0,.c 17 0 1 (.a 0),.c 15 0 nM (.a 0),.a .i64 1],⟨4,[.a [.a .i64 y,.a .i64 (cS w 0),.a .i64 0] true (some 3),.a [.a .i64 y,.a .i64 (cS w 0),.a .i64 0] true none,.a w true (some 1),bB ng lg s e g mo [] a b c],[]⟩):=λh=>hQ (.a,_,_) (go h _ _ (fx (x:=.a [.a .i64 y,.a .i64 (cS w 0),.a .i64 0] true (some 3)) (mid:=[.a [.a .i64 y,.a .i64 (cS w 0),.a .i64 0] true none]) (B:=[.a w true (some 1),bB ng lg s e g mo [] a b c]) (k:=1) (kb:=2) (n:=4) rfl rfl rfl hlow (aO rfl) rfl));clear hQ fin go;try dsimp only
     rw[hA]at go2;have e0:ab (Int.ofNat nM) 0=decide (nM=0):=by rw[ek];simp
     rw[e0];by_cases h0:nM=0
     . subst h0;simp only[decide_true,Bool.not_true,reduceCtorEq,false_implies,true_implies,true_and];exact fin2 rfl
     . rw[decide_eq_false h0,hkA (by omega),aU.2 (by omega)];simp only[Bool.not_false,reduceCtorEq,zAh];exact go2 (by omega)
   . have hpos:0<i:=by omega
     rw[fZ hpos,gd hpos]at fin;rw[fZ hpos,gd hpos];refine jJ (bE 1122520220004) (R:=λQ=>(λ(H I:aD)(B E G:AV)(C:fg)(A:Int)(F:Nat)=>(λ(P:AV)(N:Bool)(O:Int)(T:List AV)=>(N->aS i nM/\bC .i64 E/\and (and (Nat.ble F 1000000) true) true/\and true (Nat.beq (tw y w i).length (HMul.hMul i 3))/\af .i64 O/\Q (.a,[B,G,.c 18 0 F C,P,.a .i64 O],⟨5,[.a ((tw y w i)++T) true (some 3),.a T true none,aD.b,H,I],[]⟩))/\(N=false->Q (.b 0,[B,G,.c 16 0 i C,P,.a .i64 A],⟨3,[.a (tw y w i) true (some 3),H,I],[]⟩))) (.c 15 0 nM C) (not (ab (Int.ofNat nM) A)) (Int.add A 1) [B,.a .i64 (aK E),.a .i64 0]) (.a w true (some 1)) (.a [.b ng,.b lg,.d s,.a .i64 e,.a .i64 g,.d mo,.d [],.a .u8 a,.a .u8 b,.a .u8 c] true none) (.a .i64 y) (List.getD w (HAdd.hAdd 0 (HMul.hMul i 1)) (.e [])) (.g 14 0) (fg.a 0) (Int.ofNat i) (HAdd.hAdd i 1)) (λ_=>by kernel_rfl) λQ' hQ=>?_;try dsimp only
     have fin2:i=nM->Q' (.b 0,[.a .i64 y,.g 14 0,.c 16 0 i (.a 0),.c 15 0 nM (.a 0),.a .i64 (Int.ofNat i)],⟨3,[.a (tw y w i) true (some 3),.a w true (some 1),bB ng lg s e g mo [] a b c],[]⟩):=λh=>hQ _ (fin h);have go2:i<nM->Q' (.a,[.a .i64 y,.g 14 0,.c 18 0 (i+1) (.a 0),.c 15 0 nM (.a 0),.a .i64 (Int.ofNat (i+1))],⟨5,[.a (tw y w i++[.a .i64 y,.a .i64 (cS w i),.a .i64 0]) true (some 3),.a [.a .i64 y,.a .i64 (cS w i),.a .i64 0] true none,.b,.a w true (some 1),bB ng lg s e g mo [] a b c],[]⟩):=λh=>hQ (.a,_,_) (go h _ _ (by
      rw[fZ (Nat.succ_pos i),gd (Nat.succ_pos i)];exact fx (tn:=55) (rel:=[1,2,5,6,7]) (vs:=[.a .i64 y,.g 14 0,.c 18 0 (i+1) (.a 0),.c 15 0 nM (.a 0),.a .i64 (Int.ofNat (i+1))]) (vs':=[.a .i64 y,.g 14 0,.c 16 0 (i+1) (.a 0),.c 15 0 nM (.a 0),.a .i64 (Int.ofNat (i+1))]) (x:=.a (tw y w i++[.a .i64 y,.a .i64 (cS w i),.a .i64 0]) true (some 3)) (mid:=[.a [.a .i64 y,.a .i64 (cS w i),.a .i64 0] true none,.b]) (B:=[.a w true (some 1),bB ng lg s e g mo [] a b c]) (k:=2) (kb:=2) (n:=5) rfl rfl rfl hlow (aO (by rw[gC,hids];rfl)) rfl))
     clear hQ fin go;try dsimp only
     rw[hA]at go2;rw[show 0+i*1=i by omega];have e0:ab (Int.ofNat nM) (Int.ofNat i)=decide (i=nM):=by rw[ek];congr 1;rw[eq_iff_iff];constructor<;>intro h<;>simp only[Int.ofNat_eq_natCast]at *<;>omega
     rw[e0];by_cases h0:i=nM
     . rw[decide_eq_true h0];simp only[Bool.not_true,reduceCtorEq,false_implies,true_implies,true_and];exact fin2 h0
     . have b1:Nat.ble (i+1) 1000000=true:=al.mpr (by omega);have b2:Nat.beq (tw y w i).length (i*3)=true:=aJ.mpr hlen;have b3:af .i64 (Int.add (Int.ofNat i) 1)=true:=by rw[aE];simp only[eH,eE];show _<=(i:Int)+1/\(i:Int)+1<=_;omega
       rw[decide_eq_false h0,hkA (by omega),aU.2 (show i<nM by omega),b1,b2,b3];simp only[Bool.not_false,Bool.and_true,reduceCtorEq,zAh];exact go2 (by omega)
 . cases hv
def bJ:List Ci->List AV
 | []=>[]
 | c::l=>.a .i64 c.1::.a .i64 c.2.1::.a .i64 c.2.2::bJ l
theorem pE:∀{l k:List Ci},bJ (l++k)=bJ l++bJ k
 | [],k=>rfl
 | c::l,k=>by
   show .a .i64 c.1::.a .i64 c.2.1::.a .i64 c.2.2::bJ (l++k)=_;rw[pE];rfl
theorem mB:∀{l:List Ci},(bJ l).length=l.length*3
 | []=>rfl
 | c::l=>by
   show(bJ l).length+1+1+1=_;rw[mB,zAf];omega
theorem gN:∀{l:List Ci},bw (bJ l)=[]
 | []=>rfl
 | c::l=>by
   show bw (.a .i64 c.1::.a .i64 c.2.1::.a .i64 c.2.2::bJ l)=[];simp only[bw,aC,List.nil_append];exact gN
def wh(mo da:List UInt8):Bool:=bif ae mo []then ae da []else bif aa (aR mo) 0 then(match mo with|[m0,m1]=>cr m0&&(cr m1&&!(gU (ay m0 m1 12)))|_=>false)&&(ae da [] || (match da with|[d0,d1]=>cr d0&&cr d1|_=>false))else ae da []
theorem qG(h:wh mo da):(mo=[]/\da=[])\/(ae mo []=false/\aa (aR mo) 0=false/\da=[])\/(∃m0 m1,mo=[m0,m1]/\aa (aR mo) 0/\cr m0/\cr m1/\gU (ay m0 m1 12)=false/\(da=[]\/∃d0 d1,da=[d0,d1]/\cr d0/\cr d1=true)):=by
 unfold wh at h;cases hm:ae mo []with
 | true=>rw[hm,cond_true,ba]at h;exact .inl ⟨ba.1 hm,h⟩
 | false=>
   rw[hm,cond_false]at h;cases hs:aa (aR mo) 0 with
   | false=>rw[hs,cond_false,ba]at h;exact .inr (.inl ⟨rfl,rfl,h⟩)
   | true=>
     rw[hs,cond_true,zAa]at h;obtain⟨h1,h2⟩:=h;right;right
     split at h1
     . rename_i m0 m1;simp only[zAa,Bool.not_eq_true']at h1;refine⟨m0,m1,rfl,rfl,h1.1,h1.2.1,h1.2.2,?_⟩;rw[Bool.or_eq_true,ba]at h2;rcases h2 with h2|h2
       . exact .inl h2
       . right
         split at h2
         . rename_i d0 d1;rw[zAa]at h2;exact⟨d0,d1,rfl,h2.1,h2.2⟩
         . cases h2
     . cases h1
theorem wD{a:Int}(hE:bW ng lg s e 0 mo da a b c=0):wh mo da=true:=by
 have hq:=dC (gq hE) dE;have nE:∀{l:List UInt8},l≠[]->ae l []=false:=λh=>by rw[<-Bool.not_eq_true,ba];exact h
 unfold wh;cases hd:ae da []with
 | false=>
   obtain⟨m0,m1,d0,d1,rfl,rfl,h0,h1,h2,h3,k0,k1,hse,_⟩:=kq (gq hE) hd;rw[show ae [m0,m1] []=false from rfl,ao.mpr hse];simp only[zAj,h0,h1,h2,h3,s7 k0];rfl
 | true=>
   cases hm:ae mo []with
   | true=>rfl
   | false=>
     rw[cond_false];cases hs:aa (aR mo) 0 with
     | false=>rfl
     | true=>
       obtain⟨m0,m1,rfl,h0,h1,k0⟩:=oi (by decide) (hq.2.2.2.1 ⟨hm,ao.mp hs⟩);simp only[cond_true,h0,h1,s7 k0];rfl
theorem CC{M:List Int}{i:Nat}(h:i<M.length):cS (aI M) i=M.getD i 0:=by
 have e:=@sW M i h;rw[show 0+i*1=i by omega]at e;unfold cS;rw[e];rfl
theorem zX{M:List Int}{i:Nat}(h:i<M.length):M.take (i+1)=M.take i++[M.getD i 0]:=by
 rw[List.take_add_one,List.getElem?_eq_getElem h,zAd,List.getElem?_eq_getElem h];rfl
theorem ME{y:Int}{M:List Int}:∀{i:Nat},i<=M.length->tw y (aI M) i=bJ ((M.take i).flatMap (sM [] y))
 | 0,_=>by rw[List.take_zero];rfl
 | i+1,h=>by
   rw[tw,ME (by omega),zX (by omega),List.flatMap_append,pE,CC (by omega)];rfl
theorem Gs{y m:Int}:∀{L:List Int},dU y m L=bJ (L.map λd=>(y,m,d))
 | []=>rfl
 | d::L=>by
   show _::_::_::dU y m L=_;rw[Gs];rfl
theorem Px{d0 d1:UInt8}{y:Int}{M:List Int}:∀{i:Nat},i<=M.length->yL d0 d1 y (aI M) i=bJ ((M.take i).flatMap (sM [d0,d1] y))/\yN d0 d1 y (aI M) i=((M.take i).flatMap (sM [d0,d1] y)).length
 | 0,_=>by rw[List.take_zero];exact⟨rfl,rfl⟩
 | i+1,h=>by
   obtain⟨h1,h2⟩:=Px (d0:=d0) (d1:=d1) (y:=y) (M:=M) (i:=i) (by omega);rw[yL,yN,h1,h2,zX (by omega),List.flatMap_append,pE,CC (by omega),zAg];have e:([M.getD i 0]:List Int).flatMap (sM [d0,d1] y)=(ki d0 d1 y (M.getD i 0)).map λd=>(y,M.getD i 0,d):=by
    rw[List.flatMap_cons,List.flatMap_nil,List.append_nil];rfl
   rw[e,List.length_map,Gs];exact⟨rfl,rfl⟩
def HP(C:List Ci):Tr (AV×List aD):=.d0 (Nat.beq C.length 0) λb=>bif b then .a0 (.f,[])else .a0 (.c 14 0 C.length (.a 0),[.a (bJ C) true (some 3)])
def LN:kS:=λargs ws=>match args,ws with
 | [.h [.b ng,.b lg,.d s,.a .i64 e,.a .i64 g,.d mo,.d da,.a .u8 a,.a .u8 b,.a .u8 c],.a .i64 y],[]=>some (aH [wh mo da,lq y] (HP (nk mo da y)))
 | _,_=>none
theorem UA{m0 m1:UInt8}{a:Int}{v:AV}{news:List aD}(hy : -10000000000000000<=y/\y<=10000000000000000)(h0:cr m0)(h1:cr m1)(hse:aa (aR [m0,m1]) 0)(hn:gU (ay m0 m1 12)=false)
 (hv:dL [] v news (e9 (dG (ay m0 m1 12)),g9 (dG (ay m0 m1 12)) (tw y (aI (ay m0 m1 12)) (dG (ay m0 m1 12))) (.a (aI (ay m0 m1 12)) true (some 1)) (bB ng lg s e g [m0,m1] [] a b c))) :
 bu Tryz.prog cfg 93 [.h [.b ng,.b lg,.d s,.a .i64 e,.a .i64 g,.d [m0,m1],.d [],.a .u8 a,.a .u8 b,.a .u8 c],.a .i64 y] [] v news:=by
 refine Bu q_ (L:=XK) Hm (by simp) (dv DE λi hi e he st Q hw=>?_) (jJ (bE 1227027006) (R:=λQ=>(λ(C:List Int)=>(λ(B:List AV)(A:Nat)=>cr m0/\cr m1/\aa (aR [m0,m1]) 0/\not (gU C)/\Nat.ble A 1000/\and (ab (Neg.neg 10000000000000000) y) (ab y 10000000000000000)/\iw B/\List.all B (bC .i64)/\Nat.beq B.length A/\(∀J1:Nat->Value,Q (Prod.fst (Prod.fst (e9 A,Prod.snd ([.a .i64 y,.g 14 0,e9 A,.c 15 0 A (fg.a 0),.a .i64 (Int.ofNat A)],g9 A (tw y B A) (.a B true (some 1)) (.a [.b ng,.b lg,.d s,.a .i64 e,.a .i64 g,.d [m0,m1],.d [],.a .u8 a,.a .u8 b,.a .u8 c] true none))),Prod.snd (e9 A,Prod.snd ([.a .i64 y,.g 14 0,e9 A,.c 15 0 A (fg.a 0),.a .i64 (Int.ofNat A)],g9 A (tw y B A) (.a B true (some 1)) (.a [.b ng,.b lg,.d s,.a .i64 e,.a .i64 g,.d [m0,m1],.d [],.a .u8 a,.a .u8 b,.a .u8 c] true none)))),Prod.snd (Prod.fst (e9 A,Prod.snd ([.a .i64 y,.g 14 0,e9 A,.c 15 0 A (fg.a 0),.a .i64 (Int.ofNat A)],g9 A (tw y B A) (.a B true (some 1)) (.a [.b ng,.b lg,.d s,.a .i64 e,.a .i64 g,.d [m0,m1],.d [],.a .u8 a,.a .u8 b,.a .u8 c] true none))),Prod.snd (e9 A,Prod.snd ([.a .i64 y,.g 14 0,e9 A,.c 15 0 A (fg.a 0),.a .i64 (Int.ofNat A)],g9 A (tw y B A) (.a B true (some 1)) (.a [.b ng,.b lg,.d s,.a .i64 e,.a .i64 g,.d [m0,m1],.d [],.a .u8 a,.a .u8 b,.a .u8 c] true none))))))) (aI C) (dG C)) (ay m0 m1 12)) (λ_=>by kernel_rfl) λQ' hQ=>?_)
 . have hi:i=0\/i=1:=by simp at hi;omega
   rcases hi with rfl|rfl
   . cases he;exact bR (cC.a0 q_) (by decide) rfl SV hw
   . cases he
 . have hQ:=hQ _ hv;have l1:dG (ay m0 m1 12)=(ay m0 m1 12).length:=rfl;have z1:=eV m0 m1 12;have c1:=@yY (ay m0 m1 12);have c2:=@ow (ay m0 m1 12);have c3:Nat.beq (aI (ay m0 m1 12)).length (dG (ay m0 m1 12))=true:=aJ.mpr cY;have z2:Nat.ble (dG (ay m0 m1 12)) 1000=true:=al.mpr (by omega);have yb:(ab (-10000000000000000) y&&ab y 10000000000000000)=true:=iZ.2 hy;clear hv l1 z1;try dsimp only
   generalize tw y (aI (ay m0 m1 12)) (dG (ay m0 m1 12))=C at *;generalize e9 (dG (ay m0 m1 12))=oN at *;have yb1:=(Bool.and_eq_true _ _).mp yb;simp only[h0,h1,hse,hn,c1,c2,c3,z2,yb1.1,yb1.2,show Neg.neg (10000000000000000:Int) = -10000000000000000 from rfl,Bool.and_true,Bool.true_and,Bool.not_false,reduceCtorEq,zAh];exact λ_=>hQ
theorem Wg{a:Int}:bu Tryz.prog cfg 93 [.h [.b ng,.b lg,.d s,.a .i64 e,.a .i64 g,.d [],.d [],.a .u8 a,.a .u8 b,.a .u8 c],.a .i64 y] [] (.c 14 0 1 (.a 0)) [.a [.a .i64 y,.a .i64 0,.a .i64 0] true (some 3)]:=by
 refine Cs gx ai (bE 1000566) (R:=λQ=>(λ(A B:AV)=>(λ(E:aD)(C:List AV)=>Q (.c 18 0 1 (fg.a 0),⟨5,[.a C true (some 3),.a C true none,.a [A] true none,E,E],[]⟩)) (.a [.b ng,.b lg,.d s,.a .i64 e,.a .i64 g,B,B,.a .u8 a,.a .u8 b,.a .u8 c] true none) [.a .i64 y,A,A]) (.a .i64 0) (.d [])) (λ_=>by kernel_rfl) λQ' hQ=>?_;exact hQ _ (dL.last (k:=4) rfl rfl (aO rfl) rfl)
theorem UR{a:Int}(hm:ae mo []=false)(hs:aa (aR mo) 0=false):bu Tryz.prog cfg 93 [.h [.b ng,.b lg,.d s,.a .i64 e,.a .i64 g,.d mo,.d [],.a .u8 a,.a .u8 b,.a .u8 c],.a .i64 y] [] (.c 14 0 1 (.a 0)) [.a [.a .i64 y,.a .i64 (aR mo),.a .i64 0] true (some 3)]:=by
 have hn:=CF mo;rw[aw]at hs;refine Cs gx ai (bE 10056620063006) (R:=λQ=>(λ(B:aD)(A:AV)=>(λ(C:List AV)=>ae mo []=false/\not (ab (aR mo) 0)/\Q (.c 18 0 1 (fg.a 0),⟨5,[.a C true (some 3),.a C true none,.a [A] true none,B,B],[]⟩)) [.a .i64 y,A,.a .i64 0]) (.a [.b ng,.b lg,.d s,.a .i64 e,.a .i64 g,.d mo,.d [],.a .u8 a,.a .u8 b,.a .u8 c] true none) (.a .i64 (aR mo))) (λ_=>by kernel_rfl) λQ' hQ=>?_;try dsimp only
 have h1:ab (aR mo) 0=false:=bF.mpr (by omega);refine⟨hm,by rw[h1];rfl,?_⟩;exact hQ _ (dL.last (k:=4) rfl rfl (aO rfl) rfl)
theorem OE{S:aQ}(hS:ak Tryz.prog cfg S):ak Tryz.prog cfg (eQ S 93 (fl 14 [] LN)):=by
 refine bm hS (fW dI.lv Az λargs ws t r he hr=>?_);unfold LN at he;split at he
 . rename_i ng lg s e g mo da a b c y;cases he;replace hr:=aF hr;obtain⟨⟨k1,k2,-⟩,hr⟩:=hr;rw[iZ]at k2;have lowC:∀{C:List Ci} {x:aD},x∈[aD.a (bJ C) true (some 3)]->cR 14 x:=λh=>by
    simp only[zAe]at h;subst h;exact aO gN
   have key:∀{C:List Ci} {r:AV×List aD},(HP C).b0=some r->(0<C.length->bu Tryz.prog cfg 93 [.h [.b ng,.b lg,.d s,.a .i64 e,.a .i64 g,.d mo,.d da,.a .u8 a,.a .u8 b,.a .u8 c],.a .i64 y] [] (.c 14 0 C.length (.a 0)) [.a (bJ C) true (some 3)])->(C.length=0->bu Tryz.prog cfg 93 [.h [.b ng,.b lg,.d s,.a .i64 e,.a .i64 g,.d mo,.d da,.a .u8 a,.a .u8 b,.a .u8 c],.a .i64 y] [] .f [])->bu Tryz.prog cfg 93 [.h [.b ng,.b lg,.d s,.a .i64 e,.a .i64 g,.d mo,.d da,.a .u8 a,.a .u8 b,.a .u8 c],.a .i64 y] [] r.1 r.2/\∀x∈r.2,cR 14 x:=λ{C r} hr h1 h2=>by
    unfold HP at hr;simp only[Tr.b0]at hr;cases hb:Nat.beq C.length 0 with
    | true=>rw[hb]at hr;cases hr;exact⟨h2 (aJ.mp hb),λx hx=>by cases hx⟩
    | false=>rw[hb]at hr;cases hr;rw[b9]at hb;exact⟨h1 (by omega),λx hx=>lowC hx⟩
   rcases qG k1 with⟨rfl,rfl⟩|⟨h1,h2,rfl⟩|⟨m0,m1,rfl,h1,h2,h3,h4,h5⟩
   . refine key hr (λ_=>?_) (λh=>absurd h (by show ¬(1=0);omega));exact Wg
   . have e1:nk mo [] y=[(y,aR mo,0)]:=by unfold nk cA;rw[h1,h2];rfl
     rw[e1]at hr;refine key hr (λ_=>?_) (λh=>absurd h (by show ¬(1=0);omega));exact UR h1 h2
   . have eM:cA [m0,m1]=ay m0 m1 12:=by unfold cA;rw[h1];rfl
     rcases h5 with rfl|⟨d0,d1,rfl,h6,h7⟩
     . have e1:bJ (nk [m0,m1] [] y)=tw y (aI (ay m0 m1 12)) (dG (ay m0 m1 12)):=by
        unfold nk;rw[eM];have:=@ME y (ay m0 m1 12) (dG (ay m0 m1 12)) (Nat.le_refl _);rw[this];unfold dG;rw[List.take_length]
       have e2:(nk [m0,m1] [] y).length=dG (ay m0 m1 12):=by
        have:=congrArg List.length e1;rw[mB,Cm]at this;omega
       have hp:0<dG (ay m0 m1 12):=by
        unfold gU at h4;unfold dG;cases hf:ay m0 m1 12 with
        | nil=>rw[hf]at h4;cases h4
        | cons x xs=>simp
       refine key hr (λ_=>?_) (λh=>absurd h (by omega));rw[e1,e2];refine UA k2 h2 h3 h1 h4 ?_;rw[fZ hp,gd hp];exact dL.last (k:=2) rfl rfl (aO Bi) rfl
     . have ey:=@Px d0 d1 y (ay m0 m1 12) (dG (ay m0 m1 12)) (Nat.le_refl _);have et:(ay m0 m1 12).take (dG (ay m0 m1 12))=ay m0 m1 12:=by unfold dG;rw[List.take_length]
       rw[et]at ey;have ec:nk [m0,m1] [d0,d1] y=(ay m0 m1 12).flatMap (sM [d0,d1] y):=by unfold nk;rw[eM]
       rw[ec]at hr;have f:=λv news=>@OD ng lg s e g m0 m1 d0 d1 a b c y v news k2 h2 h3 h6 h7 h1 h4;rw[ey.1,ey.2]at f;refine key hr (λh=>f _ _ ?_) (λh=>f _ _ ?_)
       . rw[fZ h,gd h];exact dL.last (k:=2) rfl rfl (aO gN) rfl
       . rw[h];exact dL.b0 rfl (by simp[e9,aC]) rfl rfl
 . cases he
def eo(d p:Int):Int:=bif aa p 3 then d else bif aa p 1 then aN d else jM d
theorem Ap{p:Int}(hp:1<=p/\p<=3)(hok:lT d p):lT (CK d p) p/\CK (CK d p) p=CK d p/\PU (CK d p) p=PU d p/\eo (CK d p) p=eo d p:=by
 have hp:p=1\/p=2\/p=3:=by omega
 rcases hp with rfl|rfl|rfl
 . have hc:cE d=true:=by simpa [lT,show aa 1 3=false from rfl]using hok
   have cb:=lO hc;have e:CK d 1=bf (aN d):=rfl;have ye:=(@yR (aN d)).1;have i1:=dR.1 hc;have sp:=Go.Proofs.YtoghlpcacfnjbaaGreatDoor.yOf_spec d;have hlo:bf (-10000000000000000)<=bf (aN d):=eF cb.1.1;rw[n9.1]at hlo;have hd:bf (aN d)<=d:=sp.1;refine⟨?_,?_,?_,?_⟩
   . rw[e];exact Pa (dR.2 ⟨hlo,by omega⟩)
   . rw[e];show bf (aN (bf (aN d)))=_;rw[ye]
   . rw[e];show bf (aN (bf (aN d)))+364+iE (aN (bf (aN d)))=bf (aN d)+364+iE (aN d);rw[ye]
   . rw[e];show aN (bf (aN d))=aN d;rw[ye]
 . have hc:cE d=true:=by simpa [lT,show aa 2 3=false from rfl]using hok
   have cb:=lO hc;have e:CK d 2=aG (aN d) (bZ d):=rfl;have mi:=tx d;have mn:=@qK (aN d) (bZ d) mi;have ym:=yX mi (Int.le_refl (aG (aN d) (bZ d))) mn.2.1;have i1:=dR.1 hc;have sp:=Go.Proofs.YtoghlpcacfnjbaaGreatDoor.mOf_spec d;have hlo:bf (-10000000000000000)<=bf (aN d):=eF cb.1.1;rw[n9.1]at hlo;have hd:aG (aN d) (bZ d)<=d:=sp.2.2.1;refine⟨?_,?_,?_,?_⟩
   . rw[e];exact Pa (dR.2 ⟨by omega,by omega⟩)
   . rw[e];show aG (aN (aG (aN d) (bZ d))) (bZ (aG (aN d) (bZ d)))=_;rw[ym.1,ym.2]
   . rw[e];show aG (aN (aG (aN d) (bZ d))) (bZ (aG (aN d) (bZ d)))+d6 (aN (aG (aN d) (bZ d))) (bZ (aG (aN d) (bZ d)))-1=aG (aN d) (bZ d)+d6 (aN d) (bZ d)-1;rw[ym.1,ym.2]
   . rw[e];show jM (aG (aN d) (bZ d))=jM d;unfold jM;rw[ym.1,ym.2]
 . exact⟨rfl,rfl,rfl,rfl⟩
end Go.Ev
