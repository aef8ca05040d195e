import Derived.Test.YtoghlpcacfnjbaaGreatDoorP38
set_option linter.all false
set_option maxRecDepth 100000
set_option maxHeartbeats 4000000
namespace Go.Ev
open Go Go.Proofs
variable{b e c y m d x:Int}{ng lg:Bool}{s mo da:List UInt8}{C:List Ci}{S:aQ}{b0:aD}
theorem Cy{c0 c1 c2 c3:UInt8}(hb:b=48\/b=57)(h0:cr c0)(h1:cr c1)(h2:cr c2)(h3:cr c3):nS c0 c1 c2 c3 (gu c0 c1 c2 c3 b):=by
 have v:∀c:UInt8,cr c->(0<=lL c b/\lL c b<=9)/\mt c (lL c b):=λc h=>by
  rw[dD]at h;unfold lL mt;by_cases e:c.toNat=88
  . rw[gm e,cond_true];exact⟨by omega,.inl e⟩
  . rw[ic e,cond_false];exact⟨by omega,.inr (by omega)⟩
 obtain⟨a0,b0⟩:=v c0 h0;obtain⟨a1,b1⟩:=v c1 h1;obtain⟨a2,b2⟩:=v c2 h2;obtain⟨a3,b3⟩:=v c3 h3;unfold nS gu;generalize lL c0 b=x0 at *;generalize lL c1 b=x1 at *;generalize lL c2 b=x2 at *;generalize lL c3 b=x3 at *;refine⟨by omega,by omega,?_,?_,?_,?_⟩
 . rw[show(1000*x0+100*x1+10*x2+x3)/1000=x0 by omega];exact b0
 . rw[show(1000*x0+100*x1+10*x2+x3)/100%10=x1 by omega];exact b1
 . rw[show(1000*x0+100*x1+10*x2+x3)/10%10=x2 by omega];exact b2
 . rw[show(1000*x0+100*x1+10*x2+x3)%10=x3 by omega];exact b3
theorem RN{c0 c1 c2 c3:UInt8}(h0:cr c0)(h1:cr c1)(h2:cr c2)(h3:cr c3)(hx:aY [c0,c1,c2,c3] 88 88≠0):gu c0 c1 c2 c3 48<gu c0 c1 c2 c3 57:=by
 have v:∀c:UInt8,(c.toNat=88->lL c 48=0/\lL c 57=9)/\(c.toNat≠88->lL c 48=lL c 57):=λc=>by
  unfold lL;refine⟨λe=>?_,λe=>?_⟩
  . rw[gm e,cond_true,cond_true];omega
  . rw[ic e,cond_false,cond_false]
 have g0:=v c0;have g1:=v c1;have g2:=v c2;have g3:=v c3;have hex:c0.toNat=88\/c1.toNat=88\/c2.toNat=88\/c3.toNat=88:=by
  by_cases e0:c0.toNat=88
  . exact .inl e0
  by_cases e1:c1.toNat=88
  . exact .inr (.inl e1)
  by_cases e2:c2.toNat=88
  . exact .inr (.inr (.inl e2))
  by_cases e3:c3.toNat=88
  . exact .inr (.inr (.inr e3))
  exfalso;apply hx;rw[mN,mN,mN,mN,rg];rw[if_neg (by omega),if_neg (by omega),if_neg (by omega),if_neg (by omega)]
 unfold gu;generalize lL c0 48=x0 at *;generalize lL c1 48=x1 at *;generalize lL c2 48=x2 at *;generalize lL c3 48=x3 at *;generalize lL c0 57=y0 at *;generalize lL c1 57=y1 at *;generalize lL c2 57=y2 at *;generalize lL c3 57=y3 at *;omega
theorem xt{a:Int}(hE:bW ng lg s e 0 mo da a b c=0)(hy:∃k,mK ng s e k):0<(aP ng s e mo da).length:=by
 obtain⟨ho,hX,_,h4,h5⟩:=dC (gq hE) dE;have lh:=Bf ho hX;have mk:∀k m d,mK ng s e k->m∈cA mo->d∈dF da->d<=kN k m da->0<(aP ng s e mo da).length:=λk m d h1 h2 h3 h4=>List.length_pos_iff_exists_mem.2 ⟨(k,m,d),(fy hX).2 ⟨h1,h2,h3,h4⟩⟩;cases hd:ae da []with
 | true=>
   obtain⟨k,hk⟩:=hy;have e1:dF da=[0]:=by unfold dF;rw[hd];rfl
   have e2:∀m,kN k m da=0:=λm=>by unfold kN;rw[hd];rfl
   have hm:∃m,m∈cA mo:=by
    unfold cA;cases hm:ae mo []with
    | true=>exact⟨0,by simp⟩
    | false=>
      cases hs:aa (aR mo) 0 with
      | false=>exact⟨aR mo,by simp⟩
      | true=>
        obtain⟨m0,m1,rfl,h0,h1,k0⟩:=oi (by decide) (h4 ⟨hm,ao.mp hs⟩);obtain⟨x,hx⟩:=List.exists_mem_of_ne_nil _ k0;exact⟨x,hx⟩
   obtain⟨m,hm⟩:=hm;exact mk k m 0 hk hm (by rw[e1];simp) (by rw[e2];exact Int.le_refl _)
 | false=>
   obtain⟨m0,m1,d0,d1,rfl,rfl,h0,h1,h2,h3,k0,k1,hse,_⟩:=kq (gq hE) hd;have hF:TC ng s e [m0,m1] [d0,d1]=true:=by
    unfold bW at hE;rw[ao.mpr (gq hE),cond_true]at hE;cases hf:TC ng s e [m0,m1] [d0,d1]with
    | true=>rfl
    | false=>rw[hf,show ae [d0,d1] []=false from rfl]at hE;exact absurd hE (by decide)
   unfold TC at hF;obtain⟨k,g1,_,m,hm,d,hdd,hle⟩:=(zg ho hX (by rfl) (by decide) _ _ (Nat.le_refl _)).1 hF;refine mk k m d g1 ?_ hdd hle;unfold cA;rw[show ae [m0,m1] []=false from rfl,ao.mpr hse];exact hm
def vI(ng:Bool)(s:List UInt8)(e:Int)(mo da:List UInt8):Int:=bif ae da []&&(!ng&&!(Nat.beq (aY s 88 88) 0))then((10^aY s 88 88*(cA mo).length:Nat):Int)else((aP ng s e mo da).length:Int)
theorem RK{x y:Ci}(hx:x∈C)(hy:y∈C)(h:x≠y):C.length≠1:=λhl=>by
 obtain⟨z,rfl⟩:=List.length_eq_one_iff.1 hl;simp only[zAe]at hx hy;exact h (hx.trans hy.symm)
theorem DJ{a:Int}(hE:bW ng lg s e 0 mo da a b c=0)(hy:∃k,mK ng s e k):1<=vI ng s e mo da/\(vI ng s e mo da=1↔(aP ng s e mo da).length=1):=by
 have hne:=xt hE hy;obtain⟨ho,hX,_,h4,h5⟩:=dC (gq hE) dE;unfold vI;cases hb:(ae da []&&(!ng&&!(Nat.beq (aY s 88 88) 0)))with
 | false=>rw[cond_false];omega
 | true=>
   rw[cond_true];simp only[zAa,Bool.not_eq_true',ba]at hb;obtain⟨rfl,rfl,hx⟩:=hb;obtain⟨c0,c1,c2,c3,rfl,g0,g1,g2,g3⟩:=sV hX hx;obtain⟨w,hw⟩:=List.exists_mem_of_length_pos hne;have hw:=(fy hX).1 hw;have hml:0<(cA mo).length:=List.length_pos_iff_exists_mem.2 ⟨_,hw.2.1⟩;have hxn:aY [c0,c1,c2,c3] 88 88≠0:=by rw[b9]at hx;exact hx
   have inYs:∀k,nS c0 c1 c2 c3 k->mK false [c0,c1,c2,c3] e k:=λk hk=>by
    unfold mK;rw[hx];exact hk
   have m1:=inYs _ (Cy (.inl rfl) g0 g1 g2 g3);have m2:=inYs _ (Cy (.inr rfl) g0 g1 g2 g3);have lt:=RN g0 g1 g2 g3 hxn;have e2:∀k m,kN k m ([]:List UInt8)=0:=λk m=>rfl;have hd0:=hw.2.2.1;have mem:∀k,mK false [c0,c1,c2,c3] e k->(k,w.2.1,(0:Int))∈aP false [c0,c1,c2,c3] e mo []:=λk hk=>(fy hX).2 ⟨hk,hw.2.1,by show(0:Int)∈dF [];decide,by rw[e2];exact Int.le_refl _⟩;have nn:=RK (mem _ m1) (mem _ m2) (λh=>by simp only[Prod.mk.injEq]at h;omega);have hp:10<=10^aY [c0,c1,c2,c3] 88 88:=by
    obtain⟨k,hk⟩:∃k,aY [c0,c1,c2,c3] 88 88=k+1:=⟨_,(Nat.succ_pred_eq_of_pos (Nat.pos_of_ne_zero hxn)).symm⟩;rw[hk,Nat.pow_succ];have:0<10^k:=Nat.pow_pos (by decide);omega
   have hm:10<=10^aY [c0,c1,c2,c3] 88 88*(cA mo).length:=Nat.le_trans hp (Nat.le_mul_of_pos_right _ hml);refine⟨by omega,?_⟩;constructor
   . intro h;omega
   . intro h;exact absurd h nn
def jc(some all:Bool):Int:=bif all then 3 else bif some then 2 else 1
def HN(ng:Bool)(s:List UInt8)(e:Int)(mo da:List UInt8)(x:Int):Int:=jc (cE x&&Dg ng s e mo da x) (cE x&&Dg ng s e mo da x&&aa (vI ng s e mo da) 1)
theorem Mj(h:kY y m d)(hd:d=0\/(1<=m/\m<=12/\1<=d/\d<=bP y m))(hx:vZ y m d x):cE x=true:=by
 obtain⟨hy,_,hm⟩:=ju.1 h;have ye:=n9;have y1:bf (-10000000000000000)<=bf y:=eF hy.1;have ys:bf (y+1)<=bf (10000000000000000+1):=eF (by omega);have yl:bf (10000000000000000+1)=3652425000000000366:=by decide
 rw[j7]at hx;rw[dR];have moIn:∀y m,1<=m/\m<=12->-10000000000000000<=y/\y<=10000000000000000->-3652425000000000000<=aG y m/\aG y (m+1)<=3652425000000000366:=λy m h1 h2=>by
  have:=@qK y m h1;have y1:bf (-10000000000000000)<=bf y:=eF h2.1;have ys:bf (y+1)<=bf (10000000000000000+1):=eF (by omega);omega
 rcases hd with rfl|⟨h1,h2,h3,h4⟩
 . have hm':m=0\/(1<=m/\m<=12)\/(21<=m/\m<=41):=by rcases hm with h|h|h<;>omega
   rcases hm with rfl|hm|⟨hm,hz⟩
   . have e1:iO y 0 0=bf y:=rfl;have e2:iD y 0 0=bf (y+1)-1:=rfl;omega
   . have e1:iO y m 0=aG y m:=by unfold iO;rw[aw.mpr (show m≠0 by omega),bF.mpr (show m<13 by omega)];rfl
     have e2:iD y m 0=aG y (m+1)-1:=by unfold iD;rw[aw.mpr (show m≠0 by omega),bF.mpr (show m<13 by omega)];rfl
     have:=moIn y m hm hy;omega
   . have b:=xH hm;have e1:iO y m 0=aG y (fR m):=by unfold iO;rw[aw.mpr (show m≠0 by omega),aq.mpr (show 13<=m by omega)];rfl
     have e2:iD y m 0=aG (fq y m) (kX y m+2)-1:=by unfold iD;rw[aw.mpr (show m≠0 by omega),aq.mpr (show 13<=m by omega)];rfl
     have i1:=moIn y (fR m) b.1 hy;have hz:=bX.1 hz;have i2:=moIn (fq y m) (kX y m+1) (by unfold kX d8;omega) hz;rw[show kX y m+1+1=kX y m+2 by omega]at i2;omega
 . have e1:iO y m d=aG y m+d-1:=by unfold iO;rw[aw.mpr (show m≠0 by omega),bF.mpr (show m<13 by omega),aw.mpr (show d≠0 by omega)];rfl
   have e2:iD y m d=aG y m+d-1:=by unfold iD;rw[aw.mpr (show m≠0 by omega),bF.mpr (show m<13 by omega),aw.mpr (show d≠0 by omega)];rfl
   have:=moIn y m ⟨h1,h2⟩ hy;have hs:=@p9 y m h1 h2;have hl:bP y m=d6 y m:=rfl;omega
theorem HR{a:Int}(hE:bW ng lg s e 0 mo da a b c=0)(hy:∃k,mK ng s e k)(hU:∀y m d,f_ ng s e mo da y m d->kY y m d):HN ng s e mo da x=bif Nat.beq (yZ x (aP ng s e mo da)) 0 then 1 else bif Nat.beq (yZ x (aP ng s e mo da)) (aP ng s e mo da).length then 3 else 2:=by
 have h1:=SE (x:=x) hE;have h2:=B8 (x:=x) hE;have h3:=(DJ hE hy).2;have hc:Dg ng s e mo da x->cE x=true:=λh=>by
  obtain⟨y,m,d,hF,hu⟩:=(wG hE).1 h;refine Mj (hU _ _ _ hF) ?_ hu;rcases gH hE hF with h|h|⟨_,_,h3,h|h⟩
  . exact .inl h.2.2.2
  . exact .inl h.2.2.1
  . exact .inl h.2
  . exact .inr ⟨h3.1,h3.2,h.2.1,h.2.2⟩
 unfold HN jc;cases hf:Dg ng s e mo da x with
 | false=>
   rw[hf]at h2;have:yZ x (aP ng s e mo da)=0:=by
    by_cases h:yZ x (aP ng s e mo da)=0
    . exact h
    . exact absurd (h2.1 (by omega)) (by decide)
   rw[this];simp
 | true=>
   rw[hf]at h2;have:yZ x (aP ng s e mo da)=1:=by have:=h2.2 rfl;omega
   rw[this,hc hf];simp only[Bool.true_and];rw[show Nat.beq 1 0=false from rfl,cond_false,cond_true];by_cases h4:(aP ng s e mo da).length=1
   . rw[ao.mpr (h3.2 h4),aJ.mpr h4.symm]
   . rw[aw.mpr (λh=>h4 (h3.1 h)),b9.mpr (λh=>h4 h.symm)]
theorem QN{l:List UInt8}(h:H4 l):aY l 88 88=0:=by
 unfold H4 at h;split at h
 . rfl
 . rename_i a b;rw[zAa]at h;unfold dB at h;have h1:=h.1;have h2:=h.2;simp only[zAa,zAb]at h1 h2;rw[mN,mN,rg,if_neg (by omega),if_neg (by omega)]
 . cases h
theorem rW{a:Int}(hE:bW ng lg s e 0 mo da a b c=0)(hX:bo (s++mo++da))(hF:f_ ng s e mo da y m d):kY y m d=true:=by
 obtain⟨ho,hx,_⟩:=dC (gq hE) dE;have b1:=Kx hx hF.1;have lh:=Bf ho hx;have ml:=mr y m;rw[ju];refine⟨by omega,?_⟩;rcases gH hE hF with⟨_,_,rfl,rfl⟩|⟨h1,rfl,rfl,h4,h5,h6⟩|⟨_,_,h3,h|h⟩
 . exact⟨by omega,.inl rfl⟩
 . refine⟨by omega,.inr (.inr ⟨h6,N_ h6 (by omega) (.inr ?_)⟩)⟩;have hm:aY mo 88 88=0:=by
    rcases L6 mo with h|h
    . exact absurd h h4
    . exact QN h.1
   have hs:Nat.beq (aY s 88 88) 0=false:=by
    unfold bo at hX;rw[Dj,Dj,hm,rg]at hX;rw[Bool.not_eq_true']at hX;exact hX
   have hI:=hF.1;unfold mK at hI;obtain⟨c0,c1,c2,c3,rfl,_⟩:=sV hx hs;rw[hs,cond_false]at hI;cases ng with
   | true=>have:=hI.2.1;have:=hI.2.2.1;omega
   | false=>have:=hI.2.1;omega
 . exact⟨by omega,.inr (.inl h3)⟩
 . exact⟨by omega,.inr (.inl h3)⟩
def j9(R:List Rn):Bool:=R.all λr=>aa (bA r.a r.b r.c r.d) 0
def bq(R:List Rn)(x:Int):Bool:=R.any λr=>cP r.a r.b r.c r.d x
def YM:dP:=λargs=>match args with
 | [.h [.a .i8 a,.a .i64 b,.a .i8 c,.a .i64 d],.a .i64 x]=>some (aH [af .i64 b,af .i64 d,af .i64 x,aa (bA a b c d) 0] (.a0 (.a .i64 (bI (cP a b c d x)))))
 | _=>none
def Yt:kS:=λargs ws=>match args,ws with
 | [.c 14 0 n k,.a .i64 x],[.a w false none]=>some (aH [eJ w,Nat.beq (g8 w).length n,Nat.ble 1 n,Nat.ble n 4,j9 (g8 w),af .i64 x] (.a0 (.a .i64 (bI (bq (g8 w) x)),[])))
 | _,_=>none
theorem H9{a:Int}(h:bA a b c d=0):cP a b c d x=((!(aa a 0) || ab b x)&&(!(aa c 0) || ab x d)):=by
 obtain⟨h1,h2,_⟩:=gA.1 h;rw[Bool.eq_iff_iff,zAa,Bool.or_eq_true,Bool.or_eq_true,Bool.not_eq_true',Bool.not_eq_true',aw,aw,aq,aq];unfold cP;rw[zAb];omega
theorem We(hS:ak Tryz.prog cfg S):ak Tryz.prog cfg (bb S 29 YM):=au hS λargs t v he hv=>by
 unfold YM at he;split at he
 . rename_i a b c d x;cases he;replace hv:=aF hv;obtain⟨⟨h1,h2,h3,h4,-⟩,hv⟩:=hv;cases hv;have e:=H9 (x:=x) (ao.mp h4);refine nF aW ai (bE 1003038114020207400533810230538103323811437074220224220740) (R:=λQ=>(λ(A E H N:Bool)(I O:Prop)=>(λ(C:Bool)(B F P T:Prop)=>(λ(G:Prop)=>(λ(U:Prop->Prop->Prop)=>(E->U E ((C->C/\C/\C/\C/\(A->A/\A/\A/\A/\C/\A/\P/\T)/\(B->B/\B/\B/\B/\C/\B/\P/\I))/\(G->U G (H/\O))))/\(F->U F ((A->U A T)/\(B->U B I)))) (λu0 u1=>u0/\u0/\u0/\u0/\u0/\u1)) (C=false)) (not H) (A=false) (E=false) (H=false) ((N->O)/\(N=false->I))) (aa c 0) (aa a 0) (not (ab b x)) (not (ab x d)) (Q (.a .i64 1)) (Q (.a .i64 0))) (λ_=>by kernel_rfl) λQ' hQ=>?_;try dsimp only
   rw[e]at hQ;cases k1:aa a 0<;>cases k2:ab b x<;>cases k3:aa c 0<;>cases k4:ab x d<;>rw[k1,k2,k3,k4]at hQ<;>simp only[k1,k2,k3,k4,Bool.not_true,Bool.not_false,reduceCtorEq,zAh]at hQ ⊢<;>exact hQ
 . cases he
theorem fu{R:List Rn}:∀x∈[aD.a (bh R) false none],cR 14 x:=λx hx=>by
 simp only[zAe]at hx;subst hx;exact aO sR
theorem fTS{k:fg}{x:Int}(hx:af .i64 x):∀{R:List Rn},eJ (bh R)->1<=R.length->R.length<=4->j9 R->bu Tryz.prog cfg 28 [.c 14 0 R.length k,.a .i64 x] [.a (bh R) false none] (.a .i64 (bI (bq R x))) []
 | [],_,h,_,_=>absurd h (by decide)
 | [r0],hi,_,_,hr=>by
   simp only[bh,eJ,zAa]at hi;simp only[j9,List.all_cons,List.all_nil,zAa]at hr;obtain⟨i0,j0,-⟩:=hi;obtain⟨g0,-⟩:=hr;refine ns gx fu ai (bE 100147520070005) (R:=λQ=>(λ(A B:Bool)=>A/\A/\A/\A/\A/\A/\A/\(B->Q (.a .i64 1))/\(B=false->Q (.a .i64 0))) (aa (bA r0.a r0.b r0.c r0.d) 0) (cP r0.a r0.b r0.c r0.d x)) (λ_=>by kernel_rfl) λQ' hQ=>?_;try dsimp only
   simp only[bq,List.any_cons,List.any_nil,Bool.or_false]at hQ;cases k0:cP r0.a r0.b r0.c r0.d x<;>rw[k0]at hQ<;>simp only[g0,hx,k0,Bool.true_or,Bool.false_or,bI,zAj,reduceCtorEq,zAh]at hQ ⊢<;>exact hQ
 | [r0,r1],hi,_,_,hr=>by
   simp only[bh,eJ,zAa]at hi;simp only[j9,List.all_cons,List.all_nil,zAa]at hr;obtain⟨i0,j0,i1,j1,-⟩:=hi;obtain⟨g0,g1,-⟩:=hr;refine ns gx fu ai (bE 1001475200755147520070005) (R:=λQ=>(λ(A B C F:Bool)(E:Prop)=>A/\A/\A/\A/\A/\A/\A/\(C->E)/\(C=false->B/\B/\B/\B/\B/\B/\B/\(F->E)/\(F=false->Q (.a .i64 0)))) (aa (bA r0.a r0.b r0.c r0.d) 0) (aa (bA r1.a r1.b r1.c r1.d) 0) (cP r0.a r0.b r0.c r0.d x) (cP r1.a r1.b r1.c r1.d x) (Q (.a .i64 1))) (λ_=>by kernel_rfl) λQ' hQ=>?_;try dsimp only
   simp only[bq,List.any_cons,List.any_nil,Bool.or_false]at hQ;cases k0:cP r0.a r0.b r0.c r0.d x<;>cases k1:cP r1.a r1.b r1.c r1.d x<;>rw[k0,k1]at hQ<;>simp only[g0,g1,hx,k0,k1,Bool.true_or,Bool.false_or,bI,zAj,reduceCtorEq,zAh]at hQ ⊢<;>exact hQ
 | [r0,r1,r2],hi,_,_,hr=>by
   simp only[bh,eJ,zAa]at hi;simp only[j9,List.all_cons,List.all_nil,zAa]at hr;obtain⟨i0,j0,i1,j1,i2,j2,-⟩:=hi;obtain⟨g0,g1,g2,-⟩:=hr;refine ns gx fu ai (bE 10014752007551475200755147520070005) (R:=λQ=>(λ(A B C F G H:Bool)(E:Prop)=>A/\A/\A/\A/\A/\A/\A/\(F->E)/\(F=false->B/\B/\B/\B/\B/\B/\B/\(G->E)/\(G=false->C/\C/\C/\C/\C/\C/\C/\(H->E)/\(H=false->Q (.a .i64 0))))) (aa (bA r0.a r0.b r0.c r0.d) 0) (aa (bA r1.a r1.b r1.c r1.d) 0) (aa (bA r2.a r2.b r2.c r2.d) 0) (cP r0.a r0.b r0.c r0.d x) (cP r1.a r1.b r1.c r1.d x) (cP r2.a r2.b r2.c r2.d x) (Q (.a .i64 1))) (λ_=>by kernel_rfl) λQ' hQ=>?_;try dsimp only
   simp only[bq,List.any_cons,List.any_nil,Bool.or_false]at hQ;cases k0:cP r0.a r0.b r0.c r0.d x<;>cases k1:cP r1.a r1.b r1.c r1.d x<;>cases k2:cP r2.a r2.b r2.c r2.d x<;>rw[k0,k1,k2]at hQ<;>simp only[g0,g1,g2,hx,k0,k1,k2,Bool.true_or,Bool.false_or,bI,zAj,reduceCtorEq,zAh]at hQ ⊢<;>exact hQ
 | [r0,r1,r2,r3],hi,_,_,hr=>by
   simp only[bh,eJ,zAa]at hi;simp only[j9,List.all_cons,List.all_nil,zAa]at hr;obtain⟨i0,j0,i1,j1,i2,j2,i3,j3,-⟩:=hi;obtain⟨g0,g1,g2,g3,-⟩:=hr;refine ns gx fu ai (bE 100147520075514752007551475200755147520070005) (R:=λQ=>(λ(A B C E G H I N:Bool)(F:Prop)=>(λ(O:Prop->Prop->Prop)=>O A ((G->F)/\(G=false->O B ((H->F)/\(H=false->O C ((I->F)/\(I=false->O E ((N->F)/\(N=false->Q (.a .i64 0)))))))))) (λu0 u1=>u0/\u0/\u0/\u0/\u0/\u0/\u0/\u1)) (aa (bA r0.a r0.b r0.c r0.d) 0) (aa (bA r1.a r1.b r1.c r1.d) 0) (aa (bA r2.a r2.b r2.c r2.d) 0) (aa (bA r3.a r3.b r3.c r3.d) 0) (cP r0.a r0.b r0.c r0.d x) (cP r1.a r1.b r1.c r1.d x) (cP r2.a r2.b r2.c r2.d x) (cP r3.a r3.b r3.c r3.d x) (Q (.a .i64 1))) (λ_=>by kernel_rfl) λQ' hQ=>?_;try dsimp only
   simp only[bq,List.any_cons,List.any_nil,Bool.or_false]at hQ;cases k0:cP r0.a r0.b r0.c r0.d x<;>cases k1:cP r1.a r1.b r1.c r1.d x<;>cases k2:cP r2.a r2.b r2.c r2.d x<;>cases k3:cP r3.a r3.b r3.c r3.d x<;>rw[k0,k1,k2,k3]at hQ<;>simp only[g0,g1,g2,g3,hx,k0,k1,k2,k3,Bool.true_or,Bool.false_or,bI,zAj,reduceCtorEq,zAh]at hQ ⊢<;>exact hQ
 | _::_::_::_::_::_,_,_,h,_=>absurd h (by simp)
theorem UY(hS:ak Tryz.prog cfg S):ak Tryz.prog cfg (eQ S 28 (fl 14 [4] Yt)):=by
 refine bm hS (fW dI.lv Az λargs ws t r he hr=>?_);unfold Yt at he;split at he
 . rename_i n k x w;cases he;replace hr:=aF hr;obtain⟨⟨h1,h2,h3,h4,h5,h6,-⟩,hr⟩:=hr;cases hr;have e:=hZ h1;rw[aJ]at h2;rw[al]at h3 h4;subst h2;refine⟨?_,λx hx=>by cases hx⟩;have h:=@fTS k x h6 (g8 w) (by rw[e];exact h1) h3 h4 h5;rw[e]at h;exact h
 . cases he
noncomputable def SA:aQ:=eQ (bb (bb gZ 92 Tf) 91 QQ) 93 (fl 14 [] LN)
def iM(ng lg:Bool)(s:List UInt8)(e:Int)(mo da:List UInt8):Bool:=aV ng lg s e 0&&(Nat.ble s.length 1000&&(lP s&&wh mo da))
def zA(ng:Bool)(s:List UInt8)(e:Int):Nat:=(s5 ng s e+1-jR ng s e).toNat
def ni(C:List Ci):AV:=match C.length with
 | 0=>.f
 | k+1=>.c 15 0 (k+1) (.a 0)
def oS(C:List Ci)(b0:aD):aB:=match C.length with
 | 0=>⟨1,[b0],[]⟩
 | _+1=>⟨2,[.a (bJ C) true (some 3),b0],[]⟩
def Qv:dW:=λvs o=>match vs,o with
 | [.g 14 0,.f,.a .i64 hi,.a .i64 y],⟨1,[.a [.b ng,.b lg,.d s,.a .i64 e,.a .i64 g,.d mo,.d da,.a .u8 a,.a .u8 b,.a .u8 c] true none],[]⟩=>
   some (aH [aa g 0,iM ng lg s e mo da,aa hi (s5 ng s e),aa y (jR ng s e),Nat.ble (aP ng s e mo da).length 1000000] (.a0 (.b 0,[.g 14 0,ni (aP ng s e mo da),.a .i64 hi,.a .i64 (jR ng s e+Int.ofNat (zA ng s e))],oS (aP ng s e mo da) (bB ng lg s e 0 mo da a b c))))
 | _,_=>none
theorem KW:ak Tryz.prog cfg SA:=OE (Rc (TD aW))
theorem pM{f:Int->List Ci}:∀{i:Nat} {a:Int},jQ f a (i+1)=jQ f a i++f (a+i)
 | 0,a=>by
   show f a++[]=[]++f (a+0);rw[List.append_nil,List.nil_append,Int.add_zero]
 | i+1,a=>by
   rw[jQ,pM,jQ,List.append_assoc,show a+1+(i:Int)=a+((i+1:Nat):Int)by omega]
theorem GX{f:Int->List Ci}{a:Int}{i:Nat}:∀{n:Nat},i<=n->(jQ f a i).length<=(jQ f a n).length
 | 0,h=>by rw[Nat.le_zero.1 h];exact Nat.le_refl _
 | n+1,h=>by
   by_cases e:i=n+1
   . rw[e];exact Nat.le_refl _
   . have:=@GX f a i n (by omega);rw[pM,zAg];omega
theorem zT:∀{C:List Ci},dM (bJ C)=true
 | []=>rfl
 | c::C=>by
   show dM (.a .i64 c.1::.a .i64 c.2.1::.a .i64 c.2.2::bJ C)=true;simp only[dM,KU,zT (C:=C),Bool.and_self]
theorem Fm{C:List Ci}:List.take (C.length*3) (List.drop 0 (bJ C))=bJ C:=by
 rw[List.drop_zero];exact List.take_of_length_le (by rw[mB];exact Nat.le_refl _)
theorem oM(h:C.length=0):ni C=.f/\oS C b0=⟨1,[b0],[]⟩:=by unfold ni oS;rw[h];exact⟨rfl,rfl⟩
theorem jL(h:0<C.length):ni C=.c 15 0 C.length (.a 0)/\oS C b0=⟨2,[.a (bJ C) true (some 3),b0],[]⟩:=by
 obtain⟨k,hk⟩:∃k,C.length=k+1:=⟨_,(Nat.succ_pred_eq_of_pos h).symm⟩;unfold ni oS;rw[hk];exact⟨rfl,rfl⟩
theorem P8:1<=(oS C b0).n:=by
 unfold oS;split<;>simp
theorem IW{b:Bool}:aa (bI b) 1=b:=by cases b<;>rfl
theorem WK:cu Tryz.prog (cH cfg SA) (Cw cfg []) (lb 51 0) 30 [1,3,5,6] Qv:=by
 intro vs o t Q hv hq J;unfold Qv at hv;split at hv
 . rename_i hi y ng lg s e g mo da a b c;cases hv;replace hq:=cO hq;obtain⟨⟨k1,k2,k3,k4,k5,-⟩,hq⟩:=hq;rw[ao]at k1 k3 k4;rw[al]at k5;subst k1 k3 k4;unfold iM at k2;simp only[zAa]at k2;obtain⟨o1,o2,o3,o4⟩:=k2;have lh:=Bf o1 o3;have hq:Q (.b 0,[.g 14 0,ni (aP ng s e mo da),.a .i64 (s5 ng s e),.a .i64 (jR ng s e+Int.ofNat (zA ng s e))],oS (aP ng s e mo da) (bB ng lg s e 0 mo da a b c)):=hq;have hN:∀i:Nat,i<=zA ng s e->(i<zA ng s e↔jR ng s e+Int.ofNat i<=s5 ng s e):=λi hi=>by
    unfold zA at hi ⊢;simp only[Int.ofNat_eq_natCast];omega
   refine ia KW rfl rfl ai (ι:={i:Nat // i<=zA ng s e}) (λx=>[.g 14 0,ni (jQ (ks ng s e mo da) (jR ng s e) x.1),.a .i64 (s5 ng s e),.a .i64 (jR ng s e+Int.ofNat x.1)]) (λx=>oS (jQ (ks ng s e mo da) (jR ng s e) x.1) (bB ng lg s e 0 mo da a b c)) (λx=>zA ng s e-x.1) 1 (λx=>P8) (λx J=>?_) (Nat.le_refl _) (λJ=>Wk.a0 ⟨⟨0,Nat.zero_le _⟩,J,by simp only[Int.ofNat_eq_natCast,Int.natCast_zero,Int.add_zero];rfl⟩) J;obtain⟨i,hi⟩:=x;dsimp only;have hNi:=hN i hi;have bl:cR (14+1) (bB ng lg s e 0 mo da a b c):=aO (by simp[bw,aC]);have hlow:∀z∈[bB ng lg s e 0 mo da a b c],cR (14+1) z:=λz hz=>by
    simp only[zAe]at hz;subst hz;exact bl
   have fin:¬i<zA ng s e->∃vs2 o2,VW cfg (Cw cfg []) 1 30 [1,3,5,6] [.g 14 0,ni (jQ (ks ng s e mo da) (jR ng s e) i),.a .i64 (s5 ng s e),.a .i64 (jR ng s e+Int.ofNat i)] (oS (jQ (ks ng s e mo da) (jR ng s e) i) (bB ng lg s e 0 mo da a b c)) vs2 o2/\Q (.b 0,vs2,o2):=λh=>by
    obtain rfl:i=zA ng s e:=by omega
    exact⟨_,_,VW.b0,hq⟩
   have go:i<zA ng s e->∀vs o,VW cfg (Cw cfg []) 1 30 [1,3,5,6] vs o [.g 14 0,ni (jQ (ks ng s e mo da) (jR ng s e) i++ks ng s e mo da (jR ng s e+Int.ofNat i)),.a .i64 (s5 ng s e),.a .i64 (jR ng s e+Int.ofNat i+1)] (oS (jQ (ks ng s e mo da) (jR ng s e) i++ks ng s e mo da (jR ng s e+Int.ofNat i)) (bB ng lg s e 0 mo da a b c))->∃x:{i:Nat // i<=zA ng s e},zA ng s e-x.1<zA ng s e-i/\VW cfg (Cw cfg []) 1 30 [1,3,5,6] vs o [.g 14 0,ni (jQ (ks ng s e mo da) (jR ng s e) x.1),.a .i64 (s5 ng s e),.a .i64 (jR ng s e+Int.ofNat x.1)] (oS (jQ (ks ng s e mo da) (jR ng s e) x.1) (bB ng lg s e 0 mo da a b c)):=λh vs o hv=>⟨⟨i+1,h⟩,by dsimp only;omega,by
    dsimp only;rw[pM,show jR ng s e+Int.ofNat (i+1)=jR ng s e+Int.ofNat i+1 by simp only[Int.ofNat_eq_natCast];omega];exact hv⟩
   have hlenT:i<zA ng s e->(jQ (ks ng s e mo da) (jR ng s e) i).length+(ks ng s e mo da (jR ng s e+Int.ofNat i)).length<=1000000:=λh=>by
    have h1:(jQ (ks ng s e mo da) (jR ng s e) (i+1)).length<=(aP ng s e mo da).length:=GX h;rw[pM,zAg]at h1;exact Nat.le_trans h1 k5
   have hyb:i<zA ng s e->lq (jR ng s e+Int.ofNat i)/\af .i64 (Int.add (jR ng s e+Int.ofNat i) 1)=true:=λh=>by
    have:=hNi.1 h;have h0:(0:Int)<=Int.ofNat i:=Int.natCast_nonneg i;refine⟨iZ.2 (by omega),?_⟩;rw[aE];simp only[eH,eE];show _<=jR ng s e+Int.ofNat i+1/\jR ng s e+Int.ofNat i+1<=_;omega
   clear hq hN;generalize hR:jQ (ks ng s e mo da) (jR ng s e) i=R at *;generalize s5 ng s e=hi' at *;generalize hY:jR ng s e+Int.ofNat i=y at *;have eK:ks ng s e mo da y=bif mP ng s e y then nk mo da y else[]:=rfl
   rw[eK]at go hlenT;generalize hCC:nk mo da y=C at *;have tk:=@Fm C;have on:=@zT C;have lC:Nat.ble (0+C.length*3) (bJ C).length=true:=al.mpr (by rw[mB];omega);have lC2:Nat.ble C.length C.length=true:=al.mpr (Nat.le_refl _);by_cases hR0:R.length=0
   . have hRn:R=[]:=List.eq_nil_of_length_eq_zero hR0;subst hRn;rw[(oM (b0:=bB ng lg s e 0 mo da a b c) hR0).1,(oM (b0:=bB ng lg s e 0 mo da a b c) hR0).2]at fin ⊢;rw[List.nil_append]at go;refine jJ (bE 11141142731140042200642700054) (R:=λQ=>(λ(I:aD)(B C:AV)(H:Bool)(E:Int)(F:List AV)(A:Nat)=>(λ(O P U:AV)(G N:Bool)(T:Nat)=>(λ(Y:List AV)(V W:Prop)=>(λ(Z:Prop)=>(ab y hi'->aV ng lg s e 0/\Nat.ble s.length 1000/\lP s/\lq y/\(H->wh mo da/\lq y/\(N->Z)/\(W->W/\and (and (Nat.ble (HAdd.hAdd 0 A) 1000000) true) true/\Nat.ble A A/\Nat.ble (HAdd.hAdd 0 T) F.length/\dM Y/\(G->Q (.a,[B,U,C,O],⟨3,[.a Y true (some 3),.a F true (some 3),I],[]⟩))/\(V->Q (.a,[B,U,C,P],⟨3,[.a Y true (some 3),.a F true (some 3),I],[]⟩))))/\(H=false->Z))/\(ab y hi'=false->Q (.b 0,[B,.f,C,.a .i64 y],⟨1,[I],[]⟩))) ((G->Q (.a,[B,.f,C,O],⟨1,[I],[]⟩))/\(V->Q (.a,[B,.f,C,P],⟨1,[I],[]⟩)))) (List.take T (List.drop 0 F)) (G=false) (N=false)) (.a .i64 E) (.a .i64 (IntKind.wrap .i64 E)) (.c 16 0 A (fg.a 0)) (af .i64 E) (Nat.beq A 0) (HMul.hMul A 3)) (.a [.b ng,.b lg,.d s,.a .i64 e,.a .i64 0,.d mo,.d da,.a .u8 a,.a .u8 b,.a .u8 c] true none) (.g 14 0) (.a .i64 hi') (aa (bI (mP ng s e y)) 1) (Int.add y 1) (bJ (nk mo da y)) (List.length (nk mo da y))) (λ_=>by kernel_rfl) λQ' hQ=>?_;try dsimp only
     by_cases hl:i<zA ng s e
     . obtain⟨f1,f2⟩:=hyb hl;have f3:=aq.mpr (hNi.1 hl);cases hB:mP ng s e y with
       | false=>
         have go2:=λvs o h=>hQ (.a,vs,o) (by rw[hB,cond_false]at go;exact go hl vs o h);have go3:=go2 _ _ VW.b0;rw[(oM (b0:=bB ng lg s e 0 mo da a b c) rfl).1,(oM (b0:=bB ng lg s e 0 mo da a b c) rfl).2]at go3;try dsimp only
         simp only[hCC,o1,o2,o3,o4,f1,f2,f3,hB,IW,reduceCtorEq,zAh];exact go3
       | true=>
         rw[hB,cond_true]at go hlenT;have hl6:Nat.ble (0+C.length) 1000000=true:=al.mpr (by have:=hlenT hl;simp only[List.length_nil]at this;omega);have go2:=λvs o h=>hQ (.a,vs,o) (go hl vs o h);by_cases hC:C.length=0
         . have go3:=go2 _ _ VW.b0;rw[(oM (b0:=bB ng lg s e 0 mo da a b c) hC).1,(oM (b0:=bB ng lg s e 0 mo da a b c) hC).2]at go3;have hb:=aJ.mpr hC;try dsimp only
           simp only[hCC,o1,o2,o3,o4,f1,f2,f3,hB,IW,hb,reduceCtorEq,zAh];exact go3
         . have hb:=b9.mpr hC;have hp:0<C.length:=Nat.pos_of_ne_zero hC;rw[(jL (b0:=bB ng lg s e 0 mo da a b c) hp).1,(jL (b0:=bB ng lg s e 0 mo da a b c) hp).2]at go2;have go3:=go2 _ _ (fx (tn:=30) (rel:=[1,3,5,6]) (vs:=[.g 14 0,.c 16 0 C.length (.a 0),.a .i64 hi',.a .i64 (y+1)]) (vs':=[.g 14 0,.c 15 0 C.length (.a 0),.a .i64 hi',.a .i64 (y+1)]) (x:=.a (bJ C) true (some 3)) (mid:=[.a (bJ C) true (some 3)]) (B:=[bB ng lg s e 0 mo da a b c]) (k:=1) (kb:=1) (n:=3) rfl rfl rfl hlow (aO gN) rfl);try dsimp only
           simp only[hCC,o1,o2,o3,o4,f1,f2,f3,hB,IW,hb,hl6,lC,lC2,tk,on,Bool.and_true,reduceCtorEq,zAh];exact go3
     . have f3:ab y hi'=false:=bF.mpr (by by_cases h:y<=hi';exact absurd (hNi.2 h) hl;omega);have fin2:=hQ (.b 0,_,_) (fin hl);try dsimp only
       simp only[f3,reduceCtorEq,zAh];exact fin2
   . have hRp:0<R.length:=Nat.pos_of_ne_zero hR0;rw[(jL (b0:=bB ng lg s e 0 mo da a b c) hRp).1,(jL (b0:=bB ng lg s e 0 mo da a b c) hRp).2]at fin ⊢;refine jJ (bE 1114114202731140042200642700054) (R:=λQ=>(λ(N:aD)(B C F:AV)(I:Bool)(E:Int)(G:List AV)(A:Nat)=>(λ(P T:AV)(H O:Bool)(U V:Nat)=>(λ(u0:AV)(Z:List AV)(W Y:Prop)=>(λ(u1:Prop)=>(ab y hi'->aV ng lg s e 0/\Nat.ble s.length 1000/\lP s/\lq y/\(I->wh mo da/\lq y/\(O->u1)/\(Y->Y/\and (and (Nat.ble U 1000000) true) true/\Nat.ble A A/\Nat.ble (HAdd.hAdd 0 V) G.length/\dM Z/\and true (Nat.beq (bJ R).length (HMul.hMul R.length 3))/\(H->Q (.a,[B,u0,C,P],⟨4,[.a ((bJ R)++Z) true (some 3),.a G true (some 3),aD.b,N],[]⟩))/\(W->Q (.a,[B,u0,C,T],⟨4,[.a ((bJ R)++Z) true (some 3),.a G true (some 3),aD.b,N],[]⟩))))/\(I=false->u1))/\(ab y hi'=false->Q (.b 0,[B,F,C,.a .i64 y],⟨2,[.a (bJ R) true (some 3),N],[]⟩))) ((H->Q (.a,[B,F,C,P],⟨2,[.a (bJ R) true (some 3),N],[]⟩))/\(W->Q (.a,[B,F,C,T],⟨2,[.a (bJ R) true (some 3),N],[]⟩)))) (.c 17 0 U (fg.a 0)) (List.take V (List.drop 0 G)) (H=false) (O=false)) (.a .i64 E) (.a .i64 (IntKind.wrap .i64 E)) (af .i64 E) (Nat.beq A 0) (HAdd.hAdd R.length A) (HMul.hMul A 3)) (.a [.b ng,.b lg,.d s,.a .i64 e,.a .i64 0,.d mo,.d da,.a .u8 a,.a .u8 b,.a .u8 c] true none) (.g 14 0) (.a .i64 hi') (.c 15 0 R.length (fg.a 0)) (aa (bI (mP ng s e y)) 1) (Int.add y 1) (bJ (nk mo da y)) (List.length (nk mo da y))) (λ_=>by kernel_rfl) λQ' hQ=>?_;try dsimp only
     by_cases hl:i<zA ng s e
     . obtain⟨f1,f2⟩:=hyb hl;have f3:=aq.mpr (hNi.1 hl);cases hB:mP ng s e y with
       | false=>
         rw[hB,cond_false,List.append_nil,(jL (b0:=bB ng lg s e 0 mo da a b c) hRp).1,(jL (b0:=bB ng lg s e 0 mo da a b c) hRp).2]at go;have go3:=hQ (.a,_,_) (go hl _ _ VW.b0);try dsimp only
         simp only[hCC,o1,o2,o3,o4,f1,f2,f3,hB,IW,reduceCtorEq,zAh];exact go3
       | true=>
         rw[hB,cond_true]at go hlenT;have hl6:Nat.ble (R.length+C.length) 1000000=true:=al.mpr (hlenT hl);have lR:Nat.beq (bJ R).length (R.length*3)=true:=aJ.mpr mB;have go2:=λvs o h=>hQ (.a,vs,o) (go hl vs o h);by_cases hC:C.length=0
         . have hCn:C=[]:=List.eq_nil_of_length_eq_zero hC;rw[hCn,List.append_nil,(jL (b0:=bB ng lg s e 0 mo da a b c) hRp).1,(jL (b0:=bB ng lg s e 0 mo da a b c) hRp).2]at go2;have go3:=go2 _ _ VW.b0;have hb:=aJ.mpr hC;try dsimp only
           simp only[hCC,o1,o2,o3,o4,f1,f2,f3,hB,IW,hb,reduceCtorEq,zAh];exact go3
         . have hb:=b9.mpr hC;have hp:0<(R++C).length:=by rw[zAg];omega
           rw[(jL (b0:=bB ng lg s e 0 mo da a b c) hp).1,(jL (b0:=bB ng lg s e 0 mo da a b c) hp).2,zAg,pE]at go2;have go3:=go2 _ _ (fx (tn:=30) (rel:=[1,3,5,6]) (vs:=[.g 14 0,.c 17 0 (R.length+C.length) (.a 0),.a .i64 hi',.a .i64 (y+1)]) (vs':=[.g 14 0,.c 15 0 (R.length+C.length) (.a 0),.a .i64 hi',.a .i64 (y+1)]) (x:=.a (bJ R++bJ C) true (some 3)) (mid:=[.a (bJ C) true (some 3),.b]) (B:=[bB ng lg s e 0 mo da a b c]) (k:=2) (kb:=1) (n:=4) rfl rfl rfl hlow (aO (by rw[gC,gN,gN];rfl)) rfl);try dsimp only
           simp only[hCC,o1,o2,o3,o4,f1,f2,f3,hB,IW,hb,hl6,lC,lC2,lR,tk,on,Bool.and_true,Bool.true_and,reduceCtorEq,zAh];exact go3
     . have f3:ab y hi'=false:=bF.mpr (by by_cases h:y<=hi';exact absurd (hNi.2 h) hl;omega);have fin2:=hQ (.b 0,_,_) (fin hl);try dsimp only
       simp only[f3,reduceCtorEq,zAh];exact fin2
 . cases hv
noncomputable def Z2:cx:=iz jE 0 (d9 30 [1,3,5,6] Qv)
def RM:kS:=λargs ws=>match args,ws with
 | [.h [.b ng,.b lg,.d s,.a .i64 e,.a .i64 g,.d mo,.d da,.a .u8 a,.a .u8 b,.a .u8 c]],[]=>some (aH [aa g 0,iM ng lg s e mo da,Nat.ble (aP ng s e mo da).length 1000000] (HP (aP ng s e mo da)))
 | _,_=>none
def O1:bj tab 51=some (dH 51,aL 51):=by kernel_rfl
def Ll:(bz (aL 51)).map (·.1)=[0]:=by kernel_rfl
theorem V4{a:Int}{v:AV}{news:List aD}(h:iM ng lg s e mo da)(hl:Nat.ble (aP ng s e mo da).length 1000000)(hv:dL [] v news (ni (aP ng s e mo da),oS (aP ng s e mo da) (bB ng lg s e 0 mo da a b c))) :
 bu Tryz.prog cfg 51 [.h [.b ng,.b lg,.d s,.a .i64 e,.a .i64 0,.d mo,.d da,.a .u8 a,.a .u8 b,.a .u8 c]] [] v news:=by
 refine Bu KW (L:=Z2) O1 (by simp) (dv Ll λi hi e he st Q hw=>?_) (jJ (bE 127070005) (R:=λQ=>aV ng lg s e 0/\Nat.ble s.length 1000/\lP s/\iM ng lg s e mo da/\aa (s5 ng s e) (s5 ng s e)/\aa (jR ng s e) (jR ng s e)/\Nat.ble (List.length (aP ng s e mo da)) 1000000/\(∀J1:Nat->Value,Q (Prod.fst (Prod.fst (ni (aP ng s e mo da),Prod.snd ([.g 14 0,ni (aP ng s e mo da),.a .i64 (s5 ng s e),.a .i64 (HAdd.hAdd (jR ng s e) (Int.ofNat (zA ng s e)))],oS (aP ng s e mo da) (.a [.b ng,.b lg,.d s,.a .i64 e,.a .i64 0,.d mo,.d da,.a .u8 a,.a .u8 b,.a .u8 c] true none))),Prod.snd (ni (aP ng s e mo da),Prod.snd ([.g 14 0,ni (aP ng s e mo da),.a .i64 (s5 ng s e),.a .i64 (HAdd.hAdd (jR ng s e) (Int.ofNat (zA ng s e)))],oS (aP ng s e mo da) (.a [.b ng,.b lg,.d s,.a .i64 e,.a .i64 0,.d mo,.d da,.a .u8 a,.a .u8 b,.a .u8 c] true none)))),Prod.snd (Prod.fst (ni (aP ng s e mo da),Prod.snd ([.g 14 0,ni (aP ng s e mo da),.a .i64 (s5 ng s e),.a .i64 (HAdd.hAdd (jR ng s e) (Int.ofNat (zA ng s e)))],oS (aP ng s e mo da) (.a [.b ng,.b lg,.d s,.a .i64 e,.a .i64 0,.d mo,.d da,.a .u8 a,.a .u8 b,.a .u8 c] true none))),Prod.snd (ni (aP ng s e mo da),Prod.snd ([.g 14 0,ni (aP ng s e mo da),.a .i64 (s5 ng s e),.a .i64 (HAdd.hAdd (jR ng s e) (Int.ofNat (zA ng s e)))],oS (aP ng s e mo da) (.a [.b ng,.b lg,.d s,.a .i64 e,.a .i64 0,.d mo,.d da,.a .u8 a,.a .u8 b,.a .u8 c] true none))))))) (λ_=>by kernel_rfl) λQ' hQ=>?_)
 . have hi:i=0:=by simp at hi;omega
   subst hi;cases he;exact bR (cC.a0 KW) (by decide) rfl WK hw
 . have hQ:=hQ _ hv;have h':=h;unfold iM at h';simp only[zAa]at h';have r1:aa (s5 ng s e) (s5 ng s e)=true:=ao.mpr rfl;have r2:aa (jR ng s e) (jR ng s e)=true:=ao.mpr rfl;try dsimp only
   simp only[h,hl,h'.1,h'.2.1,h'.2.2.1,r1,r2,reduceCtorEq,zAh];exact λ_=>hQ
theorem K0{r:AV×List aD}(h:(HP C).b0=some r):(C.length=0/\r=(.f,[]))\/(0<C.length/\r=(.c 14 0 C.length (.a 0),[.a (bJ C) true (some 3)])):=by
 unfold HP at h;simp only[Tr.b0]at h;cases hb:Nat.beq C.length 0 with
 | true=>rw[hb]at h;cases h;exact .inl ⟨aJ.mp hb,rfl⟩
 | false=>rw[hb]at h;cases h;rw[b9]at hb;exact .inr ⟨by omega,rfl⟩
theorem TF(hS:ak Tryz.prog cfg S):ak Tryz.prog cfg (eQ S 51 (fl 14 [] RM)):=by
 refine bm hS (fW dI.lv Az λargs ws t r he hr=>?_);unfold RM at he;split at he
 . rename_i ng lg s e g mo da a b c;cases he;replace hr:=aF hr;obtain⟨⟨k1,k2,k3,-⟩,hr⟩:=hr;rw[ao]at k1;subst k1;rcases K0 hr with⟨h0,rfl⟩|⟨h0,rfl⟩
   . refine⟨V4 k2 k3 ?_,λx hx=>by cases hx⟩;rw[(oM (b0:=bB ng lg s e 0 mo da a b c) h0).1,(oM (b0:=bB ng lg s e 0 mo da a b c) h0).2];exact dL.b0 rfl (by simp[aC]) rfl rfl
   . refine⟨V4 k2 k3 ?_,λx hx=>?_⟩
     . rw[(jL (b0:=bB ng lg s e 0 mo da a b c) h0).1,(jL (b0:=bB ng lg s e 0 mo da a b c) h0).2];exact dL.last (k:=1) rfl rfl (aO gN) rfl
     . simp only[zAe]at hx;subst hx;exact aO gN
 . cases he
theorem JS:cP 0 (iO y m d) 0 (iD y m d) x=vZ y m d x:=by
 rw[Bool.eq_iff_iff,j7];unfold cP;rw[zAb];omega
end Go.Ev
