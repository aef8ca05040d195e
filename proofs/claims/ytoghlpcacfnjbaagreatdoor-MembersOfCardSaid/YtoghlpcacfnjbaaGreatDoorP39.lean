import Derived.Test.YtoghlpcacfnjbaaGreatDoorP38
set_option linter.all false
set_option maxRecDepth 100000
set_option maxHeartbeats 4000000
namespace Go.Ev
open Go Go.Proofs
variable{d b e c x:Int}{ng lg:Bool}{s mo da:List UInt8}{S:aR}
def cU(d p:Int):Int:=bif aa p 3 then d else bif aa p 1 then aJ d else jE d
theorem pE{p:Int}(hp:1<=p/\p<=3)(hok:jS d p):jS (vI d p) p/\vI (vI d p) p=vI d p/\AF (vI d p) p=AF d p/\cU (vI d p) p=cU d p:=by
 have hp:p=1\/p=2\/p=3:=by omega
 rcases hp with rfl|rfl|rfl
 . have hc:bR d=true:=by simpa [jS,show aa 1 3=false from rfl]using hok
   have cb:=g8 hc;have e:vI d 1=bf (aJ d):=rfl;have ye:=(@x6 (aJ d)).1;have i1:=dQ.1 hc;have sp:=Go.Proofs.YtoghlpcacfnjbaaGreatDoor.yOf_spec d;have hlo:bf (-10000000000000000)<=bf (aJ d):=eo cb.1.1;rw[n8.1]at hlo;have hd:bf (aJ d)<=d:=sp.1;refine⟨?_,?_,?_,?_⟩
   . rw[e];exact MG (dQ.2 ⟨hlo,by omega⟩)
   . rw[e];show bf (aJ (bf (aJ d)))=_;rw[ye]
   . rw[e];show bf (aJ (bf (aJ d)))+364+ii (aJ (bf (aJ d)))=bf (aJ d)+364+ii (aJ d);rw[ye]
   . rw[e];show aJ (bf (aJ d))=aJ d;rw[ye]
 . have hc:bR d=true:=by simpa [jS,show aa 2 3=false from rfl]using hok
   have cb:=g8 hc;have e:vI d 2=aG (aJ d) (bu d):=rfl;have mi:=qz d;have mn:=@qB (aJ d) (bu d) mi;have ym:=xi mi (Int.le_refl (aG (aJ d) (bu d))) mn.2.1;have i1:=dQ.1 hc;have sp:=Go.Proofs.YtoghlpcacfnjbaaGreatDoor.mOf_spec d;have hlo:bf (-10000000000000000)<=bf (aJ d):=eo cb.1.1;rw[n8.1]at hlo;have hd:aG (aJ d) (bu d)<=d:=sp.2.2.1;refine⟨?_,?_,?_,?_⟩
   . rw[e];exact MG (dQ.2 ⟨by omega,by omega⟩)
   . rw[e];show aG (aJ (aG (aJ d) (bu d))) (bu (aG (aJ d) (bu d)))=_;rw[ym.1,ym.2]
   . rw[e];show aG (aJ (aG (aJ d) (bu d))) (bu (aG (aJ d) (bu d)))+dX (aJ (aG (aJ d) (bu d))) (bu (aG (aJ d) (bu d)))-1=aG (aJ d) (bu d)+dX (aJ d) (bu d)-1;rw[ym.1,ym.2]
   . rw[e];show jE (aG (aJ d) (bu d))=jE d;unfold jE;rw[ym.1,ym.2]
 . exact⟨rfl,rfl,rfl,rfl⟩
theorem Dc{c0 c1 c2 c3:UInt8}(hb:b=48\/b=57)(h0:cg c0)(h1:cg c1)(h2:cg c2)(h3:cg c3):nk c0 c1 c2 c3 (gj c0 c1 c2 c3 b):=by
 have v:∀c:UInt8,cg c->(0<=lu c b/\lu c b<=9)/\mt c (lu c b):=λc h=>by
  rw[dp]at h;unfold lu mt;by_cases e:c.toNat=88
  . rw[gb e,cond_true];exact⟨by omega,.inl e⟩
  . rw[g7 e,cond_false];exact⟨by omega,.inr (by omega)⟩
 obtain⟨a0,b0⟩:=v c0 h0;obtain⟨a1,b1⟩:=v c1 h1;obtain⟨a2,b2⟩:=v c2 h2;obtain⟨a3,b3⟩:=v c3 h3;unfold nk gj;generalize lu c0 b=x0 at *;generalize lu c1 b=x1 at *;generalize lu c2 b=x2 at *;generalize lu c3 b=x3 at *;refine⟨by omega,by omega,?_,?_,?_,?_⟩
 . rw[show(1000*x0+100*x1+10*x2+x3)/1000=x0 by omega];exact b0
 . rw[show(1000*x0+100*x1+10*x2+x3)/100%10=x1 by omega];exact b1
 . rw[show(1000*x0+100*x1+10*x2+x3)/10%10=x2 by omega];exact b2
 . rw[show(1000*x0+100*x1+10*x2+x3)%10=x3 by omega];exact b3
theorem RH{c0 c1 c2 c3:UInt8}(h0:cg c0)(h1:cg c1)(h2:cg c2)(h3:cg c3)(hx:aT [c0,c1,c2,c3] 88 88≠0):gj c0 c1 c2 c3 48<gj c0 c1 c2 c3 57:=by
 have v:∀c:UInt8,(c.toNat=88->lu c 48=0/\lu c 57=9)/\(c.toNat≠88->lu c 48=lu c 57):=λc=>by
  unfold lu;refine⟨λe=>?_,λe=>?_⟩
  . rw[gb e,cond_true,cond_true];omega
  . rw[g7 e,cond_false,cond_false]
 have g0:=v c0;have g1:=v c1;have g2:=v c2;have g3:=v c3;have hex:c0.toNat=88\/c1.toNat=88\/c2.toNat=88\/c3.toNat=88:=by
  by_cases e0:c0.toNat=88
  . exact .inl e0
  by_cases e1:c1.toNat=88
  . exact .inr (.inl e1)
  by_cases e2:c2.toNat=88
  . exact .inr (.inr (.inl e2))
  by_cases e3:c3.toNat=88
  . exact .inr (.inr (.inr e3))
  exfalso;apply hx;rw[iX,iX,iX,iX,od];rw[if_neg (by omega),if_neg (by omega),if_neg (by omega),if_neg (by omega)]
 unfold gj;generalize lu c0 48=x0 at *;generalize lu c1 48=x1 at *;generalize lu c2 48=x2 at *;generalize lu c3 48=x3 at *;generalize lu c0 57=y0 at *;generalize lu c1 57=y1 at *;generalize lu c2 57=y2 at *;generalize lu c3 57=y3 at *;omega
theorem Ir{a:Int}(hE:bJ ng lg s e 0 mo da a b c=0)(hy:∃k,rl ng s e k):0<(bZ ng s e mo da).length:=by
 obtain⟨ho,hX,_,h4,h5⟩:=fm (iG hE) fo;have lh:=vS ho hX;have mk:∀k m d,rl ng s e k->m∈cu mo->d∈eX da->d<=nw k m da->0<(bZ ng s e mo da).length:=λk m d h1 h2 h3 h4=>List.length_pos_iff_exists_mem.2 ⟨(k,m,d),(kq hX).2 ⟨h1,h2,h3,h4⟩⟩;cases hd:af da []with
 | true=>
   obtain⟨k,hk⟩:=hy;have e1:eX da=[0]:=by unfold eX;rw[hd];rfl
   have e2:∀m,nw k m da=0:=λm=>by unfold nw;rw[hd];rfl
   have hm:∃m,m∈cu mo:=by
    unfold cu;cases hm:af mo []with
    | true=>exact⟨0,by simp⟩
    | false=>
      cases hs:aa (aL mo) 0 with
      | false=>exact⟨aL mo,by simp⟩
      | true=>
        obtain⟨m0,m1,rfl,h0,h1,k0⟩:=oD (by decide) (h4 ⟨hm,al.mp hs⟩);obtain⟨x,hx⟩:=List.exists_mem_of_ne_nil _ k0;exact⟨x,hx⟩
   obtain⟨m,hm⟩:=hm;exact mk k m 0 hk hm (by rw[e1];simp) (by rw[e2];exact Int.le_refl _)
 | false=>
   obtain⟨m0,m1,d0,d1,rfl,rfl,h0,h1,h2,h3,k0,k1,hse,_⟩:=iT (iG hE) hd;have hF:Pj ng s e [m0,m1] [d0,d1]=true:=by
    unfold bJ at hE;rw[al.mpr (iG hE),cond_true]at hE;cases hf:Pj ng s e [m0,m1] [d0,d1]with
    | true=>rfl
    | false=>rw[hf,show af [d0,d1] []=false from rfl]at hE;exact absurd hE (by decide)
   unfold Pj at hF;obtain⟨k,g1,_,m,hm,d,hdd,hle⟩:=(wP ho hX (by rfl) (by decide) _ _ (Nat.le_refl _)).1 hF;refine mk k m d g1 ?_ hdd hle;unfold cu;rw[show af [m0,m1] []=false from rfl,al.mpr hse];exact hm
def gS(ng:Bool)(s:List UInt8)(e:Int)(mo da:List UInt8):Int:=bif af da []&&(!ng&&!(Nat.beq (aT s 88 88) 0))then((10^aT s 88 88*(cu mo).length:Nat):Int)else((bZ ng s e mo da).length:Int)
theorem Rb{C:List Ci}{x y:Ci}(hx:x∈C)(hy:y∈C)(h:x≠y):C.length≠1:=λhl=>by
 obtain⟨z,rfl⟩:=List.length_eq_one_iff.1 hl;simp only[zAf]at hx hy;exact h (hx.trans hy.symm)
theorem CQ{a:Int}(hE:bJ ng lg s e 0 mo da a b c=0)(hy:∃k,rl ng s e k):1<=gS ng s e mo da/\(gS ng s e mo da=1↔(bZ ng s e mo da).length=1):=by
 have hne:=Ir hE hy;obtain⟨ho,hX,_,h4,h5⟩:=fm (iG hE) fo;unfold gS;cases hb:(af da []&&(!ng&&!(Nat.beq (aT s 88 88) 0)))with
 | false=>rw[cond_false];omega
 | true=>
   rw[cond_true];simp only[zAa,Bool.not_eq_true',aP]at hb;obtain⟨rfl,rfl,hx⟩:=hb;obtain⟨c0,c1,c2,c3,rfl,g0,g1,g2,g3⟩:=rW hX hx;obtain⟨w,hw⟩:=List.exists_mem_of_length_pos hne;have hw:=(kq hX).1 hw;have hml:0<(cu mo).length:=List.length_pos_iff_exists_mem.2 ⟨_,hw.2.1⟩;have hxn:aT [c0,c1,c2,c3] 88 88≠0:=by rw[cr]at hx;exact hx
   have inYs:∀k,nk c0 c1 c2 c3 k->rl false [c0,c1,c2,c3] e k:=λk hk=>by
    unfold rl;rw[hx];exact hk
   have m1:=inYs _ (Dc (.inl rfl) g0 g1 g2 g3);have m2:=inYs _ (Dc (.inr rfl) g0 g1 g2 g3);have lt:=RH g0 g1 g2 g3 hxn;have e2:∀k m,nw k m ([]:List UInt8)=0:=λk m=>rfl;have hd0:=hw.2.2.1;have mem:∀k,rl false [c0,c1,c2,c3] e k->(k,w.2.1,(0:Int))∈bZ false [c0,c1,c2,c3] e mo []:=λk hk=>(kq hX).2 ⟨hk,hw.2.1,by show(0:Int)∈eX [];decide,by rw[e2];exact Int.le_refl _⟩;have nn:=Rb (mem _ m1) (mem _ m2) (λh=>by simp only[Prod.mk.injEq]at h;omega);have hp:10<=10^aT [c0,c1,c2,c3] 88 88:=by
    obtain⟨k,hk⟩:∃k,aT [c0,c1,c2,c3] 88 88=k+1:=⟨_,(Nat.succ_pred_eq_of_pos (Nat.pos_of_ne_zero hxn)).symm⟩;rw[hk,Nat.pow_succ];have:0<10^k:=Nat.pow_pos (by decide);omega
   have hm:10<=10^aT [c0,c1,c2,c3] 88 88*(cu mo).length:=Nat.le_trans hp (Nat.le_mul_of_pos_right _ hml);refine⟨by omega,?_⟩;constructor
   . intro h;omega
   . intro h;exact absurd h nn
def vv(some all:Bool):Int:=bif all then 3 else bif some then 2 else 1
def C4(ng:Bool)(s:List UInt8)(e:Int)(mo da:List UInt8)(x:Int):Int:=vv (bR x&&s6 ng s e mo da x) (bR x&&s6 ng s e mo da x&&aa (gS ng s e mo da) 1)
theorem Je{y m:Int}(h:nz y m d)(hd:d=0\/(1<=m/\m<=12/\1<=d/\d<=bP y m))(hx:tw y m d x):bR x=true:=by
 obtain⟨hy,_,hm⟩:=ku.1 h;have ye:=n8;have y1:bf (-10000000000000000)<=bf y:=eo hy.1;have ys:bf (y+1)<=bf (10000000000000000+1):=eo (by omega);have yl:bf (10000000000000000+1)=3652425000000000366:=by decide
 rw[qM]at hx;rw[dQ];have moIn:∀y m,1<=m/\m<=12->-10000000000000000<=y/\y<=10000000000000000->-3652425000000000000<=aG y m/\aG y (m+1)<=3652425000000000366:=λy m h1 h2=>by
  have:=@qB y m h1;have y1:bf (-10000000000000000)<=bf y:=eo h2.1;have ys:bf (y+1)<=bf (10000000000000000+1):=eo (by omega);omega
 rcases hd with rfl|⟨h1,h2,h3,h4⟩
 . have hm':m=0\/(1<=m/\m<=12)\/(21<=m/\m<=41):=by rcases hm with h|h|h<;>omega
   rcases hm with rfl|hm|⟨hm,hz⟩
   . have e1:jQ y 0 0=bf y:=rfl;have e2:jV y 0 0=bf (y+1)-1:=rfl;omega
   . have e1:jQ y m 0=aG y m:=by unfold jQ;rw[ay.mpr (show m≠0 by omega),bY.mpr (show m<13 by omega)];rfl
     have e2:jV y m 0=aG y (m+1)-1:=by unfold jV;rw[ay.mpr (show m≠0 by omega),bY.mpr (show m<13 by omega)];rfl
     have:=moIn y m hm hy;omega
   . have b:=xN hm;have e1:jQ y m 0=aG y (fR m):=by unfold jQ;rw[ay.mpr (show m≠0 by omega),ao.mpr (show 13<=m by omega)];rfl
     have e2:jV y m 0=aG (fk y m) (kK y m+2)-1:=by unfold jV;rw[ay.mpr (show m≠0 by omega),ao.mpr (show 13<=m by omega)];rfl
     have i1:=moIn y (fR m) b.1 hy;have hz:=bV.1 hz;have i2:=moIn (fk y m) (kK y m+1) (by unfold kK d_;omega) hz;rw[show kK y m+1+1=kK y m+2 by omega]at i2;omega
 . have e1:jQ y m d=aG y m+d-1:=by unfold jQ;rw[ay.mpr (show m≠0 by omega),bY.mpr (show m<13 by omega),ay.mpr (show d≠0 by omega)];rfl
   have e2:jV y m d=aG y m+d-1:=by unfold jV;rw[ay.mpr (show m≠0 by omega),bY.mpr (show m<13 by omega),ay.mpr (show d≠0 by omega)];rfl
   have:=moIn y m ⟨h1,h2⟩ hy;have hs:=@pQ y m h1 h2;have hl:bP y m=dX y m:=rfl;omega
theorem H7{a:Int}(hE:bJ ng lg s e 0 mo da a b c=0)(hy:∃k,rl ng s e k)(hU:∀y m d,rz ng s e mo da y m d->nz y m d):C4 ng s e mo da x=bif Nat.beq (BB x (bZ ng s e mo da)) 0 then 1 else bif Nat.beq (BB x (bZ ng s e mo da)) (bZ ng s e mo da).length then 3 else 2:=by
 have h1:=Ri (x:=x) hE;have h2:=NT (x:=x) hE;have h3:=(CQ hE hy).2;have hc:s6 ng s e mo da x->bR x=true:=λh=>by
  obtain⟨y,m,d,hF,hu⟩:=(Gp hE).1 h;refine Je (hU _ _ _ hF) ?_ hu;rcases jg hE hF with h|h|⟨_,_,h3,h|h⟩
  . exact .inl h.2.2.2
  . exact .inl h.2.2.1
  . exact .inl h.2
  . exact .inr ⟨h3.1,h3.2,h.2.1,h.2.2⟩
 unfold C4 vv;cases hf:s6 ng s e mo da x with
 | false=>
   rw[hf]at h2;have:BB x (bZ ng s e mo da)=0:=by
    by_cases h:BB x (bZ ng s e mo da)=0
    . exact h
    . exact absurd (h2.1 (by omega)) (by decide)
   rw[this];simp
 | true=>
   rw[hf]at h2;have:BB x (bZ ng s e mo da)=1:=by have:=h2.2 rfl;omega
   rw[this,hc hf];simp only[Bool.true_and];rw[show Nat.beq 1 0=false from rfl,cond_false,cond_true];by_cases h4:(bZ ng s e mo da).length=1
   . rw[al.mpr (h3.2 h4),aK.mpr h4.symm]
   . rw[ay.mpr (λh=>h4 (h3.1 h)),cr.mpr (λh=>h4 h.symm)]
theorem RL{l:List UInt8}(h:GJ l):aT l 88 88=0:=by
 unfold GJ at h;split at h
 . rfl
 . rename_i a b;rw[zAa]at h;unfold dB at h;have h1:=h.1;have h2:=h.2;simp only[zAa,zAb]at h1 h2;rw[iX,iX,od,if_neg (by omega),if_neg (by omega)]
 . cases h
theorem Cs{a y m:Int}(hE:bJ ng lg s e 0 mo da a b c=0)(hX:ba (s++mo++da))(hF:rz ng s e mo da y m d):nz y m d=true:=by
 obtain⟨ho,hx,_⟩:=fm (iG hE) fo;have b1:=Eu hx hF.1;have lh:=vS ho hx;have ml:=jl y m;rw[ku];refine⟨by omega,?_⟩;rcases jg hE hF with⟨_,_,rfl,rfl⟩|⟨h1,rfl,rfl,h4,h5,h6⟩|⟨_,_,h3,h|h⟩
 . exact⟨by omega,.inl rfl⟩
 . refine⟨by omega,.inr (.inr ⟨h6,MS h6 (by omega) (.inr ?_)⟩)⟩;have hm:aT mo 88 88=0:=by
    rcases JY mo with h|h
    . exact absurd h h4
    . exact RL h.1
   have hs:Nat.beq (aT s 88 88) 0=false:=by
    unfold ba at hX;rw[Cm,Cm,hm,od]at hX;rw[Bool.not_eq_true']at hX;exact hX
   have hI:=hF.1;unfold rl at hI;obtain⟨c0,c1,c2,c3,rfl,_⟩:=rW hx hs;rw[hs,cond_false]at hI;cases ng with
   | true=>have:=hI.2.1;have:=hI.2.2.1;omega
   | false=>have:=hI.2.1;omega
 . exact⟨by omega,.inr (.inl h3)⟩
 . exact⟨by omega,.inr (.inl h3)⟩
def iM(R:List Rn):Bool:=R.all λr=>aa (a_ r.a r.b r.c r.d) 0
def dH(R:List Rn)(x:Int):Bool:=R.any λr=>co r.a r.b r.c r.d x
def W9:dJ:=λargs=>match args with
 | [.agg [.int .i8 a,.int .i64 b,.int .i8 c,.int .i64 d],.int .i64 x]=>some (aH [ae .i64 b,ae .i64 d,ae .i64 x,aa (a_ a b c d) 0] (.ret (.bool (co a b c d x))))
 | _=>none
def XK:dJ:=λargs=>match args with
 | [.agg [.int .i8 a,.int .i64 b,.int .i8 c,.int .i64 d],.int .i64 x]=>some (aH [ae .i64 b,ae .i64 d,ae .i64 x,aa (a_ a b c d) 0] (.ret (.int .i64 (bI (co a b c d x)))))
 | _=>none
noncomputable def H1:aR:=aY gX 104 W9
def Yo:lB:=λargs ws=>match args,ws with
 | [.slice 14 0 n k,.int .i64 x],[.cells w false none]=>some (aH [eQ w,Nat.beq (jD w).length n,Nat.ble 1 n,Nat.ble n 4,iM (jD w),ae .i64 x] (.ret (.bool (dH (jD w) x),[])))
 | _,_=>none
def XZ:lB:=λargs ws=>match args,ws with
 | [.slice 14 0 n k,.int .i64 x],[.cells w false none]=>some (aH [eQ w,Nat.beq (jD w).length n,Nat.ble 1 n,Nat.ble n 4,iM (jD w),ae .i64 x] (.ret (.int .i64 (bI (dH (jD w) x)),[])))
 | _,_=>none
theorem Vu:a_ 0 x 0 x=0:=iO.2 ⟨.inl rfl,.inl rfl,.inr ⟨rfl,Int.le_refl _⟩⟩
theorem vM{a:Int}(h:a_ a b c d=0):(ab (cK a b 0 x) 0&&ab (cK 0 x c d) 0)=co a b c d x:=by
 obtain⟨h1,h2,_⟩:=iO.1 h;rw[Bool.eq_iff_iff,zAa,ao,ao];unfold co;rw[zAb];unfold cK jb
 (repeat' split)<;>omega
theorem H3{a:Int}(h:a_ a b c d=0):co a b c d x=((!(aa a 0) || ab b x)&&(!(aa c 0) || ab x d)):=by
 obtain⟨h1,h2,_⟩:=iO.1 h;rw[Bool.eq_iff_iff,zAa,Bool.or_eq_true,Bool.or_eq_true,Bool.not_eq_true',Bool.not_eq_true',ay,ay,ao,ao];unfold co;rw[zAb];omega
theorem Pb(hS:ak Tryz.prog cfg S):ak Tryz.prog cfg (aY S 104 W9):=au hS λargs t v he hv=>by
 unfold W9 at he;split at he
 . rename_i a b c d x;cases he;replace hv:=aF hv;obtain⟨⟨h1,h2,h3,h4,-⟩,hv⟩:=hv;cases hv;have e:=vM (x:=x) (al.mp h4);have h0:aa (a_ 0 x 0 x) 0=true:=al.mpr Vu;refine kP gi ag (bA 105681000588188170022002470022002475466) (R:=λQ=>(λ(A B F:Bool)(H:Prop)=>(λ(C E G:Prop)=>(λ(I:Prop->Prop->Prop)=>(F->F/\F/\F/\(A->I A ((B->I B (Q (.bool (ab (cK 0 x c d) 0))))/\(C->I C H)))/\(E->I E H))/\(G->G/\G/\G/\H)) (λu0 u1=>u0/\u0/\u0/\u0/\u0/\u0/\u1)) (B=false) (A=false) (F=false)) (aa (a_ a b c d) 0) (ab (cK a b 0 x) 0) (aa (a_ 0 x 0 x) 0) (Q (.bool false))) (λ_=>by kernel_rfl) λQ' hQ=>?_;try dsimp only
   rw[<-e]at hQ;cases k1:ab (cK a b 0 x) 0<;>rw[k1]at hQ<;>simp only[h0,h4,k1,Bool.true_and,Bool.false_and,reduceCtorEq,zAh]at hQ ⊢<;>exact hQ
 . cases he
theorem We(hS:ak Tryz.prog cfg S):ak Tryz.prog cfg (aY S 29 XK):=au hS λargs t v he hv=>by
 unfold XK at he;split at he
 . rename_i a b c d x;cases he;replace hv:=aF hv;obtain⟨⟨h1,h2,h3,h4,-⟩,hv⟩:=hv;cases hv;have e:=H3 (x:=x) (al.mp h4);refine kP aV ag (bA 1003038114020207400533810230538103323811437074220224220740) (R:=λQ=>(λ(A E H N:Bool)(I O:Prop)=>(λ(C:Bool)(B F P T:Prop)=>(λ(G:Prop)=>(λ(U:Prop->Prop->Prop)=>(E->U E ((C->C/\C/\C/\C/\(A->A/\A/\A/\A/\C/\A/\P/\T)/\(B->B/\B/\B/\B/\C/\B/\P/\I))/\(G->U G (H/\O))))/\(F->U F ((A->U A T)/\(B->U B I)))) (λu0 u1=>u0/\u0/\u0/\u0/\u0/\u1)) (C=false)) (not H) (A=false) (E=false) (H=false) ((N->O)/\(N=false->I))) (aa c 0) (aa a 0) (not (ab b x)) (not (ab x d)) (Q (.int .i64 1)) (Q (.int .i64 0))) (λ_=>by kernel_rfl) λQ' hQ=>?_;try dsimp only
   rw[e]at hQ;cases k1:aa a 0<;>cases k2:ab b x<;>cases k3:aa c 0<;>cases k4:ab x d<;>rw[k1,k2,k3,k4]at hQ<;>simp only[k1,k2,k3,k4,Bool.not_true,Bool.not_false,reduceCtorEq,zAh]at hQ ⊢<;>exact hQ
 . cases he
theorem fp{R:List Rn}:∀x∈[aE.cells (bB R) false none],cR 14 x:=λx hx=>by
 simp only[zAf]at hx;subst hx;exact aO rm
theorem GA:ak Tryz.prog cfg H1:=Pb aV
theorem fRS{k:eZ}{x:Int}(hx:ae .i64 x):∀{R:List Rn},eQ (bB R)->1<=R.length->R.length<=4->iM R->bt Tryz.prog cfg 57 [.slice 14 0 R.length k,.int .i64 x] [.cells (bB R) false none] (.bool (dH R x)) []
 | [],_,h,_,_=>absurd h (by decide)
 | [r0],hi,_,_,hr=>by
   simp only[bB,eQ,zAa]at hi;simp only[iM,List.all_cons,List.all_nil,zAa]at hr;obtain⟨i0,j0,-⟩:=hi;obtain⟨g0,-⟩:=hr;refine m8 GA fp ag (bA 100142756) (R:=λQ=>(λ(A:Bool)=>ae .i64 r0.b/\ae .i64 r0.d/\ae .i64 x/\aa (a_ r0.a r0.b r0.c r0.d) 0/\(A->Q (.bool true))/\(A=false->Q (.bool false))) (co r0.a r0.b r0.c r0.d x)) (λ_=>by kernel_rfl) λQ' hQ=>?_;try dsimp only
   simp only[dH,List.any_cons,List.any_nil,Bool.or_false]at hQ;cases k0:co r0.a r0.b r0.c r0.d x<;>rw[k0]at hQ<;>simp only[i0,j0,g0,hx,k0,Bool.true_or,Bool.false_or,bI,zAj,reduceCtorEq,zAh]at hQ ⊢<;>exact hQ
 | [r0,r1],hi,_,_,hr=>by
   simp only[bB,eQ,zAa]at hi;simp only[iM,List.all_cons,List.all_nil,zAa]at hr;obtain⟨i0,j0,i1,j1,-⟩:=hi;obtain⟨g0,g1,-⟩:=hr;refine m8 GA fp ag (bA 1001427056142756) (R:=λQ=>(λ(A C:Bool)(B:Prop)=>ae .i64 r0.b/\ae .i64 r0.d/\ae .i64 x/\aa (a_ r0.a r0.b r0.c r0.d) 0/\(A->B)/\(A=false->ae .i64 r1.b/\ae .i64 r1.d/\ae .i64 x/\aa (a_ r1.a r1.b r1.c r1.d) 0/\(C->B)/\(C=false->Q (.bool false)))) (co r0.a r0.b r0.c r0.d x) (co r1.a r1.b r1.c r1.d x) (Q (.bool true))) (λ_=>by kernel_rfl) λQ' hQ=>?_;try dsimp only
   simp only[dH,List.any_cons,List.any_nil,Bool.or_false]at hQ;cases k0:co r0.a r0.b r0.c r0.d x<;>cases k1:co r1.a r1.b r1.c r1.d x<;>rw[k0,k1]at hQ<;>simp only[i0,j0,g0,i1,j1,g1,hx,k0,k1,Bool.true_or,Bool.false_or,bI,zAj,reduceCtorEq,zAh]at hQ ⊢<;>exact hQ
 | [r0,r1,r2],hi,_,_,hr=>by
   simp only[bB,eQ,zAa]at hi;simp only[iM,List.all_cons,List.all_nil,zAa]at hr;obtain⟨i0,j0,i1,j1,i2,j2,-⟩:=hi;obtain⟨g0,g1,g2,-⟩:=hr;refine m8 GA fp ag (bA 10014270561427056142756) (R:=λQ=>(λ(A C E F:Bool)(B:Prop)=>ae .i64 r0.b/\ae .i64 r0.d/\A/\aa (a_ r0.a r0.b r0.c r0.d) 0/\(C->B)/\(C=false->ae .i64 r1.b/\ae .i64 r1.d/\A/\aa (a_ r1.a r1.b r1.c r1.d) 0/\(E->B)/\(E=false->ae .i64 r2.b/\ae .i64 r2.d/\A/\aa (a_ r2.a r2.b r2.c r2.d) 0/\(F->B)/\(F=false->Q (.bool false))))) (ae .i64 x) (co r0.a r0.b r0.c r0.d x) (co r1.a r1.b r1.c r1.d x) (co r2.a r2.b r2.c r2.d x) (Q (.bool true))) (λ_=>by kernel_rfl) λQ' hQ=>?_;try dsimp only
   simp only[dH,List.any_cons,List.any_nil,Bool.or_false]at hQ;cases k0:co r0.a r0.b r0.c r0.d x<;>cases k1:co r1.a r1.b r1.c r1.d x<;>cases k2:co r2.a r2.b r2.c r2.d x<;>rw[k0,k1,k2]at hQ<;>simp only[i0,j0,g0,i1,j1,g1,i2,j2,g2,hx,k0,k1,k2,Bool.true_or,Bool.false_or,bI,zAj,reduceCtorEq,zAh]at hQ ⊢<;>exact hQ
 | [r0,r1,r2,r3],hi,_,_,hr=>by
   simp only[bB,eQ,zAa]at hi;simp only[iM,List.all_cons,List.all_nil,zAa]at hr;obtain⟨i0,j0,i1,j1,i2,j2,i3,j3,-⟩:=hi;obtain⟨g0,g1,g2,g3,-⟩:=hr;refine m8 GA fp ag (bA 100142705614270561427056142756) (R:=λQ=>(λ(A C E F G:Bool)(B:Prop)=>ae .i64 r0.b/\ae .i64 r0.d/\A/\aa (a_ r0.a r0.b r0.c r0.d) 0/\(C->B)/\(C=false->ae .i64 r1.b/\ae .i64 r1.d/\A/\aa (a_ r1.a r1.b r1.c r1.d) 0/\(E->B)/\(E=false->ae .i64 r2.b/\ae .i64 r2.d/\A/\aa (a_ r2.a r2.b r2.c r2.d) 0/\(F->B)/\(F=false->ae .i64 r3.b/\ae .i64 r3.d/\A/\aa (a_ r3.a r3.b r3.c r3.d) 0/\(G->B)/\(G=false->Q (.bool false)))))) (ae .i64 x) (co r0.a r0.b r0.c r0.d x) (co r1.a r1.b r1.c r1.d x) (co r2.a r2.b r2.c r2.d x) (co r3.a r3.b r3.c r3.d x) (Q (.bool true))) (λ_=>by kernel_rfl) λQ' hQ=>?_;try dsimp only
   simp only[dH,List.any_cons,List.any_nil,Bool.or_false]at hQ;cases k0:co r0.a r0.b r0.c r0.d x<;>cases k1:co r1.a r1.b r1.c r1.d x<;>cases k2:co r2.a r2.b r2.c r2.d x<;>cases k3:co r3.a r3.b r3.c r3.d x<;>rw[k0,k1,k2,k3]at hQ<;>simp only[i0,j0,g0,i1,j1,g1,i2,j2,g2,i3,j3,g3,hx,k0,k1,k2,k3,Bool.true_or,Bool.false_or,bI,zAj,reduceCtorEq,zAh]at hQ ⊢<;>exact hQ
 | _::_::_::_::_::_,_,_,h,_=>absurd h (by simp)
theorem Ta(hS:ak Tryz.prog cfg S):ak Tryz.prog cfg (fw S 57 (fy 14 [4] Yo)):=by
 refine bm hS (ga dG.lv AD λargs ws t r he hr=>?_);unfold Yo at he;split at he
 . rename_i n k x w;cases he;replace hr:=aF hr;obtain⟨⟨h1,h2,h3,h4,h5,h6,-⟩,hr⟩:=hr;cases hr;have e:=iH h1;rw[aK]at h2;rw[aq]at h3 h4;subst h2;refine⟨?_,λx hx=>by cases hx⟩;have h:=@fRS k x h6 (jD w) (by rw[e];exact h1) h3 h4 h5;rw[e]at h;exact h
 . cases he
theorem fTS{k:eZ}{x:Int}(hx:ae .i64 x):∀{R:List Rn},eQ (bB R)->1<=R.length->R.length<=4->iM R->bt Tryz.prog cfg 28 [.slice 14 0 R.length k,.int .i64 x] [.cells (bB R) false none] (.int .i64 (bI (dH R x))) []
 | [],_,h,_,_=>absurd h (by decide)
 | [r0],hi,_,_,hr=>by
   simp only[bB,eQ,zAa]at hi;simp only[iM,List.all_cons,List.all_nil,zAa]at hr;obtain⟨i0,j0,-⟩:=hi;obtain⟨g0,-⟩:=hr;refine m8 gi fp ag (bA 100147520070005) (R:=λQ=>(λ(A B:Bool)=>A/\A/\A/\A/\A/\A/\A/\(B->Q (.int .i64 1))/\(B=false->Q (.int .i64 0))) (aa (a_ r0.a r0.b r0.c r0.d) 0) (co r0.a r0.b r0.c r0.d x)) (λ_=>by kernel_rfl) λQ' hQ=>?_;try dsimp only
   simp only[dH,List.any_cons,List.any_nil,Bool.or_false]at hQ;cases k0:co r0.a r0.b r0.c r0.d x<;>rw[k0]at hQ<;>simp only[g0,hx,k0,Bool.true_or,Bool.false_or,bI,zAj,reduceCtorEq,zAh]at hQ ⊢<;>exact hQ
 | [r0,r1],hi,_,_,hr=>by
   simp only[bB,eQ,zAa]at hi;simp only[iM,List.all_cons,List.all_nil,zAa]at hr;obtain⟨i0,j0,i1,j1,-⟩:=hi;obtain⟨g0,g1,-⟩:=hr;refine m8 gi fp ag (bA 1001475200755147520070005) (R:=λQ=>(λ(A B C F:Bool)(E:Prop)=>A/\A/\A/\A/\A/\A/\A/\(C->E)/\(C=false->B/\B/\B/\B/\B/\B/\B/\(F->E)/\(F=false->Q (.int .i64 0)))) (aa (a_ r0.a r0.b r0.c r0.d) 0) (aa (a_ r1.a r1.b r1.c r1.d) 0) (co r0.a r0.b r0.c r0.d x) (co r1.a r1.b r1.c r1.d x) (Q (.int .i64 1))) (λ_=>by kernel_rfl) λQ' hQ=>?_;try dsimp only
   simp only[dH,List.any_cons,List.any_nil,Bool.or_false]at hQ;cases k0:co r0.a r0.b r0.c r0.d x<;>cases k1:co r1.a r1.b r1.c r1.d x<;>rw[k0,k1]at hQ<;>simp only[g0,g1,hx,k0,k1,Bool.true_or,Bool.false_or,bI,zAj,reduceCtorEq,zAh]at hQ ⊢<;>exact hQ
 | [r0,r1,r2],hi,_,_,hr=>by
   simp only[bB,eQ,zAa]at hi;simp only[iM,List.all_cons,List.all_nil,zAa]at hr;obtain⟨i0,j0,i1,j1,i2,j2,-⟩:=hi;obtain⟨g0,g1,g2,-⟩:=hr;refine m8 gi fp ag (bA 10014752007551475200755147520070005) (R:=λQ=>(λ(A B C F G H:Bool)(E:Prop)=>A/\A/\A/\A/\A/\A/\A/\(F->E)/\(F=false->B/\B/\B/\B/\B/\B/\B/\(G->E)/\(G=false->C/\C/\C/\C/\C/\C/\C/\(H->E)/\(H=false->Q (.int .i64 0))))) (aa (a_ r0.a r0.b r0.c r0.d) 0) (aa (a_ r1.a r1.b r1.c r1.d) 0) (aa (a_ r2.a r2.b r2.c r2.d) 0) (co r0.a r0.b r0.c r0.d x) (co r1.a r1.b r1.c r1.d x) (co r2.a r2.b r2.c r2.d x) (Q (.int .i64 1))) (λ_=>by kernel_rfl) λQ' hQ=>?_;try dsimp only
   simp only[dH,List.any_cons,List.any_nil,Bool.or_false]at hQ;cases k0:co r0.a r0.b r0.c r0.d x<;>cases k1:co r1.a r1.b r1.c r1.d x<;>cases k2:co r2.a r2.b r2.c r2.d x<;>rw[k0,k1,k2]at hQ<;>simp only[g0,g1,g2,hx,k0,k1,k2,Bool.true_or,Bool.false_or,bI,zAj,reduceCtorEq,zAh]at hQ ⊢<;>exact hQ
 | [r0,r1,r2,r3],hi,_,_,hr=>by
   simp only[bB,eQ,zAa]at hi;simp only[iM,List.all_cons,List.all_nil,zAa]at hr;obtain⟨i0,j0,i1,j1,i2,j2,i3,j3,-⟩:=hi;obtain⟨g0,g1,g2,g3,-⟩:=hr;refine m8 gi fp ag (bA 100147520075514752007551475200755147520070005) (R:=λQ=>(λ(A B C E G H I N:Bool)(F:Prop)=>(λ(O:Prop->Prop->Prop)=>O A ((G->F)/\(G=false->O B ((H->F)/\(H=false->O C ((I->F)/\(I=false->O E ((N->F)/\(N=false->Q (.int .i64 0)))))))))) (λu0 u1=>u0/\u0/\u0/\u0/\u0/\u0/\u0/\u1)) (aa (a_ r0.a r0.b r0.c r0.d) 0) (aa (a_ r1.a r1.b r1.c r1.d) 0) (aa (a_ r2.a r2.b r2.c r2.d) 0) (aa (a_ r3.a r3.b r3.c r3.d) 0) (co r0.a r0.b r0.c r0.d x) (co r1.a r1.b r1.c r1.d x) (co r2.a r2.b r2.c r2.d x) (co r3.a r3.b r3.c r3.d x) (Q (.int .i64 1))) (λ_=>by kernel_rfl) λQ' hQ=>?_;try dsimp only
   simp only[dH,List.any_cons,List.any_nil,Bool.or_false]at hQ;cases k0:co r0.a r0.b r0.c r0.d x<;>cases k1:co r1.a r1.b r1.c r1.d x<;>cases k2:co r2.a r2.b r2.c r2.d x<;>cases k3:co r3.a r3.b r3.c r3.d x<;>rw[k0,k1,k2,k3]at hQ<;>simp only[g0,g1,g2,g3,hx,k0,k1,k2,k3,Bool.true_or,Bool.false_or,bI,zAj,reduceCtorEq,zAh]at hQ ⊢<;>exact hQ
 | _::_::_::_::_::_,_,_,h,_=>absurd h (by simp)
theorem Tf(hS:ak Tryz.prog cfg S):ak Tryz.prog cfg (fw S 28 (fy 14 [4] XZ)):=by
 refine bm hS (ga dG.lv AD λargs ws t r he hr=>?_);unfold XZ at he;split at he
 . rename_i n k x w;cases he;replace hr:=aF hr;obtain⟨⟨h1,h2,h3,h4,h5,h6,-⟩,hr⟩:=hr;cases hr;have e:=iH h1;rw[aK]at h2;rw[aq]at h3 h4;subst h2;refine⟨?_,λx hx=>by cases hx⟩;have h:=@fTS k x h6 (jD w) (by rw[e];exact h1) h3 h4 h5;rw[e]at h;exact h
 . cases he
end Go.Ev
