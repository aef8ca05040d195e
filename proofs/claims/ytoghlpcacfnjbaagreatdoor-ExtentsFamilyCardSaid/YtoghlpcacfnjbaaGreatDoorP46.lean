import Derived.Test.YtoghlpcacfnjbaaGreatDoorP45
set_option linter.all false
set_option maxRecDepth 100000
set_option maxHeartbeats 4000000
section
namespace Go.Ev
open Go Go.Proofs
variable{h ng lg:Bool}{s mo da:List UInt8}{e p b c d:Int}{q:FP}
theorem Fk{q:Rn}:∀{l:List Rn},mV (q::l)->bA q.a q.b q.c q.d=0
 | [],h=>h
 | _::_,h=>h.1
theorem DR:∀{l:List Rn} {z p:Rn},mV (p::l)->(z.a<p.a\/z.a=p.a/\z.b<=p.b)->CE z p l=true
 | [],_,_,_,_=>rfl
 | q::l,z,p,h,hz=>by
   obtain⟨h1,⟨h2,h3,h4⟩,h5⟩:=h;have h1:=gA.1 h1;have h6:=gA.1 (Fk h5);have hq:z.a<q.a\/z.a=q.a/\z.b<=q.b:=by omega
   have ih:=DR h5 hq;have i1:ab 0 (cq q.a q.b z.a z.b)=true:=by
    rw[aq];unfold cq iI;(repeat' split)<;>omega
   have i2:ab (cq q.c q.d p.c p.d) 0=false:=by
    rw[bF];unfold cq iI;(repeat' split)<;>omega
   unfold CE;rw[ih,i1,i2];rfl
theorem LA:∀{R:List Rn},mV R->1<=R.length->xq R=true
 | [],_,h=>by simp at h
 | r::l,h,_=>by
   have i1:ab 0 (cq r.a r.b r.a r.b)=true:=by
    rw[aq];unfold cq iI;(repeat' split)<;>omega
   have i2:ab (cq r.c r.d r.c r.d) 0=true:=by
    rw[aq];unfold cq iI;(repeat' split)<;>omega
   unfold xq;dsimp only;rw[i1,i2,DR h (.inr ⟨rfl,Int.le_refl _⟩)];rfl
theorem F6:∀{l:List Rn} {p:Rn},mV (p::l)->p.a=0->∀r∈p::l,r.a=0/\p.b<=r.b
 | [],p,_,ha,r,hr=>by
   rw[zAe]at hr;subst hr;exact⟨ha,Int.le_refl _⟩
 | q::l,p,h,ha,r,hr=>by
   obtain⟨h1,⟨h2,h3,h4⟩,h5⟩:=h;have h1:=gA.1 h1;rcases List.mem_cons.1 hr with rfl|hr
   . exact⟨ha,Int.le_refl _⟩
   . have ih:=F6 h5 h3 r hr;omega
theorem FY:∀{l:List Rn} {p:Rn},mV (p::l)->((p::l).getD l.length fo).c=0->∀r∈p::l,r.c=0/\r.d<=((p::l).getD l.length fo).d
 | [],p,_,ha,r,hr=>by
   rw[zAe]at hr;subst hr;exact⟨ha,Int.le_refl _⟩
 | q::l,p,h,ha,r,hr=>by
   obtain⟨h1,⟨h2,h3,h4⟩,h5⟩:=h;have h6:=gA.1 (Fk h5);have ih:=FY h5 ha;rcases List.mem_cons.1 hr with rfl|hr
   . have i1:=ih q (List.mem_cons_self ..);have e:((r::q::l).getD (q::l).length fo)=((q::l).getD l.length fo):=rfl;rw[e];omega
   . exact ih r hr
theorem ts1:aa (jc h h) 1=!h:=by cases h<;>rfl
theorem Z7:ab (jc h h) 1=!h:=by cases h<;>rfl
theorem FC{t1 t2 t3 t4 A B C D:Int}(h1:A=0->aa t1 1=false)(h2:A=0->ab t2 1)(h3:C=0->aa t3 1=false)(h4:C=0->ab t4 1):pQ t1 t2 t3 t4 A B C D=true:=by
 unfold pQ;cases kA:aa A 0 with
 | false=>
   cases kC:aa C 0 with
   | false=>rfl
   | true=>rw[h3 (ao.mp kC),h4 (ao.mp kC),Bool.or_true];rfl
 | true=>
   rw[h1 (ao.mp kA),h2 (ao.mp kA),Bool.or_true];cases kC:aa C 0 with
   | false=>rfl
   | true=>rw[h3 (ao.mp kC),h4 (ao.mp kC),Bool.or_true];rfl
theorem Ny{R:List Rn}(hs:mV R)(hn:1<=R.length):pQ (jc (bq R (rB (fL R))) (bq R (rB (fL R)))) (jc (bq R (Int.sub (rB (fL R)) 1)) (bq R (Int.sub (rB (fL R)) 1))) (jc (bq R (rD (fL R))) (bq R (rD (fL R)))) (jc (bq R (Int.add (rD (fL R)) 1)) (bq R (Int.add (rD (fL R)) 1))) (rA (fL R)) (rB (fL R)) (rC (fL R)) (rD (fL R))=true:=by
 cases R with
 | nil=>simp at hn
 | cons p l=>
   have eA:rA (fL (p::l))=p.a:=rfl;have eB:rB (fL (p::l))=p.b:=rfl;have eC:rC (fL (p::l))=((p::l).getD l.length fo).c:=rfl;have eD:rD (fL (p::l))=((p::l).getD l.length fo).d:=rfl;have hp:=gA.1 (Fk hs);have mem:(p::l).getD l.length fo∈p::l:=by
    rw[zAd,List.getElem?_eq_getElem (by simp)];exact List.getElem_mem _
   have hl:=(tg hs l.length (by simp)).1;have hl:=gA.1 hl;rw[eA,eB,eC,eD];refine FC (λha=>?_) (λha=>?_) (λhc=>?_) (λhc=>?_)
   . rw[ts1];have:bq (p::l) p.b=true:=by
      unfold bq;rw[List.any_eq_true];exact⟨p,List.mem_cons_self ..,decide_eq_true (by omega)⟩
     rw[this];rfl
   . rw[Z7];have:bq (p::l) (Int.sub p.b 1)=false:=by
      unfold bq;rw[List.any_eq_false];intro r hr;have:=F6 hs ha r hr;have e:Int.sub p.b 1=p.b-1:=rfl;rw[e,cP,zAb];omega
     rw[this];rfl
   . rw[ts1];have:bq (p::l) ((p::l).getD l.length fo).d=true:=by
      unfold bq;rw[List.any_eq_true];exact⟨_,mem,decide_eq_true (by omega)⟩
     rw[this];rfl
   . rw[Z7];have:bq (p::l) (Int.add ((p::l).getD l.length fo).d 1)=false:=by
      unfold bq;rw[List.any_eq_false];intro r hr;have:=FY hs hc r hr;have e:Int.add ((p::l).getD l.length fo).d 1=((p::l).getD l.length fo).d+1:=rfl;rw[e,cP,zAb];omega
     rw[this];rfl
theorem ts3{z:Bool}:aa (jc h (h&&z)) 1=!h:=by cases h<;>cases z<;>rfl
theorem ts4{z:Bool}:ab (jc h (h&&z)) 1=!h:=by cases h<;>cases z<;>rfl
def KD(k:Int)(ng lg:Bool)(s:List UInt8)(e:Int)(mo da:List UInt8)(p a b c d:Int):Prop:=
 Ir k ng s e mo da/\IY k ng lg s e 0 mo da 0 0 0/\af .i64 (rB (jF k ng s e mo da a b c d))/\af .i64 (rD (jF k ng s e mo da a b c d))/\
  pQ (tR k ng s e mo da p a b c d (rB (jF k ng s e mo da a b c d))) (tR k ng s e mo da p a b c d (Int.sub (rB (jF k ng s e mo da a b c d)) 1)) (tR k ng s e mo da p a b c d (rD (jF k ng s e mo da a b c d))) (tR k ng s e mo da p a b c d (Int.add (rD (jF k ng s e mo da a b c d)) 1)) (rA (jF k ng s e mo da a b c d)) (rB (jF k ng s e mo da a b c d)) (rC (jF k ng s e mo da a b c d)) (rD (jF k ng s e mo da a b c d))=true
theorem yc{p a b c d:Int}{z:Int->Bool}(hr:bA a b c d=0):pQ (jc (cP a b c d b) (cP a b c d b&&z b)) (jc (cP a b c d (Int.sub b 1)) (cP a b c d (Int.sub b 1)&&z (Int.sub b 1))) (jc (cP a b c d d) (cP a b c d d&&z d)) (jc (cP a b c d (Int.add d 1)) (cP a b c d (Int.add d 1)&&z (Int.add d 1))) a b c d=true:=by
 have hr:=gA.1 hr;refine FC (λh=>?_) (λh=>?_) (λh=>?_) (λh=>?_)
 . rw[ts3,show cP a b c d b=true from decide_eq_true (by omega)];rfl
 . have e:Int.sub b 1=b-1:=rfl;rw[ts4,e,show cP a b c d (b-1)=false from decide_eq_false (by omega)];rfl
 . rw[ts3,show cP a b c d d=true from decide_eq_true (by omega)];rfl
 . have e:Int.add d 1=d+1:=rfl;rw[ts4,e,show cP a b c d (d+1)=false from decide_eq_false (by omega)];rfl
theorem X7{a:Int}(hb:af .i64 b)(hd:af .i64 d)(hr:bA a b c d=0):KD 3 ng lg s e mo da p a b c d:=⟨rfl,rfl,hb,hd,@yc p a b c d (λ_=>zw a b c d p) hr⟩
theorem ZW{a:Int}(hb:af .i64 b)(hd:af .i64 d)(hr:bA a b c d=0):KD 4 ng lg s e mo da p a b c d:=⟨rfl,rfl,hb,hd,@yc p a b c d (λx=>aa x d) hr⟩
theorem Yy{a:Int}(hb:af .i64 b)(hd:af .i64 d)(hr:bA a b c d=0):KD 5 ng lg s e mo da p a b c d:=⟨rfl,rfl,hb,hd,@yc p a b c d (λx=>aa x b) hr⟩
theorem PA{a x:Int}(hE:bW ng lg s e 0 mo da a b c=0)(h:∃y m d,f_ ng s e mo da y m d/\vZ y m d x):aa (CH x (aP ng s e mo da)) 1=false:=by
 have hn:=(B8 hE).2 ((wG hE).2 h);unfold CH;rw[b9.mpr (show yZ x (aP ng s e mo da)≠0 by omega),cond_false];cases Nat.beq (yZ x (aP ng s e mo da)) (aP ng s e mo da).length<;>rfl
theorem Pd{a x:Int}(hE:bW ng lg s e 0 mo da a b c=0)(h:¬∃y m d,f_ ng s e mo da y m d/\vZ y m d x):ab (CH x (aP ng s e mo da)) 1=true:=by
 have hn:¬0<yZ x (aP ng s e mo da):=λk=>h ((wG hE).1 ((B8 hE).1 k));unfold CH;rw[aJ.mpr (show yZ x (aP ng s e mo da)=0 by omega),cond_true];rfl
theorem Zo{a:Int}{P:List Int}(hE:bW ng lg s e 0 mo da 0 0 0=0)(hX:bo (s++mo++da))(hy:∃k,mK ng s e k)(hs:s.length<=1000)(hP:P.length<=100)(hk:∀k,mK ng s e k->k∈P):KD 2 ng lg s e mo da p a b c d:=by
 obtain⟨ho,hx,_⟩:=dC (gq hE) dE;have hU:∀y m d,f_ ng s e mo da y m d->kY y m d=true:=λy m d h=>rW hE hX h;have hl:=GG (mo:=mo) (da:=da) hP hk;have h1:=xt hE hy;have hus:mh (aP ng s e mo da)=true:=by
  unfold mh;rw[List.all_eq_true];intro c hc;exact hU _ _ _ ((fy hx).1 hc)
 have md:=wD hE;obtain⟨⟨f1,f2⟩,l1,l2⟩:=FO hE hX hy;have b1:=Gx (hU _ _ _ f1);have b2:=Gx (hU _ _ _ l1);have eB:rB (jF 2 ng s e mo da a b c d)=iO (p1 (fG ng s e mo da)) (p2 (fG ng s e mo da)) (p3 (fG ng s e mo da)):=rfl;have eD:rD (jF 2 ng s e mo da a b c d)=iD (p1 (fF ng s e mo da)) (p2 (fF ng s e mo da)) (p3 (fF ng s e mo da)):=rfl;refine⟨?_,?_,?_,?_,?_⟩
 . exact al.mpr h1
 . show(aa 0 0&&(iM ng lg s e mo da&&(Nat.ble (aP ng s e mo da).length 1000000&&(!(Nat.beq (aP ng s e mo da).length 0)&&(mh (aP ng s e mo da)&&(aa (bW ng lg s e 0 mo da 0 0 0) 0&&bo (s++mo++da)))))))=true;unfold iM;rw[ho,hx,md,al.mpr hl,al.mpr hs,hus,hX,ao.mpr hE,b9.mpr (show(aP ng s e mo da).length≠0 by omega)];rfl
 . rw[eB,aE];simp only[eH,eE];omega
 . rw[eD,aE];simp only[eH,eE];omega
 . rw[eB,eD];refine FC (λ_=>?_) (λ_=>?_) (λ_=>?_) (λ_=>?_)
   . exact PA hE ⟨_,_,_,f1,j7.2 ⟨Int.le_refl _,b1.2.1⟩⟩
   . refine Pd hE λ⟨y,m,d,h,hi⟩=>?_;have hi:=j7.1 hi;have:=wX hE f1 h (f2 _ _ _ h);have e:Int.sub (iO (p1 (fG ng s e mo da)) (p2 (fG ng s e mo da)) (p3 (fG ng s e mo da))) 1=iO (p1 (fG ng s e mo da)) (p2 (fG ng s e mo da)) (p3 (fG ng s e mo da))-1:=rfl;rw[e]at hi;omega
   . exact PA hE ⟨_,_,_,l1,j7.2 ⟨b2.2.1,Int.le_refl _⟩⟩
   . refine Pd hE λ⟨y,m,d,h,hi⟩=>?_;have hi:=j7.1 hi;have:=wX hE h l1 (l2 _ _ _ h);have e:Int.add (iD (p1 (fF ng s e mo da)) (p2 (fF ng s e mo da)) (p3 (fF ng s e mo da))) 1=iD (p1 (fF ng s e mo da)) (p2 (fF ng s e mo da)) (p3 (fF ng s e mo da))+1:=rfl;rw[e]at hi;omega
theorem Ve{k op f:Int}{n z0 z1 m fr ma:Int}(hz0:0<=z0/\z0<=255)(hz1:0<=z1/\z1<=255)(hk:0<=k/\k<=255)(hfr : -32768<=fr/\fr<=32767)(hma:0<=ma/\ma<=255)(h:iB k f n z0 z1 m d=false) :
 KD (fK k f n z0 z1 m d) (wm k f ng n z0 z1 m d) (zQ k f n z0 z1 m d) (fS k f n z0 z1 m d) (fE k f n z0 z1 m d) (wt k f n z0 z1 m d) (wq k f n z0 z1 m d) (fP k p) (fA k op) (fB k p op fr) (fC k op) (fD k p op fr ma):=by
 obtain⟨h1,⟨_,_,_,_,hb,_,hd⟩,hl,_,_⟩:=BG (p:=p) (op:=op) (ng:=ng) hz0 hz1 hk hfr hma h;have hb:af .i64 (fB k p op fr)=true:=by rw[aE];exact hb
 have hd:af .i64 (fD k p op fr ma)=true:=by rw[aE];exact hd
 by_cases c2:k%5=2
 . have eK:fK k f n z0 z1 m d=3:=by unfold fK;rw[ao.mpr c2];rfl
   rw[eK]at h1 ⊢;exact X7 hb hd (zi.1 (Xb h1)).2.1
 . have e2:=aw.mpr c2;by_cases c3:k%5=3
   . have eK:fK k f n z0 z1 m d=4:=by unfold fK;rw[e2,ao.mpr c3];rfl
     rw[eK]at h1 ⊢;exact ZW hb hd (W3 h1).1
   . have e3:=aw.mpr c3;by_cases c4:k%5=4
     . have eK:fK k f n z0 z1 m d=5:=by unfold fK;rw[e2,e3,ao.mpr c4];rfl
       rw[eK]at h1 ⊢;exact Yy hb hd (Ww h1).1
     . have e4:=aw.mpr c4;have eK:fK k f n z0 z1 m d=2:=by unfold fK;rw[e2,e3,e4];rfl
       have hX:fX k f n z0 z1 m d=true:=by
        unfold iB at h;rw[e2,e3,e4]at h;simpa using h
       rw[eK]at h1 ⊢;obtain⟨_,_,_,hE,_,hXB,_⟩:=QW h1;have s1:fS k f n z0 z1 m d=gw f n z0 z1:=by unfold fS;rw[hX];rfl
       have s2:wm k f ng n z0 z1 m d=qV f ng n z0 z1:=by unfold wm;rw[hX];rfl
       have s3:fE k f n z0 z1 m d=kQ f z1:=by unfold fE;rw[hX];rfl
       obtain⟨P,hP,hm⟩:=@Jc f n z0 z1 (kQ f z1) (qV f ng n z0 z1) hz0 hz1;obtain⟨y,hy,_⟩:=@Fh f ng n z0 z1 hz0 hz1;exact Zo (P:=P) hE hXB ⟨y,by rw[s1,s2,s3];exact hy⟩ (by omega) hP (λk' hk'=>hm k' (by rw[s1,s2,s3]at hk';exact hk'))
def ZQ:dP:=λargs=>match args with
 | []=>some (.a0 (.b true))
 | _=>none
noncomputable def Y3:aQ:=eQ (eQ (eQ (eQ (bb gZ 9 ZQ) 5 (fl 14 [2] Z3)) 6 (fl 14 [4] YU)) 7 (fl 14 [4] Y4)) 8 (fl 14 [4] Ze)
theorem P1{R:List Rn}(hs:mV R)(hm:nD R)(hl:1<=R.length/\R.length<=4):xq R/\af .i64 (rB (fL R))/\af .i64 (rD (fL R))/\pQ (jc (bq R (rB (fL R))) (bq R (rB (fL R)))) (jc (bq R (Int.sub (rB (fL R)) 1)) (bq R (Int.sub (rB (fL R)) 1))) (jc (bq R (rD (fL R))) (bq R (rD (fL R)))) (jc (bq R (Int.add (rD (fL R)) 1)) (bq R (Int.add (rD (fL R)) 1))) (rA (fL R)) (rB (fL R)) (rC (fL R)) (rD (fL R))=true:=by
 have hi:=pD (CW hm);exact⟨LA hs hl.1,(@wy R 0 hi (by omega)).1,(@wy R (R.length-1) hi (by omega)).2,Ny hs hl.1⟩
theorem VU{S:aQ}(f9:bu Tryz.prog cfg 9 [] [] (.b true) [])(hS:ak Tryz.prog cfg S):ak Tryz.prog cfg (bb S 9 ZQ):=au hS λargs t v he hv=>by
 unfold ZQ at he;split at he
 . cases he;cases hv;exact f9
 . cases he
theorem Hx(f9:bu Tryz.prog cfg 9 [] [] (.b true) []):ak Tryz.prog cfg Y3:=Uo (Vc (Wx (UD (VU f9 aW))))
theorem f3n(f9:bu Tryz.prog cfg 9 [] [] (.b true) [])(k0:q.ok):bu Tryz.prog cfg 3 [q.a (.f)] [] (.b true) []:=by
 have r0:=P3 k0;obtain⟨k,p,op,f,ng,n,z0,z1,m,d,x,y,z,fr,ma⟩:=q;dsimp only at r0;obtain⟨ka,kp,ko,_,_,kz0,kz1,_,_,_,_,_,kf,km⟩:=k0;dsimp only at ka kp ko kz0 kz1 kf km;show bu Tryz.prog cfg 3 [.h [.a .u8 k,.a .u8 p,.a .u8 op,.a .u8 f,.b ng,.a .u16 n,.a .u8 z0,.a .u8 z1,.a .u8 m,.a .u8 d,.a .u8 x,.a .u8 y,.a .u8 z,.a .i16 fr,.a .u8 ma,.f]] [] (.b true) [];have a6:∀v:Int,aa v v=true:=λv=>ao.mpr rfl;cases ho:iB k f n z0 z1 m d with
 | true=>
    refine lF (Hx f9) WV ai (bE 100077070006614002270200056622705626677777556) (R:=λQ=>(λ(N:Int)=>(λ(O:List AV)(B:Nat)=>(λ(C E:Bool)(P:Nat)=>(λ(F:List AV)=>(λ(G H:Bool)(A:List Rn)=>(λ(I T:Bool)=>af .u8 k/\af .u8 p/\af .u8 op/\af .u8 f/\af .u16 n/\af .u8 z0/\af .u8 z1/\af .u8 m/\af .u8 d/\af .u8 x/\af .u8 y/\af .u8 z/\af .i16 fr/\af .u8 ma/\iB k f n z0 z1 m d/\G/\H/\I/\C/\E/\aa (dr 1 B (jo A) (dZ false false [] 0 0 [] [] 0 0 0) 0 (sZ 0 0 0 0) (bW false false [] 0 0 [] [] 0 0 0) 0 (bo []) (mZ 0 0 0) (dN 0 0 0 0 0) (bA 0 0 0 0) 0 0) 0/\G/\H/\I/\C/\E/\xq A/\(T->Q (.b false))/\(T=false->G/\af .i64 (rB (fL A))/\af .i64 (rD (fL A))/\H/\I/\C/\E/\j9 A/\pQ (jc (bq A (rB (fL A))) (bq A (rB (fL A)))) (jc (bq A (Int.sub (rB (fL A)) 1)) (bq A (Int.sub (rB (fL A)) 1))) (jc (bq A (rD (fL A))) (bq A (rD (fL A)))) (jc (bq A (Int.add (rD (fL A)) 1)) (bq A (Int.add (rD (fL A)) 1))) (rA (fL A)) (rB (fL A)) (rC (fL A)) (rD (fL A))/\Q (.b true))) (Nat.beq A.length B) (not (and (and (aa (rA (fL A)) (rA (fL A))) (and (aa (rB (fL A)) (rB (fL A))) true)) (and (and (aa (rC (fL A)) (rC (fL A))) (and (aa (rD (fL A)) (rD (fL A))) true)) true)))) (and true (and (Nat.ble (HAdd.hAdd 0 P) O.length) (bc 14 F))) (eJ F) (g8 F)) (b_ O 0 P)) (Nat.ble 1 B) (Nat.ble B 4) (HMul.hMul B 4)) (bh (eT fr ma (aa N 1) (aa N 2) [])) (nK (eT fr ma (aa N 1) (aa N 2) []))) (HMod.hMod op 4)) (λ_=>by kernel_rfl) λQ' hQ=>?_;try dsimp only
    try dsimp only
    have hQ:=hQ _ rfl;try dsimp only
    have hs:=CR (fr:=fr) (b1:=aa (op%4) 1) (b2:=aa (op%4) 2) (gs:=[]) km.1 (λp hp=>by cases hp);have hm:=zt (b1:=aa (op%4) 1) (b2:=aa (op%4) 2) (gs:=[]) kf km (λp hp=>by cases hp);have hl:=@Du fr ma (aa (op%4) 1) (aa (op%4) 2) [];generalize eT fr ma (aa (op%4) 1) (aa (op%4) 2) []=R at *;simp only[Hh,l_,iJ];simp only[r0,ho,PY (X:=0) hs hm hl,P1 hs hm hl,a6,reduceCtorEq,zAh,zAi,Bool.and_self,zAj];exact hQ
 | false=>
    refine lF (Hx f9) WV ai (bE 1000275661400255667000270270663227777556) (R:=λQ=>(λ(N T:Bool)(E F G H I O P:Int)(A B C:List UInt8)=>(λ(U:Bool)=>af .u8 k/\af .u8 p/\af .u8 op/\af .u8 f/\af .u16 n/\af .u8 z0/\af .u8 z1/\af .u8 m/\af .u8 d/\af .u8 x/\af .u8 y/\af .u8 z/\af .i16 fr/\af .u8 ma/\iB k f n z0 z1 m d=false/\Nat.ble A.length 1000/\Nat.ble B.length 1000/\Nat.ble C.length 1000/\af .i64 E/\af .i64 H/\af .i64 I/\af .i8 F/\af .i8 G/\af .u8 P/\Ir O N A E B C/\aa (dr O 0 0 (dZ N T A E 0 B C 0 0 0) P (sZ F H G I) (bW N T A E 0 B C 0 0 0) 0 (bo ((A++B)++C)) (mZ 0 0 0) (dN F H G I P) (bA F H G I) F G) 0/\IY O N T A E 0 B C 0 0 0/\(U->Q (.b false))/\(U=false->af .i64 (rB (jF O N A E B C F H G I))/\af .i64 (rD (jF O N A E B C F H G I))/\xf O N T A E 0 B C P F H G I/\pQ (tR O N A E B C P F H G I (rB (jF O N A E B C F H G I))) (tR O N A E B C P F H G I (Int.sub (rB (jF O N A E B C F H G I)) 1)) (tR O N A E B C P F H G I (rD (jF O N A E B C F H G I))) (tR O N A E B C P F H G I (Int.add (rD (jF O N A E B C F H G I)) 1)) (rA (jF O N A E B C F H G I)) (rB (jF O N A E B C F H G I)) (rC (jF O N A E B C F H G I)) (rD (jF O N A E B C F H G I))/\Q (.b true))) (not (and (and (aa (rA (jF O N A E B C F H G I)) (rA (jF O N A E B C F H G I))) (and (aa (rB (jF O N A E B C F H G I)) (rB (jF O N A E B C F H G I))) true)) (and (and (aa (rC (jF O N A E B C F H G I)) (rC (jF O N A E B C F H G I))) (and (aa (rD (jF O N A E B C F H G I)) (rD (jF O N A E B C F H G I))) true)) true)))) (wm k f ng n z0 z1 m d) (zQ k f n z0 z1 m d) (fE k f n z0 z1 m d) (fA k op) (fC k op) (fB k p op fr) (fD k p op fr ma) (fK k f n z0 z1 m d) (fP k p) (fS k f n z0 z1 m d) (wt k f n z0 z1 m d) (wq k f n z0 z1 m d)) (λ_=>by kernel_rfl) λQ' hQ=>?_;try dsimp only
    try dsimp only
    have hQ:=hQ _ rfl;try dsimp only
    have n1:=@Pi k p op f ng n z0 z1 m d fr ma kz0 kz1 ka kf km ho;obtain⟨_,a2,_⟩:=WE (p:=p) (op:=op) (ng:=ng) (X:=0) kz0 kz1 ka kp kf km ho;obtain⟨x1,x2,x3,x4,x5⟩:=Ve (p:=p) (op:=op) (ng:=ng) kz0 kz1 ka kf km ho;simp only[r0,ho,n1,a2,x1,x2,x3,x4,x5,a6,reduceCtorEq,zAh,zAi,Bool.and_self,zAj];exact hQ
theorem f3s(f9:bu Tryz.prog cfg 9 [] [] (.b true) []){gs:List (Int×Int)}{K:fg}(hg:∀p∈gs,(0<=p.1/\p.1<=255)/\(0<=p.2/\p.2<=255))(k0:q.ok):bu Tryz.prog cfg 3 [q.a (.c 14 0 gs.length K)] [.a (js gs) false none] (.b true) []:=by
 have r0:=P3 k0;obtain⟨k,p,op,f,ng,n,z0,z1,m,d,x,y,z,fr,ma⟩:=q;dsimp only at r0;obtain⟨ka,kp,ko,_,_,kz0,kz1,_,_,_,_,_,kf,km⟩:=k0;dsimp only at ka kp ko kz0 kz1 kf km;show bu Tryz.prog cfg 3 [.h [.a .u8 k,.a .u8 p,.a .u8 op,.a .u8 f,.b ng,.a .u16 n,.a .u8 z0,.a .u8 z1,.a .u8 m,.a .u8 d,.a .u8 x,.a .u8 y,.a .u8 z,.a .i16 fr,.a .u8 ma,.c 14 0 gs.length K]] [.a (js gs) false none] (.b true) [];have a6:∀v:Int,aa v v=true:=λv=>ao.mpr rfl;cases ho:iB k f n z0 z1 m d with
 | true=>
    refine lF (Hx f9) (ws:=[.a (js gs) false none]) Vd ai (bE 100077070006614002270200056622705626677777700056) (R:=λQ=>(λ(P:Int)(O:Nat)=>(λ(C:List AV)=>(λ(T:List AV)(B:Nat)=>(λ(E F:Bool)(U:Nat)=>(λ(G:List AV)=>(λ(H I:Bool)(A:List Rn)=>(λ(N V:Bool)=>and true (and (Nat.ble (HAdd.hAdd 0 O) (js gs).length) (bc 14 C))/\af .u8 k/\af .u8 p/\af .u8 op/\af .u8 f/\af .u16 n/\af .u8 z0/\af .u8 z1/\af .u8 m/\af .u8 d/\af .u8 x/\af .u8 y/\af .u8 z/\af .i16 fr/\af .u8 ma/\vv C/\Nat.beq (List.length (qk C)) gs.length/\iB k f n z0 z1 m d/\H/\I/\N/\E/\F/\aa (dr 1 B (jo A) (dZ false false [] 0 0 [] [] 0 0 0) 0 (sZ 0 0 0 0) (bW false false [] 0 0 [] [] 0 0 0) 0 (bo []) (mZ 0 0 0) (dN 0 0 0 0 0) (bA 0 0 0 0) 0 0) 0/\H/\I/\N/\E/\F/\xq A/\(V->Q (.b false))/\(V=false->H/\af .i64 (rB (fL A))/\af .i64 (rD (fL A))/\I/\N/\E/\F/\j9 A/\pQ (jc (bq A (rB (fL A))) (bq A (rB (fL A)))) (jc (bq A (Int.sub (rB (fL A)) 1)) (bq A (Int.sub (rB (fL A)) 1))) (jc (bq A (rD (fL A))) (bq A (rD (fL A)))) (jc (bq A (Int.add (rD (fL A)) 1)) (bq A (Int.add (rD (fL A)) 1))) (rA (fL A)) (rB (fL A)) (rC (fL A)) (rD (fL A))/\Q (.b true))) (Nat.beq A.length B) (not (and (and (aa (rA (fL A)) (rA (fL A))) (and (aa (rB (fL A)) (rB (fL A))) true)) (and (and (aa (rC (fL A)) (rC (fL A))) (and (aa (rD (fL A)) (rD (fL A))) true)) true)))) (and true (and (Nat.ble (HAdd.hAdd 0 U) T.length) (bc 14 G))) (eJ G) (g8 G)) (b_ T 0 U)) (Nat.ble 1 B) (Nat.ble B 4) (HMul.hMul B 4)) (bh (eT fr ma (aa P 1) (aa P 2) (qk C))) (nK (eT fr ma (aa P 1) (aa P 2) (qk C)))) (b_ (js gs) 0 O)) (HMod.hMod op 4) (HMul.hMul gs.length 2)) (λ_=>by kernel_rfl) λQ' hQ=>?_;try dsimp only
    try dsimp only
    have hQ:=hQ _ rfl;try dsimp only
    have w:=Ph hg;obtain⟨w1,w2,w3,w4,w5,w6⟩:=w;simp only[w1,w2];have hs:=CR (fr:=fr) (b1:=aa (op%4) 1) (b2:=aa (op%4) 2) (gs:=gs) km.1 hg;have hm:=zt (b1:=aa (op%4) 1) (b2:=aa (op%4) 2) (gs:=gs) kf km hg;have hl:=@Du fr ma (aa (op%4) 1) (aa (op%4) 2) gs;generalize eT fr ma (aa (op%4) 1) (aa (op%4) 2) gs=R at *;simp only[Hh,l_,iJ];simp only[w1,w2,w3,w4,w5,w6,r0,ho,PY (X:=0) hs hm hl,P1 hs hm hl,a6,reduceCtorEq,zAh,zAi,Bool.and_self,zAj];exact hQ
 | false=>
    refine lF (Hx f9) (ws:=[.a (js gs) false none]) Vd ai (bE 1000275661400255667000270270663227777700056) (R:=λQ=>(λ(N T:Bool)(E F G H I O P:Int)(A B C:List UInt8)(V:Nat)=>(λ(W:Bool)(U:List AV)=>and true (and (Nat.ble (HAdd.hAdd 0 V) (js gs).length) (bc 14 U))/\af .u8 k/\af .u8 p/\af .u8 op/\af .u8 f/\af .u16 n/\af .u8 z0/\af .u8 z1/\af .u8 m/\af .u8 d/\af .u8 x/\af .u8 y/\af .u8 z/\af .i16 fr/\af .u8 ma/\vv U/\Nat.beq (List.length (qk U)) gs.length/\iB k f n z0 z1 m d=false/\Nat.ble A.length 1000/\Nat.ble B.length 1000/\Nat.ble C.length 1000/\af .i64 E/\af .i64 H/\af .i64 I/\af .i8 F/\af .i8 G/\af .u8 P/\Ir O N A E B C/\aa (dr O 0 0 (dZ N T A E 0 B C 0 0 0) P (sZ F H G I) (bW N T A E 0 B C 0 0 0) 0 (bo ((A++B)++C)) (mZ 0 0 0) (dN F H G I P) (bA F H G I) F G) 0/\IY O N T A E 0 B C 0 0 0/\(W->Q (.b false))/\(W=false->af .i64 (rB (jF O N A E B C F H G I))/\af .i64 (rD (jF O N A E B C F H G I))/\xf O N T A E 0 B C P F H G I/\pQ (tR O N A E B C P F H G I (rB (jF O N A E B C F H G I))) (tR O N A E B C P F H G I (Int.sub (rB (jF O N A E B C F H G I)) 1)) (tR O N A E B C P F H G I (rD (jF O N A E B C F H G I))) (tR O N A E B C P F H G I (Int.add (rD (jF O N A E B C F H G I)) 1)) (rA (jF O N A E B C F H G I)) (rB (jF O N A E B C F H G I)) (rC (jF O N A E B C F H G I)) (rD (jF O N A E B C F H G I))/\Q (.b true))) (not (and (and (aa (rA (jF O N A E B C F H G I)) (rA (jF O N A E B C F H G I))) (and (aa (rB (jF O N A E B C F H G I)) (rB (jF O N A E B C F H G I))) true)) (and (and (aa (rC (jF O N A E B C F H G I)) (rC (jF O N A E B C F H G I))) (and (aa (rD (jF O N A E B C F H G I)) (rD (jF O N A E B C F H G I))) true)) true))) (b_ (js gs) 0 V)) (wm k f ng n z0 z1 m d) (zQ k f n z0 z1 m d) (fE k f n z0 z1 m d) (fA k op) (fC k op) (fB k p op fr) (fD k p op fr ma) (fK k f n z0 z1 m d) (fP k p) (fS k f n z0 z1 m d) (wt k f n z0 z1 m d) (wq k f n z0 z1 m d) (HMul.hMul gs.length 2)) (λ_=>by kernel_rfl) λQ' hQ=>?_;try dsimp only
    try dsimp only
    have hQ:=hQ _ rfl;try dsimp only
    have w:=Ph hg;obtain⟨w1,w2,w3,w4,w5,w6⟩:=w;simp only[w1,w2];have n1:=@Pi k p op f ng n z0 z1 m d fr ma kz0 kz1 ka kf km ho;obtain⟨_,a2,_⟩:=WE (p:=p) (op:=op) (ng:=ng) (X:=0) kz0 kz1 ka kp kf km ho;obtain⟨x1,x2,x3,x4,x5⟩:=Ve (p:=p) (op:=op) (ng:=ng) kz0 kz1 ka kf km ho;simp only[w1,w2,w3,w4,w5,w6,r0,ho,n1,a2,x1,x2,x3,x4,x5,a6,reduceCtorEq,zAh,zAi,Bool.and_self,zAj];exact hQ
def LY:List AV×AV:=([dA [48,48,48,48] 0 0 [48,50] []],iA 0)
def WG:pR tab cfg 10000 81 LY.1 LY.2=true:=by kernel_rfl
def I7:List AV×AV:=([.h [.b false,.b false,.d [48,48,48,48],iA 0,iA 0]],.e [iA 0,iA 0])
def VG:pR tab cfg 10000 161 I7.1 I7.2=true:=by kernel_rfl
def Md:List AV×AV:=([iA 0,iA 2],.e [iA 31,iA 0])
def T_:pR tab cfg 10000 155 Md.1 Md.2=true:=by kernel_rfl
def KL:List AV×AV:=([dA [48,48,48,88] 0 0 [] []],iA 0)
def VX:pR tab cfg 10000 81 KL.1 KL.2=true:=by kernel_rfl
def LU:List AV×AV:=([dA [48,48,48,48] 0 0 [48,88] []],iA 0)
def VZ:pR tab cfg 10000 81 LU.1 LU.2=true:=by kernel_rfl
def KG:List AV×AV:=([iA 0,iA 1],.e [iA 30,iA 0])
def WQ:pR tab cfg 10000 210 KG.1 KG.2=true:=by kernel_rfl
def KN:List AV×AV:=([iA 0,iA 9],.e [iA 244,iA 0])
def Xt:pR tab cfg 10000 155 KN.1 KN.2=true:=by kernel_rfl
def Ma:List AV×AV:=([dA [48,48,48,48] 0 0 [] []],iA 0)
def U_:pR tab cfg 10000 81 Ma.1 Ma.2=true:=by kernel_rfl
def Kv:List AV×AV:=([dA [48,48,48,48] 0 0 [48,49] []],iA 0)
def VJ:pR tab cfg 10000 81 Kv.1 Kv.2=true:=by kernel_rfl
def JP:List AV×AV:=([dA [48,48,48,49] 0 0 [] []],iA 0)
def Wy:pR tab cfg 10000 81 JP.1 JP.2=true:=by kernel_rfl
def E_:List AV×AV:=([.h [.b false,.b false,.d [48,48,48,49],iA 0,iA 0]],.e [iA 1,iA 0])
def Su:pR tab cfg 10000 161 E_.1 E_.2=true:=by kernel_rfl
def Fx:List AV×AV:=([dA [48,48,48,48] 0 0 [48,51] []],iA 0)
def Q8:pR tab cfg 10000 81 Fx.1 Fx.2=true:=by kernel_rfl
def EO:List AV×AV:=([iA 0,iA 3],.e [iA 60,iA 0])
def Q3:pR tab cfg 10000 155 EO.1 EO.2=true:=by kernel_rfl
def FK:List AV×AV:=([MX 0 0 0 30,MX 0 60 1 0],.b false)
def QX:pR tab cfg 10000 80 FK.1 FK.2=true:=by kernel_rfl
noncomputable def Pg:EU:=(.a0 none (.a0 none (.a0 none .b0 (.a0 none .b0 (.a0 none .b0 (.a0 none (.a0 none (.a0 (some [Md,KN,EO]) .b0 .b0) .b0) .b0)))) (.a0 none (.a0 none (.a0 none (.a0 none .b0 (.a0 none (.a0 (some [I7,E_]) .b0 .b0) .b0)) (.a0 none (.a0 (some [LY,KL,LU,Ma,Kv,JP,Fx]) .b0 .b0) .b0)) .b0) .b0)) (.a0 none (.a0 none (.a0 none (.a0 none .b0 (.a0 none (.a0 (some [FK]) .b0 .b0) .b0)) .b0) .b0) (.a0 none (.a0 none (.a0 none .b0 (.a0 none (.a0 none .b0 (.a0 (some [KG]) .b0 .b0)) .b0)) .b0) .b0)))
noncomputable def nW:cL:=EN cfg Pg
theorem Lw(g:nG Tryz.prog tab cfg):nL (λf l=>∀e∈l,gM Tryz.prog cfg f e.1 e.2) (λi=>i) Pg:=⟨aZ,⟨aZ,⟨aZ,trivial,⟨aZ,trivial,⟨aZ,trivial,⟨aZ,⟨aZ,⟨(g7 (bD (g.a0 10000 T_) (bD (g.a0 10000 Xt) (bD (g.a0 10000 Q3) g_)))),trivial,trivial⟩,trivial⟩,trivial⟩⟩⟩⟩,⟨aZ,⟨aZ,⟨aZ,⟨aZ,trivial,⟨aZ,⟨(g7 (bD (g.a0 10000 VG) (bD (g.a0 10000 Su) g_))),trivial,trivial⟩,trivial⟩⟩,⟨aZ,⟨(g7 (bD (g.a0 10000 WG) (bD (g.a0 10000 VX) (bD (g.a0 10000 VZ) (bD (g.a0 10000 U_) (bD (g.a0 10000 VJ) (bD (g.a0 10000 Wy) (bD (g.a0 10000 Q8) g_)))))))),trivial,trivial⟩,trivial⟩⟩,trivial⟩,trivial⟩⟩,⟨aZ,⟨aZ,⟨aZ,⟨aZ,trivial,⟨aZ,⟨(g7 (bD (g.a0 10000 QX) g_)),trivial,trivial⟩,trivial⟩⟩,trivial⟩,trivial⟩,⟨aZ,⟨aZ,⟨aZ,trivial,⟨aZ,⟨aZ,trivial,⟨(g7 (bD (g.a0 10000 WQ) g_)),trivial,trivial⟩⟩,trivial⟩⟩,trivial⟩,trivial⟩⟩⟩
theorem Uz(g:nG Tryz.prog tab cfg):nG Tryz.prog tab nW:=g.e0 λf l h=>(Lw g).a0 f l h
def Ky:List AV×AV:=([dA [48,48,48,48] 0 0 [48,50] []],.e [MX 0 31 0 59,iA 0])
def Xp:pR tab nW 10000 182 Ky.1 Ky.2=true:=by kernel_rfl
def LW:List AV×AV:=([dA [48,48,48,88] 0 0 [] [],.h [iA (-9223372036854775808),iA 0,iA 0],.b true],.e [.h [iA 0,iA 0,iA 0],iA 0])
def Xo:pR tab nW 10000 134 LW.1 LW.2=true:=by kernel_rfl
def MD:List AV×AV:=([dA [48,48,48,88] 0 0 [] [],.h [iA 9223372036854775807,iA 0,iA 0],.b false],.e [.h [iA 9,iA 0,iA 0],iA 0])
def Wz:pR tab nW 10000 134 MD.1 MD.2=true:=by kernel_rfl
def Ki:List AV×AV:=([dA [48,48,48,88] 0 0 [] [],.h [iA 0,iA 0,iA 0]],.e [.h [iA 0,iA 0,iA 0],.b true,iA 0])
def Vm:pR tab nW 10000 178 Ki.1 Ki.2=true:=by kernel_rfl
def J5:List AV×AV:=([dA [48,48,48,88] 0 0 [] [],.h [iA 9,iA 0,iA 0]],.e [.h [iA 9,iA 0,iA 0],.b true,iA 0])
def V8:pR tab nW 10000 178 J5.1 J5.2=true:=by kernel_rfl
def MO:List AV×AV:=([dA [48,48,48,48] 0 0 [48,88] [],.h [iA (-9223372036854775808),iA 0,iA 0],.b true],.e [.h [iA 0,iA 1,iA 0],iA 0])
def Xa:pR tab nW 10000 134 MO.1 MO.2=true:=by kernel_rfl
def LG:List AV×AV:=([dA [48,48,48,48] 0 0 [48,88] [],.h [iA 9223372036854775807,iA 0,iA 0],.b false],.e [.h [iA 0,iA 9,iA 0],iA 0])
def V5:pR tab nW 10000 134 LG.1 LG.2=true:=by kernel_rfl
def LC:List AV×AV:=([dA [48,48,48,48] 0 0 [48,88] [],.h [iA 0,iA 1,iA 0]],.e [.h [iA 0,iA 1,iA 0],.b true,iA 0])
def Wj:pR tab nW 10000 178 LC.1 LC.2=true:=by kernel_rfl
def KC:List AV×AV:=([dA [48,48,48,48] 0 0 [48,88] [],.h [iA 0,iA 9,iA 0]],.e [.h [iA 0,iA 9,iA 0],.b true,iA 0])
def Vv:pR tab nW 10000 178 KC.1 KC.2=true:=by kernel_rfl
def Jx:List AV×AV:=([dA [48,48,48,48] 0 0 [] []],.e [MX 0 0 0 365,iA 0])
def UL:pR tab nW 10000 182 Jx.1 Jx.2=true:=by kernel_rfl
def Fr:List AV×AV:=([.h [.b false,.b false,.d [48,48,48,48],iA 0,iA 0,.d [48,49],.d [],.a .u8 0,.a .u8 0,.a .u8 0,.b false,.b false,.b false,.d [],iA 0,iA 0,.d [],.d [],.a .u8 0,.a .u8 0,.a .u8 0],.b true,.b false],MX (-1) 0 0 30)
def R9:pR tab nW 10000 145 Fr.1 Fr.2=true:=by kernel_rfl
def FU:List AV×AV:=([dA [48,48,48,49] 0 0 [] []],.e [MX 0 366 0 730,iA 0])
def RC:pR tab nW 10000 182 FU.1 FU.2=true:=by kernel_rfl
def EV:List AV×AV:=([dA [48,48,48,48] 0 0 [48,51] []],.e [MX 0 60 0 90,iA 0])
def Qe:pR tab nW 10000 182 EV.1 EV.2=true:=by kernel_rfl
noncomputable def PN:EU:=(.a0 none (.a0 none .b0 (.a0 none (.a0 none (.a0 none .b0 (.a0 none (.a0 none (.a0 (some [Fr]) .b0 .b0) .b0) .b0)) .b0) .b0)) (.a0 none .b0 (.a0 none (.a0 none (.a0 none .b0 (.a0 none .b0 (.a0 none (.a0 (some [Ki,J5,LC,KC]) .b0 .b0) .b0))) .b0) (.a0 none (.a0 none (.a0 none (.a0 none (.a0 (some [LW,MD,MO,LG]) .b0 .b0) .b0) .b0) (.a0 none .b0 (.a0 none (.a0 (some [Ky,Jx,FU,EV]) .b0 .b0) .b0))) .b0))))
noncomputable def DB:cL:=EN nW PN
theorem JY(g:nG Tryz.prog tab nW):nL (λf l=>∀e∈l,gM Tryz.prog nW f e.1 e.2) (λi=>i) PN:=⟨aZ,⟨aZ,trivial,⟨aZ,⟨aZ,⟨aZ,trivial,⟨aZ,⟨aZ,⟨(g7 (bD (g.a0 10000 R9) g_)),trivial,trivial⟩,trivial⟩,trivial⟩⟩,trivial⟩,trivial⟩⟩,⟨aZ,trivial,⟨aZ,⟨aZ,⟨aZ,trivial,⟨aZ,trivial,⟨aZ,⟨(g7 (bD (g.a0 10000 Vm) (bD (g.a0 10000 V8) (bD (g.a0 10000 Wj) (bD (g.a0 10000 Vv) g_))))),trivial,trivial⟩,trivial⟩⟩⟩,trivial⟩,⟨aZ,⟨aZ,⟨aZ,⟨aZ,⟨(g7 (bD (g.a0 10000 Xo) (bD (g.a0 10000 Wz) (bD (g.a0 10000 Xa) (bD (g.a0 10000 V5) g_))))),trivial,trivial⟩,trivial⟩,trivial⟩,⟨aZ,trivial,⟨aZ,⟨(g7 (bD (g.a0 10000 Xp) (bD (g.a0 10000 UL) (bD (g.a0 10000 RC) (bD (g.a0 10000 Qe) g_))))),trivial,trivial⟩,trivial⟩⟩⟩,trivial⟩⟩⟩⟩
theorem WA(g:nG Tryz.prog tab nW):nG Tryz.prog tab DB:=g.e0 λf l h=>(JY g).a0 f l h
def MC:List AV×AV:=([dA [48,48,48,88] 0 0 [] [],.h [iA 0,iA 0,iA 0]],.e [MX 0 0 0 365,iA 0])
def Vx:pR tab DB 10000 90 MC.1 MC.2=true:=by kernel_rfl
def JJ:List AV×AV:=([dA [48,48,48,88] 0 0 [] [],.h [iA 9,iA 0,iA 0]],.e [MX 0 3288 0 3652,iA 0])
def UG:pR tab DB 10000 90 JJ.1 JJ.2=true:=by kernel_rfl
def K1:List AV×AV:=([dA [48,48,48,48] 0 0 [48,88] [],.h [iA 0,iA 9,iA 0]],.e [MX 0 244 0 273,iA 0])
def Xg:pR tab DB 10000 90 K1.1 K1.2=true:=by kernel_rfl
noncomputable def Pw:EU:=(.a0 none .b0 (.a0 none .b0 (.a0 none (.a0 none .b0 (.a0 none .b0 (.a0 none (.a0 (some [MC,JJ,K1]) .b0 .b0) .b0))) .b0)))
noncomputable def Qz:cL:=EN DB Pw
theorem LD(g:nG Tryz.prog tab DB):nL (λf l=>∀e∈l,gM Tryz.prog DB f e.1 e.2) (λi=>i) Pw:=⟨aZ,trivial,⟨aZ,trivial,⟨aZ,⟨aZ,trivial,⟨aZ,trivial,⟨aZ,⟨(g7 (bD (g.a0 10000 Vx) (bD (g.a0 10000 UG) (bD (g.a0 10000 Xg) g_)))),trivial,trivial⟩,trivial⟩⟩⟩,trivial⟩⟩⟩
theorem UV(g:nG Tryz.prog tab DB):nG Tryz.prog tab Qz:=g.e0 λf l h=>(LD g).a0 f l h
def Pk:List AV×AV:=([],.b true)
def Xd:pR tab Qz 10000 9 Pk.1 Pk.2=true:=by kernel_rfl
end Go.Ev
end
section
namespace Go.Ev
open Go Go.Proofs Go.ChangeShapes
theorem Xw:gM Tryz.prog cfg 9 [] (.b true):=M9 (cfg':=Qz) rfl rfl ((UV (WA (Uz dI))).a0 10000 Xd)
theorem f9:bu Tryz.prog cfg 9 [] [] (.b true) []:=λD m w hi hok=>(Xw (Cw cfg []) D m ⟨0,[],[]⟩ w hi hok).a0 λV w' ⟨h1,h2,h3,_⟩=>⟨D,m,h1,h2,h3⟩
theorem calls3{H:Type}{enc:TypeId×Value->H}{w:World}{r:Reach}{b0:Nat}{v0:Value}{d0:DataW H}{p0:List MemPlace}(hL:laidMetH Tryz.prog p5 w)(h0:Value.okWide Tryz.prog w r b0 32 v0)(t0:DataW.Trod enc Tryz.prog w 0 (λ_=>true) true 32 v0 d0 p0) :
 Calls Tryz.prog 3 #[v0] w λe w'=>e=.returned (.bool true)/\RowKit.Below w.heap.size w w':=by
 obtain⟨m,hi⟩:=Jn (JA hL);obtain⟨q0,s0,rfl,k0,c0⟩:=SW h0;rcases EP Tryz.underlying30 c0 with rfl|⟨bk,o,len,cap,cc,el,fz,rfl,hh⟩
 . have:=Dk Tryz.func3 (by kernel_rfl) (by kernel_rfl) (f3n f9 k0) (JZ (L:=[]) (ws:=[]) hi ⟨rfl,λj x l hx=>by cases hx⟩) (by simp[FP.a,fM,bw,aC]);simpa only[FP.a,FP.v,ap,aj]using this
 . obtain⟨gs,hg,hin,hc⟩:=OO t0;have:=Dk Tryz.func3 (by kernel_rfl) (by kernel_rfl) (f3s (gs:=gs) (K:=.b cap) f9 hin k0) (JZ (L:=[⟨bk,o,0⟩]) hi ⟨rfl,λj x l hx hl=>by
    match j with
    | 0=>cases hx;cases hl;exact N8 ⟨cc,el,fz,hh⟩ hc
    | j+1=>cases hx⟩) (by simp[FP.a,fM,bw,aC,fi])
   rw[hg]at this;simpa only[FP.a,FP.v,ap,aj,iR,SM,Nat.add_zero]using this
end Go.Ev
end
section
namespace Go.Proofs.YtoghlpcacfnjbaaGreatDoor.fnExtentsFamily
open Go.ChangeShapes Go.WideShapes Go.ChangeAt Go.RowKit
def recP:Tryz.prog.readableRec 32=true:=by kernel_rfl
theorem rowP:32 < Tryz.prog.types.size:=of_decide_eq_true (by kernel_rfl)
theorem contract(H:Type)(enc:TypeId×Value->H)(W:World)(args:Array Value)(ds gs:List (DataW H))(before:List MemPlace)(r:Reach)(b0:Nat)
 (hval:∀(j:Nat) (t:TypeId) (v:Value),Tryz.f3.params[j]? = some t->args[j]? = some v->Value.okWide Tryz.prog W r b0 t v)
 (hW:DataW.Whole enc Tryz.prog Tryz.f3.params.toList Rows.extentsFamilySpec.vars false W args.toList ds gs before) (hL:laidMetH Tryz.prog Rows.extentsFamilyRow.laid W) :
 Calls Tryz.prog 3 args W λe W'=>∃v,e=.returned v/\Rows.extentsFamilySpec.post enc Tryz.prog Tryz.f3 false true false false W args v W':=by
 have hW':=hW;obtain⟨p,q,hA0,hV,rfl,hfz,hnd⟩:=hW;have hA:DataW.TrodAll enc Tryz.prog W 0 (λ_=>true) true Tryz.f3.params.toList args.toList ds p:=hA0;rw[Tryz.params3]at hA hval;obtain⟨v,d,rfl,rfl,hd⟩:=trodAll_one hA;obtain⟨rfl,rfl⟩:=trodVars_none hV;clear hA0;refine(Go.Ev.calls3 hL (hval 0 32 v rfl rfl) hd).mono λe W' ⟨he,hb⟩=>?_;subst he;refine⟨_,rfl,Go.Ev.post_of_below (pa:=p) (pv:=[]) hW' (λ_ _ _=>trodAll_cons_mk (shut_bool Tryz.underlying4 _) trodAll_mk0) (λsp hsp=>?_) (λ_ _=>rfl) rfl hb (ok_one (by kernel_rfl) rfl (okWide_bool_mk Tryz.underlying4 _))⟩;rw[Tryz.params3];exact trodAll_mk1 (Go.WideElems.Trod_stays Go.Ev.laidOut recP rowP hd (λx hx=>Go.Ev.below_place hb (hW'.lt x (by simpa using hx))) λx hx=>hsp x (by simpa using hx))
noncomputable abbrev Fa(x:Program->FuncId->Func->ChangeSpec->OpenClaim->Bool):Bool:=x Tryz.prog 3 Tryz.f3 Rows.extentsFamilySpec Rows.extentsFamilyRow
def fa0:(Fa λP f fn s c=>c.wf (OpenSpec.ofChange s))=true:=by kernel_rfl
def fa1:(Fa λP f fn s c=>laidOutB P)=true:=by kernel_rfl
def fa2:(Fa λP f fn s c=>mapsRowed P)=true:=by kernel_rfl
def fa3:(Fa λP f fn s c=>fn.params.all (P.readableRec ·))=true:=by kernel_rfl
def fa4:(Fa λP f fn s c=>namedTie P c.named s.vars)=true:=by kernel_rfl
def fa5:(Fa λP f fn s c=>(c.stops==[]))=true:=by kernel_rfl
def fa6:(Fa λP f fn s c=>(P.stops==[]))=true:=by kernel_rfl
def fa7:(Fa λP f fn s c=>(c.knobs==[]))=true:=by kernel_rfl
def fa8:(Fa λP f fn s c=>(P.stopKnobs==[]))=true:=by kernel_rfl
def fa9:(Fa λP f fn s c=>(c.inPlace==P.inPlace f))=true:=by kernel_rfl
def fa10:(Fa λP f fn s c=>(c.unfollowed==P.unfollowed f))=true:=by kernel_rfl
def fa11:(Fa λP f fn s c=>(c.recurses==P.recurses f))=true:=by kernel_rfl
def fa12:(Fa λP f fn s c=>(c.named==P.varsNamed f))=true:=by kernel_rfl
def fa13:(Fa λP f fn s c=>(c.maps==(fn.params.toList++s.plain.varTypes P).any (P.mapsRec ·)))=true:=by kernel_rfl
def fa14:(Fa λP f fn s c=>(c.ifaces==(fn.params.toList++s.plain.varTypes P).any (P.ifacesRec ·)))=true:=by kernel_rfl
def fa15:(Fa λP f fn s c=>(c.mapsOut==P.mapsAmong fn.resultTypes.toList))=true:=by kernel_rfl
def fa16:(Fa λP f fn s c=>(c.loops==(fn.params.toList++s.plain.varTypes P).any (P.loopsFrom ·)))=true:=by kernel_rfl
def fa17:(Fa λP f fn s c=>(c.wideKeys==(fn.params.toList++s.plain.varTypes P++fn.resultTypes.toList).any (P.wideKeysFrom ·)))=true:=by kernel_rfl
def fa18:(Fa λP f fn s c=>s.vars.all (P.varReadable ·))=true:=by kernel_rfl
def fa19:(Fa λP f fn s c=>fn.resultTypes.all (λt=>P.readableRec t&&decide (t<P.types.size)))=true:=by kernel_rfl
def fa20:(Fa λP f fn s c=>(c.ifacesOut==fn.resultTypes.toList.any (P.ifacesRec ·)))=true:=by kernel_rfl
def fa21:(Fa λP f fn s c=>(c.loopsOut==fn.resultTypes.toList.any (P.loopsFrom ·)))=true:=by kernel_rfl
def fa22:(Fa λP f fn s c=>(c.plainKeys==P.plainKeys))=true:=by kernel_rfl
def fa23:(Fa λP f fn s c=>c.shortTexts.isNone)=true:=by kernel_rfl
def fa24:(Fa λP f fn s c=>P.stopsHeard)=true:=by kernel_rfl
def fa25:(Fa λP f fn s c=>P.mayEnter)=true:=by kernel_rfl
def fa26:(Fa λP f fn s c=>(c.lifted==P.liftsFinal))=true:=by kernel_rfl
def fa27:(Fa λP f fn s c=>(P.make==some c.make))=true:=by kernel_rfl
def fa28:(Fa λP f fn s c=>(c.kinds==(if c.domain.isEmpty then[]else fn.params.toList.map λt=>match P.underlying t with|some (.int k)=>some k|_=>none)))=true:=by kernel_rfl
def fa29:(Fa λP f fn s c=>(c.pinned==c.pinnedBy))=true:=by kernel_rfl
def fa30:(Fa λP f fn s c=>(c.veiled==(fn.params.toList++s.plain.varTypes P++fn.resultTypes.toList).any (P.veiledRec ·)))=true:=by kernel_rfl
def fa31:(Fa λP f fn s c=>c.veiledFits P fn.params.toList (fn.params.toList++s.plain.varTypes P++fn.resultTypes.toList))=true:=by kernel_rfl
theorem facts:joinedFacts Tryz.prog 3 Tryz.f3 Rows.extentsFamilySpec Rows.extentsFamilyRow=true:=by
 unfold joinedFacts;simp only[zAa];exact⟨⟨⟨⟨⟨⟨⟨⟨⟨⟨⟨⟨⟨⟨⟨⟨⟨⟨⟨⟨⟨⟨⟨⟨⟨⟨⟨⟨⟨⟨⟨fa0,fa1⟩,fa2⟩,fa3⟩,fa4⟩,fa5⟩,fa6⟩,fa7⟩,fa8⟩,fa9⟩,fa10⟩,fa11⟩,fa12⟩,fa13⟩,fa14⟩,fa15⟩,fa16⟩,fa17⟩,fa18⟩,fa19⟩,fa20⟩,fa21⟩,fa22⟩,fa23⟩,fa24⟩,fa25⟩,fa26⟩,fa27⟩,fa28⟩,fa29⟩,fa30⟩,fa31⟩
end Go.Proofs.YtoghlpcacfnjbaaGreatDoor.fnExtentsFamily
end
