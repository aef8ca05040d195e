import Derived.Test.YtoghlpcacfnjbaaGreatDoorP44
set_option linter.all false
set_option maxRecDepth 100000
set_option maxHeartbeats 4000000
section
namespace Go.Ev
open Go Go.Proofs
variable{da s mo:List UInt8}{ng lg:Bool}{e b n p c d X:Int}{Q:AV->Prop}{q:FP}
theorem VH{a:Int}:∀{P:List Int},(P.filter λk=>decide (a+1<=k)).length+(if a∈P then 1 else 0)<=(P.filter λk=>decide (a<=k)).length
 | []=>by simp
 | x::P=>by
   have ih:=@VH a P;by_cases h1:a=x
   . subst h1;have e1:decide (a+1<=a)=false:=decide_eq_false (by omega);have e2:decide (a<=a)=true:=decide_eq_true (Int.le_refl _);rw[List.filter_cons,List.filter_cons,if_neg (by rw[e1];decide),if_pos e2,if_pos (List.mem_cons_self),zAd];split at ih<;>omega
   . have e:(if a∈x::P then 1 else 0)=(if a∈P then 1 else 0):=by simp[h1]
     rw[e,List.filter_cons,List.filter_cons];by_cases h2:a<=x
     . rw[if_pos (decide_eq_true (show a+1<=x by omega)),if_pos (decide_eq_true h2),zAd,zAd];omega
     . have e1:¬decide (a+1<=x)=true:=by rw[zAb];omega
       have e2:¬decide (a<=x)=true:=by rw[zAb];exact h2
       rw[if_neg e1,if_neg e2];exact ih
theorem Ge{f:Int->Nat}{B:Nat}{P:List Int}(h1:∀k,f k<=B)(h2:∀k,f k≠0->k∈P):∀(n:Nat) (a:Int),mw f a n<=B*(P.filter λk=>decide (a<=k)).length
 | 0,a=>Nat.zero_le _
 | n+1,a=>by
   have ih:=Ge h1 h2 n (a+1);have c:=@VH a P;show f a+mw f (a+1) n<=_;by_cases h:f a=0
   . have c':(P.filter λk=>decide (a+1<=k)).length<=(P.filter λk=>decide (a<=k)).length:=by omega
     have:=Nat.mul_le_mul_left B c';omega
   . rw[if_pos (h2 a h)]at c;have:=Nat.mul_le_mul_left B c;rw[Nat.mul_add]at this;have:=h1 a;omega
theorem ME{y m:Int}:(pG da y m).length<=31:=by
 unfold pG;cases af da []with
 | true=>show 1<=31;decide
 | false=>
   rw[cond_false,List.length_map];have:=@wu da (bP y m).toNat;have:=jl y m;omega
theorem Fe{f:Int->List Ci}(h:∀m,(f m).length<=31):∀M:List Int,(M.flatMap f).length<=31*M.length
 | []=>Nat.zero_le _
 | m::M=>by
   rw[List.flatMap_cons,zAg,zAd];have:=Fe h M;have:=h m;omega
theorem N5{mo:List UInt8}:(cu mo).length<=12:=by
 unfold cu;cases af mo []with
 | true=>show 1<=12;decide
 | false=>
   rw[cond_false];cases aa (aL mo) 0 with
   | true=>exact wu
   | false=>show 1<=12;decide
theorem MD{P:List Int}(hP:P.length<=100)(h:∀k,rl ng s e k->k∈P):(bZ ng s e mo da).length<=1000000:=by
 unfold bZ;rw[yA];refine Nat.le_trans (Ge (B:=372) (P:=P) (λk=>?_) (λk hk=>?_) _ _) ?_
 . show(j9 ng s e mo da k).length<=372;unfold j9;cases kB ng s e k with
   | false=>exact Nat.zero_le _
   | true=>
     have:=Fe (f:=pG da k) (λm=>ME) (cu mo);have:=@N5 mo;show((cu mo).flatMap (pG da k)).length<=372;omega
 . refine h k ?_;rw[<-lW];have hk:(j9 ng s e mo da k).length≠0:=hk;unfold j9 at hk;cases hb:kB ng s e k with
   | false=>rw[hb]at hk;exact absurd rfl hk
   | true=>rfl
 . have:=List.length_filter_le (λk=>decide (je ng s e<=k)) P;have:=Nat.mul_le_mul_left 372 (Nat.le_trans this hP);omega
def WE(i:Int):Int:=bif aa i 0 then 1000 else bif aa i 1 then 100 else bif aa i 2 then 10 else 1
def RG(a b n:Int):Int:=(bif aa 0 a || aa 0 b then 0 else 1000*(((d0 n).toNat:Int)-48))+(bif aa 1 a || aa 1 b then 0 else 100*(((d1 n).toNat:Int)-48))+(bif aa 2 a || aa 2 b then 0 else 10*(((d2 n).toNat:Int)-48))+(bif aa 3 a || aa 3 b then 0 else((d3 n).toNat:Int)-48)
def SZ(a b n:Int):List Int:=(List.range 10).flatMap λ(u:Nat)=>(List.range 10).map λ(v:Nat)=>RG a b n+WE a*(u:Int)+WE b*(v:Int)
theorem Ff{a:Int}:(SZ a b n).length=100:=by unfold SZ;simp[List.length_flatMap];rfl
theorem Fc{a k:Int}(ha:0<=a/\a<=3)(hb:0<=b/\b<=3)(h:nk (bif aa 0 a || aa 0 b then UInt8.ofNat 88 else d0 n) (bif aa 1 a || aa 1 b then UInt8.ofNat 88 else d1 n) (bif aa 2 a || aa 2 b then UInt8.ofNat 88 else d2 n) (bif aa 3 a || aa 3 b then UInt8.ofNat 88 else d3 n) k):k∈SZ a b n:=by
 obtain⟨k0,k1,k2,k3,r0,r1,r2,r3,rfl,x0,x1,x2,x3⟩:=ot h;clear h;obtain⟨e0,e1,e2,e3⟩:=@FB n;have key:∃u v:Nat,u<10/\v<10/\1000*k0+100*k1+10*k2+k3=RG a b n+WE a*(u:Int)+WE b*(v:Int):=by
  have ha:a=0\/a=1\/a=2\/a=3:=by omega
  have hb:b=0\/b=1\/b=2\/b=3:=by omega
  have i00:aa 0 0=true:=rfl;have i01:aa 0 1=false:=rfl;have i02:aa 0 2=false:=rfl;have i03:aa 0 3=false:=rfl;have i10:aa 1 0=false:=rfl;have i11:aa 1 1=true:=rfl;have i12:aa 1 2=false:=rfl;have i13:aa 1 3=false:=rfl;have i20:aa 2 0=false:=rfl;have i21:aa 2 1=false:=rfl;have i22:aa 2 2=true:=rfl;have i23:aa 2 3=false:=rfl;have i30:aa 3 0=false:=rfl;have i31:aa 3 1=false:=rfl;have i32:aa 3 2=false:=rfl;have i33:aa 3 3=true:=rfl;unfold RG WE;rcases ha with rfl|rfl|rfl|rfl<;>rcases hb with rfl|rfl|rfl|rfl<;>simp only[i00,i01,i02,i03,i10,i11,i12,i13,i20,i21,i22,i23,i30,i31,i32,i33,Bool.or_true,Bool.true_or,Bool.or_false,zAj]at x0 x1 x2 x3 ⊢<;>unfold mt at x0 x1 x2 x3
  . exact⟨k0.toNat,0,by omega,by omega,by omega⟩
  . exact⟨k0.toNat,k1.toNat,by omega,by omega,by omega⟩
  . exact⟨k0.toNat,k2.toNat,by omega,by omega,by omega⟩
  . exact⟨k0.toNat,k3.toNat,by omega,by omega,by omega⟩
  . exact⟨k1.toNat,k0.toNat,by omega,by omega,by omega⟩
  . exact⟨k1.toNat,0,by omega,by omega,by omega⟩
  . exact⟨k1.toNat,k2.toNat,by omega,by omega,by omega⟩
  . exact⟨k1.toNat,k3.toNat,by omega,by omega,by omega⟩
  . exact⟨k2.toNat,k0.toNat,by omega,by omega,by omega⟩
  . exact⟨k2.toNat,k1.toNat,by omega,by omega,by omega⟩
  . exact⟨k2.toNat,0,by omega,by omega,by omega⟩
  . exact⟨k2.toNat,k3.toNat,by omega,by omega,by omega⟩
  . exact⟨k3.toNat,k0.toNat,by omega,by omega,by omega⟩
  . exact⟨k3.toNat,k1.toNat,by omega,by omega,by omega⟩
  . exact⟨k3.toNat,k2.toNat,by omega,by omega,by omega⟩
  . exact⟨k3.toNat,0,by omega,by omega,by omega⟩
 obtain⟨u,v,hu,hv,e⟩:=key;unfold SZ;rw[List.mem_flatMap];exact⟨u,List.mem_range.2 hu,List.mem_map.2 ⟨v,List.mem_range.2 hv,e.symm⟩⟩
theorem Rd{f n z0 z1 e:Int}{ng:Bool}(hz0:0<=z0/\z0<=255)(hz1:0<=z1/\z1<=255):∃P:List Int,P.length<=100/\∀k,rl ng (gA f n z0 z1) e k->k∈P:=by
 by_cases hx:aT (gA f n z0 z1) 88 88=0
 . refine⟨[d8 ng (gA f n z0 z1) e],show 1<=100 by decide,λk hk=>?_⟩;unfold rl at hk;rw[aK.mpr hx,cond_true]at hk;rw[hk];exact List.mem_cons_self
 . have c3:f%6=3:=by
    refine Classical.byContradiction λc3=>hx ?_;have e3:aa (f%6) 3=false:=ay.mpr c3;cases e5:aa (f%6) 5 with
    | true=>
      rcases @n_ f n z0 z1 hz0 hz1 with h|h
      . have:sw f=true:=e5;rw[h.1]at this;cases this
      . exact Az h.2.1
    | false=>
      unfold gA;rw[e3,e5,cond_false,cond_false];have v:=@FB n;refine Az λc hc=>?_;simp only[List.mem_cons,List.not_mem_nil,or_false]at hc;rcases hc with rfl|rfl|rfl|rfl
      . exact v.1
      . exact v.2.1
      . exact v.2.2.1
      . exact v.2.2.2
   have es:gA f n z0 z1=P0 (z0%4) (z1%4) n:=by unfold gA;rw[al.mpr c3,cond_true]
   rw[es]at hx ⊢;unfold P0 at hx ⊢;unfold rl;rw[cr.mpr hx];simp only[cond_false];have ha:0<=z0%4/\z0%4<=3:=by omega
   have hb:0<=z1%4/\z1%4<=3:=by omega
   cases ng with
   | true=>
     refine⟨(SZ (z0%4) (z1%4) n).map λk=>-k,by rw[List.length_map,Ff];decide,λk hk=>?_⟩;exact List.mem_map.2 ⟨-k,Fc ha hb hk.2,by omega⟩
   | false=>exact⟨SZ (z0%4) (z1%4) n,by rw[Ff];decide,λk hk=>Fc ha hb hk⟩
theorem Qj{i p:Int}(hp:1<=p/\p<=3):cU (BN i p) p=i:=by
 have hp:p=1\/p=2\/p=3:=by omega
 rcases hp with rfl|rfl|rfl
 . show aJ (bf i)=i;exact x6.1
 . have hm:1<=d_ i 12+1/\d_ i 12+1<=12:=by unfold d_;omega
   obtain⟨a,b,c,e⟩:=@qB (cV i 12) _ hm;obtain⟨q1,q2⟩:=xi hm (Int.le_refl _) b;rw[KT];show jE (aG (cV i 12) (d_ i 12+1))=i;unfold jE;rw[q1,q2];unfold cV d_;omega
 . rfl
theorem Qr{i p:Int}(hp:1<=p/\p<=3):cU (BM i p) p=i:=by
 have hp:p=1\/p=2\/p=3:=by omega
 rcases hp with rfl|rfl|rfl
 . show aJ (bf (i+1)-1)=i;exact x6.2
 . have hm:1<=d_ i 12+1/\d_ i 12+1<=12:=by unfold d_;omega
   obtain⟨a,b,c,e⟩:=@qB (cV i 12) _ hm;obtain⟨q1,q2⟩:=xi (y:=cV i 12) (d:=aG (cV i 12) (d_ i 12+1+1)-1) hm (by omega) (by omega);rw[LH,(nK i).2,show d_ i 12+2=d_ i 12+1+1 by omega];show jE _=i;unfold jE;rw[q1,q2];unfold cV d_;omega
 . rfl
theorem xu(h h':Bool):ae .i64 (vv h h')=true:=by cases h<;>cases h'<;>rfl
theorem Mb(h:Bool):aa (vv h h) 2=false:=by cases h<;>rfl
def Kj(k:Int)(ng lg:Bool)(s:List UInt8)(e:Int)(mo da:List UInt8)(p a b c d X:Int):Prop:=
 xg k ng s e 0 mo da p a b c d/\IJ k ng lg s e 0 mo da p a b c d/\Q2 k ng s e mo da p a b c d X=G8 k ng s e mo da p a b c d X/\ae .i64 (G8 k ng s e mo da p a b c d X)/\
  (xR k a c=false->aa (sC k ng s e mo da p a b c d) 1->aa (G8 k ng s e mo da p a b c d X) 2=false)
theorem XW{x y z a:Int}{P:List Int}(hE:bJ ng lg s e 0 mo da x y z=0)(hX:ba (s++mo++da))(hy:∃k,rl ng s e k)(hs:s.length<=1000)(hP:P.length<=100)(hk:∀k,rl ng s e k->k∈P):Kj 2 ng lg s e mo da p a b c d X:=by
 obtain⟨ho,hx,_⟩:=fm (iG hE) fo;have hU:∀y m d,rz ng s e mo da y m d->nz y m d=true:=λy m d h=>Cs hE hX h;have hl:=MD (mo:=mo) (da:=da) hP hk;have h1:=Ir hE hy;obtain⟨m1,m2⟩:=CQ hE hy;have ht:=H7 (x:=X) hE hy hU;have hus:sR (bZ ng s e mo da)=true:=by
  unfold sR;rw[List.all_eq_true];intro c hc;exact hU _ _ _ ((kq hx).1 hc)
 have md:=Fp hE;refine⟨?_,?_,?_,?_,?_⟩
 . show(aa 0 0&&(Nat.ble (bZ ng s e mo da).length 1000000&&ab 1 (gS ng s e mo da)))=true;rw[aq.mpr hl,ao.mpr m1];rfl
 . show(aa 0 0&&(kM ng lg s e mo da&&(Nat.ble (bZ ng s e mo da).length 1000000&&(!(Nat.beq (bZ ng s e mo da).length 0)&&sR (bZ ng s e mo da)))))=true;unfold kM;rw[ho,hx,md,aq.mpr hl,aq.mpr hs,hus,cr.mpr (show(bZ ng s e mo da).length≠0 by omega)];rfl
 . show MU X (bZ ng s e mo da)=C4 ng s e mo da X;rw[ht];rfl
 . exact xu _ _
 . intro _ h;have h:aa (gS ng s e mo da) 1=true:=h;show aa (C4 ng s e mo da X) 2=false;unfold C4;rw[h,Bool.and_true];exact Mb _
theorem Y6{a:Int}(hb:ae .i64 b)(hd:ae .i64 d)(hr:a_ a b c d=0)(hu:mT a b c d p):Kj 3 ng lg s e mo da p a b c d X:=by
 refine⟨hu,?_,rfl,xu _ _,?_⟩
 . show(ae .i64 b&&(ae .i64 d&&(aa (a_ a b c d) 0&&mT a b c d p)))=true;rw[hb,hd,hu,al.mpr hr];rfl
 . intro h1 h2;have h1:(!(aa a 0&&aa c 0))=false:=h1;have h1:(aa a 0&&aa c 0)=true:=by simpa using h1
   have h2:aa (bif aa a 0&&aa c 0 then cU d p-cU b p+1 else 0) 1=true:=by
    unfold sC at h2;rw[show aa 3 2=false from rfl,show aa 3 3=true from rfl,Bool.true_and,cond_false]at h2;exact h2
   rw[h1,cond_true,al]at h2;show aa (vv (co a b c d X) (co a b c d X&&yd a b c d p)) 2=false;unfold yd;rw[h1,al.mpr (show cU b p=cU d p by omega),Bool.true_and,Bool.and_true];exact Mb _
theorem Xz{a:Int}(hb:ae .i64 b)(hd:ae .i64 d)(hr:a_ a b c d=0):Kj 4 ng lg s e mo da p a b c d X:=by
 refine⟨rfl,?_,rfl,xu _ _,λh=>by cases h⟩;show(ae .i64 b&&(ae .i64 d&&(aa (a_ a b c d) 0&&true)))=true;rw[hb,hd,al.mpr hr];rfl
theorem XG{a:Int}(hb:ae .i64 b)(hd:ae .i64 d)(hr:a_ a b c d=0):Kj 5 ng lg s e mo da p a b c d X:=by
 refine⟨rfl,?_,rfl,xu _ _,λh=>by cases h⟩;show(ae .i64 b&&(ae .i64 d&&(aa (a_ a b c d) 0&&true)))=true;rw[hb,hd,al.mpr hr];rfl
theorem VE{k op f:Int}{z0 z1 m fr ma:Int}(hz0:0<=z0/\z0<=255)(hz1:0<=z1/\z1<=255)(hk:0<=k/\k<=255)(hp:0<=p/\p<=255)(hfr : -32768<=fr/\fr<=32767)(hma:0<=ma/\ma<=255)(h:iL k f n z0 z1 m d=false) :
 Kj (fK k f n z0 z1 m d) (wd k f ng n z0 z1 m d) (zL k f n z0 z1 m d) (fS k f n z0 z1 m d) (fE k f n z0 z1 m d) (tV k f n z0 z1 m d) (tN k f n z0 z1 m d) (fP k p) (fA k op) (fB k p op fr) (fC k op) (fD k p op fr ma) X:=by
 obtain⟨h1,⟨_,_,_,_,hb,_,hd⟩,hl,_,_⟩:=Gg (p:=p) (op:=op) (ng:=ng) hz0 hz1 hk hfr hma h;have hb:ae .i64 (fB k p op fr)=true:=by rw[aB];exact hb
 have hd:ae .i64 (fD k p op fr ma)=true:=by rw[aB];exact hd
 by_cases c2:k%5=2
 . have e2:=al.mpr c2;have eK:fK k f n z0 z1 m d=3:=by unfold fK;rw[e2];rfl
   rw[eK]at h1 ⊢;have hf:=x7.1 (VL h1);refine Y6 hb hd hf.2.1 ?_;have eP:fP k p=1+p%3:=by unfold fP;rw[e2];rfl
   have hP:1<=1+p%3/\1+p%3<=3:=by omega
   obtain⟨l1,_,_⟩:=KJ (i:=fr) (by omega) hP;obtain⟨u1,_,_⟩:=KP (i:=fr+ma) (by omega) hP;have x1:=@Qj fr _ hP;have x2:=@Qr (fr+ma) _ hP;unfold fA fB fC fD mT;rw[eP,e2,cond_true,cond_true,cond_true,cond_true,ao.mpr hP.1,ao.mpr hP.2];cases o1:aa (op%4) 1<;>cases o2:aa (op%4) 2<;>simp only[zAj,l1,u1,x1,x2,ao.mpr (show fr<=fr+ma by omega),ao.mpr (show fr+ma-fr<=1000000 by omega),Bool.or_true,Bool.and_true,Bool.true_and]<;>rfl
 . have e2:=ay.mpr c2;by_cases c3:k%5=3
   . have e3:=al.mpr c3;have eK:fK k f n z0 z1 m d=4:=by unfold fK;rw[e2,e3];rfl
     rw[eK]at h1 ⊢;exact Xz hb hd (VJ h1).1
   . have e3:=ay.mpr c3;by_cases c4:k%5=4
     . have e4:=al.mpr c4;have eK:fK k f n z0 z1 m d=5:=by unfold fK;rw[e2,e3,e4];rfl
       rw[eK]at h1 ⊢;exact XG hb hd (TC h1).1
     . have e4:=ay.mpr c4;have eK:fK k f n z0 z1 m d=2:=by unfold fK;rw[e2,e3,e4];rfl
       have hX:fX k f n z0 z1 m d=true:=by
        unfold iL at h;rw[e2,e3,e4]at h;simpa using h
       rw[eK]at h1 ⊢;obtain⟨_,_,_,hE,_,hXB,_⟩:=Pq h1;have s1:fS k f n z0 z1 m d=gA f n z0 z1:=by unfold fS;rw[hX];rfl
       have s2:wd k f ng n z0 z1 m d=su f ng n z0 z1:=by unfold wd;rw[hX];rfl
       have s3:fE k f n z0 z1 m d=kG f z1:=by unfold fE;rw[hX];rfl
       obtain⟨P,hP,hm⟩:=@Rd f n z0 z1 (kG f z1) (su f ng n z0 z1) hz0 hz1;obtain⟨y,hy,_⟩:=@Lh f ng n z0 z1 hz0 hz1;exact XW (P:=P) hE hXB ⟨y,by rw[s1,s2,s3];exact hy⟩ (by omega) hP (λk' hk'=>hm k' (by rw[s1,s2,s3]at hk';exact hk'))
def Xd:dJ:=λargs=>match args with
 | []=>some (.ret (.bool true))
 | _=>none
noncomputable def Y4:aR:=fw (fw (fw (fw (aY gX 13 Xd) 5 (fy 14 [2] Xm)) 10 (fy 14 [4] Zh)) 11 (fy 14 [4] YN)) 12 (fy 14 [4] Gr)
def Yk(k p op f:Int)(ng:Bool)(n z0 z1 m d x y z fr ma X:Int):fx Q (pW Y4 io [] 4 [.agg [.int .u8 k,.int .u8 p,.int .u8 op,.int .u8 f,.bool ng,.int .u16 n,.int .u8 z0,.int .u8 z1,.int .u8 m,.int .u8 d,.int .u8 x,.int .u8 y,.int .u8 z,.int .i16 fr,.int .u8 ma,.nilslice],.int .i64 X]) (bA 1036270562556140077020066101462705625563007702006640077025626677777556)=((λ(H:Bool)(T:Int)(U V:Prop)=>(λ(W:List AV)(A:Nat)=>(λ(I N Z:Bool)(Y:Nat)=>(λ(O:List AV)=>(λ(C E:Bool)(G:List Rn)=>(λ(F P:Bool)(B:Int)=>(λ(u0 u2:Bool)(u1:Prop)=>(λ(u3:Prop->Prop)=>ae .u8 k/\ae .u8 p/\ae .u8 op/\ae .u8 f/\ae .u16 n/\ae .u8 z0/\ae .u8 z1/\ae .u8 m/\ae .u8 d/\ae .u8 x/\ae .u8 y/\ae .u8 z/\ae .i16 fr/\ae .u8 ma/\iL k f n z0 z1 m d/\C/\H/\u3 (P/\(u0->C/\u3 (H/\not (aa B B)=false/\C/\E/\F/\Z/\P/\(aa B 2->U)/\(u1->V)))/\(u0=false->C/\u3 (H/\(u2->U)/\(u2=false->C/\E/\F/\Z/\P/\u1/\V))))) (λu4=>E/\F/\I/\N/\iM G/\u4)) (ae .i64 B) (not (aa (IntKind.wrap .i64 B) B)) (aa B 2=false)) (Nat.beq G.length A) (aa (cA 1 A (ip G) (dZ false false [] 0 0 [] [] 0 0 0) 0 (sZ 0 0 0 0) (bJ false false [] 0 0 [] [] 0 0 0) 0 (ba []) (mZ 0 0 0) (cJ 0 0 0 0 0) (a_ 0 0 0 0) 0 0) 0) (vv (dH G X) (dH G X))) (and true (and (Nat.ble (HAdd.hAdd 0 Y) W.length) (bw 14 O))) (eQ O) (jD O)) (cN W 0 Y)) (Nat.ble 1 A) (Nat.ble A 4) (Nat.ble A 1000) (HMul.hMul A 4)) (bB (eO fr ma (aa T 1) (aa T 2) [])) (mA (eO fr ma (aa T 1) (aa T 2) []))) (ae .i64 X) (HMod.hMod op 4) (Q (.bool false)) (Q (.bool true))):=by kernel_rfl
def Zv(k p op f:Int)(ng:Bool)(n z0 z1 m d x y z fr ma X:Int):fx Q (pW Y4 io [] 4 [.agg [.int .u8 k,.int .u8 p,.int .u8 op,.int .u8 f,.bool ng,.int .u16 n,.int .u8 z0,.int .u8 z1,.int .u8 m,.int .u8 d,.int .u8 x,.int .u8 y,.int .u8 z,.int .i16 fr,.int .u8 ma,.nilslice],.int .i64 X]) (bA 1053310033103224224000700027027661400220006610533100331014224224000700027027661400220006640027000270270663227777556)=((λ(P W Y:Bool)(A B G H I N O:Int)(C E F:List UInt8)(V Z:Prop)=>(λ(T U u0 u1 u2 u3 u4 u5 u6 u7 u9 ua ud ue uf ug:Bool)=>(λ(ub uc uh:Prop)=>(λ(ui uj:Prop)=>(λ(un:Prop->Prop)=>(λ(um:Prop->Prop)=>(λ(ul:Prop->Prop)=>(λ(uk:Prop->Prop)=>ae .u8 k/\ae .u8 p/\ae .u8 op/\ae .u8 f/\ae .u16 n/\ae .u8 z0/\ae .u8 z1/\ae .u8 m/\ae .u8 d/\ae .u8 x/\ae .u8 y/\ae .u8 z/\ae .i16 fr/\ae .u8 ma/\iL k f n z0 z1 m d=false/\ul (W/\un ((ud->um ((ue->Z)/\(ue=false->uk ((T->T/\T/\(U->U/\U/\(uf->Z)/\(uh->V))/\ui)/\uj))))/\(ud=false->um ((ug->Z)/\(ug=false->uk ((T->T/\T/\(U->U/\U/\uh/\V)/\ui)/\uj))))))) (λuo=>ul (un uo))) (λuo=>u0/\u1/\u2/\u3/\u4/\u5/\u6/\u7/\u9/\uo)) (λuo=>IJ O P Y C I 0 E F N A G B H/\W/\uo)) (λuo=>xg O P C I 0 E F N A G B H/\ua/\uo)) (ub->ub/\ub/\V) (uc->uc/\uc/\V)) (U=false) (T=false) (uf=false)) (not (xR O A B)) (aa (sC O P C I E F N A G B H) 1) (Nat.ble C.length 1000) (Nat.ble E.length 1000) (Nat.ble F.length 1000) (ae .i64 I) (ae .i64 G) (ae .i64 H) (ae .i8 A) (ae .i8 B) (ae .u8 N) (aa (cA O 0 0 (dZ P Y C I 0 E F 0 0 0) N (sZ A G B H) (bJ P Y C I 0 E F 0 0 0) 0 (ba ((C++E)++F)) (mZ 0 0 0) (cJ A G B H N) (a_ A G B H) A B) 0) (ae .i64 (G8 O P C I E F N A G B H X)) (not (aa (G8 O P C I E F N A G B H X) (Q2 O P C I E F N A G B H X))) (aa (G8 O P C I E F N A G B H X) 2) (not (aa (IntKind.wrap .i64 (G8 O P C I E F N A G B H X)) (Q2 O P C I E F N A G B H X)))) (wd k f ng n z0 z1 m d) (ae .i64 X) (zL k f n z0 z1 m d) (fA k op) (fC k op) (fB k p op fr) (fD k p op fr ma) (fE k f n z0 z1 m d) (fP k p) (fK k f n z0 z1 m d) (fS k f n z0 z1 m d) (tV k f n z0 z1 m d) (tN k f n z0 z1 m d) (Q (.bool true)) (Q (.bool false))):=by kernel_rfl
def Xw(k p op f:Int)(ng:Bool)(n z0 z1 m d x y z fr ma X:Int)(w:List AV)(l:Nat)(K:eZ):fx Q (pW Y4 io [.cells w false none] 4 [.agg [.int .u8 k,.int .u8 p,.int .u8 op,.int .u8 f,.bool ng,.int .u16 n,.int .u8 z0,.int .u8 z1,.int .u8 m,.int .u8 d,.int .u8 x,.int .u8 y,.int .u8 z,.int .i16 fr,.int .u8 ma,.slice 14 0 l K],.int .i64 X]) (bA 1036270562556140077020066101462705625563007702006640077025626677777700056)=((λ(H:Bool)(V:Int)(U:Nat)(W Y:Prop)=>(λ(I:List AV)=>(λ(Z:List AV)(A:Nat)=>(λ(N O u1:Bool)(u0:Nat)=>(λ(P:List AV)=>(λ(C E:Bool)(G:List Rn)=>(λ(F T:Bool)(B:Int)=>(λ(u2 u4:Bool)(u3:Prop)=>(λ(u5:Prop->Prop)=>and true (and (Nat.ble (HAdd.hAdd 0 U) w.length) (bw 14 I))/\ae .u8 k/\ae .u8 p/\ae .u8 op/\ae .u8 f/\ae .u16 n/\ae .u8 z0/\ae .u8 z1/\ae .u8 m/\ae .u8 d/\ae .u8 x/\ae .u8 y/\ae .u8 z/\ae .i16 fr/\ae .u8 ma/\tg I/\Nat.beq (List.length (p7 I)) l/\iL k f n z0 z1 m d/\C/\H/\u5 (T/\(u2->C/\u5 (H/\not (aa B B)=false/\C/\E/\F/\u1/\T/\(aa B 2->W)/\(u3->Y)))/\(u2=false->C/\u5 (H/\(u4->W)/\(u4=false->C/\E/\F/\u1/\T/\u3/\Y))))) (λu6=>E/\F/\N/\O/\iM G/\u6)) (ae .i64 B) (not (aa (IntKind.wrap .i64 B) B)) (aa B 2=false)) (Nat.beq G.length A) (aa (cA 1 A (ip G) (dZ false false [] 0 0 [] [] 0 0 0) 0 (sZ 0 0 0 0) (bJ false false [] 0 0 [] [] 0 0 0) 0 (ba []) (mZ 0 0 0) (cJ 0 0 0 0 0) (a_ 0 0 0 0) 0 0) 0) (vv (dH G X) (dH G X))) (and true (and (Nat.ble (HAdd.hAdd 0 u0) Z.length) (bw 14 P))) (eQ P) (jD P)) (cN Z 0 u0)) (Nat.ble 1 A) (Nat.ble A 4) (Nat.ble A 1000) (HMul.hMul A 4)) (bB (eO fr ma (aa V 1) (aa V 2) (p7 I))) (mA (eO fr ma (aa V 1) (aa V 2) (p7 I)))) (cN w 0 U)) (ae .i64 X) (HMod.hMod op 4) (HMul.hMul l 2) (Q (.bool false)) (Q (.bool true))):=by kernel_rfl
def Zp(k p op f:Int)(ng:Bool)(n z0 z1 m d x y z fr ma X:Int)(w:List AV)(l:Nat)(K:eZ):fx Q (pW Y4 io [.cells w false none] 4 [.agg [.int .u8 k,.int .u8 p,.int .u8 op,.int .u8 f,.bool ng,.int .u16 n,.int .u8 z0,.int .u8 z1,.int .u8 m,.int .u8 d,.int .u8 x,.int .u8 y,.int .u8 z,.int .i16 fr,.int .u8 ma,.slice 14 0 l K],.int .i64 X]) (bA 1053310033103224224000700027027661400220006610533100331014224224000700027027661400220006640027000270270663227777700056)=((λ(P W Y:Bool)(A B G H I N O:Int)(C E F:List UInt8)(ue:Nat)(V Z:Prop)=>(λ(T U u1 u2 u3 u4 u5 u6 u7 u9 ua ub uf ug uh ui:Bool)(u0:List AV)=>(λ(uc ud uj:Prop)=>(λ(uk ul:Prop)=>(λ(up:Prop->Prop)=>(λ(uo:Prop->Prop)=>(λ(un:Prop->Prop)=>(λ(um:Prop->Prop)=>and true (and (Nat.ble (HAdd.hAdd 0 ue) w.length) (bw 14 u0))/\ae .u8 k/\ae .u8 p/\ae .u8 op/\ae .u8 f/\ae .u16 n/\ae .u8 z0/\ae .u8 z1/\ae .u8 m/\ae .u8 d/\ae .u8 x/\ae .u8 y/\ae .u8 z/\ae .i16 fr/\ae .u8 ma/\tg u0/\Nat.beq (List.length (p7 u0)) l/\iL k f n z0 z1 m d=false/\un (W/\up ((uf->uo ((ug->Z)/\(ug=false->um ((T->T/\T/\(U->U/\U/\(uh->Z)/\(uj->V))/\uk)/\ul))))/\(uf=false->uo ((ui->Z)/\(ui=false->um ((T->T/\T/\(U->U/\U/\uj/\V)/\uk)/\ul))))))) (λuq=>un (up uq))) (λuq=>u1/\u2/\u3/\u4/\u5/\u6/\u7/\u9/\ua/\uq)) (λuq=>IJ O P Y C I 0 E F N A G B H/\W/\uq)) (λuq=>xg O P C I 0 E F N A G B H/\ub/\uq)) (uc->uc/\uc/\V) (ud->ud/\ud/\V)) (U=false) (T=false) (uh=false)) (not (xR O A B)) (aa (sC O P C I E F N A G B H) 1) (Nat.ble C.length 1000) (Nat.ble E.length 1000) (Nat.ble F.length 1000) (ae .i64 I) (ae .i64 G) (ae .i64 H) (ae .i8 A) (ae .i8 B) (ae .u8 N) (aa (cA O 0 0 (dZ P Y C I 0 E F 0 0 0) N (sZ A G B H) (bJ P Y C I 0 E F 0 0 0) 0 (ba ((C++E)++F)) (mZ 0 0 0) (cJ A G B H N) (a_ A G B H) A B) 0) (ae .i64 (G8 O P C I E F N A G B H X)) (not (aa (G8 O P C I E F N A G B H X) (Q2 O P C I E F N A G B H X))) (aa (G8 O P C I E F N A G B H X) 2) (not (aa (IntKind.wrap .i64 (G8 O P C I E F N A G B H X)) (Q2 O P C I E F N A G B H X))) (cN w 0 ue)) (wd k f ng n z0 z1 m d) (ae .i64 X) (zL k f n z0 z1 m d) (fA k op) (fC k op) (fB k p op fr) (fD k p op fr ma) (fE k f n z0 z1 m d) (fP k p) (fK k f n z0 z1 m d) (fS k f n z0 z1 m d) (tV k f n z0 z1 m d) (tN k f n z0 z1 m d) (HMul.hMul l 2) (Q (.bool true)) (Q (.bool false))):=by kernel_rfl
def FP.a(q:FP)(V:AV):AV:=.agg [.int .u8 q.k,.int .u8 q.p,.int .u8 q.op,.int .u8 q.f,.bool q.ng,.int .u16 q.n,.int .u8 q.z0,.int .u8 q.z1,.int .u8 q.m,.int .u8 q.d,.int .u8 q.x,.int .u8 q.y,.int .u8 q.z,.int .i16 q.fr,.int .u8 q.ma,V]
theorem WK:∀x∈([]:List aE),cR 14 x:=λx hx=>by cases hx
theorem WP{gs:List (Int×Int)}:∀x∈[aE.cells (jI gs) false none],cR 14 x:=λx hx=>by
 simp only[List.mem_cons,List.not_mem_nil,or_false]at hx;subst hx;exact aO oQ
def Gu:bh tab 4=some (dC 4,aN 4):=by kernel_rfl
theorem XM:∀{R:List Rn},vG R->iM R=true:=λ{R} h=>by
 unfold iM;rw[List.all_eq_true];intro r hr;obtain⟨i,hi,e⟩:=List.getElem_of_mem hr;have:=wJ h i hi;rw[zAe,List.getElem?_eq_getElem hi,e]at this;exact al.mpr this.1
theorem Ot{R:List Rn}(hs:vG R)(hm:ow R)(hl:1<=R.length/\R.length<=4):Nat.ble (0+R.length*4) (bB R).length/\eQ (bB R)/\Nat.beq R.length R.length/\Nat.ble R.length 1000/\Nat.ble R.length 4/\Nat.ble 1 R.length/\bw 14 (bB R)/\iM R/\
 aa (cA 1 R.length (ip R) (dZ false false [] 0 0 [] [] 0 0 0) 0 (sZ 0 0 0 0) (bJ false false [] 0 0 [] [] 0 0 0) 0 (ba []) (mZ 0 0 0) (cJ 0 0 0 0 0) (a_ 0 0 0 0) 0 0) 0/\ae .i64 (vv (dH R X) (dH R X))/\aa (vv (dH R X) (dH R X)) (vv (dH R X) (dH R X))/\aa (vv (dH R X) (dH R X)) 2=false:=by
 refine⟨by rw[aq,kn];omega,tE (JF hm),gb rfl,by rw[aq];omega,by rw[aq];exact hl.2,by rw[aq];exact hl.1,ib,XM hs,?_,xu _ _,al.mpr rfl,Mb _⟩;have dz:dZ false false [] 0 0 [] [] 0 0 0=true:=rfl;have sz:sZ 0 0 0 0=true:=rfl;have hn:R.length≠0:=by omega
 rw[dz,sz];unfold cA;rw[if_neg (by decide),if_pos rfl,if_pos ⟨rfl,rfl,rfl⟩,if_neg hn,Nf hs];rfl
theorem FH{R:List Rn}:mA R=R.length:=rfl
theorem UB{S:aR}(f13:bt Tryz.prog cfg 13 [] [] (.bool true) [])(hS:ak Tryz.prog cfg S):ak Tryz.prog cfg (aY S 13 Xd):=au hS λargs t v he hv=>by
 unfold Xd at he;split at he
 . cases he;cases hv;exact f13
 . cases he
theorem EZ(f13:bt Tryz.prog cfg 13 [] [] (.bool true) []):ak Tryz.prog cfg Y4:=FV (U_ (Uc (WV (UB f13 aV))))
theorem f4n(f13:bt Tryz.prog cfg 13 [] [] (.bool true) [])(k0:q.ok)(hX:ae .i64 X):bt Tryz.prog cfg 4 [q.a (.nilslice),.int .i64 X] [] (.bool true) []:=by
 have r0:=OL k0;obtain⟨k,p,op,f,ng,n,z0,z1,m,d,x,y,z,fr,ma⟩:=q;dsimp only at r0;obtain⟨ka,kp,ko,_,_,kz0,kz1,_,_,_,_,_,kf,km⟩:=k0;dsimp only at ka kp ko kz0 kz1 kf km;show bt Tryz.prog cfg 4 [.agg [.int .u8 k,.int .u8 p,.int .u8 op,.int .u8 f,.bool ng,.int .u16 n,.int .u8 z0,.int .u8 z1,.int .u8 m,.int .u8 d,.int .u8 x,.int .u8 y,.int .u8 z,.int .i16 fr,.int .u8 ma,.nilslice],.int .i64 X] [] (.bool true) [];cases ho:iL k f n z0 z1 m d with
 | true=>
    refine zh (EZ f13) (L:=io) (ws:=[]) WK Gu (by simp) ag (dD λQ' hQ=>bG ((Yk k p op f ng n z0 z1 m d x y z fr ma X).mpr ?_)) (by simp[aD,bz]);dsimp only;have hQ:=hQ _ rfl;try dsimp only
    have hs:=BW (fr:=fr) (b1:=aa (op%4) 1) (b2:=aa (op%4) 2) (gs:=[]) km.1 (λp hp=>by cases hp);have hm:=yh (b1:=aa (op%4) 1) (b2:=aa (op%4) 2) (gs:=[]) kf km (λp hp=>by cases hp);have hl:=@C3 fr ma (aa (op%4) 1) (aa (op%4) 2) [];generalize eO fr ma (aa (op%4) 1) (aa (op%4) 2) []=R at *;simp only[FH,lZ,jn];simp only[r0,ho,hX,Ot (X:=X) hs hm hl,reduceCtorEq,zAh,zAi,zAj];exact hQ
 | false=>
    refine zh (EZ f13) (L:=io) (ws:=[]) WK Gu (by simp) ag (dD λQ' hQ=>bG ((Zv k p op f ng n z0 z1 m d x y z fr ma X).mpr ?_)) (by simp[aD,bz]);dsimp only;have hQ:=hQ _ rfl;try dsimp only
    have n1:=@OH k p op f ng n z0 z1 m d fr ma kz0 kz1 ka kf km ho;obtain⟨a1,a2,a3,a4,a5⟩:=VE (p:=p) (op:=op) (ng:=ng) (X:=X) kz0 kz1 ka kp kf km ho;have a6:∀v:Int,aa v v=true:=λv=>al.mpr rfl;rw[a3];cases e1:xR (fK k f n z0 z1 m d) (fA k op) (fC k op)with
    | true=>
      simp only[r0,ho,hX,n1,a1,a2,a4,a6,reduceCtorEq,zAh,zAi,zAj];exact hQ
    | false=>
      have a5:=a5 e1;cases e2:aa (sC (fK k f n z0 z1 m d) (wd k f ng n z0 z1 m d) (fS k f n z0 z1 m d) (fE k f n z0 z1 m d) (tV k f n z0 z1 m d) (tN k f n z0 z1 m d) (fP k p) (fA k op) (fB k p op fr) (fC k op) (fD k p op fr ma)) 1 with
      | false=>
        simp only[r0,ho,hX,n1,a1,a2,a4,a6,reduceCtorEq,zAh,zAi,zAj];exact hQ
      | true=>
        have a5:=a5 e2;simp only[r0,ho,hX,n1,a1,a2,a4,a5,a6,reduceCtorEq,zAh,zAi,zAj];exact hQ
theorem Z9(f13:bt Tryz.prog cfg 13 [] [] (.bool true) []){gs:List (Int×Int)}{K:eZ}(hg:∀p∈gs,(0<=p.1/\p.1<=255)/\(0<=p.2/\p.2<=255))(k0:q.ok)(hX:ae .i64 X):bt Tryz.prog cfg 4 [q.a (.slice 14 0 gs.length K),.int .i64 X] [.cells (jI gs) false none] (.bool true) []:=by
 have r0:=OL k0;obtain⟨k,p,op,f,ng,n,z0,z1,m,d,x,y,z,fr,ma⟩:=q;dsimp only at r0;obtain⟨ka,kp,ko,_,_,kz0,kz1,_,_,_,_,_,kf,km⟩:=k0;dsimp only at ka kp ko kz0 kz1 kf km;show bt Tryz.prog cfg 4 [.agg [.int .u8 k,.int .u8 p,.int .u8 op,.int .u8 f,.bool ng,.int .u16 n,.int .u8 z0,.int .u8 z1,.int .u8 m,.int .u8 d,.int .u8 x,.int .u8 y,.int .u8 z,.int .i16 fr,.int .u8 ma,.slice 14 0 gs.length K],.int .i64 X] [.cells (jI gs) false none] (.bool true) [];cases ho:iL k f n z0 z1 m d with
 | true=>
    refine zh (EZ f13) (L:=io) (ws:=[.cells (jI gs) false none]) WP Gu (by simp) ag (dD λQ' hQ=>bG ((Xw k p op f ng n z0 z1 m d x y z fr ma X (jI gs) gs.length K).mpr ?_)) (by simp[aD,bz]);dsimp only;have hQ:=hQ _ rfl;try dsimp only
    have w:=Pd hg;obtain⟨w1,w2,w3,w4,w5,w6⟩:=w;simp only[w1,w2];have hs:=BW (fr:=fr) (b1:=aa (op%4) 1) (b2:=aa (op%4) 2) (gs:=gs) km.1 hg;have hm:=yh (b1:=aa (op%4) 1) (b2:=aa (op%4) 2) (gs:=gs) kf km hg;have hl:=@C3 fr ma (aa (op%4) 1) (aa (op%4) 2) gs;generalize eO fr ma (aa (op%4) 1) (aa (op%4) 2) gs=R at *;simp only[FH,lZ,jn];simp only[w1,w2,w3,w4,w5,w6,r0,ho,hX,Ot (X:=X) hs hm hl,reduceCtorEq,zAh,zAi,zAj];exact hQ
 | false=>
    refine zh (EZ f13) (L:=io) (ws:=[.cells (jI gs) false none]) WP Gu (by simp) ag (dD λQ' hQ=>bG ((Zp k p op f ng n z0 z1 m d x y z fr ma X (jI gs) gs.length K).mpr ?_)) (by simp[aD,bz]);dsimp only;have hQ:=hQ _ rfl;try dsimp only
    have w:=Pd hg;obtain⟨w1,w2,w3,w4,w5,w6⟩:=w;simp only[w1,w2];have n1:=@OH k p op f ng n z0 z1 m d fr ma kz0 kz1 ka kf km ho;obtain⟨a1,a2,a3,a4,a5⟩:=VE (p:=p) (op:=op) (ng:=ng) (X:=X) kz0 kz1 ka kp kf km ho;have a6:∀v:Int,aa v v=true:=λv=>al.mpr rfl;rw[a3];cases e1:xR (fK k f n z0 z1 m d) (fA k op) (fC k op)with
    | true=>
      simp only[w1,w2,w3,w4,w5,w6,r0,ho,hX,n1,a1,a2,a4,a6,reduceCtorEq,zAh,zAi,zAj];exact hQ
    | false=>
      have a5:=a5 e1;cases e2:aa (sC (fK k f n z0 z1 m d) (wd k f ng n z0 z1 m d) (fS k f n z0 z1 m d) (fE k f n z0 z1 m d) (tV k f n z0 z1 m d) (tN k f n z0 z1 m d) (fP k p) (fA k op) (fB k p op fr) (fC k op) (fD k p op fr ma)) 1 with
      | false=>
        simp only[w1,w2,w3,w4,w5,w6,r0,ho,hX,n1,a1,a2,a4,a6,reduceCtorEq,zAh,zAi,zAj];exact hQ
      | true=>
        have a5:=a5 e2;simp only[w1,w2,w3,w4,w5,w6,r0,ho,hX,n1,a1,a2,a4,a5,a6,reduceCtorEq,zAh,zAi,zAj];exact hQ
end Go.Ev
end
section
namespace Go.Ev
open Go
abbrev DZ:=Tb (List (List AV×AV))
def tI:List (List AV×AV)->List AV->Option AV
 | [],_=>none
 | e::es,args=>bif wK (B2 8) e.1 args then some e.2 else tI es args
def SD(b:Option (AV×aC))(o:aC):Option AV->Option (AV×aC)
 | some v=>some (v,o)
 | none=>b
def YV(M:DZ)(base:FuncId->bg->List AV->aC->Option (AV×aC))(f:FuncId)(C:bg)(args:List AV)(o:aC):Option (AV×aC):=SD (base f C args o) o (ob (M.get f) λl=>tI l args)
def D4(cfg:cG)(M:DZ):cG:=⟨cfg.G,cfg.lend,cfg.canon,YV M cfg.orc,cfg.root⟩
def Re(P:Program)(cfg:cG)(M:DZ):Prop:=∀f l,M.get f=some l->∀e∈l,gF P cfg f e.1 e.2
theorem xC:∀{l:List (List AV×AV)} {args:List AV} {v:AV},tI l args=some v->(args,v)∈l
 | [],args,v,h=>by cases h
 | e::es,args,v,h=>by
   rw[tI]at h;cases hb:wK (B2 8) e.1 args with
   | true=>
     rw[hb,cond_true,zAc]at h;have:=sh (Br 8) hb;rw[<-this,<-h];exact List.mem_cons_self
   | false=>rw[hb,cond_false]at h;exact List.mem_cons_of_mem _ (xC h)
theorem mE.memo{P:Program}{T:fb}{cfg:cG}(g:mE P T cfg){M:DZ}(hM:Re P cfg M):mE P T (D4 cfg M):=by
 refine⟨g.tab,g.mixed,⟨g.lv.loops,g.lv.G,g.lv.root⟩,λC f args o r h D m w hi hok=>?_,λC f args o r h hl=>?_⟩
 . have h':SD (cfg.orc f C args o) o (ob (M.get f) λl=>tI l args)=some r:=h;have hi':dV cfg D m C o w:=dV.to (cfg:=D4 cfg M) (cfg':=cfg) rfl rfl hi;cases hx:(ob (M.get f) λl=>tI l args)with
   | some v=>
     rw[hx]at h';cases h';rw[ai]at hx;obtain⟨l,hl,hv⟩:=hx;exact(hM f l hl _ (xC hv) C D m o w hi' hok).mono λV w' ⟨h1,h2,h3,h4⟩=>⟨D,m,h1,h2,dk.to (cfg:=cfg) (cfg':=D4 cfg M) rfl rfl h3,λ_ _=>h4⟩
   | none=>
     rw[hx]at h';exact(g.orc C f args o r h' D m w hi' hok).mono λV w' ⟨D',m',h1,h2,h3,h4⟩=>⟨D',m',h1,h2,dk.to (cfg:=cfg) (cfg':=D4 cfg M) rfl rfl h3,h4⟩
 . have h':SD (cfg.orc f C args o) o (ob (M.get f) λl=>tI l args)=some r:=h;cases hx:(ob (M.get f) λl=>tI l args)with
   | some v=>rw[hx]at h';cases h';exact .refl hl
   | none=>rw[hx]at h';exact g.foot C f args o r h' hl
theorem bb{P:Program}{cfg:cG}{f:FuncId}{args:List AV}{v:AV}{l:List (List AV×AV)}(h:gF P cfg f args v)(hl:∀e∈l,gF P cfg f e.1 e.2):∀e∈(args,v)::l,gF P cfg f e.1 e.2:=λe he=>by
 grind
theorem dN{P:Program}{cfg:cG}{f:FuncId}:∀e∈([]:List (List AV×AV)),gF P cfg f e.1 e.2:=λe he=>by cases he
end Go.Ev
end
section
namespace Go.Ev
open Go Go.Proofs
abbrev iA(n:Int):AV:=.int .i64 n
abbrev dA(s:List UInt8)(e g:Int)(mo da:List UInt8):AV:=.agg [.bool false,.bool false,.str s,iA e,iA g,.str mo,.str da,.int .u8 0,.int .u8 0,.int .u8 0]
abbrev rA(a b c d:Int):AV:=.agg [.int .i8 a,iA b,.int .i8 c,iA d]
def SO:List AV×AV:=([dA [48,48,48,48] 0 0 [48,50] []],.bool true)
def X7:lF tab cfg 10000 125 SO.1 SO.2=true:=by kernel_rfl
def Ph:List AV×AV:=([.agg [.bool false,.bool false,.str [48,48,48,48],iA 0,iA 0]],.tuple [iA 0,iA 0])
def Zd:lF tab cfg 10000 199 Ph.1 Ph.2=true:=by kernel_rfl
def P5:List AV×AV:=([iA 0,iA 2],.tuple [iA 31,iA 0])
def XT:lF tab cfg 10000 155 P5.1 P5.2=true:=by kernel_rfl
def RN:List AV×AV:=([rA 0 31 0 31,rA 0 31 0 59],.bool true)
def XO:lF tab cfg 10000 152 RN.1 RN.2=true:=by kernel_rfl
def Qm:List AV×AV:=([rA 0 60 0 60,rA 0 31 0 59],.bool false)
def Xk:lF tab cfg 10000 152 Qm.1 Qm.2=true:=by kernel_rfl
def Qp:List AV×AV:=([dA [48,48,48,48] 0 0 [48,88] []],iA 0)
def XN:lF tab cfg 10000 81 Qp.1 Qp.2=true:=by kernel_rfl
def Pw:List AV×AV:=([iA 59],.tuple [iA 0,iA 0])
def Xg:lF tab cfg 10000 164 Pw.1 Pw.2=true:=by kernel_rfl
def Rq:List AV×AV:=([rA 0 59 0 59,rA 0 31 0 59],.bool true)
def Za:lF tab cfg 10000 152 Rq.1 Rq.2=true:=by kernel_rfl
def Ql:List AV×AV:=([iA 300],.tuple [iA 0,iA 0])
def X_:lF tab cfg 10000 164 Ql.1 Ql.2=true:=by kernel_rfl
def Rs:List AV×AV:=([iA 0,iA 10],.tuple [iA 274,iA 0])
def XL:lF tab cfg 10000 155 Rs.1 Rs.2=true:=by kernel_rfl
def IK:List AV×AV:=([dA [48,48,48,48] 0 0 [] []],iA 0)
def UM:lF tab cfg 10000 81 IK.1 IK.2=true:=by kernel_rfl
def I8:List AV×AV:=([iA 0],.tuple [iA 0,iA 365,iA 0])
def WM:lF tab cfg 10000 165 I8.1 I8.2=true:=by kernel_rfl
def Jj:List AV×AV:=([dA [48,48,48,48] 0 0 [48,49] []],.bool true)
def TZ:lF tab cfg 10000 125 Jj.1 Jj.2=true:=by kernel_rfl
def IW:List AV×AV:=([iA 0,iA 1],.tuple [iA 30,iA 0])
def Ww:lF tab cfg 10000 210 IW.1 IW.2=true:=by kernel_rfl
def LV:List AV×AV:=([rA 0 40 0 40,rA 0 0 0 365],.bool true)
def Tv:lF tab cfg 10000 152 LV.1 LV.2=true:=by kernel_rfl
def Jl:List AV×AV:=([rA 0 40 0 40,rA 0 31 0 59],.bool true)
def Wq:lF tab cfg 10000 152 Jl.1 Jl.2=true:=by kernel_rfl
def LN:List AV×AV:=([rA 0 0 0 0,rA 0 0 0 365],.bool true)
def Td:lF tab cfg 10000 152 LN.1 LN.2=true:=by kernel_rfl
def JQ:List AV×AV:=([rA 0 0 0 0,rA 0 31 0 59],.bool false)
def UQ:lF tab cfg 10000 152 JQ.1 JQ.2=true:=by kernel_rfl
def Jb:List AV×AV:=([iA 365],.tuple [iA 0,iA 0])
def VU:lF tab cfg 10000 164 Jb.1 Jb.2=true:=by kernel_rfl
def Jd:List AV×AV:=([dA [48,48,48,48] 0 0 [48,51] []],.bool true)
def TG:lF tab cfg 10000 125 Jd.1 Jd.2=true:=by kernel_rfl
def JO:List AV×AV:=([iA 0,iA 3],.tuple [iA 60,iA 0])
def Te:lF tab cfg 10000 155 JO.1 JO.2=true:=by kernel_rfl
def LR:List AV×AV:=([rA 0 0 0 30,rA 0 60 0 90],.bool false)
def Wz:lF tab cfg 10000 80 LR.1 LR.2=true:=by kernel_rfl
def Jy:List AV×AV:=([rA 0 30 0 30,rA 0 0 0 30],.bool true)
def To:lF tab cfg 10000 152 Jy.1 Jy.2=true:=by kernel_rfl
def KL:List AV×AV:=([rA 0 40 0 40,rA 0 0 0 30],.bool false)
def Wj:lF tab cfg 10000 152 KL.1 KL.2=true:=by kernel_rfl
def Kc:List AV×AV:=([rA 0 40 0 40,rA 0 60 0 90],.bool false)
def Uh:lF tab cfg 10000 152 Kc.1 Kc.2=true:=by kernel_rfl
noncomputable def Oz:DZ:=(.node none (.node none (.node none (.node none .nil (.node none (.node none (.node none .nil (.node (some [Ph]) .nil .nil)) .nil) .nil)) (.node none .nil (.node none .nil (.node none (.node none (.node (some [P5,Rs,JO]) .nil .nil) .nil) .nil)))) (.node none (.node none (.node none .nil (.node none (.node (some [Qp,IK]) .nil .nil) .nil)) .nil) (.node none (.node none (.node none .nil (.node none (.node (some [I8]) .nil .nil) .nil)) .nil) (.node none .nil (.node none .nil (.node (some [SO,Jj,Jd]) .nil .nil)))))) (.node none (.node none (.node none (.node none .nil (.node none (.node (some [LR]) .nil .nil) .nil)) (.node none .nil (.node none (.node none (.node (some [RN,Qm,Rq,LV,Jl,LN,JQ,Jy,KL,Kc]) .nil .nil) .nil) .nil))) (.node none (.node none (.node none .nil (.node none (.node (some [Pw,Ql,Jb]) .nil .nil) .nil)) .nil) .nil)) (.node none (.node none (.node none .nil (.node none (.node none .nil (.node (some [IW]) .nil .nil)) .nil)) .nil) .nil)))
noncomputable def nB:cG:=D4 cfg Oz
theorem LB(g:mE Tryz.prog tab cfg):np (λf l=>∀e∈l,gF Tryz.prog cfg f e.1 e.2) (λi=>i) Oz:=⟨aI,⟨aI,⟨aI,⟨aI,trivial,⟨aI,⟨aI,⟨aI,trivial,⟨(dM (bb (g.fact 10000 Zd) dN)),trivial,trivial⟩⟩,trivial⟩,trivial⟩⟩,⟨aI,trivial,⟨aI,trivial,⟨aI,⟨aI,⟨(dM (bb (g.fact 10000 XT) (bb (g.fact 10000 XL) (bb (g.fact 10000 Te) dN)))),trivial,trivial⟩,trivial⟩,trivial⟩⟩⟩⟩,⟨aI,⟨aI,⟨aI,trivial,⟨aI,⟨(dM (bb (g.fact 10000 XN) (bb (g.fact 10000 UM) dN))),trivial,trivial⟩,trivial⟩⟩,trivial⟩,⟨aI,⟨aI,⟨aI,trivial,⟨aI,⟨(dM (bb (g.fact 10000 WM) dN)),trivial,trivial⟩,trivial⟩⟩,trivial⟩,⟨aI,trivial,⟨aI,trivial,⟨(dM (bb (g.fact 10000 X7) (bb (g.fact 10000 TZ) (bb (g.fact 10000 TG) dN)))),trivial,trivial⟩⟩⟩⟩⟩⟩,⟨aI,⟨aI,⟨aI,⟨aI,trivial,⟨aI,⟨(dM (bb (g.fact 10000 Wz) dN)),trivial,trivial⟩,trivial⟩⟩,⟨aI,trivial,⟨aI,⟨aI,⟨(dM (bb (g.fact 10000 XO) (bb (g.fact 10000 Xk) (bb (g.fact 10000 Za) (bb (g.fact 10000 Tv) (bb (g.fact 10000 Wq) (bb (g.fact 10000 Td) (bb (g.fact 10000 UQ) (bb (g.fact 10000 To) (bb (g.fact 10000 Wj) (bb (g.fact 10000 Uh) dN))))))))))),trivial,trivial⟩,trivial⟩,trivial⟩⟩⟩,⟨aI,⟨aI,⟨aI,trivial,⟨aI,⟨(dM (bb (g.fact 10000 Xg) (bb (g.fact 10000 X_) (bb (g.fact 10000 VU) dN)))),trivial,trivial⟩,trivial⟩⟩,trivial⟩,trivial⟩⟩,⟨aI,⟨aI,⟨aI,trivial,⟨aI,⟨aI,trivial,⟨(dM (bb (g.fact 10000 Ww) dN)),trivial,trivial⟩⟩,trivial⟩⟩,trivial⟩,trivial⟩⟩⟩
theorem VP(g:mE Tryz.prog tab cfg):mE Tryz.prog tab nB:=g.memo λf l h=>(LB g).get f l h
end Go.Ev
end
