import Derived.Test.YtoghlpcacfnjbaaGreatDoorCards
import Derived.Test.YtoghlpcacfnjbaaGreatDoorTie
import Derived.ProofKit
import Derived.Deep.DeepHandedRow
import Derived.RowKitTokens
import Derived.WideKeyArgs
import Derived.ChangeSame
import Derived.Test.YtoghlpcacfnjbaaGreatDoorRows
import Derived.Test.YtoghlpcacfnjbaaGreatDoorP35
set_option linter.all false
set_option maxRecDepth 100000
set_option maxHeartbeats 4000000
section
namespace Go.Ev
open Go Go.Proofs
variable{s:List UInt8}{f n z0 z1 m d fr ma i p:Int}
theorem mN{c:UInt8}{a b:Int}:aY (c::s) a b=(if a<=(c.toNat:Int)/\(c.toNat:Int)<=b then 1 else 0)+aY s a b:=by
 unfold aY;rw[List.filter_cons];by_cases h:a<=(c.toNat:Int)/\(c.toNat:Int)<=b
 . rw[if_pos h,if_pos (by simpa using h)];simp only[zAf];omega
 . rw[if_neg h,if_neg (by simpa using h)];omega
theorem rg{a b:Int}:aY [] a b=0:=rfl
theorem G8{n:Int}:(48<=(d0 n).toNat/\(d0 n).toNat<=57)/\(48<=(d1 n).toNat/\(d1 n).toNat<=57)/\(48<=(d2 n).toNat/\(d2 n).toNat<=57)/\(48<=(d3 n).toNat/\(d3 n).toNat<=57):=by
 have h0:=oZ (k:=n%10000/1000) (by omega);have h1:=oZ (k:=n%10000/100%10) (by omega);have h2:=oZ (k:=n%10000/10%10) (by omega);have h3:=oZ (k:=n%10000%10) (by omega);unfold d0 d1 d2 d3;omega
theorem numL_lt:∀(s:List UInt8) (n:Nat),dV s->s.foldl (λn b=>n*10+(b.toNat-48)) n<(n+1)*10^s.length
 | [],n,_=>by simp
 | b::r,n,h=>by
   have hb:=@pz (b::r) h 0 (by simp);have hb:48<=b.toNat/\b.toNat<=57:=hb;have hr:dV r=true:=by
    unfold dV at h ⊢;rw[List.all_cons,zAa]at h;exact h.2
   have ih:=numL_lt r (n*10+(b.toNat-48)) hr;have:(n*10+(b.toNat-48)+1)*10^r.length<=(n+1)*10^(r.length+1):=by
    rw[Nat.pow_succ,<-Nat.mul_assoc,Nat.mul_right_comm];exact Nat.mul_le_mul_right _ (by omega)
   exact Nat.lt_of_lt_of_le ih this
theorem N3{n z0:Int}{k:Nat}(hk:1<=k)(hz:0<=z0):∃t:List UInt8,List.take k (I3 n z0)=Bc (z0%9+1)::t/\(∀c∈List.take k (I3 n z0),48<=c.toNat/\c.toNat<=57)/\(List.take k (I3 n z0)).length<=5/\(k<=5->(List.take k (I3 n z0)).length=k):=by
 obtain⟨h0,h1,h2,h3⟩:=@G8 n;have h9:=oZ (k:=z0%9+1) (by omega);unfold I3
 match k,hk with
 | k+1,_=>
   refine⟨List.take k [d0 n,d1 n,d2 n,d3 n],rfl,λc hc=>?_,?_,λh=>?_⟩
   . have:=List.mem_of_mem_take hc;simp only[List.mem_cons,List.not_mem_nil,or_false]at this;rcases this with rfl|rfl|rfl|rfl|rfl<;>first|assumption|omega
   . rw[List.length_take];exact Nat.min_le_right _ _
   . rw[List.length_take];simp only[zAf,List.length_nil];omega
theorem zq(h:∀c∈s,48<=c.toNat/\c.toNat<=57):aY s 48 57=s.length/\aY s 88 88=0:=by
 unfold aY;rw[List.length_filter_eq_length_iff,List.length_eq_zero_iff,List.filter_eq_nil_iff];refine⟨λc hc=>?_,λc hc=>?_⟩
 . have:=h c hc;simp only[zAa,zAb];omega
 . have:=h c hc;simp only[zAa,zAb];omega
theorem Ke(h:∀c∈s,48<=c.toNat/\c.toNat<=57):dV s=true:=oV (zq h).1
theorem n7{f n z0 z1:Int}(hz0:0<=z0/\z0<=255)(hz1:0<=z1/\z1<=255) :
 (sY f=false/\kQ f z1=0/\(gw f n z0 z1).length=4/\(∀c∈gw f n z0 z1,(48<=c.toNat/\c.toNat<=57)\/c.toNat=88)/\0<=la f n z0 z1/\la f n z0 z1<=4/\(0<la f n z0 z1->∀c∈gw f n z0 z1,48<=c.toNat/\c.toNat<=57))\/
 (sY f/\(∀c∈gw f n z0 z1,48<=c.toNat/\c.toNat<=57)/\1<=(gw f n z0 z1).length/\(gw f n z0 z1).length<=5/\((gw f n z0 z1).getD 0 0).toNat≠48/\0<=kQ f z1/\kQ f z1<=11/\(kQ f z1=0->(gw f n z0 z1).length=5)/\0<=la f n z0 z1/\la f n z0 z1<=(gw f n z0 z1).length+kQ f z1):=by
 obtain⟨h0,h1,h2,h3⟩:=@G8 n;have h9:=oZ (k:=z0%9+1) (by omega);by_cases c5:f%6=5
 . right
   have e5:aa (f%6) 5=true:=ao.mpr c5;have e4:aa (f%6) 4=false:=aw.mpr (by omega);have e3:aa (f%6) 3=false:=aw.mpr (by omega);have key:∀(S:List UInt8) (E:Int),gw f n z0 z1=S->kQ f z1=E->(∃t,S=Bc (z0%9+1)::t)->(∀c∈S,48<=c.toNat/\c.toNat<=57)->S.length<=5->0<=E->E<=11->(E=0->S.length=5)->sY f/\(∀c∈gw f n z0 z1,48<=c.toNat/\c.toNat<=57)/\1<=(gw f n z0 z1).length/\(gw f n z0 z1).length<=5/\((gw f n z0 z1).getD 0 0).toNat≠48/\0<=kQ f z1/\kQ f z1<=11/\(kQ f z1=0->(gw f n z0 z1).length=5)/\0<=la f n z0 z1/\la f n z0 z1<=(gw f n z0 z1).length+kQ f z1:=by
    intro S E hS hE ⟨t,ht⟩ hd hl e0 e11 he;have hg:la f n z0 z1=z0/16%(Int.ofNat S.length+E+1):=by unfold la;rw[e4,e5,hS,hE];rfl
    rw[hS,hE,hg];have hl1:1<=S.length:=by rw[ht];simp
    have hm:0<Int.ofNat S.length+E+1:=by have:Int.ofNat S.length=(S.length:Int):=rfl;omega
    have m0:=Int.emod_nonneg (z0/16) (show Int.ofNat S.length+E+1≠0 by omega);have m1:=Int.emod_lt_of_pos (z0/16) hm;refine⟨by unfold sY;exact e5,hd,hl1,hl,?_,e0,e11,he,m0,?_⟩
    . rw[ht];show(Bc (z0%9+1)).toNat≠48;omega
    . have:Int.ofNat S.length=(S.length:Int):=rfl;omega
   by_cases c3:z1%3<=0
   . have e0:ab (z1%3) 0=true:=aq.mpr c3;refine key (I3 n z0) 0 (by unfold gw;rw[e3,e5,e0];rfl) (by unfold kQ;rw[e5,e0];rfl) ⟨_,rfl⟩ (λc hc=>?_) (Nat.le_refl _) (by omega) (by omega) (λ_=>rfl);unfold I3 at hc;simp only[List.mem_cons,List.not_mem_nil,or_false]at hc;rcases hc with rfl|rfl|rfl|rfl|rfl<;>first|assumption|omega
   . have e0:ab (z1%3) 0=false:=bF.mpr (by omega);obtain⟨t,t1,t2,t3,t4⟩:=@N3 n z0 (1+z1%5).toNat (by omega) hz0.1;exact key _ (1+z1/16%11) (by unfold gw;rw[e3,e5,e0];rfl) (by unfold kQ;rw[e5,e0];rfl) ⟨t,t1⟩ t2 t3 (by omega) (by omega) (λh=>by omega)
 . left
   have e5:aa (f%6) 5=false:=aw.mpr c5;have hL:sY f=false:=e5;have hE:kQ f z1=0:=by unfold kQ;rw[e5];rfl
   by_cases c3:f%6=3
   . have e3:aa (f%6) 3=true:=ao.mpr c3;have e4:aa (f%6) 4=false:=aw.mpr (by omega);have hS:gw f n z0 z1=Rh (z0%4) (z1%4) n:=by unfold gw;rw[e3];rfl
     have hG:la f n z0 z1=0:=by unfold la;rw[e4,e5];rfl
     rw[hS,hG];refine⟨hL,hE,rfl,λc hc=>?_,by omega,by omega,λh=>by omega⟩;unfold Rh at hc;have sp:∀(b:Bool) (d:UInt8),(48<=d.toNat/\d.toNat<=57)->(48<=(bif b then UInt8.ofNat 88 else d).toNat/\(bif b then UInt8.ofNat 88 else d).toNat<=57)\/(bif b then UInt8.ofNat 88 else d).toNat=88:=λb d hd=>by cases b;exact .inl hd;exact .inr rfl
     simp only[List.mem_cons,List.not_mem_nil,or_false]at hc;rcases hc with rfl|rfl|rfl|rfl<;>exact sp _ _ (by assumption)
   . have e3:aa (f%6) 3=false:=aw.mpr c3;have hS:gw f n z0 z1=[d0 n,d1 n,d2 n,d3 n]:=by unfold gw;rw[e3,e5];rfl
     have hd:∀c∈[d0 n,d1 n,d2 n,d3 n],48<=c.toNat/\c.toNat<=57:=λc hc=>by
      simp only[List.mem_cons,List.not_mem_nil,or_false]at hc;rcases hc with rfl|rfl|rfl|rfl<;>assumption
     rw[hS];have hG:0<=la f n z0 z1/\la f n z0 z1<=4:=by
      unfold la;rw[e5];cases aa (f%6) 4<;>simp only[zAj]<;>omega
     exact⟨hL,hE,rfl,λc hc=>.inl (hd c hc),hG.1,hG.2,λ_=>hd⟩
theorem DO:∀{s:List UInt8},(∀c∈s,(48<=c.toNat/\c.toNat<=57)\/c.toNat=88)->aY s 48 57+aY s 88 88=s.length
 | [],_=>rfl
 | c::r,h=>by
   have ih:=DO (s:=r) λd hd=>h d (by simp[hd]);have hc:=h c (by simp);rw[mN,mN,zAf];rcases hc with hc|hc
   . rw[if_pos (by omega),if_neg (by omega)];omega
   . rw[if_neg (by omega),if_pos (by omega)];omega
theorem B9(h:∀c∈s,48<=c.toNat/\c.toNat<=57):aY s 88 88=0:=(zq h).2
theorem ER{e:Int}(h:∀c∈s,48<=c.toNat/\c.toNat<=57)(hl:s.length<=5)(he:0<=e/\e<=11):cF s e.toNat<10000000000000000:=by
 have h1:=numL_lt s 0 (Ke h);have h1:numL s<(0+1)*10^s.length:=h1;have h2:(10:Nat)^s.length<=10^5:=Nat.pow_le_pow_right (by decide) hl;have h3:(10:Nat)^e.toNat<=10^11:=Nat.pow_le_pow_right (by decide) (by omega);have h4:(1:Nat)<=10^e.toNat:=Nat.pos_of_ne_zero (by simp);have h5:numL s<10^5:=by omega
 unfold cF;have:numL s*10^e.toNat<10^5*10^e.toNat:=Nat.mul_lt_mul_of_pos_right h5 h4;have:(10:Nat)^5*10^e.toNat<=10^5*10^11:=Nat.mul_le_mul_left _ h3;have:(10:Nat)^5*10^11=10000000000000000:=by decide
 omega
theorem Tc(hz0:0<=z0/\z0<=255)(hz1:0<=z1/\z1<=255):aV false (sY f) (gw f n z0 z1) (kQ f z1) (la f n z0 z1)=true:=by
 unfold aV;rw[zAb];rcases @n7 f n z0 z1 hz0 hz1 with⟨a1,a2,a3,a4,a5,a6,a7⟩|⟨a1,a2,a3,a4,a5,a6,a7,a8,a9,a10⟩
 . rw[a1,a2];refine⟨DO a4,a5,.inl ⟨rfl,a3,rfl,(λh=>by cases h.1),a6,λh=>?_⟩⟩;have:=B9 (a7 h.1);omega
 . obtain⟨b1,b2⟩:=zq a2;rw[a1,b1,b2];refine⟨by omega,a9,.inr ⟨rfl,rfl,a3,(by omega),a5,a6,(by omega),λh=>?_,a10,?_⟩⟩
   . have:=a8 h.1;omega
   . unfold magOk;rw[al];exact Nat.le_of_lt (ER a2 a4 ⟨a6,a7⟩)
theorem Po{f:Int}{ng:Bool}{n z0 z1:Int}(hz0:0<=z0/\z0<=255)(hz1:0<=z1/\z1<=255):aV (qV f ng n z0 z1) (sY f) (gw f n z0 z1) (kQ f z1) (la f n z0 z1)=true:=by
 unfold qV;cases h:(ng&&aV ng (sY f) (gw f n z0 z1) (kQ f z1) (la f n z0 z1))with
 | false=>exact Tc hz0 hz1
 | true=>
   rw[zAa]at h;obtain⟨h1,h2⟩:=h;subst h1;exact h2
theorem Tw(hz0:0<=z0/\z0<=255)(hz1:0<=z1/\z1<=255)(hx:aY (gw f n z0 z1) 88 88=0):cF (gw f n z0 z1) (kQ f z1).toNat≠10000000000000000:=by
 have hd:∀c∈gw f n z0 z1,c.toNat≠88:=Oo hx;rcases @n7 f n z0 z1 hz0 hz1 with⟨a1,a2,a3,a4,a5,a6,a7⟩|⟨a1,a2,a3,a4,a5,a6,a7,a8,a9,a10⟩
 . have:=ER (s:=gw f n z0 z1) (e:=0) (λc hc=>(a4 c hc).resolve_right (hd c hc)) (by omega) (by omega);rw[a2];omega
 . have:=ER a2 a4 ⟨a6,a7⟩;omega
def yz(m:Int):Int:=if m=2 then 28 else if m=4\/m=6\/m=9\/m=11 then 30 else 31
theorem ID(y m:Int):yz m<=bP y m:=by
 unfold bP Go.Proofs.YtoghlpcacfnjbaaGreatDoor.mlen yz;have:=Go.Proofs.YtoghlpcacfnjbaaGreatDoor.lp_01 y
 (repeat' split)<;>omega
def Kd(k:Nat):Bool:=ae (Av (Int.ofNat k)) [] || (!(aa (aR (Av (Int.ofNat k))) 0) || eW (Av (Int.ofNat k)) 12)
def Mt(k j:Nat):Bool:=ae (Av (Int.ofNat k)) [] || (!(aa (aR (Av (Int.ofNat k))) 0) || (ae (Gt (Int.ofNat j) (Av (Int.ofNat k))) [] || (eW (Gt (Int.ofNat j) (Av (Int.ofNat k))) 31&&((Co (Av (Int.ofNat k)) 12).any λm=>(Co (Gt (Int.ofNat j) (Av (Int.ofNat k))) 31).any λd=>decide (d<=yz m)))))
def Iw:(List.range 40).all Kd=true:=by kernel_rfl
def II:(List.range 40).all (λk=>(List.range 40).all (Mt k))=true:=by kernel_rfl
theorem OQ{c0 c1 c2 c3:UInt8}(h:∀c∈[c0,c1,c2,c3],(48<=c.toNat/\c.toNat<=57)\/c.toNat=88)(hx:aY [c0,c1,c2,c3] 88 88≠0):∃k:Int,1<=k/\nS c0 c1 c2 c3 k:=by
 have g0:=h c0 (by simp);have g1:=h c1 (by simp);have g2:=h c2 (by simp);have g3:=h c3 (by simp);have v:∀c:UInt8,((48<=c.toNat/\c.toNat<=57)\/c.toNat=88)->∃d:Int,0<=d/\d<=9/\(c.toNat=88\/(c.toNat:Int)=48+d)/\(c.toNat=88->d=9):=λc hc=>by
  rcases hc with hc|hc
  . exact⟨c.toNat-48,by omega,by omega,.inr (by omega),λe=>by omega⟩
  . exact⟨9,by omega,by omega,.inl hc,λ_=>rfl⟩
 obtain⟨a0,p0,q0,r0,s0⟩:=v c0 g0;obtain⟨a1,p1,q1,r1,s1⟩:=v c1 g1;obtain⟨a2,p2,q2,r2,s2⟩:=v c2 g2;obtain⟨a3,p3,q3,r3,s3⟩:=v c3 g3;have some:c0.toNat=88\/c1.toNat=88\/c2.toNat=88\/c3.toNat=88:=by
  simp only[mN,rg]at hx;by_cases b0:c0.toNat=88
  . exact .inl b0
  . by_cases b1:c1.toNat=88
    . exact .inr (.inl b1)
    . by_cases b2:c2.toNat=88
      . exact .inr (.inr (.inl b2))
      . by_cases b3:c3.toNat=88
        . exact .inr (.inr (.inr b3))
        . rw[if_neg (by omega),if_neg (by omega),if_neg (by omega),if_neg (by omega)]at hx;exact absurd rfl hx
 refine⟨1000*a0+100*a1+10*a2+a3,by omega,by omega,by omega,?_,?_,?_,?_⟩
 . unfold mt;rw[show(1000*a0+100*a1+10*a2+a3)/1000=a0 by omega];exact r0
 . unfold mt;rw[show(1000*a0+100*a1+10*a2+a3)/100%10=a1 by omega];exact r1
 . unfold mt;rw[show(1000*a0+100*a1+10*a2+a3)/10%10=a2 by omega];exact r2
 . unfold mt;rw[show(1000*a0+100*a1+10*a2+a3)%10=a3 by omega];exact r3
theorem Fh{f:Int}{ng:Bool}{n z0 z1:Int}(hz0:0<=z0/\z0<=255)(hz1:0<=z1/\z1<=255):∃k,mK (qV f ng n z0 z1) (gw f n z0 z1) (kQ f z1) k/\-9223372036854775808<=k:=by
 have hk:=@Po f ng n z0 z1 hz0 hz1;by_cases hx:aY (gw f n z0 z1) 88 88=0
 . obtain⟨he,hl,hdg,hmk,hmv⟩:=Bk hk hx;refine⟨dY (qV f ng n z0 z1) (gw f n z0 z1) (kQ f z1),?_,?_⟩
   . unfold mK;rw[hx];exact rfl
   . unfold dY;cases qV f ng n z0 z1<;>simp only[zAj]<;>omega
 . rcases @n7 f n z0 z1 hz0 hz1 with⟨a1,a2,a3,a4,a5,a6,a7⟩|⟨a1,a2,a3,a4,a5,a6,a7,a8,a9,a10⟩
   . generalize gw f n z0 z1=s at *
     match s,a3 with
     | [c0,c1,c2,c3],_=>
       obtain⟨k,k1,k2⟩:=OQ a4 hx;have hb:Nat.beq (aY [c0,c1,c2,c3] 88 88) 0=false:=ic hx;have k3:=k2.2.1;cases qV f ng n z0 z1 with
       | false=>exact⟨k,by unfold mK;rw[hb];exact k2,by omega⟩
       | true=>exact⟨-k,by unfold mK;rw[hb];exact⟨by omega,by rw[Int.neg_neg];exact k2⟩,by omega⟩
   . exact absurd (B9 a2) hx
theorem QB{ng:Bool}{x y z:Int}(hz0:0<=z0/\z0<=255)(hz1:0<=z1/\z1<=255)(hmk:errMk x y z (dq (jZ f n z0 z1 m) (nY f n z0 z1 m d))=0):bW (qV f ng n z0 z1) (sY f) (gw f n z0 z1) (kQ f z1) (la f n z0 z1) (jZ f n z0 z1 m) (nY f n z0 z1 m d) x y z=0:=by
 have hk:=@Po f ng n z0 z1 hz0 hz1;obtain⟨i,hi,ei⟩:∃i:Nat,i<40/\m%40=Int.ofNat i:=⟨(m%40).toNat,by omega,by show _=(((m%40).toNat:Nat):Int);omega⟩;obtain⟨j,hj,ej⟩:∃j:Nat,j<40/\d%40=Int.ofNat j:=⟨(d%40).toNat,by omega,by show _=(((d%40).toNat:Nat):Int);omega⟩;have cm:Kd i=true:=List.all_eq_true.1 Iw i (List.mem_range.2 hi);have cd:Mt i j=true:=List.all_eq_true.1 (List.all_eq_true.1 II i (List.mem_range.2 hi)) j (List.mem_range.2 hj);have n1:ae ([]:List UInt8) []=true:=rfl;have hmo:jZ f n z0 z1 m=[]\/(la f n z0 z1=0/\jZ f n z0 z1 m=Av (Int.ofNat i)):=by
  unfold jZ;cases hg:aa (la f n z0 z1) 0 with
  | false=>exact .inl rfl
  | true=>exact .inr ⟨ao.mp hg,by rw[cond_true,ei]⟩
 have hda:nY f n z0 z1 m d=[]\/(ae (jZ f n z0 z1 m) []=false/\aR (jZ f n z0 z1 m)=0/\nY f n z0 z1 m d=Gt (Int.ofNat j) (jZ f n z0 z1 m)):=by
  unfold nY;cases h:(!(ae (jZ f n z0 z1 m) [])&&aa (aR (jZ f n z0 z1 m)) 0)with
  | false=>exact .inl rfl
  | true=>
    rw[zAa,Bool.not_eq_true',ao]at h;exact .inr ⟨h.1,h.2,by rw[cond_true,ej]⟩
 have hyr:oy (qV f ng n z0 z1) (sY f) (gw f n z0 z1) (kQ f z1) (la f n z0 z1) (jZ f n z0 z1 m)=true:=by
  unfold oy;rw[zAb];refine⟨hk,λh=>?_,?_⟩
  . rcases hmo with e|⟨e,_⟩
    . rw[e,n1]at h;cases h.2
    . omega
  . by_cases hx:aY (gw f n z0 z1) 88 88=0
    . exact .inr (.inr λh=>Tw hz0 hz1 hx h.2.1)
    . exact .inr (.inl (by omega))
 have hM:¬(ae (jZ f n z0 z1 m) []=false/\aR (jZ f n z0 z1 m)=0/\eW (jZ f n z0 z1 m) 12=false):=λ⟨h1,h2,h3⟩=>by
  rcases hmo with e|⟨_,e⟩
  . rw[e,n1]at h1;cases h1
  . rw[e]at h1 h2 h3;unfold Kd at cm;rw[h1,h3,h2]at cm;cases cm
 have hday:ae (nY f n z0 z1 m d) []=false->ae (jZ f n z0 z1 m) []=false/\aR (jZ f n z0 z1 m)=0/\eW (nY f n z0 z1 m d) 31/\((Co (jZ f n z0 z1 m) 12).any λm'=>(Co (nY f n z0 z1 m d) 31).any λd'=>decide (d'<=yz m'))=true:=λh=>by
  rcases hda with e|⟨e1,e2,e3⟩
  . rw[e,n1]at h;cases h
  . refine⟨e1,e2,?_⟩;rcases hmo with e|⟨_,e⟩
    . rw[e,n1]at e1;cases e1
    . rw[e]at e1 e2 e3 ⊢;rw[e3]at h ⊢;unfold Mt at cd;rw[e1,e2,h]at cd;have cd:(eW (Gt (Int.ofNat j) (Av (Int.ofNat i))) 31&&((Co (Av (Int.ofNat i)) 12).any λm=>(Co (Gt (Int.ofNat j) (Av (Int.ofNat i))) 31).any λd=>decide (d<=yz m)))=true:=cd;rw[zAa]at cd;exact cd
 have hD:¬(ae (nY f n z0 z1 m d) []=false/\(ae (jZ f n z0 z1 m) []\/0<aR (jZ f n z0 z1 m)\/eW (nY f n z0 z1 m d) 31=false)):=λ⟨h1,h2⟩=>by
  obtain⟨g1,g2,g3,_⟩:=hday h1;rcases h2 with h|h|h
  . rw[g1]at h;cases h
  . omega
  . rw[g3]at h;cases h
 have hE:nH (qV f ng n z0 z1) (sY f) (gw f n z0 z1) (kQ f z1) (la f n z0 z1) (jZ f n z0 z1 m) (nY f n z0 z1 m d) x y z=0:=by
  unfold nH;rw[if_neg (by rw[hyr];decide),if_neg hM,if_neg hD];exact hmk
 unfold bW;rw[hE];cases hd:ae (nY f n z0 z1 m d) []with
 | true=>rfl
 | false=>
   obtain⟨_,_,_,g4⟩:=hday hd;have hF:TC (qV f ng n z0 z1) (gw f n z0 z1) (kQ f z1) (jZ f n z0 z1 m) (nY f n z0 z1 m d)=true:=by
    unfold TC;rw[zg hk (Mr hk) hd (by decide) _ _ (Nat.le_refl _)];obtain⟨k,k1,k2⟩:=@Fh f ng n z0 z1 hz0 hz1;obtain⟨a,ha,g⟩:=List.any_eq_true.1 g4;obtain⟨b,hb,g⟩:=List.any_eq_true.1 g;exact⟨k,k1,k2,a,ha,b,hb,Int.le_trans (of_decide_eq_true g) (ID k a)⟩
   rw[hF];rfl
def Cz(q r:Rn):Prop:=q.c=0/\r.a=0/\q.d+1<r.b
def mV:List Rn->Prop
 | []=>True
 | [r]=>bA r.a r.b r.c r.d=0
 | q::r::rs=>bA q.a q.b q.c q.d=0/\Cz q r/\mV (r::rs)
theorem tg:∀{R:List Rn},mV R->∀i,i<R.length->bA (R.getD i fo).a (R.getD i fo).b (R.getD i fo).c (R.getD i fo).d=0/\(∀j,i=j+1->Cz (R.getD j fo) (R.getD i fo))
 | [],_,i,hi=>absurd hi (Nat.not_lt_zero _)
 | [r],h,i,hi=>by
   obtain rfl:i=0:=by simpa using hi
   exact⟨h,λj hj=>by omega⟩
 | q::r::rs,h,i,hi=>by
   obtain⟨h1,h2,h3⟩:=h
   match i with
   | 0=>exact⟨h1,λj hj=>by omega⟩
   | 1=>exact⟨(tg h3 0 (by simp)).1,λj hj=>by
     have e:j=0:=by omega
     subst e;exact h2⟩
   | i+2=>
     obtain⟨g1,g2⟩:=tg h3 (i+1) (by simpa using hi);exact⟨g1,λj hj=>by
      have e:j=i+1:=by omega
      subst e;exact g2 i rfl⟩
theorem M5{R:List Rn}(h:mV R):jo R=0:=by
 refine xm λi _ hi=>?_;obtain⟨h1,h2⟩:=tg h i (by omega);unfold qn LO;rw[if_pos h1,if_neg];rintro⟨h0,h3⟩;obtain⟨j,rfl⟩:∃j,i=j+1:=⟨i-1,by omega⟩;rw[show j+1-1=j by omega]at h3;have ha:=h2 j rfl;have h4:=(tg h j (by omega)).1;have q1:=gA.1 h1;have q2:=gA.1 h4;generalize List.getD R j fo=q at *;generalize List.getD R (j+1) fo=r at *;obtain⟨a1,a2,a3⟩:=ha;have lt1:cq q.a q.b r.a r.b = -1:=by
  unfold cq iI
  (repeat' split)<;>omega
 have gt1:cq r.a r.b q.a q.b=1:=by
  unfold cq iI
  (repeat' split)<;>omega
 have gt1':cq r.a r.b q.c q.d=1:=by
  unfold cq iI
  (repeat' split)<;>omega
 rcases h3 with h3|h3
 . unfold In at h3;rw[lt1]at h3;simp at h3
 . unfold vz at h3;rw[zAb]at h3;rw[gt1]at h3;obtain⟨_,_,⟨h5,_⟩|⟨_,h5⟩⟩:=h3
   . omega
   . unfold s6 at h5;rw[gt1']at h5;omega
theorem Qy:∀{R:List Rn},mV R->mV (El R)
 | [],_=>trivial
 | [r],h=>by
   have:=gA.1 h;exact gA.2 ⟨.inr ⟨rfl,rfl⟩,this.2.1,.inl (by show -1<r.c;omega)⟩
 | q::r::rs,h=>by
   obtain⟨h1,h2,h3⟩:=h;have:=gA.1 h1;exact⟨gA.2 ⟨.inr ⟨rfl,rfl⟩,this.2.1,.inl (by show -1<q.c;omega)⟩,h2,h3⟩
theorem FI:∀{R:List Rn},mV R->mV (vO R)
 | [],_=>trivial
 | [r],h=>by
   have:=gA.1 h;exact gA.2 ⟨this.1,.inr ⟨rfl,rfl⟩,.inl (by show r.a<1;omega)⟩
 | [q,r],h=>by
   obtain⟨h1,h2,h3⟩:=h;exact⟨h1,h2,FI (R:=[r]) h3⟩
 | q::r::s::rs,h=>by
   obtain⟨h1,h2,h3⟩:=h;exact⟨h1,h2,FI (R:=r::s::rs) h3⟩
theorem Hd:∀{gs:List (Int×Int)} {day:Int},(∀p∈gs,(0<=p.1/\p.1<=255)/\(0<=p.2/\p.2<=255))->mV (EW day gs)
 | [],_,_=>trivial
 | [p],day,h=>by
   have:=h p (by simp);exact gA.2 ⟨.inl rfl,.inl rfl,.inr ⟨rfl,by show day<=day+p.2;omega⟩⟩
 | p::q::r,day,h=>by
   have hp:=h p (by simp);have ih:=Hd (gs:=q::r) (day:=day+p.2+2+p.1) λx hx=>h x (by simp only[List.mem_cons]at hx ⊢;exact .inr hx);exact⟨gA.2 ⟨.inl rfl,.inl rfl,.inr ⟨rfl,by show day<=day+p.2;omega⟩⟩,⟨rfl,rfl,by show day+p.2+1<day+p.2+2+p.1;omega⟩,ih⟩
theorem PS{gs:List (Int×Int)}(h:∀p∈gs,(0<=p.1/\p.1<=255)/\(0<=p.2/\p.2<=255)):∀p∈gs.take 4,(0<=p.1/\p.1<=255)/\(0<=p.2/\p.2<=255):=λp hp=>h p (List.mem_of_mem_take hp)
theorem Ji{gs:List (Int×Int)}(hma:0<=ma)(h:∀p∈gs,(0<=p.1/\p.1<=255)/\(0<=p.2/\p.2<=255)):mV (xu fr ma gs):=by
 match gs,h with
 | [],_=>exact gA.2 ⟨.inl rfl,.inl rfl,.inr ⟨rfl,by show fr<=fr+ma;omega⟩⟩
 | p::r,h=>exact Hd (PS h)
theorem CR{b1 b2:Bool}{gs:List (Int×Int)}(hma:0<=ma)(h:∀p∈gs,(0<=p.1/\p.1<=255)/\(0<=p.2/\p.2<=255)):mV (eT fr ma b1 b2 gs):=by
 have hb:=Ji (fr:=fr) hma h;unfold eT Hc;cases b1 with
 | true=>exact Qy hb
 | false=>
   cases b2 with
   | true=>exact FI hb
   | false=>exact hb
def nD(R:List Rn):Prop:=∀r∈R,(-40000<=r.b/\r.b<=40000)/\(-40000<=r.d/\r.d<=40000)
theorem JR:∀{R:List Rn},nD R->nD (El R)
 | [],h=>h
 | r::rs,h=>λx hx=>by
   simp only[El,List.mem_cons]at hx;rcases hx with rfl|hx
   . exact⟨by show -40000<=(0:Int)/\(0:Int)<=40000;omega,(h r (by simp)).2⟩
   . exact h x (by simp[hx])
theorem Cu:∀{R:List Rn},nD R->nD (vO R)
 | [],h=>h
 | [r],h=>λx hx=>by
   simp only[vO,zAe]at hx;subst hx;exact⟨(h r (by simp)).1,by show -40000<=(0:Int)/\(0:Int)<=40000;omega⟩
 | r::s::rs,h=>λx hx=>by
   simp only[vO,List.mem_cons]at hx;rcases hx with rfl|hx
   . exact h x (by simp)
   . exact Cu (R:=s::rs) (λy hy=>h y (by simp only[List.mem_cons]at hy ⊢;exact .inr hy)) x (by simpa using hx)
theorem zV:∀{gs:List (Int×Int)} {day:Int} {k:Nat},(∀p∈gs,(0<=p.1/\p.1<=255)/\(0<=p.2/\p.2<=255))->gs.length<=k->∀r∈EW day gs,(day<=r.b/\r.b<=day+600*k)/\(day<=r.d/\r.d<=day+600*k)
 | [],_,_,_,_,r,hr=>by cases hr
 | p::gs,day,k+1,h,hk,r,hr=>by
   have hp:=h p (by simp);simp only[EW,List.mem_cons]at hr;rcases hr with rfl|hr
   . show(day<=day/\day<=_)/\(day<=day+p.2/\day+p.2<=_);omega
   . have:=zV (gs:=gs) (day:=day+p.2+2+p.1) (k:=k) (λx hx=>h x (by simp[hx])) (by simpa using hk) r hr;omega
theorem zt{b1 b2:Bool}{gs:List (Int×Int)}(hfr : -32768<=fr/\fr<=32767)(hma:0<=ma/\ma<=255)(h:∀p∈gs,(0<=p.1/\p.1<=255)/\(0<=p.2/\p.2<=255)):nD (eT fr ma b1 b2 gs):=by
 have hb:nD (xu fr ma gs):=by
  match gs,h with
  | [],_=>
    intro r hr;simp only[xu,zAe]at hr;subst hr;show(-40000<=fr/\fr<=40000)/\(-40000<=fr+ma/\fr+ma<=40000);omega
  | p::r,h=>
    intro x hx;have:=zV (k:=4) (PS h) (by rw[List.length_take];exact Nat.min_le_left _ _) x hx;omega
 unfold eT Hc;cases b1 with
 | true=>exact JR hb
 | false=>
   cases b2 with
   | true=>exact Cu hb
   | false=>exact hb
theorem Th:∀{R:List Rn},(El R).length=R.length
 | []=>rfl
 | _::_=>rfl
theorem JN:∀{R:List Rn},(vO R).length=R.length
 | []=>rfl
 | [_]=>rfl
 | r::s::rs=>by simp only[vO,zAf];rw[JN (R:=s::rs)];rfl
theorem Gv:∀{gs:List (Int×Int)} {day:Int},(EW day gs).length=gs.length
 | [],_=>rfl
 | p::r,_=>by simp only[EW,zAf,Gv (gs:=r)]
theorem Du{fr ma:Int}{b1 b2:Bool}{gs:List (Int×Int)}:1<=(eT fr ma b1 b2 gs).length/\(eT fr ma b1 b2 gs).length<=4:=by
 have hb:1<=(xu fr ma gs).length/\(xu fr ma gs).length<=4:=by
  match gs with
  | []=>exact⟨Nat.le_refl _,(by show 1<=4;decide)⟩
  | p::r=>
    unfold xu;rw[Gv,List.length_take,zAf];omega
 unfold eT Hc;cases b1 with
 | true=>rw[cond_true,Th];exact hb
 | false=>
   cases b2 with
   | true=>rw[cond_false,cond_true,JN];exact hb
   | false=>exact hb
theorem CW{R:List Rn}(h:nD R):Nx R:=λi hi=>by
 have hm:R.getD i fo∈R:=by
  rw[zAd,List.getElem?_eq_getElem hi];exact List.getElem_mem hi
 have:=h _ hm;unfold IJ;omega
theorem Mm:Cp i 2=eN i:=by
 have hm:d8 i 12+1≠0/\¬13<=d8 i 12+1:=by unfold d8;omega
 show iO (dc i 12) (d8 i 12+1) 0=_;unfold iO eN;rw[aw.mpr hm.1,bF.mpr (show d8 i 12+1<13 by omega)];rfl
theorem MJ:Cr i 2=eN (i+1)-1:=by
 have hm:d8 i 12+1≠0/\¬13<=d8 i 12+1:=by unfold d8;omega
 show iD (dc i 12) (d8 i 12+1) 0=_;unfold iD;rw[aw.mpr hm.1,bF.mpr (show d8 i 12+1<13 by omega),(ox i).2,show d8 i 12+1+1=d8 i 12+2 by omega];rfl
theorem qK{y m:Int}(h:1<=m/\m<=12):bf y<=aG y m/\aG y m<aG y (m+1)/\aG y (m+1)<=bf (y+1)/\aG y m+d6 y m=aG y (m+1):=by
 have ys:bf (y+1)=bf y+365+iE y:=Go.Proofs.YtoghlpcacfnjbaaGreatDoor.yst_succ y;have bl:0<=iE y/\iE y<=1:=Go.Proofs.YtoghlpcacfnjbaaGreatDoor.lp_01 y;have e:=@p9 y m h.1 (by omega);have hn:=jk y m;have key:∀k:Int,1<=k->k<=13->bf y<=aG y k/\aG y k<=bf y+365+iE y:=λk h1 h2=>by
  have:aG y k=bf y+Go.Proofs.YtoghlpcacfnjbaaGreatDoor.mcum y k:=rfl;have hl:iE y=Go.Proofs.YtoghlpcacfnjbaaGreatDoor.lp y:=rfl;rw[this,hl];rw[hl]at bl;unfold Go.Proofs.YtoghlpcacfnjbaaGreatDoor.mcum
  (repeat' split)<;>omega
 have k1:=key m h.1 (by omega);have k2:=key (m+1) (by omega) (by omega);omega
theorem yX{y:Int}(h:1<=m/\m<=12)(h1:aG y m<=d)(h2:d<aG y (m+1)):aN d=y/\bZ d=m:=by
 obtain⟨a,b,c,e⟩:=@qK y m h;have hy:aN d=y:=Go.Proofs.YtoghlpcacfnjbaaGreatDoor.yOf_unique (show bf y<=d by omega) (show d<bf (y+1)by omega);have hy':Go.Proofs.YtoghlpcacfnjbaaGreatDoor.yOf d=y:=hy;refine⟨hy,Go.Proofs.YtoghlpcacfnjbaaGreatDoor.mOf_unique h.1 ?_ ?_⟩
 . rw[hy'];exact h1
 . rw[hy'];exact h2
theorem Lr(hi : -40000<=i/\i<=40000)(hp:1<=p/\p<=3):lT (Cp i p) p/\CK (Cp i p) p=Cp i p/\(-3652425000000000000<=Cp i p/\Cp i p<=3652425000000000000):=by
 obtain⟨e1,e2⟩:=n9;have hp:p=1\/p=2\/p=3:=by omega
 rcases hp with rfl|rfl|rfl
 . have h:Cp i 1=bf i:=rfl;have m1:=eF (show -10000000000000000<=i by omega);have m2:=eF (show i<=10000000000000000 by omega);rw[h];refine⟨?_,?_,by omega⟩
   . unfold lT;rw[dR.2 (by omega),Bool.or_true]
   . show bf (aN (bf i))=_;rw[yR.1]
 . have hm:1<=d8 i 12+1/\d8 i 12+1<=12:=by unfold d8;omega
   have hf : -4000<=dc i 12/\dc i 12<=4000:=by unfold dc;omega
   obtain⟨a,b,c,e⟩:=@qK (dc i 12) _ hm;have h:Cp i 2=aG (dc i 12) (d8 i 12+1):=Mm;have m1:=eF (show -10000000000000000<=dc i 12 by omega);have m2:=eF (show dc i 12+1<=10000000000000000 by omega);obtain⟨q1,q2⟩:=yX hm (Int.le_refl _) b;rw[h];refine⟨?_,?_,by omega⟩
   . unfold lT;rw[dR.2 (by omega),Bool.or_true]
   . show aG (aN _) (bZ _)=_;rw[q1,q2]
 . have h:Cp i 3=i:=rfl;rw[h];exact⟨rfl,rfl,by omega⟩
theorem Mf(hi : -40000<=i/\i<=40000)(hp:1<=p/\p<=3):lT (Cr i p) p/\PU (Cr i p) p=Cr i p/\(-3652425000000000000<=Cr i p/\Cr i p<=3652425000000000000):=by
 obtain⟨e1,e2⟩:=n9;have hp:p=1\/p=2\/p=3:=by omega
 rcases hp with rfl|rfl|rfl
 . have h:Cr i 1=bf (i+1)-1:=rfl;have ys:bf (i+1)=bf i+365+iE i:=Go.Proofs.YtoghlpcacfnjbaaGreatDoor.yst_succ i;have bl:0<=iE i/\iE i<=1:=Go.Proofs.YtoghlpcacfnjbaaGreatDoor.lp_01 i;have m1:=eF (show -10000000000000000<=i by omega);have m2:=eF (show i+1<=10000000000000000 by omega);rw[h];refine⟨?_,?_,by omega⟩
   . unfold lT;rw[dR.2 (by omega),Bool.or_true]
   . show bf (aN (bf (i+1)-1))+364+iE (aN (bf (i+1)-1))=_;rw[yR.2];omega
 . have hm:1<=d8 i 12+1/\d8 i 12+1<=12:=by unfold d8;omega
   have hf : -4000<=dc i 12/\dc i 12<=4000:=by unfold dc;omega
   obtain⟨a,b,c,e⟩:=@qK (dc i 12) _ hm;have h:Cr i 2=aG (dc i 12) (d8 i 12+1+1)-1:=by rw[MJ,(ox i).2,show d8 i 12+1+1=d8 i 12+2 by omega]
   have m1:=eF (show -10000000000000000<=dc i 12 by omega);have m2:=eF (show dc i 12+1<=10000000000000000 by omega);obtain⟨q1,q2⟩:=yX (y:=dc i 12) (d:=aG (dc i 12) (d8 i 12+1+1)-1) hm (by omega) (by omega);rw[h];refine⟨?_,?_,by omega⟩
   . unfold lT;rw[dR.2 (by omega),Bool.or_true]
   . show aG (aN _) (bZ _)+d6 (aN _) (bZ _)-1=_;rw[q1,q2];omega
 . have h:Cr i 3=i:=rfl;rw[h];exact⟨rfl,rfl,by omega⟩
theorem WU{j:Int}(hij:i<=j)(hp:1<=p/\p<=3):Cp i p<=Cr j p:=by
 have hp:p=1\/p=2\/p=3:=by omega
 rcases hp with rfl|rfl|rfl
 . have ys:bf (j+1)=bf j+365+iE j:=Go.Proofs.YtoghlpcacfnjbaaGreatDoor.yst_succ j;have bl:0<=iE j/\iE j<=1:=Go.Proofs.YtoghlpcacfnjbaaGreatDoor.lp_01 j;have:=eF hij;show bf i<=bf (j+1)-1;omega
 . rw[Mm,MJ];have:=EX i (j+1-i).toNat;rw[show i+((j+1-i).toNat:Int)=j+1 by omega]at this;omega
 . exact hij
theorem IR{P:Int}{o1 o2:Bool}(hfr : -32768<=fr/\fr<=32767)(hma:0<=ma/\ma<=255)(hP:1<=P/\P<=3)(h12:¬(o1/\o2=true)):dN (bif o1 then -1 else 0) (bif o1 then 0 else Cp fr P) (bif o2 then 1 else 0) (bif o2 then 0 else Cr (fr+ma) P) P/\bA (bif o1 then -1 else 0) (bif o1 then 0 else Cp fr P) (bif o2 then 1 else 0) (bif o2 then 0 else Cr (fr+ma) P)=0:=by
 obtain⟨l1,l2,_⟩:=Lr (i:=fr) (by omega) hP;obtain⟨u1,u2,_⟩:=Mf (i:=fr+ma) (by omega) hP;have le:=WU (show fr<=fr+ma by omega) hP;have hr:bA (bif o1 then -1 else 0) (bif o1 then 0 else Cp fr P) (bif o2 then 1 else 0) (bif o2 then 0 else Cr (fr+ma) P)=0:=by
  rw[gA];cases o1 with
  | false=>
    cases o2 with
    | false=>exact⟨.inl rfl,.inl rfl,.inr ⟨rfl,le⟩⟩
    | true=>exact⟨.inl rfl,.inr ⟨rfl,rfl⟩,.inl (by decide)⟩
  | true=>
    cases o2 with
    | false=>exact⟨.inr ⟨rfl,rfl⟩,.inl rfl,.inl (by decide)⟩
    | true=>exact absurd ⟨rfl,rfl⟩ h12
 refine⟨zi.2 ⟨?_,hr,?_,?_⟩,hr⟩
 . cases o1 with
   | false=>exact .inl rfl
   | true=>
     cases o2 with
     | false=>exact .inr rfl
     | true=>exact absurd ⟨rfl,rfl⟩ h12
 . cases o1 with
   | false=>exact λ_=>⟨l1,l2⟩
   | true=>exact λh=>absurd h (by decide)
 . cases o2 with
   | false=>exact λ_=>⟨u1,u2⟩
   | true=>exact λh=>absurd h (by decide)
theorem BG{k op:Int}{ng:Bool}(hz0:0<=z0/\z0<=255)(hz1:0<=z1/\z1<=255)(hk:0<=k/\k<=255)(hfr : -32768<=fr/\fr<=32767)(hma:0<=ma/\ma<=255)(h:iB k f n z0 z1 m d=false) :
 dr (fK k f n z0 z1 m d) 0 0 (dZ (wm k f ng n z0 z1 m d) (zQ k f n z0 z1 m d) (fS k f n z0 z1 m d) (fE k f n z0 z1 m d) 0 (wt k f n z0 z1 m d) (wq k f n z0 z1 m d) 0 0 0) (fP k p) (sZ (fA k op) (fB k p op fr) (fC k op) (fD k p op fr ma)) (bW (wm k f ng n z0 z1 m d) (zQ k f n z0 z1 m d) (fS k f n z0 z1 m d) (fE k f n z0 z1 m d) 0 (wt k f n z0 z1 m d) (wq k f n z0 z1 m d) 0 0 0) 0 (bo (fS k f n z0 z1 m d++wt k f n z0 z1 m d++wq k f n z0 z1 m d)) (mZ 0 0 0) (dN (fA k op) (fB k p op fr) (fC k op) (fD k p op fr ma) (fP k p)) (bA (fA k op) (fB k p op fr) (fC k op) (fD k p op fr ma)) (fA k op) (fC k op)=0/\
 ((0<=fK k f n z0 z1 m d/\fK k f n z0 z1 m d<=255)/\(-9223372036854775808<=fE k f n z0 z1 m d/\fE k f n z0 z1 m d<=9223372036854775807)/\(0<=fP k p/\fP k p<=255)/\(-128<=fA k op/\fA k op<=127)/\(-9223372036854775808<=fB k p op fr/\fB k p op fr<=9223372036854775807)/\(-128<=fC k op/\fC k op<=127)/\(-9223372036854775808<=fD k p op fr ma/\fD k p op fr ma<=9223372036854775807))/\(fS k f n z0 z1 m d).length<=5/\(wt k f n z0 z1 m d).length<=2/\(wq k f n z0 z1 m d).length<=2:=by
 have l1:=@sE f n z0 z1;have l2:=@rf f n z0 z1 m;have l3:=@rU f n z0 z1 m d;have mz:mZ 0 0 0=true:=rfl;have dz:dZ false false [] 0 0 [] [] 0 0 0=true:=rfl;have sz:sZ 0 0 0 0=true:=rfl;have cf:k%5=0\/k%5=1\/k%5=2\/k%5=3\/k%5=4:=by omega
 have hE:0<=kQ f z1/\kQ f z1<=11:=by
  rcases @n7 f n z0 z1 hz0 hz1 with a|a<;>omega
 rcases cf with cf|cf|cf|cf|cf
 . exfalso;unfold iB fX at h;rw[aw.mpr (show k%5≠1 by omega),aw.mpr (show k%5≠2 by omega),aw.mpr (show k%5≠3 by omega),aw.mpr (show k%5≠4 by omega)]at h;cases h
 . have e2:aa (k%5) 2=false:=aw.mpr (by omega);have e3:aa (k%5) 3=false:=aw.mpr (by omega);have e4:aa (k%5) 4=false:=aw.mpr (by omega);have hX:fX k f n z0 z1 m d=true:=by
    unfold iB at h;rw[e2,e3,e4]at h;simpa using h
   have hX':=hX;unfold fX at hX';simp only[zAa]at hX';obtain⟨_,hg,hx⟩:=hX';have hmk:errMk 0 0 0 (dq (jZ f n z0 z1 m) (nY f n z0 z1 m d))=0:=by
    have:=pr (jZ f n z0 z1 m) (nY f n z0 z1 m d);unfold errMk;rw[if_neg (by omega),if_neg (by omega)]
   have hd:=QB (f:=f) (ng:=ng) (n:=n) (m:=m) (d:=d) hz0 hz1 hmk;rw[ao.mp hg]at hd;unfold wm zQ fS fE wt wq;simp only[fK,fP,fA,fB,fC,fD,hX,e2,e3,e4,zAj,Bool.true_and];refine⟨?_,by omega,by omega,by omega,by omega⟩;rw[hd,hx,mz,sz,UO]
 . have e2:aa (k%5) 2=true:=ao.mpr cf;have hX:fX k f n z0 z1 m d=false:=by unfold fX;rw[aw.mpr (show k%5≠1 by omega)];rfl
   have oc:¬(aa (op%4) 1/\aa (op%4) 2=true):=Tm;have hP:1<=1+p%3/\1+p%3<=3:=by omega
   obtain⟨w1,w2⟩:=IR hfr hma hP oc;obtain⟨_,_,r1⟩:=Lr (i:=fr) (by omega) hP;obtain⟨_,_,r2⟩:=Mf (i:=fr+ma) (by omega) hP;unfold wm zQ fS fE wt wq;simp only[fK,fP,fA,fB,fC,fD,hX,e2,zAj,Bool.false_and];refine⟨?_,⟨by omega,by omega,by omega,?_,?_,?_,?_⟩,by decide,by decide,by decide⟩
   . rw[w1,dz];generalize 1+p%3=P at *;unfold dr;rw[if_neg (by decide),if_neg (by decide),if_neg (by decide),if_pos rfl,if_pos ⟨rfl,rfl⟩,if_pos hP,if_pos rfl]
   . cases aa (op%4) 1<;>simp only[zAj]<;>omega
   . cases aa (op%4) 1<;>simp only[zAj]<;>omega
   . cases aa (op%4) 2<;>simp only[zAj]<;>omega
   . cases aa (op%4) 2<;>simp only[zAj]<;>omega
 . have e2:aa (k%5) 2=false:=aw.mpr (by omega);have e3:aa (k%5) 3=true:=ao.mpr cf;have e4:aa (k%5) 4=false:=aw.mpr (by omega);have hX:fX k f n z0 z1 m d=false:=by unfold fX;rw[aw.mpr (show k%5≠1 by omega)];rfl
   unfold wm zQ fS fE wt wq;simp only[fK,fP,fA,fB,fC,fD,hX,e2,e3,e4,zAj,Bool.false_and];refine⟨?_,by omega,by decide,by decide,by decide⟩;have hr:bA (-1) 0 0 fr=0:=gA.2 ⟨.inr ⟨rfl,rfl⟩,.inl rfl,.inl (by decide)⟩;rw[hr,dz];unfold dr;rw[if_neg (by decide),if_neg (by decide),if_neg (by decide),if_neg (by decide),if_pos ⟨rfl,rfl,rfl⟩,if_pos ⟨rfl,.inl ⟨rfl,rfl,rfl⟩⟩]
 . have e2:aa (k%5) 2=false:=aw.mpr (by omega);have e3:aa (k%5) 3=false:=aw.mpr (by omega);have e4:aa (k%5) 4=true:=ao.mpr cf;have hX:fX k f n z0 z1 m d=false:=by unfold fX;rw[aw.mpr (show k%5≠1 by omega)];rfl
   unfold wm zQ fS fE wt wq;simp only[fK,fP,fA,fB,fC,fD,hX,e2,e3,e4,zAj,Bool.false_and];refine⟨?_,by omega,by decide,by decide,by decide⟩;have hr:bA 0 fr 1 0=0:=gA.2 ⟨.inl rfl,.inr ⟨rfl,rfl⟩,.inl (by decide)⟩;rw[hr,dz];unfold dr;rw[if_neg (by decide),if_neg (by decide),if_neg (by decide),if_neg (by decide),if_pos ⟨rfl,rfl,rfl⟩,if_pos ⟨rfl,.inr ⟨rfl,rfl,rfl⟩⟩]
end Go.Ev
end
section
namespace Go.Ev
open Go Go.Proofs Go.ChangeShapes Go.WideShapes Go.ChangeAt Go.RowKit
section
variable{P:Program}{w:World}{r:Reach}{b0:Nat}
def TB(P:Program)(w:World)(r:Reach)(b0:Nat):List TypeId->List Value->Prop
 | [],[]=>True
 | t::ts,v::vs=>Cell.okWide P w r b0 t v/\TB P w r b0 ts vs
 | _,_=>False
theorem Gc:∀{ts:List TypeId} {l:List Value},l.length=ts.length->(∀(i:Nat) (c:Value),l[i]? = some c->∃u,ts[i]? = some u/\Cell.okWide P w r b0 u c)->TB P w r b0 ts l
 | [],[],_,_=>trivial
 | t::ts,v::vs,h,hall=>by
   refine⟨?_,Gc (by simpa using h) λi c hc=>hall (i+1) c hc⟩;obtain⟨u,hu,hc⟩:=hall 0 v rfl;cases hu;exact hc
theorem IH{t:TypeId}{v:Value}{fs}(ht:P.underlying t=some (.struct fs)){ts:List TypeId}(hc:P.cellTypes P.depth t=some ts)(hn:P.cellsOf t=ts.length)(h:Value.okWide P w r b0 t v):∃l:List Value,v=.agg ⟨l⟩/\TB P w r b0 ts l:=by
 unfold Value.okWide at h;rw[ht]at h;obtain⟨⟨l⟩,rfl,hsz,ts',hts,_,hall⟩:=h;rw[hc]at hts;cases hts;have hl:l.length=ts.length:=hsz.trans hn;refine⟨l,rfl,Gc hl λi c hi=>?_⟩;have hlt:=(List.getElem?_eq_some_iff.1 hi).1;have:=hall i c (by simpa using hi)
 rwa [Nat.mod_eq_of_lt (by omega)]at this
end
end Go.Ev
end
section
namespace Go.Ev
open Go Go.Proofs Go.ChangeShapes
def Zl:Tryz.prog.cellTypes Tryz.prog.depth 32=some [5,5,5,5,4,22,5,5,5,5,5,5,5,29,5,30]:=by kernel_rfl
def Zp:Tryz.prog.cellsOf 32=16:=by kernel_rfl
structure FP where
 k:Int
 p:Int
 op:Int
 f:Int
 ng:Bool
 n:Int
 z0:Int
 z1:Int
 m:Int
 d:Int
 x:Int
 y:Int
 z:Int
 fr:Int
 ma:Int
def FP.ok(q:FP):Prop:=(0<=q.k/\q.k<=255)/\(0<=q.p/\q.p<=255)/\(0<=q.op/\q.op<=255)/\(0<=q.f/\q.f<=255)/\(0<=q.n/\q.n<=65535)/\(0<=q.z0/\q.z0<=255)/\(0<=q.z1/\q.z1<=255)/\(0<=q.m/\q.m<=255)/\(0<=q.d/\q.d<=255)/\(0<=q.x/\q.x<=255)/\(0<=q.y/\q.y<=255)/\(0<=q.z/\q.z<=255)/\(-32768<=q.fr/\q.fr<=32767)/\(0<=q.ma/\q.ma<=255)
def FP.v(q:FP)(sv:Value):Value:=.agg #[.int .u8 q.k,.int .u8 q.p,.int .u8 q.op,.int .u8 q.f,.bool q.ng,.int .u16 q.n,.int .u8 q.z0,.int .u8 q.z1,.int .u8 q.m,.int .u8 q.d,.int .u8 q.x,.int .u8 q.y,.int .u8 q.z,.int .i16 q.fr,.int .u8 q.ma,sv]
theorem SW{w:World}{r:Reach}{b0:Nat}{v:Value}(h:Value.okWide Tryz.prog w r b0 32 v):∃(q:FP) (sv:Value),v=q.v sv/\q.ok/\Cell.okWide Tryz.prog w r b0 30 sv:=by
 obtain⟨l,rfl,hc⟩:=IH Tryz.underlying32 Zl Zp h
 match l,hc with
 | [c0,c1,c2,c3,c4,c5,c6,c7,c8,c9,c10,c11,c12,c13,c14,c15],⟨h0,h1,h2,h3,h4,h5,h6,h7,h8,h9,h10,h11,h12,h13,h14,h15,_⟩=>
   obtain⟨k,rfl,r0⟩:=e7 Tryz.underlying5 h0;obtain⟨p,rfl,r1⟩:=e7 Tryz.underlying5 h1;obtain⟨op,rfl,r2⟩:=e7 Tryz.underlying5 h2;obtain⟨f,rfl,r3⟩:=e7 Tryz.underlying5 h3;obtain⟨ng,rfl⟩:=HH Tryz.underlying4 h4;obtain⟨n,rfl,r5⟩:=e7 Tryz.underlying22 h5;obtain⟨z0,rfl,r6⟩:=e7 Tryz.underlying5 h6;obtain⟨z1,rfl,r7⟩:=e7 Tryz.underlying5 h7;obtain⟨m,rfl,r8⟩:=e7 Tryz.underlying5 h8;obtain⟨d,rfl,r9⟩:=e7 Tryz.underlying5 h9;obtain⟨x,rfl,r10⟩:=e7 Tryz.underlying5 h10;obtain⟨y,rfl,r11⟩:=e7 Tryz.underlying5 h11;obtain⟨z,rfl,r12⟩:=e7 Tryz.underlying5 h12;obtain⟨fr,rfl,r13⟩:=e7 Tryz.underlying29 h13;obtain⟨ma,rfl,Za⟩:=e7 Tryz.underlying5 h14;exact⟨⟨k,p,op,f,ng,n,z0,z1,m,d,x,y,z,fr,ma⟩,c15,rfl,⟨r0,r1,r2,r3,r5,r6,r7,r8,r9,r10,r11,r12,r13,Za⟩,h15⟩
section
variable{H:Type}{enc:TypeId×Value->H}{w:World}{sp:Nat->Bool}{held:Bool}
end
end Go.Ev
end
