import Derived.Test.YtoghlpcacfnjbaaGreatDoorCards
import Derived.Test.YtoghlpcacfnjbaaGreatDoorTie
import Derived.ProofKit
import Derived.Deep.DeepHandedRow
import Derived.RowKitTokens
import Derived.WideKeyArgs
import Derived.ChangeSame
import Derived.Test.YtoghlpcacfnjbaaGreatDoorRows
import Derived.Test.YtoghlpcacfnjbaaGreatDoorP35
set_option linter.all false
set_option maxRecDepth 100000
set_option maxHeartbeats 4000000
section
namespace Go.Ev
open Go Go.Proofs
variable{s:List UInt8}{f n z0 z1 m d fr ma i p:Int}
theorem iX{c:UInt8}{a b:Int}:aT (c::s) a b=(if a<=(c.toNat:Int)/\(c.toNat:Int)<=b then 1 else 0)+aT s a b:=by
 unfold aT;rw[List.filter_cons];by_cases h:a<=(c.toNat:Int)/\(c.toNat:Int)<=b
 . rw[if_pos h,if_pos (by simpa using h)];simp only[zAd];omega
 . rw[if_neg h,if_neg (by simpa using h)];omega
theorem od{a b:Int}:aT [] a b=0:=rfl
theorem FB{n:Int}:(48<=(d0 n).toNat/\(d0 n).toNat<=57)/\(48<=(d1 n).toNat/\(d1 n).toNat<=57)/\(48<=(d2 n).toNat/\(d2 n).toNat<=57)/\(48<=(d3 n).toNat/\(d3 n).toNat<=57):=by
 have h0:=oJ (k:=n%10000/1000) (by omega);have h1:=oJ (k:=n%10000/100%10) (by omega);have h2:=oJ (k:=n%10000/10%10) (by omega);have h3:=oJ (k:=n%10000%10) (by omega);unfold d0 d1 d2 d3;omega
theorem numL_lt:∀(s:List UInt8) (n:Nat),dY s->s.foldl (λn b=>n*10+(b.toNat-48)) n<(n+1)*10^s.length
 | [],n,_=>by simp
 | b::r,n,h=>by
   have hb:=@oI (b::r) h 0 (by simp);have hb:48<=b.toNat/\b.toNat<=57:=hb;have hr:dY r=true:=by
    unfold dY at h ⊢;rw[List.all_cons,zAa]at h;exact h.2
   have ih:=numL_lt r (n*10+(b.toNat-48)) hr;have:(n*10+(b.toNat-48)+1)*10^r.length<=(n+1)*10^(r.length+1):=by
    rw[Nat.pow_succ,<-Nat.mul_assoc,Nat.mul_right_comm];exact Nat.mul_le_mul_right _ (by omega)
   exact Nat.lt_of_lt_of_le ih this
theorem Om{n z0:Int}{k:Nat}(hk:1<=k)(hz:0<=z0):∃t:List UInt8,List.take k (Ig n z0)=Ax (z0%9+1)::t/\(∀c∈List.take k (Ig n z0),48<=c.toNat/\c.toNat<=57)/\(List.take k (Ig n z0)).length<=5/\(k<=5->(List.take k (Ig n z0)).length=k):=by
 obtain⟨h0,h1,h2,h3⟩:=@FB n;have h9:=oJ (k:=z0%9+1) (by omega);unfold Ig
 match k,hk with
 | k+1,_=>
   refine⟨List.take k [d0 n,d1 n,d2 n,d3 n],rfl,λc hc=>?_,?_,λh=>?_⟩
   . have:=List.mem_of_mem_take hc;simp only[List.mem_cons,List.not_mem_nil,or_false]at this;rcases this with rfl|rfl|rfl|rfl|rfl<;>first|assumption|omega
   . rw[List.length_take];exact Nat.min_le_right _ _
   . rw[List.length_take];simp only[zAd,List.length_nil];omega
theorem yJ(h:∀c∈s,48<=c.toNat/\c.toNat<=57):aT s 48 57=s.length/\aT s 88 88=0:=by
 unfold aT;rw[List.length_filter_eq_length_iff,List.length_eq_zero_iff,List.filter_eq_nil_iff];refine⟨λc hc=>?_,λc hc=>?_⟩
 . have:=h c hc;simp only[zAa,zAb];omega
 . have:=h c hc;simp only[zAa,zAb];omega
theorem Lv(h:∀c∈s,48<=c.toNat/\c.toNat<=57):dY s=true:=oP (yJ h).1
theorem n_{f n z0 z1:Int}(hz0:0<=z0/\z0<=255)(hz1:0<=z1/\z1<=255) :
 (sw f=false/\kG f z1=0/\(gA f n z0 z1).length=4/\(∀c∈gA f n z0 z1,(48<=c.toNat/\c.toNat<=57)\/c.toNat=88)/\0<=kE f n z0 z1/\kE f n z0 z1<=4/\(0<kE f n z0 z1->∀c∈gA f n z0 z1,48<=c.toNat/\c.toNat<=57))\/
 (sw f/\(∀c∈gA f n z0 z1,48<=c.toNat/\c.toNat<=57)/\1<=(gA f n z0 z1).length/\(gA f n z0 z1).length<=5/\((gA f n z0 z1).getD 0 0).toNat≠48/\0<=kG f z1/\kG f z1<=11/\(kG f z1=0->(gA f n z0 z1).length=5)/\0<=kE f n z0 z1/\kE f n z0 z1<=(gA f n z0 z1).length+kG f z1):=by
 obtain⟨h0,h1,h2,h3⟩:=@FB n;have h9:=oJ (k:=z0%9+1) (by omega);by_cases c5:f%6=5
 . right
   have e5:aa (f%6) 5=true:=al.mpr c5;have e4:aa (f%6) 4=false:=ay.mpr (by omega);have e3:aa (f%6) 3=false:=ay.mpr (by omega);have key:∀(S:List UInt8) (E:Int),gA f n z0 z1=S->kG f z1=E->(∃t,S=Ax (z0%9+1)::t)->(∀c∈S,48<=c.toNat/\c.toNat<=57)->S.length<=5->0<=E->E<=11->(E=0->S.length=5)->sw f/\(∀c∈gA f n z0 z1,48<=c.toNat/\c.toNat<=57)/\1<=(gA f n z0 z1).length/\(gA f n z0 z1).length<=5/\((gA f n z0 z1).getD 0 0).toNat≠48/\0<=kG f z1/\kG f z1<=11/\(kG f z1=0->(gA f n z0 z1).length=5)/\0<=kE f n z0 z1/\kE f n z0 z1<=(gA f n z0 z1).length+kG f z1:=by
    intro S E hS hE ⟨t,ht⟩ hd hl e0 e11 he;have hg:kE f n z0 z1=z0/16%(Int.ofNat S.length+E+1):=by unfold kE;rw[e4,e5,hS,hE];rfl
    rw[hS,hE,hg];have hl1:1<=S.length:=by rw[ht];simp
    have hm:0<Int.ofNat S.length+E+1:=by have:Int.ofNat S.length=(S.length:Int):=rfl;omega
    have m0:=Int.emod_nonneg (z0/16) (show Int.ofNat S.length+E+1≠0 by omega);have m1:=Int.emod_lt_of_pos (z0/16) hm;refine⟨by unfold sw;exact e5,hd,hl1,hl,?_,e0,e11,he,m0,?_⟩
    . rw[ht];show(Ax (z0%9+1)).toNat≠48;omega
    . have:Int.ofNat S.length=(S.length:Int):=rfl;omega
   by_cases c3:z1%3<=0
   . have e0:ab (z1%3) 0=true:=ao.mpr c3;refine key (Ig n z0) 0 (by unfold gA;rw[e3,e5,e0];rfl) (by unfold kG;rw[e5,e0];rfl) ⟨_,rfl⟩ (λc hc=>?_) (Nat.le_refl _) (by omega) (by omega) (λ_=>rfl);unfold Ig at hc;simp only[List.mem_cons,List.not_mem_nil,or_false]at hc;rcases hc with rfl|rfl|rfl|rfl|rfl<;>first|assumption|omega
   . have e0:ab (z1%3) 0=false:=bY.mpr (by omega);obtain⟨t,t1,t2,t3,t4⟩:=@Om n z0 (1+z1%5).toNat (by omega) hz0.1;exact key _ (1+z1/16%11) (by unfold gA;rw[e3,e5,e0];rfl) (by unfold kG;rw[e5,e0];rfl) ⟨t,t1⟩ t2 t3 (by omega) (by omega) (λh=>by omega)
 . left
   have e5:aa (f%6) 5=false:=ay.mpr c5;have hL:sw f=false:=e5;have hE:kG f z1=0:=by unfold kG;rw[e5];rfl
   by_cases c3:f%6=3
   . have e3:aa (f%6) 3=true:=al.mpr c3;have e4:aa (f%6) 4=false:=ay.mpr (by omega);have hS:gA f n z0 z1=P0 (z0%4) (z1%4) n:=by unfold gA;rw[e3];rfl
     have hG:kE f n z0 z1=0:=by unfold kE;rw[e4,e5];rfl
     rw[hS,hG];refine⟨hL,hE,rfl,λc hc=>?_,by omega,by omega,λh=>by omega⟩;unfold P0 at hc;have sp:∀(b:Bool) (d:UInt8),(48<=d.toNat/\d.toNat<=57)->(48<=(bif b then UInt8.ofNat 88 else d).toNat/\(bif b then UInt8.ofNat 88 else d).toNat<=57)\/(bif b then UInt8.ofNat 88 else d).toNat=88:=λb d hd=>by cases b;exact .inl hd;exact .inr rfl
     simp only[List.mem_cons,List.not_mem_nil,or_false]at hc;rcases hc with rfl|rfl|rfl|rfl<;>exact sp _ _ (by assumption)
   . have e3:aa (f%6) 3=false:=ay.mpr c3;have hS:gA f n z0 z1=[d0 n,d1 n,d2 n,d3 n]:=by unfold gA;rw[e3,e5];rfl
     have hd:∀c∈[d0 n,d1 n,d2 n,d3 n],48<=c.toNat/\c.toNat<=57:=λc hc=>by
      simp only[List.mem_cons,List.not_mem_nil,or_false]at hc;rcases hc with rfl|rfl|rfl|rfl<;>assumption
     rw[hS];have hG:0<=kE f n z0 z1/\kE f n z0 z1<=4:=by
      unfold kE;rw[e5];cases aa (f%6) 4<;>simp only[zAj]<;>omega
     exact⟨hL,hE,rfl,λc hc=>.inl (hd c hc),hG.1,hG.2,λ_=>hd⟩
theorem Dg:∀{s:List UInt8},(∀c∈s,(48<=c.toNat/\c.toNat<=57)\/c.toNat=88)->aT s 48 57+aT s 88 88=s.length
 | [],_=>rfl
 | c::r,h=>by
   have ih:=Dg (s:=r) λd hd=>h d (by simp[hd]);have hc:=h c (by simp);rw[iX,iX,zAd];rcases hc with hc|hc
   . rw[if_pos (by omega),if_neg (by omega)];omega
   . rw[if_neg (by omega),if_pos (by omega)];omega
theorem Az(h:∀c∈s,48<=c.toNat/\c.toNat<=57):aT s 88 88=0:=(yJ h).2
theorem Dw{e:Int}(h:∀c∈s,48<=c.toNat/\c.toNat<=57)(hl:s.length<=5)(he:0<=e/\e<=11):cC s e.toNat<10000000000000000:=by
 have h1:=numL_lt s 0 (Lv h);have h1:numL s<(0+1)*10^s.length:=h1;have h2:(10:Nat)^s.length<=10^5:=Nat.pow_le_pow_right (by decide) hl;have h3:(10:Nat)^e.toNat<=10^11:=Nat.pow_le_pow_right (by decide) (by omega);have h4:(1:Nat)<=10^e.toNat:=Nat.pos_of_ne_zero (by simp);have h5:numL s<10^5:=by omega
 unfold cC;have:numL s*10^e.toNat<10^5*10^e.toNat:=Nat.mul_lt_mul_of_pos_right h5 h4;have:(10:Nat)^5*10^e.toNat<=10^5*10^11:=Nat.mul_le_mul_left _ h3;have:(10:Nat)^5*10^11=10000000000000000:=by decide
 omega
theorem Rg(hz0:0<=z0/\z0<=255)(hz1:0<=z1/\z1<=255):aZ false (sw f) (gA f n z0 z1) (kG f z1) (kE f n z0 z1)=true:=by
 unfold aZ;rw[zAb];rcases @n_ f n z0 z1 hz0 hz1 with⟨a1,a2,a3,a4,a5,a6,a7⟩|⟨a1,a2,a3,a4,a5,a6,a7,a8,a9,a10⟩
 . rw[a1,a2];refine⟨Dg a4,a5,.inl ⟨rfl,a3,rfl,(λh=>by cases h.1),a6,λh=>?_⟩⟩;have:=Az (a7 h.1);omega
 . obtain⟨b1,b2⟩:=yJ a2;rw[a1,b1,b2];refine⟨by omega,a9,.inr ⟨rfl,rfl,a3,(by omega),a5,a6,(by omega),λh=>?_,a10,?_⟩⟩
   . have:=a8 h.1;omega
   . unfold magOk;rw[aq];exact Nat.le_of_lt (Dw a2 a4 ⟨a6,a7⟩)
theorem OY{f:Int}{ng:Bool}{n z0 z1:Int}(hz0:0<=z0/\z0<=255)(hz1:0<=z1/\z1<=255):aZ (su f ng n z0 z1) (sw f) (gA f n z0 z1) (kG f z1) (kE f n z0 z1)=true:=by
 unfold su;cases h:(ng&&aZ ng (sw f) (gA f n z0 z1) (kG f z1) (kE f n z0 z1))with
 | false=>exact Rg hz0 hz1
 | true=>
   rw[zAa]at h;obtain⟨h1,h2⟩:=h;subst h1;exact h2
theorem SK(hz0:0<=z0/\z0<=255)(hz1:0<=z1/\z1<=255)(hx:aT (gA f n z0 z1) 88 88=0):cC (gA f n z0 z1) (kG f z1).toNat≠10000000000000000:=by
 have hd:∀c∈gA f n z0 z1,c.toNat≠88:=Mk hx;rcases @n_ f n z0 z1 hz0 hz1 with⟨a1,a2,a3,a4,a5,a6,a7⟩|⟨a1,a2,a3,a4,a5,a6,a7,a8,a9,a10⟩
 . have:=Dw (s:=gA f n z0 z1) (e:=0) (λc hc=>(a4 c hc).resolve_right (hd c hc)) (by omega) (by omega);rw[a2];omega
 . have:=Dw a2 a4 ⟨a6,a7⟩;omega
def wB(m:Int):Int:=if m=2 then 28 else if m=4\/m=6\/m=9\/m=11 then 30 else 31
theorem HL(y m:Int):wB m<=bP y m:=by
 unfold bP Go.Proofs.YtoghlpcacfnjbaaGreatDoor.mlen wB;have:=Go.Proofs.YtoghlpcacfnjbaaGreatDoor.lp_01 y
 (repeat' split)<;>omega
def LQ(k:Nat):Bool:=af (zt (Int.ofNat k)) [] || (!(aa (aL (zt (Int.ofNat k))) 0) || eW (zt (Int.ofNat k)) 12)
def IG(k j:Nat):Bool:=af (zt (Int.ofNat k)) [] || (!(aa (aL (zt (Int.ofNat k))) 0) || (af (FY (Int.ofNat j) (zt (Int.ofNat k))) [] || (eW (FY (Int.ofNat j) (zt (Int.ofNat k))) 31&&((Bx (zt (Int.ofNat k)) 12).any λm=>(Bx (FY (Int.ofNat j) (zt (Int.ofNat k))) 31).any λd=>decide (d<=wB m)))))
def G6:(List.range 40).all LQ=true:=by kernel_rfl
def Hm:(List.range 40).all (λk=>(List.range 40).all (IG k))=true:=by kernel_rfl
theorem Ni{c0 c1 c2 c3:UInt8}(h:∀c∈[c0,c1,c2,c3],(48<=c.toNat/\c.toNat<=57)\/c.toNat=88)(hx:aT [c0,c1,c2,c3] 88 88≠0):∃k:Int,1<=k/\nk c0 c1 c2 c3 k:=by
 have g0:=h c0 (by simp);have g1:=h c1 (by simp);have g2:=h c2 (by simp);have g3:=h c3 (by simp);have v:∀c:UInt8,((48<=c.toNat/\c.toNat<=57)\/c.toNat=88)->∃d:Int,0<=d/\d<=9/\(c.toNat=88\/(c.toNat:Int)=48+d)/\(c.toNat=88->d=9):=λc hc=>by
  rcases hc with hc|hc
  . exact⟨c.toNat-48,by omega,by omega,.inr (by omega),λe=>by omega⟩
  . exact⟨9,by omega,by omega,.inl hc,λ_=>rfl⟩
 obtain⟨a0,p0,q0,r0,s0⟩:=v c0 g0;obtain⟨a1,p1,q1,r1,s1⟩:=v c1 g1;obtain⟨a2,p2,q2,r2,s2⟩:=v c2 g2;obtain⟨a3,p3,q3,r3,s3⟩:=v c3 g3;have some:c0.toNat=88\/c1.toNat=88\/c2.toNat=88\/c3.toNat=88:=by
  simp only[iX,od]at hx;by_cases b0:c0.toNat=88
  . exact .inl b0
  . by_cases b1:c1.toNat=88
    . exact .inr (.inl b1)
    . by_cases b2:c2.toNat=88
      . exact .inr (.inr (.inl b2))
      . by_cases b3:c3.toNat=88
        . exact .inr (.inr (.inr b3))
        . rw[if_neg (by omega),if_neg (by omega),if_neg (by omega),if_neg (by omega)]at hx;exact absurd rfl hx
 refine⟨1000*a0+100*a1+10*a2+a3,by omega,by omega,by omega,?_,?_,?_,?_⟩
 . unfold mt;rw[show(1000*a0+100*a1+10*a2+a3)/1000=a0 by omega];exact r0
 . unfold mt;rw[show(1000*a0+100*a1+10*a2+a3)/100%10=a1 by omega];exact r1
 . unfold mt;rw[show(1000*a0+100*a1+10*a2+a3)/10%10=a2 by omega];exact r2
 . unfold mt;rw[show(1000*a0+100*a1+10*a2+a3)%10=a3 by omega];exact r3
theorem Lh{f:Int}{ng:Bool}{n z0 z1:Int}(hz0:0<=z0/\z0<=255)(hz1:0<=z1/\z1<=255):∃k,rl (su f ng n z0 z1) (gA f n z0 z1) (kG f z1) k/\-9223372036854775808<=k:=by
 have hk:=@OY f ng n z0 z1 hz0 hz1;by_cases hx:aT (gA f n z0 z1) 88 88=0
 . obtain⟨he,hl,hdg,hmk,hmv⟩:=Bn hk hx;refine⟨d8 (su f ng n z0 z1) (gA f n z0 z1) (kG f z1),?_,?_⟩
   . unfold rl;rw[hx];exact rfl
   . unfold d8;cases su f ng n z0 z1<;>simp only[zAj]<;>omega
 . rcases @n_ f n z0 z1 hz0 hz1 with⟨a1,a2,a3,a4,a5,a6,a7⟩|⟨a1,a2,a3,a4,a5,a6,a7,a8,a9,a10⟩
   . generalize gA f n z0 z1=s at *
     match s,a3 with
     | [c0,c1,c2,c3],_=>
       obtain⟨k,k1,k2⟩:=Ni a4 hx;have hb:Nat.beq (aT [c0,c1,c2,c3] 88 88) 0=false:=g7 hx;have k3:=k2.2.1;cases su f ng n z0 z1 with
       | false=>exact⟨k,by unfold rl;rw[hb];exact k2,by omega⟩
       | true=>exact⟨-k,by unfold rl;rw[hb];exact⟨by omega,by rw[Int.neg_neg];exact k2⟩,by omega⟩
   . exact absurd (Az a2) hx
theorem QS{ng:Bool}{x y z:Int}(hz0:0<=z0/\z0<=255)(hz1:0<=z1/\z1<=255)(hmk:errMk x y z (df (jY f n z0 z1 m) (nF f n z0 z1 m d))=0):bJ (su f ng n z0 z1) (sw f) (gA f n z0 z1) (kG f z1) (kE f n z0 z1) (jY f n z0 z1 m) (nF f n z0 z1 m d) x y z=0:=by
 have hk:=@OY f ng n z0 z1 hz0 hz1;obtain⟨i,hi,ei⟩:∃i:Nat,i<40/\m%40=Int.ofNat i:=⟨(m%40).toNat,by omega,by show _=(((m%40).toNat:Nat):Int);omega⟩;obtain⟨j,hj,ej⟩:∃j:Nat,j<40/\d%40=Int.ofNat j:=⟨(d%40).toNat,by omega,by show _=(((d%40).toNat:Nat):Int);omega⟩;have cm:LQ i=true:=List.all_eq_true.1 G6 i (List.mem_range.2 hi);have cd:IG i j=true:=List.all_eq_true.1 (List.all_eq_true.1 Hm i (List.mem_range.2 hi)) j (List.mem_range.2 hj);have n1:af ([]:List UInt8) []=true:=rfl;have hmo:jY f n z0 z1 m=[]\/(kE f n z0 z1=0/\jY f n z0 z1 m=zt (Int.ofNat i)):=by
  unfold jY;cases hg:aa (kE f n z0 z1) 0 with
  | false=>exact .inl rfl
  | true=>exact .inr ⟨al.mp hg,by rw[cond_true,ei]⟩
 have hda:nF f n z0 z1 m d=[]\/(af (jY f n z0 z1 m) []=false/\aL (jY f n z0 z1 m)=0/\nF f n z0 z1 m d=FY (Int.ofNat j) (jY f n z0 z1 m)):=by
  unfold nF;cases h:(!(af (jY f n z0 z1 m) [])&&aa (aL (jY f n z0 z1 m)) 0)with
  | false=>exact .inl rfl
  | true=>
    rw[zAa,Bool.not_eq_true',al]at h;exact .inr ⟨h.1,h.2,by rw[cond_true,ej]⟩
 have hyr:nP (su f ng n z0 z1) (sw f) (gA f n z0 z1) (kG f z1) (kE f n z0 z1) (jY f n z0 z1 m)=true:=by
  unfold nP;rw[zAb];refine⟨hk,λh=>?_,?_⟩
  . rcases hmo with e|⟨e,_⟩
    . rw[e,n1]at h;cases h.2
    . omega
  . by_cases hx:aT (gA f n z0 z1) 88 88=0
    . exact .inr (.inr λh=>SK hz0 hz1 hx h.2.1)
    . exact .inr (.inl (by omega))
 have hM:¬(af (jY f n z0 z1 m) []=false/\aL (jY f n z0 z1 m)=0/\eW (jY f n z0 z1 m) 12=false):=λ⟨h1,h2,h3⟩=>by
  rcases hmo with e|⟨_,e⟩
  . rw[e,n1]at h1;cases h1
  . rw[e]at h1 h2 h3;unfold LQ at cm;rw[h1,h3,h2]at cm;cases cm
 have hday:af (nF f n z0 z1 m d) []=false->af (jY f n z0 z1 m) []=false/\aL (jY f n z0 z1 m)=0/\eW (nF f n z0 z1 m d) 31/\((Bx (jY f n z0 z1 m) 12).any λm'=>(Bx (nF f n z0 z1 m d) 31).any λd'=>decide (d'<=wB m'))=true:=λh=>by
  rcases hda with e|⟨e1,e2,e3⟩
  . rw[e,n1]at h;cases h
  . refine⟨e1,e2,?_⟩;rcases hmo with e|⟨_,e⟩
    . rw[e,n1]at e1;cases e1
    . rw[e]at e1 e2 e3 ⊢;rw[e3]at h ⊢;unfold IG at cd;rw[e1,e2,h]at cd;have cd:(eW (FY (Int.ofNat j) (zt (Int.ofNat i))) 31&&((Bx (zt (Int.ofNat i)) 12).any λm=>(Bx (FY (Int.ofNat j) (zt (Int.ofNat i))) 31).any λd=>decide (d<=wB m)))=true:=cd;rw[zAa]at cd;exact cd
 have hD:¬(af (nF f n z0 z1 m d) []=false/\(af (jY f n z0 z1 m) []\/0<aL (jY f n z0 z1 m)\/eW (nF f n z0 z1 m d) 31=false)):=λ⟨h1,h2⟩=>by
  obtain⟨g1,g2,g3,_⟩:=hday h1;rcases h2 with h|h|h
  . rw[g1]at h;cases h
  . omega
  . rw[g3]at h;cases h
 have hE:nh (su f ng n z0 z1) (sw f) (gA f n z0 z1) (kG f z1) (kE f n z0 z1) (jY f n z0 z1 m) (nF f n z0 z1 m d) x y z=0:=by
  unfold nh;rw[if_neg (by rw[hyr];decide),if_neg hM,if_neg hD];exact hmk
 unfold bJ;rw[hE];cases hd:af (nF f n z0 z1 m d) []with
 | true=>rfl
 | false=>
   obtain⟨_,_,_,g4⟩:=hday hd;have hF:Pj (su f ng n z0 z1) (gA f n z0 z1) (kG f z1) (jY f n z0 z1 m) (nF f n z0 z1 m d)=true:=by
    unfold Pj;rw[wP hk (LK hk) hd (by decide) _ _ (Nat.le_refl _)];obtain⟨k,k1,k2⟩:=@Lh f ng n z0 z1 hz0 hz1;obtain⟨a,ha,g⟩:=List.any_eq_true.1 g4;obtain⟨b,hb,g⟩:=List.any_eq_true.1 g;exact⟨k,k1,k2,a,ha,b,hb,Int.le_trans (of_decide_eq_true g) (HL k a)⟩
   rw[hF];rfl
def Ct(q r:Rn):Prop:=q.c=0/\r.a=0/\q.d+1<r.b
def vG:List Rn->Prop
 | []=>True
 | [r]=>a_ r.a r.b r.c r.d=0
 | q::r::rs=>a_ q.a q.b q.c q.d=0/\Ct q r/\vG (r::rs)
theorem wJ:∀{R:List Rn},vG R->∀i,i<R.length->a_ (R.getD i j7).a (R.getD i j7).b (R.getD i j7).c (R.getD i j7).d=0/\(∀j,i=j+1->Ct (R.getD j j7) (R.getD i j7))
 | [],_,i,hi=>absurd hi (Nat.not_lt_zero _)
 | [r],h,i,hi=>by
   obtain rfl:i=0:=by simpa using hi
   exact⟨h,λj hj=>by omega⟩
 | q::r::rs,h,i,hi=>by
   obtain⟨h1,h2,h3⟩:=h
   match i with
   | 0=>exact⟨h1,λj hj=>by omega⟩
   | 1=>exact⟨(wJ h3 0 (by simp)).1,λj hj=>by
     have e:j=0:=by omega
     subst e;exact h2⟩
   | i+2=>
     obtain⟨g1,g2⟩:=wJ h3 (i+1) (by simpa using hi);exact⟨g1,λj hj=>by
      have e:j=i+1:=by omega
      subst e;exact g2 i rfl⟩
theorem Nf{R:List Rn}(h:vG R):ip R=0:=by
 refine xQ λi _ hi=>?_;obtain⟨h1,h2⟩:=wJ h i (by omega);unfold pR KS;rw[if_pos h1,if_neg];rintro⟨h0,h3⟩;obtain⟨j,rfl⟩:∃j,i=j+1:=⟨i-1,by omega⟩;rw[show j+1-1=j by omega]at h3;have ha:=h2 j rfl;have h4:=(wJ h j (by omega)).1;have q1:=iO.1 h1;have q2:=iO.1 h4;generalize List.getD R j j7=q at *;generalize List.getD R (j+1) j7=r at *;obtain⟨a1,a2,a3⟩:=ha;have lt1:cK q.a q.b r.a r.b = -1:=by
  unfold cK jb
  (repeat' split)<;>omega
 have gt1:cK r.a r.b q.a q.b=1:=by
  unfold cK jb
  (repeat' split)<;>omega
 have gt1':cK r.a r.b q.c q.d=1:=by
  unfold cK jb
  (repeat' split)<;>omega
 rcases h3 with h3|h3
 . unfold GU at h3;rw[lt1]at h3;simp at h3
 . unfold s7 at h3;rw[zAb]at h3;rw[gt1]at h3;obtain⟨_,_,⟨h5,_⟩|⟨_,h5⟩⟩:=h3
   . omega
   . unfold tt at h5;rw[gt1']at h5;omega
theorem Q9:∀{R:List Rn},vG R->vG (Cf R)
 | [],_=>trivial
 | [r],h=>by
   have:=iO.1 h;exact iO.2 ⟨.inr ⟨rfl,rfl⟩,this.2.1,.inl (by show -1<r.c;omega)⟩
 | q::r::rs,h=>by
   obtain⟨h1,h2,h3⟩:=h;have:=iO.1 h1;exact⟨iO.2 ⟨.inr ⟨rfl,rfl⟩,this.2.1,.inl (by show -1<q.c;omega)⟩,h2,h3⟩
theorem EJ:∀{R:List Rn},vG R->vG (tS R)
 | [],_=>trivial
 | [r],h=>by
   have:=iO.1 h;exact iO.2 ⟨this.1,.inr ⟨rfl,rfl⟩,.inl (by show r.a<1;omega)⟩
 | [q,r],h=>by
   obtain⟨h1,h2,h3⟩:=h;exact⟨h1,h2,EJ (R:=[r]) h3⟩
 | q::r::s::rs,h=>by
   obtain⟨h1,h2,h3⟩:=h;exact⟨h1,h2,EJ (R:=r::s::rs) h3⟩
theorem E7:∀{gs:List (Int×Int)} {day:Int},(∀p∈gs,(0<=p.1/\p.1<=255)/\(0<=p.2/\p.2<=255))->vG (Er day gs)
 | [],_,_=>trivial
 | [p],day,h=>by
   have:=h p (by simp);exact iO.2 ⟨.inl rfl,.inl rfl,.inr ⟨rfl,by show day<=day+p.2;omega⟩⟩
 | p::q::r,day,h=>by
   have hp:=h p (by simp);have ih:=E7 (gs:=q::r) (day:=day+p.2+2+p.1) λx hx=>h x (by simp only[List.mem_cons]at hx ⊢;exact .inr hx);exact⟨iO.2 ⟨.inl rfl,.inl rfl,.inr ⟨rfl,by show day<=day+p.2;omega⟩⟩,⟨rfl,rfl,by show day+p.2+1<day+p.2+2+p.1;omega⟩,ih⟩
theorem OF{gs:List (Int×Int)}(h:∀p∈gs,(0<=p.1/\p.1<=255)/\(0<=p.2/\p.2<=255)):∀p∈gs.take 4,(0<=p.1/\p.1<=255)/\(0<=p.2/\p.2<=255):=λp hp=>h p (List.mem_of_mem_take hp)
theorem Lz{gs:List (Int×Int)}(hma:0<=ma)(h:∀p∈gs,(0<=p.1/\p.1<=255)/\(0<=p.2/\p.2<=255)):vG (yu fr ma gs):=by
 match gs,h with
 | [],_=>exact iO.2 ⟨.inl rfl,.inl rfl,.inr ⟨rfl,by show fr<=fr+ma;omega⟩⟩
 | p::r,h=>exact E7 (OF h)
theorem BW{b1 b2:Bool}{gs:List (Int×Int)}(hma:0<=ma)(h:∀p∈gs,(0<=p.1/\p.1<=255)/\(0<=p.2/\p.2<=255)):vG (eO fr ma b1 b2 gs):=by
 have hb:=Lz (fr:=fr) hma h;unfold eO E4;cases b1 with
 | true=>exact Q9 hb
 | false=>
   cases b2 with
   | true=>exact EJ hb
   | false=>exact hb
def ow(R:List Rn):Prop:=∀r∈R,(-40000<=r.b/\r.b<=40000)/\(-40000<=r.d/\r.d<=40000)
theorem K9:∀{R:List Rn},ow R->ow (Cf R)
 | [],h=>h
 | r::rs,h=>λx hx=>by
   simp only[Cf,List.mem_cons]at hx;rcases hx with rfl|hx
   . exact⟨by show -40000<=(0:Int)/\(0:Int)<=40000;omega,(h r (by simp)).2⟩
   . exact h x (by simp[hx])
theorem Cq:∀{R:List Rn},ow R->ow (tS R)
 | [],h=>h
 | [r],h=>λx hx=>by
   simp only[tS,zAf]at hx;subst hx;exact⟨(h r (by simp)).1,by show -40000<=(0:Int)/\(0:Int)<=40000;omega⟩
 | r::s::rs,h=>λx hx=>by
   simp only[tS,List.mem_cons]at hx;rcases hx with rfl|hx
   . exact h x (by simp)
   . exact Cq (R:=s::rs) (λy hy=>h y (by simp only[List.mem_cons]at hy ⊢;exact .inr hy)) x (by simpa using hx)
theorem zI:∀{gs:List (Int×Int)} {day:Int} {k:Nat},(∀p∈gs,(0<=p.1/\p.1<=255)/\(0<=p.2/\p.2<=255))->gs.length<=k->∀r∈Er day gs,(day<=r.b/\r.b<=day+600*k)/\(day<=r.d/\r.d<=day+600*k)
 | [],_,_,_,_,r,hr=>by cases hr
 | p::gs,day,k+1,h,hk,r,hr=>by
   have hp:=h p (by simp);simp only[Er,List.mem_cons]at hr;rcases hr with rfl|hr
   . show(day<=day/\day<=_)/\(day<=day+p.2/\day+p.2<=_);omega
   . have:=zI (gs:=gs) (day:=day+p.2+2+p.1) (k:=k) (λx hx=>h x (by simp[hx])) (by simpa using hk) r hr;omega
theorem yh{b1 b2:Bool}{gs:List (Int×Int)}(hfr : -32768<=fr/\fr<=32767)(hma:0<=ma/\ma<=255)(h:∀p∈gs,(0<=p.1/\p.1<=255)/\(0<=p.2/\p.2<=255)):ow (eO fr ma b1 b2 gs):=by
 have hb:ow (yu fr ma gs):=by
  match gs,h with
  | [],_=>
    intro r hr;simp only[yu,zAf]at hr;subst hr;show(-40000<=fr/\fr<=40000)/\(-40000<=fr+ma/\fr+ma<=40000);omega
  | p::r,h=>
    intro x hx;have:=zI (k:=4) (OF h) (by rw[List.length_take];exact Nat.min_le_left _ _) x hx;omega
 unfold eO E4;cases b1 with
 | true=>exact K9 hb
 | false=>
   cases b2 with
   | true=>exact Cq hb
   | false=>exact hb
theorem QV:∀{R:List Rn},(Cf R).length=R.length
 | []=>rfl
 | _::_=>rfl
theorem Kl:∀{R:List Rn},(tS R).length=R.length
 | []=>rfl
 | [_]=>rfl
 | r::s::rs=>by simp only[tS,zAd];rw[Kl (R:=s::rs)];rfl
theorem F8:∀{gs:List (Int×Int)} {day:Int},(Er day gs).length=gs.length
 | [],_=>rfl
 | p::r,_=>by simp only[Er,zAd,F8 (gs:=r)]
theorem C3{fr ma:Int}{b1 b2:Bool}{gs:List (Int×Int)}:1<=(eO fr ma b1 b2 gs).length/\(eO fr ma b1 b2 gs).length<=4:=by
 have hb:1<=(yu fr ma gs).length/\(yu fr ma gs).length<=4:=by
  match gs with
  | []=>exact⟨Nat.le_refl _,(by show 1<=4;decide)⟩
  | p::r=>
    unfold yu;rw[F8,List.length_take,zAd];omega
 unfold eO E4;cases b1 with
 | true=>rw[cond_true,QV];exact hb
 | false=>
   cases b2 with
   | true=>rw[cond_false,cond_true,Kl];exact hb
   | false=>exact hb
theorem JF{R:List Rn}(h:ow R):MW R:=λi hi=>by
 have hm:R.getD i j7∈R:=by
  rw[zAe,List.getElem?_eq_getElem hi];exact List.getElem_mem hi
 have:=h _ hm;unfold GV;omega
theorem KT:BN i 2=eG i:=by
 have hm:d_ i 12+1≠0/\¬13<=d_ i 12+1:=by unfold d_;omega
 show jQ (cV i 12) (d_ i 12+1) 0=_;unfold jQ eG;rw[ay.mpr hm.1,bY.mpr (show d_ i 12+1<13 by omega)];rfl
theorem LH:BM i 2=eG (i+1)-1:=by
 have hm:d_ i 12+1≠0/\¬13<=d_ i 12+1:=by unfold d_;omega
 show jV (cV i 12) (d_ i 12+1) 0=_;unfold jV;rw[ay.mpr hm.1,bY.mpr (show d_ i 12+1<13 by omega),(nK i).2,show d_ i 12+1+1=d_ i 12+2 by omega];rfl
theorem qB{y m:Int}(h:1<=m/\m<=12):bf y<=aG y m/\aG y m<aG y (m+1)/\aG y (m+1)<=bf (y+1)/\aG y m+dX y m=aG y (m+1):=by
 have ys:bf (y+1)=bf y+365+ii y:=Go.Proofs.YtoghlpcacfnjbaaGreatDoor.yst_succ y;have bl:0<=ii y/\ii y<=1:=Go.Proofs.YtoghlpcacfnjbaaGreatDoor.lp_01 y;have e:=@pQ y m h.1 (by omega);have hn:=iF y m;have key:∀k:Int,1<=k->k<=13->bf y<=aG y k/\aG y k<=bf y+365+ii y:=λk h1 h2=>by
  have:aG y k=bf y+Go.Proofs.YtoghlpcacfnjbaaGreatDoor.mcum y k:=rfl;have hl:ii y=Go.Proofs.YtoghlpcacfnjbaaGreatDoor.lp y:=rfl;rw[this,hl];rw[hl]at bl;unfold Go.Proofs.YtoghlpcacfnjbaaGreatDoor.mcum
  (repeat' split)<;>omega
 have k1:=key m h.1 (by omega);have k2:=key (m+1) (by omega) (by omega);omega
theorem xi{y:Int}(h:1<=m/\m<=12)(h1:aG y m<=d)(h2:d<aG y (m+1)):aJ d=y/\bu d=m:=by
 obtain⟨a,b,c,e⟩:=@qB y m h;have hy:aJ d=y:=Go.Proofs.YtoghlpcacfnjbaaGreatDoor.yOf_unique (show bf y<=d by omega) (show d<bf (y+1)by omega);have hy':Go.Proofs.YtoghlpcacfnjbaaGreatDoor.yOf d=y:=hy;refine⟨hy,Go.Proofs.YtoghlpcacfnjbaaGreatDoor.mOf_unique h.1 ?_ ?_⟩
 . rw[hy'];exact h1
 . rw[hy'];exact h2
theorem KJ(hi : -40000<=i/\i<=40000)(hp:1<=p/\p<=3):jS (BN i p) p/\vI (BN i p) p=BN i p/\(-3652425000000000000<=BN i p/\BN i p<=3652425000000000000):=by
 obtain⟨e1,e2⟩:=n8;have hp:p=1\/p=2\/p=3:=by omega
 rcases hp with rfl|rfl|rfl
 . have h:BN i 1=bf i:=rfl;have m1:=eo (show -10000000000000000<=i by omega);have m2:=eo (show i<=10000000000000000 by omega);rw[h];refine⟨?_,?_,by omega⟩
   . unfold jS;rw[dQ.2 (by omega),Bool.or_true]
   . show bf (aJ (bf i))=_;rw[x6.1]
 . have hm:1<=d_ i 12+1/\d_ i 12+1<=12:=by unfold d_;omega
   have hf : -4000<=cV i 12/\cV i 12<=4000:=by unfold cV;omega
   obtain⟨a,b,c,e⟩:=@qB (cV i 12) _ hm;have h:BN i 2=aG (cV i 12) (d_ i 12+1):=KT;have m1:=eo (show -10000000000000000<=cV i 12 by omega);have m2:=eo (show cV i 12+1<=10000000000000000 by omega);obtain⟨q1,q2⟩:=xi hm (Int.le_refl _) b;rw[h];refine⟨?_,?_,by omega⟩
   . unfold jS;rw[dQ.2 (by omega),Bool.or_true]
   . show aG (aJ _) (bu _)=_;rw[q1,q2]
 . have h:BN i 3=i:=rfl;rw[h];exact⟨rfl,rfl,by omega⟩
theorem KP(hi : -40000<=i/\i<=40000)(hp:1<=p/\p<=3):jS (BM i p) p/\AF (BM i p) p=BM i p/\(-3652425000000000000<=BM i p/\BM i p<=3652425000000000000):=by
 obtain⟨e1,e2⟩:=n8;have hp:p=1\/p=2\/p=3:=by omega
 rcases hp with rfl|rfl|rfl
 . have h:BM i 1=bf (i+1)-1:=rfl;have ys:bf (i+1)=bf i+365+ii i:=Go.Proofs.YtoghlpcacfnjbaaGreatDoor.yst_succ i;have bl:0<=ii i/\ii i<=1:=Go.Proofs.YtoghlpcacfnjbaaGreatDoor.lp_01 i;have m1:=eo (show -10000000000000000<=i by omega);have m2:=eo (show i+1<=10000000000000000 by omega);rw[h];refine⟨?_,?_,by omega⟩
   . unfold jS;rw[dQ.2 (by omega),Bool.or_true]
   . show bf (aJ (bf (i+1)-1))+364+ii (aJ (bf (i+1)-1))=_;rw[x6.2];omega
 . have hm:1<=d_ i 12+1/\d_ i 12+1<=12:=by unfold d_;omega
   have hf : -4000<=cV i 12/\cV i 12<=4000:=by unfold cV;omega
   obtain⟨a,b,c,e⟩:=@qB (cV i 12) _ hm;have h:BM i 2=aG (cV i 12) (d_ i 12+1+1)-1:=by rw[LH,(nK i).2,show d_ i 12+1+1=d_ i 12+2 by omega]
   have m1:=eo (show -10000000000000000<=cV i 12 by omega);have m2:=eo (show cV i 12+1<=10000000000000000 by omega);obtain⟨q1,q2⟩:=xi (y:=cV i 12) (d:=aG (cV i 12) (d_ i 12+1+1)-1) hm (by omega) (by omega);rw[h];refine⟨?_,?_,by omega⟩
   . unfold jS;rw[dQ.2 (by omega),Bool.or_true]
   . show aG (aJ _) (bu _)+dX (aJ _) (bu _)-1=_;rw[q1,q2];omega
 . have h:BM i 3=i:=rfl;rw[h];exact⟨rfl,rfl,by omega⟩
theorem UN{j:Int}(hij:i<=j)(hp:1<=p/\p<=3):BN i p<=BM j p:=by
 have hp:p=1\/p=2\/p=3:=by omega
 rcases hp with rfl|rfl|rfl
 . have ys:bf (j+1)=bf j+365+ii j:=Go.Proofs.YtoghlpcacfnjbaaGreatDoor.yst_succ j;have bl:0<=ii j/\ii j<=1:=Go.Proofs.YtoghlpcacfnjbaaGreatDoor.lp_01 j;have:=eo hij;show bf i<=bf (j+1)-1;omega
 . rw[KT,LH];have:=Ei i (j+1-i).toNat;rw[show i+((j+1-i).toNat:Int)=j+1 by omega]at this;omega
 . exact hij
theorem H9{P:Int}{o1 o2:Bool}(hfr : -32768<=fr/\fr<=32767)(hma:0<=ma/\ma<=255)(hP:1<=P/\P<=3)(h12:¬(o1/\o2=true)):cJ (bif o1 then -1 else 0) (bif o1 then 0 else BN fr P) (bif o2 then 1 else 0) (bif o2 then 0 else BM (fr+ma) P) P/\a_ (bif o1 then -1 else 0) (bif o1 then 0 else BN fr P) (bif o2 then 1 else 0) (bif o2 then 0 else BM (fr+ma) P)=0:=by
 obtain⟨l1,l2,_⟩:=KJ (i:=fr) (by omega) hP;obtain⟨u1,u2,_⟩:=KP (i:=fr+ma) (by omega) hP;have le:=UN (show fr<=fr+ma by omega) hP;have hr:a_ (bif o1 then -1 else 0) (bif o1 then 0 else BN fr P) (bif o2 then 1 else 0) (bif o2 then 0 else BM (fr+ma) P)=0:=by
  rw[iO];cases o1 with
  | false=>
    cases o2 with
    | false=>exact⟨.inl rfl,.inl rfl,.inr ⟨rfl,le⟩⟩
    | true=>exact⟨.inl rfl,.inr ⟨rfl,rfl⟩,.inl (by decide)⟩
  | true=>
    cases o2 with
    | false=>exact⟨.inr ⟨rfl,rfl⟩,.inl rfl,.inl (by decide)⟩
    | true=>exact absurd ⟨rfl,rfl⟩ h12
 refine⟨x7.2 ⟨?_,hr,?_,?_⟩,hr⟩
 . cases o1 with
   | false=>exact .inl rfl
   | true=>
     cases o2 with
     | false=>exact .inr rfl
     | true=>exact absurd ⟨rfl,rfl⟩ h12
 . cases o1 with
   | false=>exact λ_=>⟨l1,l2⟩
   | true=>exact λh=>absurd h (by decide)
 . cases o2 with
   | false=>exact λ_=>⟨u1,u2⟩
   | true=>exact λh=>absurd h (by decide)
theorem Gg{k op:Int}{ng:Bool}(hz0:0<=z0/\z0<=255)(hz1:0<=z1/\z1<=255)(hk:0<=k/\k<=255)(hfr : -32768<=fr/\fr<=32767)(hma:0<=ma/\ma<=255)(h:iL k f n z0 z1 m d=false) :
 cA (fK k f n z0 z1 m d) 0 0 (dZ (wd k f ng n z0 z1 m d) (zL k f n z0 z1 m d) (fS k f n z0 z1 m d) (fE k f n z0 z1 m d) 0 (tV k f n z0 z1 m d) (tN k f n z0 z1 m d) 0 0 0) (fP k p) (sZ (fA k op) (fB k p op fr) (fC k op) (fD k p op fr ma)) (bJ (wd k f ng n z0 z1 m d) (zL k f n z0 z1 m d) (fS k f n z0 z1 m d) (fE k f n z0 z1 m d) 0 (tV k f n z0 z1 m d) (tN k f n z0 z1 m d) 0 0 0) 0 (ba (fS k f n z0 z1 m d++tV k f n z0 z1 m d++tN k f n z0 z1 m d)) (mZ 0 0 0) (cJ (fA k op) (fB k p op fr) (fC k op) (fD k p op fr ma) (fP k p)) (a_ (fA k op) (fB k p op fr) (fC k op) (fD k p op fr ma)) (fA k op) (fC k op)=0/\
 ((0<=fK k f n z0 z1 m d/\fK k f n z0 z1 m d<=255)/\(-9223372036854775808<=fE k f n z0 z1 m d/\fE k f n z0 z1 m d<=9223372036854775807)/\(0<=fP k p/\fP k p<=255)/\(-128<=fA k op/\fA k op<=127)/\(-9223372036854775808<=fB k p op fr/\fB k p op fr<=9223372036854775807)/\(-128<=fC k op/\fC k op<=127)/\(-9223372036854775808<=fD k p op fr ma/\fD k p op fr ma<=9223372036854775807))/\(fS k f n z0 z1 m d).length<=5/\(tV k f n z0 z1 m d).length<=2/\(tN k f n z0 z1 m d).length<=2:=by
 have l1:=@ru f n z0 z1;have l2:=@rE f n z0 z1 m;have l3:=@rX f n z0 z1 m d;have mz:mZ 0 0 0=true:=rfl;have dz:dZ false false [] 0 0 [] [] 0 0 0=true:=rfl;have sz:sZ 0 0 0 0=true:=rfl;have cf:k%5=0\/k%5=1\/k%5=2\/k%5=3\/k%5=4:=by omega
 have hE:0<=kG f z1/\kG f z1<=11:=by
  rcases @n_ f n z0 z1 hz0 hz1 with a|a<;>omega
 rcases cf with cf|cf|cf|cf|cf
 . exfalso;unfold iL fX at h;rw[ay.mpr (show k%5≠1 by omega),ay.mpr (show k%5≠2 by omega),ay.mpr (show k%5≠3 by omega),ay.mpr (show k%5≠4 by omega)]at h;cases h
 . have e2:aa (k%5) 2=false:=ay.mpr (by omega);have e3:aa (k%5) 3=false:=ay.mpr (by omega);have e4:aa (k%5) 4=false:=ay.mpr (by omega);have hX:fX k f n z0 z1 m d=true:=by
    unfold iL at h;rw[e2,e3,e4]at h;simpa using h
   have hX':=hX;unfold fX at hX';simp only[zAa]at hX';obtain⟨_,hg,hx⟩:=hX';have hmk:errMk 0 0 0 (df (jY f n z0 z1 m) (nF f n z0 z1 m d))=0:=by
    have:=o_ (jY f n z0 z1 m) (nF f n z0 z1 m d);unfold errMk;rw[if_neg (by omega),if_neg (by omega)]
   have hd:=QS (f:=f) (ng:=ng) (n:=n) (m:=m) (d:=d) hz0 hz1 hmk;rw[al.mp hg]at hd;unfold wd zL fS fE tV tN;simp only[fK,fP,fA,fB,fC,fD,hX,e2,e3,e4,zAj,Bool.true_and];refine⟨?_,by omega,by omega,by omega,by omega⟩;rw[hd,hx,mz,sz,UP]
 . have e2:aa (k%5) 2=true:=al.mpr cf;have hX:fX k f n z0 z1 m d=false:=by unfold fX;rw[ay.mpr (show k%5≠1 by omega)];rfl
   have oc:¬(aa (op%4) 1/\aa (op%4) 2=true):=So;have hP:1<=1+p%3/\1+p%3<=3:=by omega
   obtain⟨w1,w2⟩:=H9 hfr hma hP oc;obtain⟨_,_,r1⟩:=KJ (i:=fr) (by omega) hP;obtain⟨_,_,r2⟩:=KP (i:=fr+ma) (by omega) hP;unfold wd zL fS fE tV tN;simp only[fK,fP,fA,fB,fC,fD,hX,e2,zAj,Bool.false_and];refine⟨?_,⟨by omega,by omega,by omega,?_,?_,?_,?_⟩,by decide,by decide,by decide⟩
   . rw[w1,dz];generalize 1+p%3=P at *;unfold cA;rw[if_neg (by decide),if_neg (by decide),if_neg (by decide),if_pos rfl,if_pos ⟨rfl,rfl⟩,if_pos hP,if_pos rfl]
   . cases aa (op%4) 1<;>simp only[zAj]<;>omega
   . cases aa (op%4) 1<;>simp only[zAj]<;>omega
   . cases aa (op%4) 2<;>simp only[zAj]<;>omega
   . cases aa (op%4) 2<;>simp only[zAj]<;>omega
 . have e2:aa (k%5) 2=false:=ay.mpr (by omega);have e3:aa (k%5) 3=true:=al.mpr cf;have e4:aa (k%5) 4=false:=ay.mpr (by omega);have hX:fX k f n z0 z1 m d=false:=by unfold fX;rw[ay.mpr (show k%5≠1 by omega)];rfl
   unfold wd zL fS fE tV tN;simp only[fK,fP,fA,fB,fC,fD,hX,e2,e3,e4,zAj,Bool.false_and];refine⟨?_,by omega,by decide,by decide,by decide⟩;have hr:a_ (-1) 0 0 fr=0:=iO.2 ⟨.inr ⟨rfl,rfl⟩,.inl rfl,.inl (by decide)⟩;rw[hr,dz];unfold cA;rw[if_neg (by decide),if_neg (by decide),if_neg (by decide),if_neg (by decide),if_pos ⟨rfl,rfl,rfl⟩,if_pos ⟨rfl,.inl ⟨rfl,rfl,rfl⟩⟩]
 . have e2:aa (k%5) 2=false:=ay.mpr (by omega);have e3:aa (k%5) 3=false:=ay.mpr (by omega);have e4:aa (k%5) 4=true:=al.mpr cf;have hX:fX k f n z0 z1 m d=false:=by unfold fX;rw[ay.mpr (show k%5≠1 by omega)];rfl
   unfold wd zL fS fE tV tN;simp only[fK,fP,fA,fB,fC,fD,hX,e2,e3,e4,zAj,Bool.false_and];refine⟨?_,by omega,by decide,by decide,by decide⟩;have hr:a_ 0 fr 1 0=0:=iO.2 ⟨.inl rfl,.inr ⟨rfl,rfl⟩,.inl (by decide)⟩;rw[hr,dz];unfold cA;rw[if_neg (by decide),if_neg (by decide),if_neg (by decide),if_neg (by decide),if_pos ⟨rfl,rfl,rfl⟩,if_pos ⟨rfl,.inr ⟨rfl,rfl,rfl⟩⟩]
end Go.Ev
end
section
namespace Go.Ev
open Go Go.Proofs Go.ChangeShapes Go.WideShapes Go.ChangeAt Go.RowKit
section
variable{P:Program}{w:World}{r:Reach}{b0:Nat}
def SL(P:Program)(w:World)(r:Reach)(b0:Nat):List TypeId->List Value->Prop
 | [],[]=>True
 | t::ts,v::vs=>Cell.okWide P w r b0 t v/\SL P w r b0 ts vs
 | _,_=>False
theorem E1:∀{ts:List TypeId} {l:List Value},l.length=ts.length->(∀(i:Nat) (c:Value),l[i]? = some c->∃u,ts[i]? = some u/\Cell.okWide P w r b0 u c)->SL P w r b0 ts l
 | [],[],_,_=>trivial
 | t::ts,v::vs,h,hall=>by
   refine⟨?_,E1 (by simpa using h) λi c hc=>hall (i+1) c hc⟩;obtain⟨u,hu,hc⟩:=hall 0 v rfl;cases hu;exact hc
theorem G7{t:TypeId}{v:Value}{fs}(ht:P.underlying t=some (.struct fs)){ts:List TypeId}(hc:P.cellTypes P.depth t=some ts)(hn:P.cellsOf t=ts.length)(h:Value.okWide P w r b0 t v):∃l:List Value,v=.agg ⟨l⟩/\SL P w r b0 ts l:=by
 unfold Value.okWide at h;rw[ht]at h;obtain⟨⟨l⟩,rfl,hsz,ts',hts,_,hall⟩:=h;rw[hc]at hts;cases hts;have hl:l.length=ts.length:=hsz.trans hn;refine⟨l,rfl,E1 hl λi c hi=>?_⟩;have hlt:=(List.getElem?_eq_some_iff.1 hi).1;have:=hall i c (by simpa using hi)
 rwa [Nat.mod_eq_of_lt (by omega)]at this
end
end Go.Ev
end
section
namespace Go.Ev
open Go Go.Proofs Go.ChangeShapes
def Yw:Tryz.prog.cellTypes Tryz.prog.depth 32=some [5,5,5,5,4,22,5,5,5,5,5,5,5,29,5,30]:=by kernel_rfl
def Xp:Tryz.prog.cellsOf 32=16:=by kernel_rfl
structure FP where
 k:Int
 p:Int
 op:Int
 f:Int
 ng:Bool
 n:Int
 z0:Int
 z1:Int
 m:Int
 d:Int
 x:Int
 y:Int
 z:Int
 fr:Int
 ma:Int
def FP.ok(q:FP):Prop:=(0<=q.k/\q.k<=255)/\(0<=q.p/\q.p<=255)/\(0<=q.op/\q.op<=255)/\(0<=q.f/\q.f<=255)/\(0<=q.n/\q.n<=65535)/\(0<=q.z0/\q.z0<=255)/\(0<=q.z1/\q.z1<=255)/\(0<=q.m/\q.m<=255)/\(0<=q.d/\q.d<=255)/\(0<=q.x/\q.x<=255)/\(0<=q.y/\q.y<=255)/\(0<=q.z/\q.z<=255)/\(-32768<=q.fr/\q.fr<=32767)/\(0<=q.ma/\q.ma<=255)
def FP.v(q:FP)(sv:Value):Value:=.agg #[.int .u8 q.k,.int .u8 q.p,.int .u8 q.op,.int .u8 q.f,.bool q.ng,.int .u16 q.n,.int .u8 q.z0,.int .u8 q.z1,.int .u8 q.m,.int .u8 q.d,.int .u8 q.x,.int .u8 q.y,.int .u8 q.z,.int .i16 q.fr,.int .u8 q.ma,sv]
theorem Si{w:World}{r:Reach}{b0:Nat}{v:Value}(h:Value.okWide Tryz.prog w r b0 32 v):∃(q:FP) (sv:Value),v=q.v sv/\q.ok/\Cell.okWide Tryz.prog w r b0 30 sv:=by
 obtain⟨l,rfl,hc⟩:=G7 Tryz.underlying32 Yw Xp h
 match l,hc with
 | [c0,c1,c2,c3,c4,c5,c6,c7,c8,c9,c10,c11,c12,c13,c14,c15],⟨h0,h1,h2,h3,h4,h5,h6,h7,h8,h9,h10,h11,h12,h13,h14,h15,_⟩=>
   obtain⟨k,rfl,r0⟩:=ex Tryz.underlying5 h0;obtain⟨p,rfl,r1⟩:=ex Tryz.underlying5 h1;obtain⟨op,rfl,r2⟩:=ex Tryz.underlying5 h2;obtain⟨f,rfl,r3⟩:=ex Tryz.underlying5 h3;obtain⟨ng,rfl⟩:=HO Tryz.underlying4 h4;obtain⟨n,rfl,r5⟩:=ex Tryz.underlying22 h5;obtain⟨z0,rfl,r6⟩:=ex Tryz.underlying5 h6;obtain⟨z1,rfl,r7⟩:=ex Tryz.underlying5 h7;obtain⟨m,rfl,r8⟩:=ex Tryz.underlying5 h8;obtain⟨d,rfl,r9⟩:=ex Tryz.underlying5 h9;obtain⟨x,rfl,r10⟩:=ex Tryz.underlying5 h10;obtain⟨y,rfl,r11⟩:=ex Tryz.underlying5 h11;obtain⟨z,rfl,r12⟩:=ex Tryz.underlying5 h12;obtain⟨fr,rfl,r13⟩:=ex Tryz.underlying29 h13;obtain⟨ma,rfl,YW⟩:=ex Tryz.underlying5 h14;exact⟨⟨k,p,op,f,ng,n,z0,z1,m,d,x,y,z,fr,ma⟩,c15,rfl,⟨r0,r1,r2,r3,r5,r6,r7,r8,r9,r10,r11,r12,r13,YW⟩,h15⟩
section
variable{H:Type}{enc:TypeId×Value->H}{w:World}{sp:Nat->Bool}{held:Bool}
end
end Go.Ev
end
