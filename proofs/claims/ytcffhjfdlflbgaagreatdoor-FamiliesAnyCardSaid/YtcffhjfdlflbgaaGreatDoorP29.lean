import Derived.Test.YtcffhjfdlflbgaaGreatDoorP28
set_option linter.all false
open Int renaming ofNat->ν,add->π,sub->υ,mul->χ
open HAppend renaming hAppend->ξ
open UInt8 renaming toNat->ο,ofNat->σ
open List renaming cons->ς,length->τ,getD->Α,nil->Β
open Nat renaming ble->ω,le_refl->Δ,beq->Ε
open Bool renaming not->Γ
set_option linter.all false
set_option maxRecDepth 100000
set_option maxHeartbeats 4000000
namespace Go.Ev
open Go Go.Proofs
variable{K:fg}{S:aQ}{Q:AV->Prop}
def yz(m:Int):Int:=if m=2 then 28 else if m=4\/m=6\/m=9\/m=11 then 30 else 31
theorem ID(y m:Int):yz m<=bP y m:=by
 unfold bP Go.Proofs.YtcffhjfdlflbgaaGreatDoor.mlen yz;have:=Go.Proofs.YtcffhjfdlflbgaaGreatDoor.lp_01 y;omega
def Kd(k:Nat):Bool:=ae (Av (ν k)) [] || (!(aa (aR (Av (ν k))) 0) || eW (Av (ν k)) 12)
def Mt(k j:Nat):Bool:=ae (Av (ν k)) [] || (!(aa (aR (Av (ν k))) 0) || (ae (Gt (ν j) (Av (ν k))) [] || (eW (Gt (ν j) (Av (ν k))) 31&&((Co (Av (ν k)) 12).any λm=>(Co (Gt (ν j) (Av (ν k))) 31).any λd=>decide (d<=yz m)))))
theorem Iw:(List.range 40).all Kd=true:=by rfl
def II:(List.range 40).all (λk=>(List.range 40).all (Mt k))=true:=by kernel_rfl
theorem ai1{c0 c1 c2 c3:UInt8}(h:∀c∈[c0,c1,c2,c3],(48<=c.toNat/\c.toNat<=57)\/c.toNat=88)(hx:eC [c0,c1,c2,c3] 88 88≠0):∃k:Int,1<=k/\nS c0 c1 c2 c3 k:=by
 have g0:=h c0 (by simp);have g1:=h c1 (by simp);have g2:=h c2 (by simp);have g3:=h c3 (by simp);have v:∀c:UInt8,((48<=c.toNat/\c.toNat<=57)\/c.toNat=88)->∃d:Int,0<=d/\d<=9/\(c.toNat=88\/(c.toNat:Int)=48+d)/\(c.toNat=88->d=9):=λc hc=>by
  rcases hc with hc|hc
  . exact⟨c.toNat-48,by omega,by omega,.inr (by omega),λe=>by omega⟩
  simp_all
 obtain⟨a0,p0,q0,r0,s0⟩:=v c0 g0;obtain⟨a1,p1,q1,r1,s1⟩:=v c1 g1;obtain⟨a2,p2,q2,r2,s2⟩:=v c2 g2;obtain⟨a3,p3,q3,r3,s3⟩:=v c3 g3;have some:c0.toNat=88\/c1.toNat=88\/c2.toNat=88\/c3.toNat=88:=by
  grind [mN,rg]
 refine⟨1000*a0+100*a1+10*a2+a3,by omega,by omega,by omega,?_,?_,?_,?_⟩<;>grind [mt]
theorem Fh{f:Int}{ng:Bool}{n z0 z1:Int}(hz0:0<=z0/\z0<=255)(hz1:0<=z1/\z1<=255):∃k,mK (qV f ng n z0 z1) (gw f n z0 z1) (kQ f z1) k/\-9223372036854775808<=k:=by
 have hk:=@Po f ng n z0 z1 hz0 hz1;by_cases hx:eC (gw f n z0 z1) 88 88=0
 . obtain⟨he,hl,hdg,hmk,hmv⟩:=Bk hk hx;refine⟨dY (qV f ng n z0 z1) (gw f n z0 z1) (kQ f z1),?_,?_⟩
   . simp_all [mK]
   grind [dY]
 . rcases @n7 f n z0 z1 hz0 hz1 with⟨a1,a2,a3,a4,a5,a6,a7⟩|⟨a1,a2,a3,a4,a5,a6,a7,a8,a9,a10⟩
   . generalize gw f n z0 z1=s at *
     match s,a3 with
     | [c0,c1,c2,c3],_=>
       obtain⟨k,k1,k2⟩:=ai1 a4 hx;have hb:Ε (eC [c0,c1,c2,c3] 88 88) 0=false:=ic hx;have k3:=k2.2.1;cases qV f ng n z0 z1 with
       | false=>exact⟨k,by grind [mK],by omega⟩
       | true=>exact⟨-k,by grind [mK],by omega⟩
   grind [B9]
theorem QB{f:Int}{ng:Bool}{n z0 z1 m d x y z:Int}(hz0:0<=z0/\z0<=255)(hz1:0<=z1/\z1<=255)(hmk:errMk x y z (dq (jZ f n z0 z1 m) (nY f n z0 z1 m d))=0):bW (qV f ng n z0 z1) (sY f) (gw f n z0 z1) (kQ f z1) (dr f n z0 z1) (jZ f n z0 z1 m) (nY f n z0 z1 m d) x y z=0:=by
 have hk:=@Po f ng n z0 z1 hz0 hz1;obtain⟨i,hi,ei⟩:∃i:Nat,i<40/\m%40=ν i:=⟨(m%40).toNat,by omega,by grind⟩;obtain⟨j,hj,ej⟩:∃j:Nat,j<40/\d%40=ν j:=⟨(d%40).toNat,by omega,by grind⟩;have cm:Kd i=true:=List.all_eq_true.1 Iw i (List.mem_range.2 hi);have cd:Mt i j=true:=List.all_eq_true.1 (List.all_eq_true.1 II i (List.mem_range.2 hi)) j (List.mem_range.2 hj);have n1:ae ([]:List UInt8) []=true:=rfl;have hmo:jZ f n z0 z1 m=[]\/(dr f n z0 z1=0/\jZ f n z0 z1 m=Av (ν i)):=by
  unfold jZ;cases hg:aa (dr f n z0 z1) 0 with
  | false=>simp
  | true=>exact .inr ⟨ao.mp hg,by grind⟩
 have hda:nY f n z0 z1 m d=[]\/(ae (jZ f n z0 z1 m) []=false/\aR (jZ f n z0 z1 m)=0/\nY f n z0 z1 m d=Gt (ν j) (jZ f n z0 z1 m)):=by
  unfold nY;cases h:(!(ae (jZ f n z0 z1 m) [])&&aa (aR (jZ f n z0 z1 m)) 0)<;>grind [ao]
 have hyr:oc (qV f ng n z0 z1) (sY f) (gw f n z0 z1) (kQ f z1) (dr f n z0 z1) (jZ f n z0 z1 m)=true:=by
  grind [oc,Tw]
 have hM:¬(ae (jZ f n z0 z1 m) []=false/\aR (jZ f n z0 z1 m)=0/\eW (jZ f n z0 z1 m) 12=false):=λ⟨h1,h2,h3⟩=>by
  rcases hmo with e|⟨_,e⟩
  . grind
  . rw[e]at h1 h2 h3;unfold Kd at cm;rw[h1,h3,h2]at cm;cases cm
 have hday:ae (nY f n z0 z1 m d) []=false->ae (jZ f n z0 z1 m) []=false/\aR (jZ f n z0 z1 m)=0/\eW (nY f n z0 z1 m d) 31/\((Co (jZ f n z0 z1 m) 12).any λm'=>(Co (nY f n z0 z1 m d) 31).any λd'=>decide (d'<=yz m'))=true:=λh=>by
  rcases hda with e|⟨e1,e2,e3⟩
  . grind
  . refine⟨e1,e2,?_⟩;rcases hmo with e|⟨_,e⟩
    . grind
    . rw[e]at e1 e2 e3 ⊢;rw[e3]at h ⊢;unfold Mt at cd;rw[e1,e2,h]at cd;have cd:(eW (Gt (ν j) (Av (ν i))) 31&&((Co (Av (ν i)) 12).any λm=>(Co (Gt (ν j) (Av (ν i))) 31).any λd=>decide (d<=yz m)))=true:=cd;grind
 have hD:¬(ae (nY f n z0 z1 m d) []=false/\(ae (jZ f n z0 z1 m) []\/0<aR (jZ f n z0 z1 m)\/eW (nY f n z0 z1 m d) 31=false)):=λ⟨h1,h2⟩=>by
  grind
 have hE:nH (qV f ng n z0 z1) (sY f) (gw f n z0 z1) (kQ f z1) (dr f n z0 z1) (jZ f n z0 z1 m) (nY f n z0 z1 m d) x y z=0:=by
  grind [nH]
 unfold bW;rw[hE];cases hd:ae (nY f n z0 z1 m d) []with
 | true=>rfl
 | false=>
   obtain⟨_,_,_,g4⟩:=hday hd;have hF:qK (qV f ng n z0 z1) (gw f n z0 z1) (kQ f z1) (jZ f n z0 z1 m) (nY f n z0 z1 m d)=true:=by
    unfold qK;rw[zg hk (Mr hk) hd (by decide) _ _ (Δ _)];obtain⟨k,k1,k2⟩:=@Fh f ng n z0 z1 hz0 hz1;obtain⟨a,ha,g⟩:=List.any_eq_true.1 g4;obtain⟨b,hb,g⟩:=List.any_eq_true.1 g;exact⟨k,k1,k2,a,ha,b,hb,Int.le_trans (of_decide_eq_true g) (ID k a)⟩
   rw[hF];rfl
def Fc:aav:=λ
 | [.c 14 0 n K,.c 15 0 n2 K2],[.a w false none,.a w2 false none]=>some (aH [eJ w,eJ w2,Ε (g8 w).length n,Ε (g8 w2).length n2,ω n 1000,ω n2 1000] (.a0 (.a .i64 (bI (mh (g8 w) (g8 w2))),[])))
 | [.c 14 0 n K,.f],[.a w false none]=>some (aH [ω 1 n,eJ w,Ε (g8 w).length n] (.a0 (.a .i64 0,[])))
 | [.f,.c 14 0 n K],[.a w false none]=>some (aH [ω 1 n,eJ w,Ε (g8 w).length n] (.a0 (.a .i64 0,[])))
 | [.f,.f],[]=>some (.a0 (.a .i64 1,[]))
 | _,_=>none
def Nd:aQ:=eQ gZ 38 (fl 14 [4,4] Fc)
theorem aeC:∀{cs vs:List AV},cs.length=vs.length->F8 cs vs=vs
 | [],[],_=>rfl
 | _::cs,v::vs,h=>by rw[F8,aeC (cs:=cs) (vs:=vs) (by grind)]
theorem WV:∀x∈([]:List cD),cR 14 x:=λx hx=>by grind
theorem ama{R:List Rn}(h:1<=R.length):bu Tryz.prog cfg 38 [.c 14 0 R.length K,.f] [.a (bh R) false none] (.a .i64 0) []:=by
 refine ns aW jz ai (.t .z) (R:=λQ=>not (aa (ν R.length) 0)/\Q (.a .i64 0)) (λ_=>by rfl) λQ' hQ=>?_;have e1:aa (ν R.length) 0=false:=aw.mpr (by grind);grind
theorem amv{R:List Rn}(h:1<=R.length):bu Tryz.prog cfg 38 [.f,.c 14 0 R.length K] [.a (bh R) false none] (.a .i64 0) []:=by
 refine ns aW jz ai (.t .z) (R:=λQ=>not (aa 0 (ν R.length))/\Q (.a .i64 0)) (λ_=>by rfl) λQ' hQ=>?_;have e1:aa 0 (ν R.length)=false:=aw.mpr (by grind);grind
theorem am8:bu Tryz.prog cfg 38 [.f,.f] [] (.a .i64 1) []:=P0 aW (L:=jE) (ws:=[]) WV ahG (by simp) ai (eD λQ' hQ=>cg (ao7.mpr (hQ _ rfl))) (by rfl)
theorem amQ(hS:ak Tryz.prog cfg S):ak Tryz.prog cfg (eQ S 38 (fl 14 [4,4] Fc)):=by
 refine bm hS (fW eb.lv Az λargs ws t r he hr=>?_);unfold Fc at he;split at he
 . rename_i n K n2 K2 w w2;cases he;replace hr:=aF hr;obtain⟨⟨h1,h2,h3,h4,h5,h6,-⟩,hr⟩:=hr;rw[aJ]at h3 h4;rw[al]at h5;subst h3 h4;cases hr;grind [anU,hZ]
 . rename_i n K w;cases he;replace hr:=aF hr;obtain⟨⟨h1,h2,h3,-⟩,hr⟩:=hr;rw[al]at h1;rw[aJ]at h3;subst h3;cases hr;grind [ama,hZ]
 . rename_i n K w;cases he;replace hr:=aF hr;obtain⟨⟨h1,h2,h3,-⟩,hr⟩:=hr;rw[al]at h1;rw[aJ]at h3;subst h3;cases hr;grind [amv,hZ]
 . cases he;cases hr;grind [am8]
 grind
theorem adf:ak Tryz.prog cfg Nd:=amQ aW
def ahP:dW:=λvs o=>match vs,o with
 | [.g 14 0,.a .i64 z,.a .i64 n,.a .i64 i],⟨1,[.a [.b ng,.b lg,.e s,.a .i64 e,.a .i64 g] true none],[]⟩=>some (aH [aa z 0,aa n 0,aa i 0,ω s.length 1000,dV s,magOk s 0] (.a0 (.b 0,[.g 14 0,.a .i64 0,.a .i64 (ν (numL s)),.a .i64 (ν s.length)],o)))
 | _,_=>none
def agU:dW:=λvs o=>match vs,o with
 | [.g 14 0,.a .i64 z,.a .i64 n,.a .i64 i],⟨1,[.a [.b ng,.b lg,.e s,.a .i64 e,.a .i64 g] true none],[]⟩=>some (aH [aa z 0,aa n (ν (numL s)),aa i 0,ab 0 e,ab e 1000,magOk s e.toNat] (.a0 (.b 2,[.g 14 0,.a .i64 0,.a .i64 (ν (cF s e.toNat)),.a .i64 e],o)))
 | _,_=>none
def aqs:cx:=iz (iz jE 0 (d9 35 [1,2,3,4] ahP)) 2 (d9 35 [1,2,3,5] agU)
def aiX:dP:=λ
 | [.h [.b ng,.b lg,.e s,.a .i64 e,.a .i64 g]]=>some (aH [ω s.length 1000,dV s,ab 0 e,ab e 1000,magOk s e.toNat] (.a0 (.a .i64 (dY ng s e))))
 | _=>none
def alz:dP:=λ
 | [.e l]=>some (aH [H4 l] (.a0 (.a .i64 (XR l))))
 | _=>none
theorem amp(ng lg:Bool)(s:List UInt8)(e g n:Int)(i:Nat)(J:Nat->Value)(hs:s.length<=1000)(hi:i<=s.length)(hn:0<=n/\n<=10000000000000000)(hd:i<s.length->48<=(s.getD i 0).toNat/\(s.getD i 0).toNat<=57){Q:VQ->Prop}:gG Q (rT gZ jE [] 88 0 35 [1,2,3,4] [.g 14 0,.a .i64 0,.a .i64 n,.a .i64 (ν i)] J ⟨1,[.a [.b ng,.b lg,.e s,.a .i64 e,.a .i64 g] true none],[]⟩) (bE 1121241212441212412244200240)=((not (ab (ν s.length) (ν i))->af .i64 (χ 10 n)/\aS i s.length/\(af .i64 (ν (ο (Α s i (σ 0))))->(af .i64 (π (χ 10 n) (ν (ο (Α s i (σ 0)))))->af .i64 (υ (π (χ 10 n) (ν (ο (Α s i (σ 0))))) 48)/\af .i64 (π (ν i) 1)/\Q (.a,[.g 14 0,.a .i64 0,.a .i64 (υ (π (χ 10 n) (ν (ο (Α s i (σ 0))))) 48),.a .i64 (π (ν i) 1)],⟨1,[.a [.b ng,.b lg,.e s,.a .i64 e,.a .i64 g] true none],[]⟩))/\(af .i64 (π (χ 10 n) (ν (ο (Α s i (σ 0)))))=false->(af .i64 (υ (IntKind.wrap .i64 (π (χ 10 n) (ν (ο (Α s i (σ 0)))))) 48)->af .i64 (π (ν i) 1)/\Q (.a,[.g 14 0,.a .i64 0,.a .i64 (υ (IntKind.wrap .i64 (π (χ 10 n) (ν (ο (Α s i (σ 0)))))) 48),.a .i64 (π (ν i) 1)],⟨1,[.a [.b ng,.b lg,.e s,.a .i64 e,.a .i64 g] true none],[]⟩))/\(af .i64 (υ (IntKind.wrap .i64 (π (χ 10 n) (ν (ο (Α s i (σ 0)))))) 48)=false->af .i64 (π (ν i) 1)/\Q (.a,[.g 14 0,.a .i64 0,.a .i64 (IntKind.wrap .i64 (υ (IntKind.wrap .i64 (π (χ 10 n) (ν (ο (Α s i (σ 0)))))) 48)),.a .i64 (π (ν i) 1)],⟨1,[.a [.b ng,.b lg,.e s,.a .i64 e,.a .i64 g] true none],[]⟩))))/\(af .i64 (ν (ο (Α s i (σ 0))))=false->(af .i64 (π (χ 10 n) (IntKind.wrap .i64 (ν (ο (Α s i (σ 0))))))->(af .i64 (υ (π (χ 10 n) (IntKind.wrap .i64 (ν (ο (Α s i (σ 0)))))) 48)->af .i64 (π (ν i) 1)/\Q (.a,[.g 14 0,.a .i64 0,.a .i64 (υ (π (χ 10 n) (IntKind.wrap .i64 (ν (ο (Α s i (σ 0)))))) 48),.a .i64 (π (ν i) 1)],⟨1,[.a [.b ng,.b lg,.e s,.a .i64 e,.a .i64 g] true none],[]⟩))/\(af .i64 (υ (π (χ 10 n) (IntKind.wrap .i64 (ν (ο (Α s i (σ 0)))))) 48)=false->af .i64 (π (ν i) 1)/\Q (.a,[.g 14 0,.a .i64 0,.a .i64 (IntKind.wrap .i64 (υ (π (χ 10 n) (IntKind.wrap .i64 (ν (ο (Α s i (σ 0)))))) 48)),.a .i64 (π (ν i) 1)],⟨1,[.a [.b ng,.b lg,.e s,.a .i64 e,.a .i64 g] true none],[]⟩)))/\(af .i64 (π (χ 10 n) (IntKind.wrap .i64 (ν (ο (Α s i (σ 0))))))=false->(af .i64 (υ (IntKind.wrap .i64 (π (χ 10 n) (IntKind.wrap .i64 (ν (ο (Α s i (σ 0))))))) 48)->af .i64 (π (ν i) 1)/\Q (.a,[.g 14 0,.a .i64 0,.a .i64 (υ (IntKind.wrap .i64 (π (χ 10 n) (IntKind.wrap .i64 (ν (ο (Α s i (σ 0))))))) 48),.a .i64 (π (ν i) 1)],⟨1,[.a [.b ng,.b lg,.e s,.a .i64 e,.a .i64 g] true none],[]⟩))/\(af .i64 (υ (IntKind.wrap .i64 (π (χ 10 n) (IntKind.wrap .i64 (ν (ο (Α s i (σ 0))))))) 48)=false->af .i64 (π (ν i) 1)/\Q (.a,[.g 14 0,.a .i64 0,.a .i64 (IntKind.wrap .i64 (υ (IntKind.wrap .i64 (π (χ 10 n) (IntKind.wrap .i64 (ν (ο (Α s i (σ 0))))))) 48)),.a .i64 (π (ν i) 1)],⟨1,[.a [.b ng,.b lg,.e s,.a .i64 e,.a .i64 g] true none],[]⟩)))))/\(not (ab (ν s.length) (ν i))=false->Q (.b 0,[.g 14 0,.a .i64 0,.a .i64 n,.a .i64 (ν i)],⟨1,[.a [.b ng,.b lg,.e s,.a .i64 e,.a .i64 g] true none],[]⟩))):=by rfl
theorem anN(ng lg:Bool)(s:List UInt8)(e g n:Int)(i:Nat)(J:Nat->Value)(he:0<=e/\e<=1000)(hi:(i:Int)<=e)(hn:0<=n/\n<=10000000000000000){Q:VQ->Prop}:gG Q (rT gZ jE [] 88 1 35 [1,2,3,5] [.g 14 0,.a .i64 0,.a .i64 n,.a .i64 (ν i)] J ⟨1,[.a [.b ng,.b lg,.e s,.a .i64 e,.a .i64 g] true none],[]⟩) (bE 112240)=((not (ab e (ν i))->af .i64 (χ 10 n)/\af .i64 (π (ν i) 1)/\Q (.a,[.g 14 0,.a .i64 0,.a .i64 (χ 10 n),.a .i64 (π (ν i) 1)],⟨1,[.a [.b ng,.b lg,.e s,.a .i64 e,.a .i64 g] true none],[]⟩))/\(not (ab e (ν i))=false->Q (.b 2,[.g 14 0,.a .i64 0,.a .i64 n,.a .i64 (ν i)],⟨1,[.a [.b ng,.b lg,.e s,.a .i64 e,.a .i64 g] true none],[]⟩))):=by rfl
theorem amc:gG Q (pT gZ jE 89 [.e []]) (.e .z)=Q (AV.a .i64 0):=by rfl
theorem aip:ec tab 88=some (dH 88,aL 88):=by rfl
theorem aiV:ec tab 89=some (dH 89,aL 89):=by rfl
theorem aih:(bz (aL 88)).map (·.1)=[0,2]:=by rfl
theorem ak1:cu Tryz.prog (cH cfg gZ) (Cw cfg []) (lb 88 0) 35 [1,2,3,4] ahP:=by
 intro vs o t Q hv hq J;unfold ahP at hv;split at hv
 . rename_i z n i ng lg s e g;cases hv;replace hq:=cO hq;obtain⟨⟨h1,h2,h3,h4,h5,h6,-⟩,hq⟩:=hq;rw[ao]at h1 h2 h3;rw[al]at h4;subst h1 h2 h3;have hm:cF s 0<=10000000000000000:=by grind [magOk,al]
   have hpe:=Aa s 0;rw[Nat.add_zero]at hpe;have hnl:cF s 0=numL s:=by unfold cF;omega
   simp only[aH,Tr.wp]at hq;refine ia aW rfl rfl ai (ι:={i:Nat // i<=s.length}) (λx=>[.g 14 0,.a .i64 0,.a .i64 (ν (iS s x.1)),.a .i64 (ν x.1)]) (λ_=>⟨1,[.a [.b ng,.b lg,.e s,.a .i64 e,.a .i64 g] true none],[]⟩) (λx=>s.length-x.1) 1 (λ_=>Δ _) (λx J=>?_) (Δ _) (λJ=>Wk.a0 ⟨⟨0,Nat.zero_le _⟩,J,by simp[iS,numL]⟩) J;obtain⟨i,hi⟩:=x;dsimp only;have hlt:=@Db s i;have hdi:=@pz s h5 i;have hp:iS s i<=10000000000000000:=by
    have:=@Ez s i s.length hi;omega
   refine eD λQ' hQ=>cg ((amp ng lg s e g _ i J h4 hi ⟨by simp,by grind⟩ hdi).mpr ?_);simp only[az,reduceCtorEq]
   (repeat' first|exact trivial|refine⟨?_,?_⟩|intro)<;>first|omega|refine hQ _ ?_
   . have h:=hlt (by omega);exact⟨⟨i+1,by omega⟩,by dsimp only;omega,VW.b0 (by dsimp only;rw[h];congr 4;simp only[Bv];omega) rfl⟩
   . obtain rfl:i=s.length:=by omega
     refine⟨_,_,VW.a0,?_⟩;rw[hpe,hnl];exact hq
 . cases hv
theorem akM:cu Tryz.prog (cH cfg gZ) (Cw cfg []) (lb 88 1) 35 [1,2,3,5] agU:=by
 intro vs o t Q hv hq J;unfold agU at hv;split at hv
 . rename_i z n i ng lg s e g;cases hv;replace hq:=cO hq;obtain⟨⟨h1,h2,h3,h4,h5,h6,-⟩,hq⟩:=hq;rw[ao]at h1 h2 h3;rw[aq]at h4 h5;subst h1 h2 h3;obtain⟨k,rfl⟩:∃k:Nat,e=k:=⟨e.toNat,by omega⟩;have hm:cF s k<=10000000000000000:=by grind [magOk,al]
   simp only[aH,Tr.wp]at hq;refine ia aW rfl rfl ai (ι:={i:Nat // i<=k}) (λx=>[.g 14 0,.a .i64 0,.a .i64 (ν (cF s x.1)),.a .i64 (ν x.1)]) (λ_=>⟨1,[.a [.b ng,.b lg,.e s,.a .i64 k,.a .i64 g] true none],[]⟩) (λx=>k-x.1) 1 (λ_=>Δ _) (λx J=>?_) (Δ _) (λJ=>Wk.a0 ⟨⟨0,Nat.zero_le _⟩,J,by simp[cF]⟩) J;obtain⟨i,hi⟩:=x;dsimp only;have hs:cF s (i+1)=10*cF s i:=by grind [cF]
   have hp:cF s i<=10000000000000000:=Nat.le_trans (Nat.mul_le_mul_left _ (Nat.pow_le_pow_right (by decide) hi)) hm;refine eD λQ' hQ=>cg ((anN ng lg s k g _ i J ⟨h4,h5⟩ (by omega) ⟨by simp,by grind⟩).mpr ?_);simp only[az,reduceCtorEq]
   (repeat' first|exact trivial|refine⟨?_,?_⟩|intro)<;>first|omega|refine hQ _ ?_
   . exact⟨⟨i+1,by omega⟩,by grind,VW.b0 (by grind) rfl⟩
   grind [VW.a0]
 grind
theorem ae0(hS:ak Tryz.prog cfg S):ak Tryz.prog cfg (d5 (d5 S 88 aiX) 89 alz):=by
 refine au (au hS λargs t v he hv=>?_) λargs t v he hv=>?_
 . unfold aiX at he;split at he
   . rename_i ng lg s e g;cases he;replace hv:=aF hv;obtain⟨⟨h1,h2,h3,h4,h5,-⟩,hv⟩:=hv;rw[al]at h1;rw[aq]at h3 h4;cases hv;have hm:cF s e.toNat<=10000000000000000:=by grind [magOk,al]
     have hm0:magOk s 0=true:=by
      unfold magOk;rw[al];exact Nat.le_trans (Nat.mul_le_mul_left _ (Nat.pow_le_pow_right (by decide) (Nat.zero_le _))) hm
     refine kA aW (L:=aqs) aip (by simp) (dv aih λi hi e he st Q hw=>?_) (jJ (bE 1112407020422000) (R:=λQ=>ω s.length 1000/\dV s/\(magOk s 0->(∀J1:Nat->Value,aa (ν (numL s)) (ν (numL s))/\ab 0 e/\ab e 1000/\magOk s e.toNat/\(∀J2:Nat->Value,(ng->af .i64 (υ 0 (ν (cF s e.toNat)))/\Q (.a .i64 (υ 0 (ν (cF s e.toNat)))))/\(ng=false->Q (.a .i64 (ν (cF s e.toNat)))))))/\(magOk s 0=false->False)) (λ_=>by rfl) λQ' hQ=>?_) (by rfl)
     . have hi:i=0\/i=1:=by grind
       rcases hi with rfl|rfl
       . cases he;exact bR (cC.a0 aW) (by decide) rfl ak1 hw
       . cases he;exact bR (cC.a0 aW) (by decide) rfl akM hw
     . unfold dY at hQ;rw[hm0];generalize cF s e.toNat=M at *;generalize numL s=N at *;cases ng<;>simp only[az,reduceCtorEq]<;>(repeat' first|exact trivial|refine⟨?_,?_⟩|intro)<;>first|contradiction|omega|assumption|exact hQ _ rfl|grind
   grind
 . unfold alz at he;split at he
   . rename_i l;cases he;obtain⟨h1,hv'⟩:=eL hv;clear hv;have hv:=hv';clear hv'
     cases hv
     match l,h1 with
     | [],_=>exact kA aW (L:=jE) aiV (by simp) ai (eD λQ' hQ=>cg (amc.mpr (hQ _ rfl))) (by rfl)
     | [a,b],h1=>
       unfold H4 dB at h1;simp only[zAa,zAc]at h1;refine jD aW ai (bE 10070020075) (R:=λQ=>af .i64 (ν a.toNat)/\af .i64 (π 0 (ν a.toNat))/\af .i64 (υ (π 0 (ν a.toNat)) 48)/\af .i64 (χ 10 (υ (π 0 (ν a.toNat)) 48))/\af .i64 (ν b.toNat)/\af .i64 (π (χ 10 (υ (π 0 (ν a.toNat)) 48)) (ν b.toNat))/\af .i64 (υ (π (χ 10 (υ (π 0 (ν a.toNat)) 48)) (ν b.toNat)) 48)/\Q (.a .i64 (υ (π (χ 10 (υ (π 0 (ν a.toNat)) 48)) (ν b.toNat)) 48))) (λ_=>by rfl) λQ' hQ=>?_;have fin:∀x:Int,x=ko a b->Q' (.a .i64 x):=λx h=>hQ _ (by rw[h];rfl);clear hQ;unfold ko at fin;simp only[az,reduceCtorEq]at fin ⊢;grind
     | [_],h1=>grind [H4]
     | _::_::_::_,h1=>grind [H4]
   grind
def agm(s:List UInt8)(e:Int):Bool:=ω s.length 1000&&(dV s&&(ab 0 e&&(ab e 1000&&magOk s e.toNat)))
def K6:dP:=λ
 | [.h [.b ng,.b lg,.e s,.a .i64 e,.a .i64 g,.e mo,.e da,.a .u8 a,.a .u8 b,.a .u8 c]]=>some (aH [agm s e,H4 mo,H4 da,kY (dY ng s e) (XR mo) (XR da)] (.a0 (vR (iO (dY ng s e) (XR mo) (XR da)) (iD (dY ng s e) (XR mo) (XR da)))))
 | _=>none
def LA:aQ:=d5 (d5 (d5 gZ 87 s9) 88 aiX) 89 alz
def aiQ:dP:=λ
 | [.e l]=>some (aH [H4 l] (.a0 (.a .i64 (XR l))))
 | _=>none
def aj8:dP:=λ
 | [.h [.b ng,.b lg,.e s,.a .i64 e,.a .i64 g,.e mo,.e da,.a .u8 a,.a .u8 b,.a .u8 c]]=>some (aH [ω s.length 1000,ω mo.length 1000,ω da.length 1000] (.a0 (.b (eA (s++mo++da) || ab 1 g))))
 | _=>none
def afT(a b:Bool):Bool:=bif a then b else !b
def akc:dP:=λ
 | [.h [.b ng,.b lg,.e s,.a .i64 e,.a .i64 g,.e mo,.e da,.a .u8 a,.a .u8 b,.a .u8 c],.h [.a .i64 y,.a .i64 m,.a .i64 d]]=>some (aH [kY y m d,afT (ae mo []) (aa m 0),afT (ae da []) (aa d 0)] (.a0 (.d [vR (iO y m d) (iD y m d),.a .i64 0])))
 | _=>none
def F2:aQ:=d5 (d5 (d5 (d5 (d5 gZ 42 tx) 146 Ol) 81 aiQ) 145 aj8) 147 akc
def B_:dP:=λ
 | [.a .i64 y,.a .u8 p]=>some (aH [eO y,aa p 1] (.a0 (.d [vR (bf y) (bf (y+1)-1),.a .i64 0])))
 | _=>none
def N8(ng lg:Bool)(s:List UInt8)(e g:Int)(mo da:List UInt8)(a b c:Int):gG Q (pT LA jE 34 [.h [.b ng,.b lg,.e s,.a .i64 e,.a .i64 g,.e mo,.e da,.a .u8 a,.a .u8 b,.a .u8 c]]) (bE 11111111104040040044444005)=((ω (τ s) 1000->((dV s->((ab 0 e->((ab e 1000->((magOk s (Int.toNat e)->((H4 mo->((H4 da->((kY (dY ng s e) (XR mo) (XR da)->Q (AV.h (ς (AV.a .i8 0) (ς (AV.a .i64 (iO (dY ng s e) (XR mo) (XR da))) (ς (AV.a .i8 0) (ς (AV.a .i64 (iD (dY ng s e) (XR mo) (XR da))) Β))))))/\(kY (dY ng s e) (XR mo) (XR da)=false->False)))/\(H4 da=false->False)))/\(H4 mo=false->False)))/\(magOk s (Int.toNat e)=false->False)))/\(ab e 1000=false->False)))/\(ab 0 e=false->False)))/\(dV s=false->False)))/\(ω (τ s) 1000=false->False)):=by kernel_rfl
theorem am4:gG Q (pT gZ jE 81 [.e []]) (.e (.e .z))=Q (AV.a .i64 0):=by rfl
theorem amS(a b:UInt8)(ha:48<=a.toNat/\a.toNat<=57)(hb:48<=b.toNat/\b.toNat<=57):gG Q (pT gZ jE 81 [.e [a,b]]) (bE 10027057005)=(af .u8 (υ (ν (ο a)) 48)/\(af .i64 (υ (ν (ο a)) 48)/\(af .i64 (π 0 (υ (ν (ο a)) 48))/\(af .i64 (χ 10 (π 0 (υ (ν (ο a)) 48)))/\(af .u8 (υ (ν (ο b)) 48)/\(af .i64 (υ (ν (ο b)) 48)/\(af .i64 (π (χ 10 (π 0 (υ (ν (ο a)) 48))) (υ (ν (ο b)) 48))/\Q (AV.a .i64 (π (χ 10 (π 0 (υ (ν (ο a)) 48))) (υ (ν (ο b)) 48)))))))))):=by rfl
theorem aos(ng lg:Bool)(s:List UInt8)(e g:Int)(mo da:List UInt8)(a b c:Int)(hs:s.length<=1000)(hm:mo.length<=1000)(hd:da.length<=1000):gG Q (pT X1 jE 145 [.h [.b ng,.b lg,.e s,.a .i64 e,.a .i64 g,.e mo,.e da,.a .u8 a,.a .u8 b,.a .u8 c]]) (bE 11128132022440040200)=(ω (HAdd.hAdd (τ s) (τ mo)) 1000000/\((ω (HAdd.hAdd (τ (ξ s mo)) (τ da)) 1000000->((ω (τ (ξ (ξ s mo) da)) 1000000->((Γ (eA (ξ (ξ s mo) da))->(Γ (eA (ξ (ξ s mo) da))/\(Γ (eA (ξ (ξ s mo) da))/\(Γ (eA (ξ (ξ s mo) da))/\(eA (ξ (ξ s mo) da)=false/\Q (AV.b (Γ (ab g 0))))))))/\(Γ (eA (ξ (ξ s mo) da))=false->(Γ (eA (ξ (ξ s mo) da))=false/\(Γ (eA (ξ (ξ s mo) da))=false/\(Γ (eA (ξ (ξ s mo) da))=false/\(eA (ξ (ξ s mo) da)/\Q (AV.b Bool.true))))))))/\(ω (τ (ξ (ξ s mo) da)) 1000000=false->False)))/\(ω (HAdd.hAdd (τ (ξ s mo)) (τ da)) 1000000=false->False))):=by rfl
def Of(ng lg:Bool)(s:List UInt8)(e g:Int)(mo da:List UInt8)(a b c:Int):gG Q (pT F2 jE 75 [.h [.b ng,.b lg,.e s,.a .i64 e,.a .i64 g,.e mo,.e da,.a .u8 a,.a .u8 b,.a .u8 c]]) (bE 111111111001111110444040045642005104700610444444444006)=((ω (τ s) 1000->((ω (τ mo) 1000->((ω (τ da) 1000->((af .i64 e->((af .i64 g->((af .u8 a->((af .u8 b->((af .u8 c->((Γ (aa (bW ng lg s e g mo da a b c) 0)->Q (AV.d (ς (AV.h (ς (AV.a .i8 0) (ς (AV.a .i64 0) (ς (AV.a .i8 0) (ς (AV.a .i64 0) Β))))) (ς (AV.a .i64 (bW ng lg s e g mo da a b c)) Β))))/\(Γ (aa (bW ng lg s e g mo da a b c) 0)=false->(ω (τ s) 1000/\(ω (τ mo) 1000/\(ω (τ da) 1000/\((Bool.or (eA (ξ (ξ s mo) da)) (ab 1 g)->Q (AV.d (ς (AV.h (ς (AV.a .i8 0) (ς (AV.a .i64 0) (ς (AV.a .i8 0) (ς (AV.a .i64 0) Β))))) (ς (AV.a .i64 1) Β))))/\(Bool.or (eA (ξ (ξ s mo) da)) (ab 1 g)=false->(ω (τ s) 1000/\((Bool.and (aV ng lg s e g) (Ε (eC s 88 88) 0)->((H4 mo->((H4 da->((kY (dY ng s e) (XR mo) (XR da)->((cond (ae mo Β) (aa (XR mo) 0) (Γ (aa (XR mo) 0))=true->((cond (ae da Β) (aa (XR da) 0) (Γ (aa (XR da) 0))=true->Q (AV.d (ς (AV.h (ς (AV.a .i8 0) (ς (AV.a .i64 (iO (dY ng s e) (XR mo) (XR da))) (ς (AV.a .i8 0) (ς (AV.a .i64 (iD (dY ng s e) (XR mo) (XR da))) Β))))) (ς (AV.a .i64 0) Β))))/\(cond (ae da Β) (aa (XR da) 0) (Γ (aa (XR da) 0))=false->False)))/\(cond (ae mo Β) (aa (XR mo) 0) (Γ (aa (XR mo) 0))=false->False)))/\(kY (dY ng s e) (XR mo) (XR da)=false->False)))/\(H4 da=false->False)))/\(H4 mo=false->False)))/\(Bool.and (aV ng lg s e g) (Ε (eC s 88 88) 0)=false->Q (AV.d (ς (AV.h (ς (AV.a .i8 0) (ς (AV.a .i64 0) (ς (AV.a .i8 0) (ς (AV.a .i64 0) Β))))) (ς (AV.a .i64 6) Β))))))))))))))/\(af .u8 c=false->False)))/\(af .u8 b=false->False)))/\(af .u8 a=false->False)))/\(af .i64 g=false->False)))/\(af .i64 e=false->False)))/\(ω (τ da) 1000=false->False)))/\(ω (τ mo) 1000=false->False)))/\(ω (τ s) 1000=false->False)):=by kernel_rfl
theorem Oe(y:Int)(hy : -10000000000000000<=y/\y<=10000000000000000):gG Q (pT R7 jE 74 [.a .i64 y,.a .u8 1]) (bE 110520406)=((eO y->(eO y/\Q (AV.d (ς (AV.h (ς (AV.a .i8 0) (ς (AV.a .i64 (bf y)) (ς (AV.a .i8 0) (ς (AV.a .i64 (HSub.hSub (bf (HAdd.hAdd y 1)) 1)) Β))))) (ς (AV.a .i64 0) Β)))))/\(eO y=false->False)):=by rfl
theorem akG:ec tab 34=some (dH 34,aL 34):=by rfl
theorem amt(hS:ak Tryz.prog cfg S):ak Tryz.prog cfg (d5 S 34 K6):=by
 refine au hS λargs t v he hv=>?_;unfold K6 at he;split at he
 . rename_i ng lg s e g mo da a b c;cases he;replace hv:=aF hv;obtain⟨⟨h1,h2,h3,h4,-⟩,hv⟩:=hv;cases hv;unfold agm at h1;simp only[zAa]at h1;refine kA (ae0 (UJ aW)) (L:=jE) akG (by simp) ai (eD λQ' hQ=>cg ((N8 ng lg s e g mo da a b c).mpr ?_)) (by rfl);rw[h1.1,h1.2.1,h1.2.2.1,h1.2.2.2.1,h1.2.2.2.2,h2,h3,h4];simp only[true_imp_iff,reduceCtorEq,false_imp_iff,and_true];exact hQ _ rfl
 grind
theorem afW:ec tab 81=some (dH 81,aL 81):=by rfl
theorem aiF:ec tab 145=some (dH 145,aL 145):=by rfl
theorem alP:ec tab 74=some (dH 74,aL 74):=by rfl
theorem acr{a b:Bool}:afT a b=true↔a=b:=by cases a<;>cases b<;>decide
theorem ahQ(hS:ak Tryz.prog cfg S):ak Tryz.prog cfg (d5 S 81 aiQ):=by
 refine au hS λargs t v he hv=>?_;unfold aiQ at he;split at he
 . rename_i l;cases he;obtain⟨h1,hv'⟩:=eL hv;clear hv;have hv:=hv';clear hv'
   cases hv
   match l,h1 with
   | [],_=>exact kA aW (L:=jE) afW (by simp) ai (eD λQ' hQ=>cg (am4.mpr (hQ _ rfl))) (by rfl)
   | [a,b],h1=>
     unfold H4 dB at h1;simp only[zAa,zAc]at h1;refine kA aW (L:=jE) afW (by simp) ai (eD λQ' hQ=>cg ((amS a b h1.1 h1.2).mpr ?_)) (by rfl);have fin:∀x:Int,x=ko a b->Q' (.a .i64 x):=λx h=>hQ _ (by rw[h];rfl);simp_all [ko,Pp,eH,eE];omega
   | [_],h1=>grind [H4]
   | _::_::_::_,h1=>grind [H4]
 grind
theorem ake(hS:ak Tryz.prog cfg S):ak Tryz.prog cfg (d5 S 145 aj8):=by
 refine au hS λargs t v he hv=>?_;unfold aj8 at he;split at he
 . rename_i ng lg s e g mo da a b c;cases he;replace hv:=aF hv;obtain⟨⟨h1,h2,h3,-⟩,hv⟩:=hv;cases hv;rw[al]at h1 h2 h3;refine kA Uy (L:=jE) aiF (by simp) ai (eD λQ' hQ=>cg ((aos ng lg s e g mo da a b c h1 h2 h3).mpr ?_)) (by rfl);grind [al,aq]
 grind
theorem akk(hS:ak Tryz.prog cfg S):ak Tryz.prog cfg (d5 S 147 akc):=by
 refine au hS λargs t v he hv=>?_;unfold akc at he;split at he
 . rename_i ng lg s e g mo da a b c y m d;cases he;replace hv:=aF hv;obtain⟨⟨h1,h2,h3,-⟩,hv⟩:=hv;cases hv;rw[acr]at h2 h3;obtain⟨hy,hd,hm⟩:=ju.1 h1;have yb:=bX.2 hy;have cb:=@mg m;have hi:1<=m->m<=12->dc (12*y+m-1) 12=y/\j8 (12*y+m-1)=m-1:=λk1 k2=>by grind [dc,j8]
   have hid:aC (.d [vR (iO y m d) (iD y m d),.a .i64 0])=[]:=by rfl
   by_cases hm0:m=0
   . have hmo:ae mo []=true:=by grind [ao]
     subst hm0;refine kA J6 (L:=jE) afC (by simp) ai (eD λQ' hQ=>cg ((amZ ng lg s e g mo da a b c y 0 d).mpr ?_)) hid;dsimp only;have hQ:Q' (.d [vR (bf y) (bf (y+1)-1),.a .i64 0]):=hQ _ rfl;grind [vR]
   . have hmo:ae mo []=false:=by grind [aw]
     have hm1:1<=m/\m<=41:=by omega
     have b2:m<=12->-3652425000000000001<=aG (dc (12*y+m-1) 12) (j8 (12*y+m-1)+1)/\aG (dc (12*y+m-1) 12) (j8 (12*y+m-1)+1)<=3652425000000000800:=λh=>by
      obtain⟨e1,e2⟩:=hi hm1.1 h;rw[e1,e2];exact mst_bd hy (by omega) (by omega)
     refine kA J6 (L:=jE) afC (by simp) ai (eD λQ' hQ=>cg ((anE ng lg s e g mo da a b c y m d).mpr ?_)) hid;dsimp only;have hQ:=hQ _ rfl;have hm0:aa m 0=false:=aw.mpr hm0;unfold vR iO iD at hQ;rw[hm0,cond_false,cond_false]at hQ;rw[yb,h3,hmo];generalize fq y m=sy at *;generalize kX y m=sm at *;generalize aG y (fR m)=k1 at *;generalize aG sy (sm+2)=k2 at *;cases h13:ab 13 m with
     | true=>
       grind [bF]
     | false=>
       rw[h13,cond_false,cond_false]at hQ;rw[bF]at h13;have h12:ab m 12=true:=by rw[aq];omega
       obtain⟨e1,e2⟩:=hi (by omega) (by omega);have b3:=@mst_bd y m hy (by omega) (by omega);rw[h12];rw[show υ (π (χ 12 y) m) 1=12*y+m-1 from rfl,e1,e2,yb,show m-1+1=m by omega,show m-1+2=m+1 by omega];clear b2 hi h2 h3;generalize aG y m=k3 at *;generalize aG y (m+1)=k4 at *;cases hd0:aa d 0 with
       | true=>
         simp_all [Pp,eH,eE];omega
       | false=>
         simp_all [Pp,eH,eE];omega
 grind
theorem anW(hS:ak Tryz.prog cfg S):ak Tryz.prog cfg (d5 S 74 B_):=by
 refine au hS λargs t v he hv=>?_;unfold B_ at he;split at he
 . rename_i y p;cases he;replace hv:=aF hv;obtain⟨⟨h1,h2,-⟩,hv⟩:=hv;cases hv;rw[ao]at h2;subst h2;refine kA yF (L:=jE) alP (by simp) ai (eD λQ' hQ=>cg ((Oe y (bX.1 h1)).mpr ?_)) (by rfl);grind [vR]
 grind
theorem alb:ak Tryz.prog cfg F2:=akk (ake (ahQ (Ks (G9 aW))))
end Go.Ev
