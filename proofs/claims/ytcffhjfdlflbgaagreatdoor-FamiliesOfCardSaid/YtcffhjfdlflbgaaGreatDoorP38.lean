import Derived.Test.YtcffhjfdlflbgaaGreatDoorP37
set_option linter.all false
open Int renaming ofNat->ν,tmod->ξ,tmod_eq_emod_of_nonneg->ο,sub->τ,tdiv->υ,ofNat_eq_natCast->χ
open Nat renaming beq->π,ble->σ,zero_add->ω
open Bool renaming not_eq_true->ς
set_option linter.all false
set_option maxRecDepth 100000
set_option maxHeartbeats 4000000
section
namespace Go.Ev
open Go Go.Proofs
variable{D:Dp}{n j:Nat}{x:Ip}{v sl:AV}{k e1 kk:Int}{ws:List cD}{all ea la:Bool}{G:List Ip}
def TU:aQ:=d5 (d5 (d5 (d5 (d5 (d5 gZ 19 X9) 20 ak9) 21 aiH) 22 ahD) 23 aiN) 24 ai2
theorem adQ:ak Tryz.prog cfg TU:=ah6 (agW (ae3 (agM (akJ (UZ aW)))))
theorem aen:∀{a b:List Bool},Tk a->Tk b->Tk (a++b)
 | [],_,_,h=>h
 | _::_,_,h1,h=>⟨h1.1,aen h1.2 h⟩
def dT:List (AV->Bool):=[eB .u8,Sn,eB .u16,eB .u8,eB .u8,eB .u8,eB .u8,eB .u8,eB .u8,eB .u8]
def jU(w:List AV):Nat->List (AV->Bool)->List Bool
 | _,[]=>[]
 | j,t::ts=>t (w.getD j bt)::jU w (j+1) ts
def gH(w:List AV)(j:Nat):Dp:=⟨dx (w.getD j bt),KK (w.getD (j+1) bt),dx (w.getD (j+2) bt),dx (w.getD (j+3) bt),dx (w.getD (j+4) bt),dx (w.getD (j+5) bt),dx (w.getD (j+6) bt),dx (w.getD (j+7) bt),dx (w.getD (j+8) bt),dx (w.getD (j+9) bt)⟩
def zA(D:Dp):List Bool:=[af .u8 D.f,af .u16 D.n,af .u8 D.z0,af .u8 D.z1,af .u8 D.m,af .u8 D.d,af .u8 D.x,af .u8 D.y,af .u8 D.z]
theorem akp(h:D.ok):Tk (zA D):=by
 simpa [Dp.ok,zA,Tk]using h
def m5(n:Nat):Int:=gY (ν n) 5
def kE(k e0 e1 b:Int)(sl:AV):AV:=.g [.a .u8 k,sl,.a .u8 e0,.a .u8 e1,.a .u8 b]
def SG(w:List AV)(n c:Nat)(g:Prop->Prop)(Q:AV->Prop):Prop:=aa (ν n) 0=false/\fu [ab 0 (m5 n),σ (m5 n).toNat c] (π c 0=false/\g (fu (aS 0 ((m5 n).toNat-0)::jU w 0 dT) (fu (zA (gH w 0)) (Q (.g (acB (gH w 0).o))))))
def qP(e0 e1:Int)(A B:Dp):List AV:=bif not (aa (jM (w5 e0) (qf e0 A) (w5 e1) (qf e1 B)) 0)then bif not (aa (w5 e0) 1)then ra (sZ (w5 e0) (qf e0 A)) (sZ 1 B.e)else ra (sZ (w5 e1) (qf e1 B)) (sZ (w5 e0) (qf e0 A))else ra (sZ (w5 e0) (qf e0 A)) (sZ (w5 e1) (qf e1 B))
def SE(w:List AV)(e0 e1:Int)(n c:Nat)(g:Prop->Prop)(Q:AV->Prop):Prop:=aa (ν n) 0=false/\fu [ab 0 (m5 n),σ (m5 n).toNat c] (π c 0=false/\g (fu (aS 0 ((m5 n).toNat-0)::jU w 0 dT) (fu [af .u8 e0,(gH w 0).ok] (aS 0 ((m5 n).toNat-0)/\fu (jU w 11 dT) (fu [af .u8 e1,(gH w 11).ok,dJ (w5 e0) (qf e0 (gH w 0)),dJ (w5 e1) (qf e1 (gH w 11))] ((not (aa (jM (w5 e0) (qf e0 (gH w 0)) (w5 e1) (qf e1 (gH w 11))) 0)->(not (aa (w5 e0) 1)->aS 0 ((m5 n).toNat-0)/\nE (jU w 11 dT) ((gH w 11).ok/\Q (.g (ra (sZ (w5 e0) (qf e0 (gH w 0))) (sZ 1 (gH w 11).e)))))/\(not (aa (w5 e0) 1)=false->Q (.g (ra (sZ (w5 e1) (qf e1 (gH w 11))) (sZ (w5 e0) (qf e0 (gH w 0)))))))/\(not (aa (jM (w5 e0) (qf e0 (gH w 0)) (w5 e1) (qf e1 (gH w 11))) 0)=false->Q (.g (ra (sZ (w5 e0) (qf e0 (gH w 0))) (sZ (w5 e1) (qf e1 (gH w 11))))))))))))
def AO(g:Prop->Prop)(Q:AV->Prop):Prop:=g (Q (.g (acB qe.D.o)))
def Aw(e0 e1:Int)(g:Prop->Prop)(Q:AV->Prop):Prop:=g (fu [af .u8 e0,af .u8 e1,dJ (w5 e0) (qf e0 qe.D),dJ (w5 e1) (qf e1 qe.D)] ((not (aa (jM (w5 e0) (qf e0 qe.D) (w5 e1) (qf e1 qe.D)) 0)->(not (aa (w5 e0) 1)->Q (.g (ra (sZ (w5 e0) (qf e0 qe.D)) (sZ 1 qe.D.e))))/\(not (aa (w5 e0) 1)=false->Q (.g (ra (sZ (w5 e1) (qf e1 qe.D)) (sZ (w5 e0) (qf e0 qe.D))))))/\(not (aa (jM (w5 e0) (qf e0 qe.D) (w5 e1) (qf e1 qe.D)) 0)=false->Q (.g (ra (sZ (w5 e0) (qf e0 qe.D)) (sZ (w5 e1) (qf e1 qe.D)))))))
def kq(k:Int):Nat->Prop->Prop
 | 0,X=>aa (ξ k 8) 0/\aa (ξ k 8) 0/\X
 | 1,X=>aa (ξ k 8) 0=false/\aa (ξ k 8) 1/\aa (ξ k 8) 1/\X
 | 2,X=>aa (ξ k 8) 0=false/\aa (ξ k 8) 1=false/\aa (ξ k 8) 2/\X
 | 3,X=>aa (ξ k 8) 0=false/\aa (ξ k 8) 1=false/\aa (ξ k 8) 2=false/\aa (ξ k 8) 3/\aa (ξ k 8) 3/\X
 | _,X=>aa (ξ k 8) 0=false/\aa (ξ k 8) 1=false/\aa (ξ k 8) 2=false/\aa (ξ k 8) 3=false/\aa (ξ k 8) 4/\X
section
variable(w:List AV)(k e0 e1 b:Int)(n c:Nat){Q:AV->Prop}
theorem PW:∀j,j<=2->∃D,gG Q (pW TU jE [.a w false none] 6 [kE k e0 e1 b (.b 14 0 n (.b c))]) D=SG w n c (kq k j) Q
 | 0,_=>⟨bE 1111111111111111111111104444444440444444444440220034430,by kernel_rfl⟩
 | 1,_=>⟨bE 11111111111111111111111044444444404444444444402230034430,by kernel_rfl⟩
 | 2,_=>⟨bE 11111111111111111111111044444444404444444444402330034430,by kernel_rfl⟩
theorem PS:∀j,3<=j->j<=4->∃D,gG Q (pW TU jE [.a w false none] 6 [kE k e0 e1 b (.b 14 0 n (.b c))]) D=SE w e0 e1 n c (kq k j) Q
 | 3,_,_=>⟨bE 11111111111111111111111111111105661006666610056620227770404440056644044444444442054404444444444452280034430,by kernel_rfl⟩
 | 4,_,_=>⟨bE 11111111111111111111111111111105661006666610056620227770404440056644044444444442054404444444444452380034430,by kernel_rfl⟩
theorem HR:(∀j,j<=2->∃D,gG Q (pW TU jE [] 6 [kE k e0 e1 b .d]) D=AO (kq k j) Q)/\∀j,3<=j->j<=4->∃D,gG Q (pW TU jE [] 6 [kE k e0 e1 b .d]) D=Aw e0 e1 (kq k j) Q:=⟨λj h=>match j,h with
 | 0,_=>⟨bE 10566220005,by kernel_rfl⟩
 | 1,_=>⟨bE 105662230005,by kernel_rfl⟩
 | 2,_=>⟨bE 105662330005,by kernel_rfl⟩,λj h h'=>match j,h,h' with
 | 3,_,_=>⟨bE 111110566100666661006666404440005664664000562280005,by kernel_rfl⟩
 | 4,_,_=>⟨bE 111110566100666661006666404440005664664000562380005,by kernel_rfl⟩⟩
theorem H9:(∀j,j<=2->∃D,gG Q (pW TU jE [.a w false none] 6 [kE k e0 e1 b (.b 14 0 0 (.b c))]) D=AO (kq k j) Q)/\∀j,3<=j->j<=4->∃D,gG Q (pW TU jE [.a w false none] 6 [kE k e0 e1 b (.b 14 0 0 (.b c))]) D=Aw e0 e1 (kq k j) Q:=⟨λj h=>match j,h with
 | 0,_=>⟨bE 10566220005,by kernel_rfl⟩
 | 1,_=>⟨bE 105662230005,by kernel_rfl⟩
 | 2,_=>⟨bE 105662330005,by kernel_rfl⟩,λj h h'=>match j,h,h' with
 | 3,_,_=>⟨bE 111110566100666661006666404440005664664000562280005,by kernel_rfl⟩
 | 4,_,_=>⟨bE 111110566100666661006666404440005664664000562380005,by kernel_rfl⟩⟩
end
def adE:ec eS 6=some (dH 6,aL 6):=by kernel_rfl
theorem ajZ:m5 n=ν (min n 5):=by
 unfold m5 gY;cases h:ab (ν n) 5 with
 | true=>rw[aq]at h;simp only[cond_true,χ]at *;omega
 | false=>rw[bF]at h;simp only[cond_false,χ]at *;omega
theorem alp{c:Nat}(h1:1<=n)(hc:n<=c):aa (ν n) 0=false/\ab 0 (m5 n)/\σ (m5 n).toNat c/\π c 0=false/\aS 0 ((m5 n).toNat-0)=true:=by
 rw[ajZ,aw,aq,al,b9,aU];simp only[χ,Int.toNat_natCast];omega
theorem afe{xs:List Ip}:(eP (x::xs)).getD (n+21) v=(eP xs).getD n v:=rfl
theorem Rz{a:IntKind}{n:Int}:eB a (.a a n)=true:=by cases a<;>rfl
def iT:List (AV->Bool):=dT++eB .u8::dT
def pM(w:List AV)(j:Nat):Ip:=⟨gH w j,dx (w.getD (j+10) bt),gH w (j+11)⟩
theorem aeJ{x:Ip}{xs:List Ip}:∀{ts:List (AV->Bool)} {j:Nat},jU (eP (x::xs)) (j+21) ts=jU (eP xs) j ts
 | [],_=>rfl
 | t::ts,j=>by rw[jU,jU,afe,show j+21+1=j+1+21 by omega,aeJ]
theorem agP{xs:List Ip}:pM (eP (x::xs)) (j+21)=pM (eP xs) j:=rfl
theorem aaM:∀{G:List Ip} {i:Nat},i<G.length->pM (eP G) (i*21)=G.getD i qe/\Tk (jU (eP G) (i*21) iT)
 | [],_,h=>absurd h (Nat.not_lt_zero _)
 | x::xs,0,_=>⟨rfl,by simp[jU,iT,dT,Tk,eP,Ip.cs,Dp.cs,Rz,Sn]⟩
 | x::xs,i+1,h=>by
   rw[show(i+1)*21=i*21+21 by omega,agP,aeJ];exact aaM (Nat.lt_of_succ_lt_succ h)
theorem acv:∀{G:List Ip},bw (eP G)=[]
 | []=>rfl
 | r::rs=>by
   have:=@acv rs;simp[eP,Ip.cs,Dp.cs,bw,aC,this]
theorem wc{G:List Ip}:∀x∈[cD.a (eP G) false none],cR 14 x:=λx hx=>by
 rw[List.mem_singleton.1 hx];exact⟨rfl,λi hi=>by simp only[HL,acv]at hi;cases hi⟩
theorem af_(hk:0<=k){X:Prop}(hx:X):∀{j:Nat},j<=4->k%8=(j:Int)->kq k j X:=λ{j} hj h=>by
 have e:=ο hk (b:=8);rcases(by omega:j=0\/j=1\/j=2\/j=3\/j=4)with rfl|rfl|rfl|rfl|rfl<;>simp only[kq,e,h]<;>exact⟨rfl,rfl,by first|exact hx|exact⟨rfl,by first|exact hx|exact⟨rfl,by first|exact hx|exact⟨rfl,hx⟩⟩⟩⟩
theorem ahK{w:List AV}(h:Tk (jU w 0 iT)):Tk (jU w 0 dT)/\Tk (jU w 11 dT):=by
 simp only[iT,dT,jU,Tk,List.cons_append,List.nil_append,ω,and_true]at h ⊢;simp only[h,and_self]
theorem agc{e:Int}(hD:D.ok):dJ (w5 e) (qf e D)=true:=by
 obtain⟨e1,e2,-⟩:=Dp.ex hD;have ex:fL D.e.ng D.e.lg D.e.s D.e.e D.e.g D.e.mo D.e.da D.e.a D.e.b D.e.c=true:=qd e1 e2;unfold dJ w5 qf;cases aa (e%6) 0<;>cases aa (e%6) 1<;>first|exact afE|(simp only[Bool.or_false,cond_false,ex];rfl)|decide
section
variable{k e0 e1 b:Int}{c:Nat}{G:List Ip}(hk:0<=k)(h1:1<=G.length)(hc:G.length<=c)(hG:(G.getD 0 qe).ok)
include hk h1 hc hG
theorem Qk(hj:j<=2)(hkj:k%8=(j:Int)):bu Tryz.prog cfg 6 [kE k e0 e1 b (.b 14 0 G.length (.b c))] [.a (eP G) false none] (.g (acB (G.getD 0 qe).D.o)) []:=by
 refine P0 adQ (L:=jE) wc adE (by simp) ai (eD λQ' hQ=>?_) (by simp[acB,aC,bw]);obtain⟨D,hD⟩:=@PW (eP G) k e0 e1 b G.length c Q' j hj;refine cg (hD.mpr ?_);obtain⟨a1,a2,a3,a4,a5⟩:=alp h1 hc;obtain⟨b1,b2⟩:=aaM (i:=0) h1;have b3:gH (eP G) 0=(G.getD 0 qe).D:=congrArg Ip.D b1;unfold Ip.ok at hG;simp only[zAa]at hG;have x1:Tk (aS 0 ((m5 G.length).toNat-0)::jU (eP G) 0 dT):=⟨a5,(ahK b2).1⟩;refine⟨a1,j6 ⟨a4,af_ hk (j6 (j6 ?_ (by rw[b3];exact akp hG.1)) x1) (by omega) hkj⟩ ⟨a2,a3,trivial⟩⟩;rw[b3];exact hQ _ rfl
theorem Qe(h3:3<=j)(hj:j<=4)(hkj:k%8=(j:Int))(r0:af .u8 e0)(r1:af .u8 e1):bu Tryz.prog cfg 6 [kE k e0 e1 b (.b 14 0 G.length (.b c))] [.a (eP G) false none] (.g (qP e0 e1 (G.getD 0 qe).D (G.getD 0 qe).T)) []:=by
 refine P0 adQ (L:=jE) wc adE (by simp) ai (eD λQ' hQ=>?_) (by unfold qP;cases not (aa (jM (w5 e0) (qf e0 (G.getD 0 qe).D) (w5 e1) (qf e1 (G.getD 0 qe).T)) 0)<;>cases not (aa (w5 e0) 1)<;>simp[ra,sZ,aC,bw]);obtain⟨D,hD⟩:=@PS (eP G) k e0 e1 b G.length c Q' j h3 hj;refine cg (hD.mpr ?_);obtain⟨a1,a2,a3,a4,a5⟩:=alp h1 hc;obtain⟨b1,b2⟩:=aaM (i:=0) h1;have b3:gH (eP G) 0=(G.getD 0 qe).D:=congrArg Ip.D b1;have b4:gH (eP G) 11=(G.getD 0 qe).T:=congrArg Ip.T b1;have hQ:=hQ _ rfl;unfold qP at hQ;unfold Ip.ok at hG;simp only[zAa]at hG;have x0:=(ahK b2).2;have x1:Tk (aS 0 ((m5 G.length).toNat-0)::jU (eP G) 0 dT):=⟨a5,(ahK b2).1⟩;refine⟨a1,j6 ⟨a4,af_ hk (j6 ?_ x1) hj hkj⟩ ⟨a2,a3,trivial⟩⟩;rw[b3,b4];have y0:Tk [af .u8 e0,(G.getD 0 qe).D.ok]:=⟨r0,hG.1,trivial⟩;have y1:Tk [af .u8 e1,(G.getD 0 qe).T.ok,dJ (w5 e0) (qf e0 (G.getD 0 qe).D),dJ (w5 e1) (qf e1 (G.getD 0 qe).T)]:=⟨r1,hG.2.2,agc hG.1,agc hG.2.2,trivial⟩;refine j6 ⟨a5,j6 (j6 ?_ y1) x0⟩ y0;cases hp:not (aa (jM (w5 e0) (qf e0 (G.getD 0 qe).D) (w5 e1) (qf e1 (G.getD 0 qe).T)) 0)<;>cases hb:not (aa (w5 e0) 1)<;>rw[hp,hb]at hQ<;>simp only[zAj]at hQ<;>simp only[true_imp_iff,reduceCtorEq,false_imp_iff,and_true,true_and]<;>first|exact hQ|exact⟨a5,mz ⟨hG.2.2,hQ⟩ x0⟩
end
theorem IB{e0 b:Int}(hk:0<=k)(hw:∀x∈ws,cR 14 x)(hj:j<=2)(hkj:k%8=(j:Int))(hD:∀Q,∃D,gG Q (pW TU jE ws 6 [kE k e0 e1 b sl]) D=AO (kq k j) Q):bu Tryz.prog cfg 6 [kE k e0 e1 b sl] ws (.g (acB qe.D.o)) []:=by
 refine P0 adQ (L:=jE) hw adE (by simp) ai (eD λQ' hQ=>?_) (by simp[acB,aC,bw]);obtain⟨D,hD⟩:=hD Q';exact cg (hD.mpr (af_ hk (hQ _ rfl) (by omega) hkj))
theorem Ir{e0 b:Int}(hk:0<=k)(hw:∀x∈ws,cR 14 x)(hj:j<=4)(hkj:k%8=(j:Int))(r0:af .u8 e0)(r1:af .u8 e1)(hD:∀Q,∃D,gG Q (pW TU jE ws 6 [kE k e0 e1 b sl]) D=Aw e0 e1 (kq k j) Q):bu Tryz.prog cfg 6 [kE k e0 e1 b sl] ws (.g (qP e0 e1 qe.D qe.T)) []:=by
 refine P0 adQ (L:=jE) hw adE (by simp) ai (eD λQ' hQ=>?_) (by unfold qP;cases not (aa (jM (w5 e0) (qf e0 qe.D) (w5 e1) (qf e1 qe.T)) 0)<;>cases not (aa (w5 e0) 1)<;>simp[ra,sZ,aC,bw]);obtain⟨D,hD⟩:=hD Q';have hQ:=hQ _ rfl;unfold qP at hQ;have z:qe.D.ok=true:=by decide
 have y:Tk [af .u8 e0,af .u8 e1,dJ (w5 e0) (qf e0 qe.D),dJ (w5 e1) (qf e1 qe.D)]:=⟨r0,r1,agc z,agc z,trivial⟩;refine cg (hD.mpr (af_ hk (j6 ?_ y) hj hkj));rw[show qe.T=qe.D from rfl]at hQ;cases hp:not (aa (jM (w5 e0) (qf e0 qe.D) (w5 e1) (qf e1 qe.D)) 0)<;>cases hb:not (aa (w5 e0) 1)<;>rw[hp,hb]at hQ<;>simp only[zAj]at hQ<;>simp only[true_imp_iff,reduceCtorEq,false_imp_iff,and_true,true_and]<;>exact hQ
def TV:aQ:=d5 gZ 23 aiN
theorem ajN:ak Tryz.prog cfg TV:=agW aW
def js(all:Bool)(G:List Ip)(i:Nat):List It:=(List.range i).map λj=>abu all (G.getD j qe)
theorem ahc{i:Nat}:js all G (i+1)=js all G i++[abu all (G.getD i qe)]:=by
 grind [js,List.range_succ]
theorem aaW{i:Nat}:(js all G i).length=i:=by simp[js]
theorem adO:∀{A B:List It},dp (A++B)=dp A++dp B
 | [],_=>rfl
 | x::A,B=>by simp only[List.cons_append,dp,adO]
def aiG(b:Nat):cD->Bool
 | .a cs _ _=>bc b cs
 | _=>false
theorem acV{b:Nat}{x:cD}(h:aiG b x):cR b x:=by
 cases x<;>simp only[aiG,reduceCtorEq]at h;exact⟨rfl,abm h⟩
theorem aan{b:Nat}{L:List It}{rw:Bool}{g:Option Nat}:cR b (.a (dp L) rw g):=⟨rfl,λi hi=>by grind [HL,acs]⟩
theorem am1{W:cD}(hw:∀x∈[W],cR 14 x){tn:Nat}{rel:List Nat}{vs vs':List AV}{R X:cD}{top:List cD}{k m:Nat}{cs:List AV}(hn:n=3+top.length)(hk:3<=k)(hkn:k<n)(hR:cR 18 R)(hX:cR 18 X)(hc:cR 18 (.a cs true (some 21)))(ht:(top++[.a (fS kk (.b (15+k) 0 m (.a 0)) ea la) true none,R,X]).getD (n-1-k) .b=.a cs true (some 21))(hvs:yw (kG 18 (eM 15 3 [k]) 20) vs=some vs'):VW cfg (Cw cfg [W]) 3 tn rel vs ⟨n,top++[.a (fS kk (.b (15+k) 0 m (.a 0)) ea la) true none,R,X],[]⟩ vs' ⟨4,[.a cs true (some 21),.a (fS kk (.b 18 0 m (.a 0)) ea la) true none,R,X],[]⟩:=by
 subst hn;have at0:∀(os:List cD) (n i:Nat),(⟨n,os,[]⟩:aB).at i=os.getD (n-1-i) .b:=λos n i=>rfl;refine VW.f0 dI.lv (C:=Cw cfg [W]) (kb:=3) (sel:=[k]) (B6 hw) (Nat.le_add_right _ _) (λs hs=>?_) (by simp) (λp hp=>by grind) rfl rfl rfl (λi hi=>?_) (λt h=>?_) hvs
 . grind
 . have e:∀j,j<3->(⟨3+top.length,top++[.a (fS kk (.b (15+k) 0 m (.a 0)) ea la) true none,R,X],[]⟩:aB).at j=[cD.a (fS kk (.b (15+k) 0 m (.a 0)) ea la) true none,R,X].getD (2-j) .b:=λj hj=>by
    grind
   rw[e i hi];rcases(by omega:i=0\/i=1\/i=2)with rfl|rfl|rfl
   . exact .inl ⟨rfl,hX⟩
   . exact .inl ⟨rfl,hR⟩
   . refine .inr ⟨_,_,_,_,rfl,?_,rfl⟩;have:To 18 [(15+k,18)] (15+k)=some 18:=by
      unfold To;rw[show aS (15+k) 18=false by rw[<-ς,aU];omega,cond_false,xx,gm rfl,cond_true]
     show yw (kG 18 [(15+k,18)] 20) _=_;simp only[fS,yw,kG,this,ob]
 . have:t=0:=by simp at h;omega
   subst this;refine .inl ⟨?_,?_⟩
   . show cD.a cs true (some 21)=_;rw[at0];exact ht.symm
   . show cR 18 ((⟨3+top.length,top++[.a (fS kk (.b (15+k) 0 m (.a 0)) ea la) true none,R,X],[]⟩:aB).at k);rw[at0,ht];exact hc
def anB(all:Bool)(G:List Ip)(kk:Int)(ea la:Bool)(R X:cD):Nat->aB
 | 0=>⟨3,[.a (fS kk .d ea la) true none,R,X],[]⟩
 | i+1=>⟨4,[.a (dp (js all G (i+1))) true (some 21),.a (fS kk (.b 18 0 (i+1) (.a 0)) ea la) true none,R,X],[]⟩
def EY(G:List Ip):dW:=λ
 | [.h 15 0,.h 16 0,.b 14 0 n K,.h 17 0,.a .i64 i],⟨3,[.a (.a .u8 k1::.e false::.e false::.f []::.a .i64 0::.a .i64 0::.f []::.f []::.a .u8 0::.a .u8 0::.a .u8 0::.a .u8 0::.e false::.e false::.f []::.a .i64 0::.a .i64 0::.f []::.f []::.a .u8 0::.a .u8 0::.a .u8 0::.a .u8 0::.e false::.e false::.f []::.a .i64 0::.a .i64 0::.f []::.f []::.a .u8 0::.a .u8 0::.a .u8 0::.d::.e ea::.e la::[]) true none,R,X],[]⟩=>some (aH [aa i 0,σ n G.length,σ n 5,aiG 18 R,aiG 18 X,σ 1 n] (.a0 (.b 1,[.h 15 0,.h 16 0,.b 14 0 n K,.h 17 0,.a .i64 (ν n)],⟨4,[.a (dp (js (aa k1 4) G n)) true (some 21),.a (fS k1 (.b 18 0 n (.a 0)) ea la) true none,R,X],[]⟩)))
 | _,_=>none
theorem aoV(hG:∀i,i<G.length->(G.getD i qe).ok):cu Tryz.prog (cH cfg TV) (Cw cfg [.a (eP G) false none]) (lb 6 0) 142 [1,2,3,6,7] (EY G):=by
 have hw:=@wc G;intro vs o t Q hv hq J;unfold EY at hv;split at hv
 . rename_i n K i0 k1 ea la R X;cases hv;replace hq:=cO hq;obtain⟨⟨h1,h2,h3,h4,h5,h6,-⟩,hq⟩:=hq;rw[ao]at h1;rw[al]at h2 h3 h6;subst h1;simp only[aH,Tr.wp]at hq;refine ia ajN rfl rfl ai (ι:={i:Nat // i<=n}) (λx=>[.h 15 0,.h 16 0,.b 14 0 n K,.h 17 0,.a .i64 (ν x.1)]) (λx=>anB (aa k1 4) G k1 ea la R X x.1) (λx=>n-x.1) 3 (λx=>?_) (λx J=>?_) (Nat.le_refl _) (λJ=>Wk.a0 ⟨⟨0,Nat.zero_le _⟩,J,rfl⟩) J
   . obtain⟨i,hi⟩:=x;cases i
     . exact Nat.le_refl _
     . exact Nat.le_succ _
   obtain⟨i,hi⟩:=x;dsimp only;have facts:i<n->not (ab (ν n) (ν i))/\aS i n/\af .i64 (Int.add (ν i) 1)=true:=λh=>⟨by grind [bF],aU.2 h,by grind [aE,eH,eE]⟩;cases i with
   | zero=>
     refine jJ (bE 11111111111111111111111120054004444444444444444444442004) (R:=λQ=>(not (ab (ν n) (ν 0))->aS 0 n/\fu (jU (eP G) (0+0*21) iT) (((pM (eP G) (0+0*21)).ok->af .i64 (Int.add (ν 0) 1)/\Q (.a,[.h 15 0,.h 16 0,.b 14 0 n K,.h 17 0,.a .i64 (Int.add (ν 0) 1)],⟨5,[.a (dp [abu (aa k1 4) (pM (eP G) (0+0*21))]) true (some 21),.a (dp [abu (aa k1 4) (pM (eP G) (0+0*21))]) true none,.a (fS k1 (.b 19 0 1 (.a 0)) ea la) true none,R,X],[]⟩))/\((pM (eP G) (0+0*21)).ok=false->False)))/\(not (ab (ν n) (ν 0))=false->Q (.b 1,[.h 15 0,.h 16 0,.b 14 0 n K,.h 17 0,.a .i64 (ν 0)],⟨3,[.a (fS k1 .d ea la) true none,R,X],[]⟩))) (λ_=>by kernel_rfl) λQ' hQ=>?_;refine⟨λhlt=>?_,λhge=>?_⟩
     . have hlt:0<n:=by
        omega
       obtain⟨j1,j2,j3⟩:=facts hlt;obtain⟨b1,b2⟩:=aaM (G:=G) (i:=0) (by omega);rw[ω,b1];refine⟨j2,j6 ⟨λ_=>⟨j3,hQ _ ⟨⟨1,hlt⟩,Nat.sub_lt_sub_left hlt (Nat.lt_succ_self 0),?_⟩⟩,λh=>by grind⟩ b2⟩;exact am1 (k:=4) (top:=[_,_]) hw rfl (by decide) (by decide) (acV h4) (acV h5) aan rfl rfl
     grind
   | succ i=>
     have hl:(dp (js (aa k1 4) G (i+1))).length=(i+1)*21:=by rw[lh,aaW]
     refine jJ (bE 11111111111111111111111112045204004444444444444444444442004) (R:=λQ=>(not (ab (ν n) (ν (i+1)))->aS (i+1) n/\fu (jU (eP G) (0+(i+1)*21) iT) (((pM (eP G) (0+(i+1)*21)).ok->and (and (σ (i+1+1) 1000000) true) true/\fu [and true (π (dp (js (aa k1 4) G (i+1))).length ((i+1)*21))] (af .i64 (Int.add (ν (i+1)) 1)/\Q (.a,[.h 15 0,.h 16 0,.b 14 0 n K,.h 17 0,.a .i64 (Int.add (ν (i+1)) 1)],⟨6,[.a (dp (js (aa k1 4) G (i+1))++dp [abu (aa k1 4) (pM (eP G) (0+(i+1)*21))]) true (some 21),.a (dp [abu (aa k1 4) (pM (eP G) (0+(i+1)*21))]) true none,.b,.a (fS k1 (.b 20 0 (i+1+1) (.a 0)) ea la) true none,R,X],[]⟩)))/\((pM (eP G) (0+(i+1)*21)).ok=false->False)))/\(not (ab (ν n) (ν (i+1)))=false->Q (.b 1,[.h 15 0,.h 16 0,.b 14 0 n K,.h 17 0,.a .i64 (ν (i+1))],anB (aa k1 4) G k1 ea la R X (i+1)))) (λ_=>by kernel_rfl) λQ' hQ=>?_;refine⟨λhlt=>?_,λhge=>?_⟩
     . have hlt:i+1<n:=by
        grind [bF]
       obtain⟨j1,j2,j3⟩:=facts hlt;obtain⟨b1,b2⟩:=aaM (G:=G) (i:=i+1) (by omega);rw[ω,b1];have y:Tk [and true (π (dp (js (aa k1 4) G (i+1))).length ((i+1)*21))]:=⟨by simp_all,trivial⟩;refine⟨j2,j6 ⟨λ_=>⟨by simp;omega,j6 ⟨j3,hQ _ ⟨⟨i+1+1,hlt⟩,by grind,?_⟩⟩ y⟩,λh=>by grind⟩ b2⟩;rw[<-adO,<-ahc];exact am1 (k:=5) (top:=[_,_,_]) hw rfl (by decide) (by decide) (acV h4) (acV h5) aan rfl rfl
     . have:n=i+1:=by
        grind
       subst this;exact hQ _ ⟨_,_,VW.a0,hq⟩
 grind
def Gm(G:List Ip):cx:=iz jE 1 (d9 142 [1,2,3,6,7] (EY G))
def AS(w:List AV)(j:Nat)(X:Prop):Prop:=fu (jU w j dT) (fu [(gH w j).ok] X)
def zC(D:Dp):List AV:=dp [⟨D.p,false,gL⟩]
def xL(w:List AV)(n:Nat)(x:Int)(la:Bool)(cs:List AV)(K:List AV->Prop):Prop:=(la->ab 0 x/\aS x.toNat n/\AS w (0+x.toNat*21) (ab 0 x/\aS x.toNat n/\fu [σ (0+x.toNat*21+21) cs.length] (K (JL cs (0+x.toNat*21) (zC (gH w (0+x.toNat*21)))))))/\(la=false->K cs)
def xu(x:Int)(ea v:Bool)(K:Bool->Prop):Prop:=(aa x 0->aa x 0/\aa x 0/\ea=v/\K v)/\(aa x 0=false->aa x 0=false/\aa x 0=false/\K false)
def KD(w:List AV)(G:List Ip)(all ea la:Bool)(M:Nat)(F:List AV->Bool->Prop):Prop:=af .i64 (τ (ν M) 1)/\(ea->aS 0 M/\AS w 0 (aS 0 M/\fu [σ 21 (dp (js all G M)).length] (xL w M (τ (ν M) 1) la (JL (dp (js all G M)) 0 (zC (gH w 0))) λcs=>xu (τ (ν M) 1) ea true (F cs))))/\(ea=false->xL w M (τ (ν M) 1) la (dp (js all G M)) λcs=>xu (τ (ν M) 1) ea false (F cs))
def wP(kk:Int)(sl:AV)(ea la z:Bool):List AV:=bif z then fS kk sl ea false else fS kk sl ea la
def xl(k:Int)(all:Bool)(X Y:Prop):Prop:=aa (ξ k 8) 0=false/\aa (ξ k 8) 1=false/\aa (ξ k 8) 2=false/\aa (ξ k 8) 3=false/\aa (ξ k 8) 4=false/\X/\aa (ξ k 8) 7=all/\Y
section
variable(w:List AV)(G:List Ip)(k e0 e1 b:Int)(n c:Nat){Q:EQ->Prop}
def Kh(w:List AV)(G:List Ip)(k e0 e1 b:Int)(n c:Nat)(all:Bool)(kk:Int)(Q:EQ->Prop):Prop:=aa (ν n) 0=false/\fu [ab 0 (m5 n),σ (m5 n).toNat c] (π c 0=false/\xl k all (af .u8 (υ b 2)=true) (fu [σ ((m5 n).toNat-0) G.length,σ ((m5 n).toNat-0) 5,σ 1 ((m5 n).toNat-0)] (∀J1:Nat->Value,KD w G all (aa (ξ b 2) 1) (aa (ξ (υ b 2) 2) 1) ((m5 n).toNat-0) λcs z=>Q (.g (wP kk (.b 18 0 ((m5 n).toNat-0) (.a 0)) (aa (ξ b 2) 1) (aa (ξ (υ b 2) 2) 1) z),⟨4,[.a cs true (some 21),.a (wP kk (.b 18 0 ((m5 n).toNat-0) (.a 0)) (aa (ξ b 2) 1) (aa (ξ (υ b 2) 2) 1) z) true none,.a (wP kk (.b 18 0 ((m5 n).toNat-0) (.a 0)) (aa (ξ b 2) 1) (aa (ξ (υ b 2) 2) 1) z) true none,.a [.a .u8 k,.b 14 0 n (.b c),.a .u8 e0,.a .u8 e1,.a .u8 b] true none],[]⟩))))
theorem PY:∀all,∃D,gG Q (bT TU (Gm G) [.a w false none] 6 [kE k e0 e1 b (.b 14 0 n (.b c))]) D=Kh w G k e0 e1 b n c all (bif all then 4 else 3) Q
 | false=>⟨bE 111111006666331066663202411111111111110066663310666632024422404444444444220401111111111111006666331006666220241111111111111006666331006666220244224044444444442204042040444444444420040240044035253380034430,by kernel_rfl⟩
 | true=>⟨bE 1111110066663310666632024111111111111100666633106666320244224044444444442204011111111111110066663310066662202411111111111110066663310066662202442240444444444422040420404444444444200402400440025253380034430,by kernel_rfl⟩
end
theorem acm{x:It}:∀{L:List It} {i:Nat},i<L.length->JL (dp L) (i*21) (dp [x])=dp (L.set i x)
 | [],_,h=>absurd h (Nat.not_lt_zero _)
 | y::ys,0,_=>by
   show F8 (dp (y::ys)) (dp [x])=dp (x::ys);simp only[dp,F8]
 | y::ys,i+1,h=>by
   rw[show(i+1)*21=i*21+21 by omega,List.set_cons_succ];have:=@acm x ys i (Nat.lt_of_succ_lt_succ h);simp only[dp]at this ⊢;rw[<-this];rfl
def pQ(G:List Ip)(i:Nat):It:=⟨(G.getD i qe).D.p,false,gL⟩
def wh(all ea la:Bool)(G:List Ip)(M:Nat):List It:=bif la then(bif ea then(js all G M).set 0 (pQ G 0)else js all G M).set (M-1) (pQ G (M-1))else bif ea then(js all G M).set 0 (pQ G 0)else js all G M
theorem alA{z:Bool}:wP kk sl ea la z=fS kk sl ea (la&&!z):=by grind [wP]
theorem agS{x:Int}{v:Bool}{K:Bool->Prop}(hv:ea=v)(h:K (aa x 0&&v)):xu x ea v K:=by
 grind [xu]
section
variable{G:List Ip}{M:Nat}(hG:∀i,i<G.length->(G.getD i qe).ok)(h1:1<=M)(hM:M<=G.length)
include hG
theorem ahT{i:Nat}{X:Prop}(hi:i<G.length)(h:X):AS (eP G) (i*21) X/\zC (gH (eP G) (i*21))=dp [pQ G i]:=by
 obtain⟨b1,b2⟩:=aaM hi;have b3:gH (eP G) (i*21)=(G.getD i qe).D:=congrArg Ip.D b1;have b4:Tk (jU (eP G) (i*21) dT):=by
  simp_all [iT,dT,jU,Tk]
 have hk:=hG i hi;unfold Ip.ok at hk;rw[zAa]at hk;have y:Tk [(gH (eP G) (i*21)).ok]:=⟨by grind,trivial⟩;exact⟨j6 (j6 h y) b4,by rw[b3];rfl⟩
include h1 hM
theorem ah_{L:List It}{K:List AV->Prop}(hL:L.length=M)(h:K (dp (bif la then L.set (M-1) (pQ G (M-1))else L))):xL (eP G) M (τ (ν M) 1) la (dp L) K:=by
 have e:τ (ν M) 1=ν (M-1):=by
  grind
 rw[e];have a1:ab 0 (ν (M-1))=true:=aq.mpr (Int.natCast_nonneg _);have a2:aS (ν (M-1)).toNat M=true:=aU.2 (by grind);unfold xL;rw[ω];refine⟨λhl=>⟨a1,a2,?_⟩,λhl=>by grind⟩;rw[hl,cond_true,<-acm (by omega)]at h;have y:Tk [σ ((ν (M-1)).toNat*21+21) (dp L).length]:=⟨by grind [al,lh],trivial⟩;have r:=λX hx=>@ahT G hG (M-1) X (by omega) hx;refine(r _ ⟨a1,a2,j6 ?_ y⟩).1;rw[show(ν (M-1)).toNat=M-1 from rfl,(r True trivial).2];omega
theorem ak4{F:List AV->Bool->Prop}(h5:M<=5)(h:F (dp (wh all ea la G M)) (aa (τ (ν M) 1) 0&&ea)):KD (eP G) G all ea la M F:=by
 refine⟨by grind [aE,eH,eE],λhe=>⟨aU.2 (by omega),?_⟩,λhe=>?_⟩
 . subst he;have y:Tk [σ 21 (dp (js all G M)).length]:=⟨by grind [al,lh,aaW],trivial⟩;have r:=λX hx=>@ahT G hG 0 X (by omega) hx;rw[Nat.zero_mul]at r;refine(r _ ⟨aU.2 (by omega),j6 ?_ y⟩).1;have:=@acm (pQ G 0) (js all G M) 0 (by grind [aaW]);rw[Nat.zero_mul]at this;rw[(r True trivial).2,this];exact ah_ hG h1 hM (by grind [aaW]) (agS rfl h)
 . subst he;exact ah_ hG h1 hM aaW (agS rfl h)
end
theorem akP:(bz (aL 6)).map (·.1)=[1]:=by rfl
theorem alo{M:Nat}(h1:1<=M)(hM:M<=G.length):wh all ea la G M=adz all ea (la&&!(aa (τ (ν M) 1) 0&&ea)) (G.take M):=by
 have hl:(G.take M).length=M:=by grind
 have e0:aa (τ (ν M) 1) 0=π M 1:=by
  grind [ao,aJ]
 have gt:∀i,i<M->(G.take M).getD i qe=G.getD i qe:=λi hi=>by
  grind
 have iL:∀i,i<M->(js all G M)[i]? = some (abu all (G.getD i qe)):=λi hi=>by
  grind [js]
 refine List.ext_getElem? λi=>?_;by_cases hi:i<M
 . have r:(adz all ea (la&&!(aa (τ (ν M) 1) 0&&ea)) (G.take M))[i]? = some (bif (ea&&π i 0) || ((la&&!(π M 1&&ea))&&π (i+1) M)then pQ G i else abu all (G.getD i qe)):=by
    have:=@acW all ea (la&&!(aa (τ (ν M) 1) 0&&ea)) (G.take M) i (by omega);rw[gt i hi,hl,e0]at this;rw[zAf]at this;rw[e0,List.getElem?_eq_getElem (by rw[FP];omega)]at *;simp only[Option.getD_some]at this;rw[this];rfl
   rw[r];have hlen:(js all G M).length=M:=aaW;have b0:π i 0=true↔i=0:=by rw[aJ]
   have b1:π (i+1) M=true↔i+1=M:=by rw[aJ]
   have b2:π M 1=true↔M=1:=by rw[aJ]
   unfold wh;cases ea<;>cases la<;>simp only[zAj,Bool.false_and,Bool.true_and,Bool.or_false,Bool.false_or,Bool.and_false,Bool.and_true,Bool.not_false,List.getElem?_set,List.length_set,hlen,iL i hi]
   . cases h:π (i+1) M
     . rw[if_neg (by intro k;rw[<-ς,b1]at h;omega)];rfl
     . rw[if_pos (by rw[b1]at h;omega),if_pos (by omega)];rw[b1]at h;rw[show M-1=i by omega];rfl
   . cases h:π i 0
     . rw[if_neg (by intro k;rw[<-ς,b0]at h;omega)];rfl
     . rw[b0]at h;subst h;rw[if_pos rfl,if_pos (by omega)];rfl
   . by_cases k1:M-1=i
     . rw[if_pos k1,if_pos (by omega),k1];cases h:π i 0
       . rw[show π (i+1) M=true from b1.2 (by omega),show π M 1=false from by rw[<-ς,b2];rw[<-ς,b0]at h;omega];rfl
       . rfl
     . rw[if_neg k1,show π (i+1) M=false from by rw[<-ς,b1];omega];cases h:π i 0
       . rw[if_neg (by intro k;rw[<-ς,b0]at h;omega)];simp
       . rw[b0]at h;subst h;rw[if_pos rfl,if_pos (by omega)];rfl
 . have k1:(wh all ea la G M).length=M:=by unfold wh;cases ea<;>cases la<;>simp[aaW]
   rw[List.getElem?_eq_none (by omega),List.getElem?_eq_none (by rw[FP];omega)]
theorem af6{S:aQ}(hS:ak Tryz.prog cfg S){L:cx}{f:Nat}{args:List AV}{news:List cD}{R:(EQ->Prop)->Prop}(hb:ec eS f=some (dH f,aL f))(hlen:args.length<=1000)(hL:qI Tryz.prog (cH cfg S) (Cw cfg ws) L (aL f))(hw:∀Q:EQ->Prop,∃D,gG Q (bT S L ws f args) D=R Q)(h:∀Q:EQ->Prop,(∀q,dL ws v news q->Q q)->R Q):bu Tryz.prog cfg f args ws v news:=
 Bu hS (L:=L) hb hlen hL (eD λQ' hQ=>by
  obtain⟨D,hD⟩:=hw Q';grind [cg])
theorem aqe{e0 b:Int}{c:Nat}(hk:0<=k)(hb:0<=b/\b<=255)(h1:1<=G.length)(hc:G.length<=c)(hG:∀i,i<G.length->(G.getD i qe).ok)(h4:5<=k%8)(h7:aa (k%8) 7=all):bu Tryz.prog cfg 6 [kE k e0 e1 b (.b 14 0 G.length (.b c))] [.a (eP G) false none] (.g (fS (bif all then 4 else 3) (.b 15 0 (min G.length 5) (.a 0)) (aa (b%2) 1) (aa (b/2%2) 1&&!(aa (τ (ν (min G.length 5)) 1) 0&&aa (b%2) 1)))) [.a (dp (adz all (aa (b%2) 1) (aa (b/2%2) 1&&!(aa (τ (ν (min G.length 5)) 1) 0&&aa (b%2) 1)) (G.take (min G.length 5)))) true (some 21)]:=by
 refine af6 adQ (L:=Gm G) adE (by simp) (dv akP λi hi e he st Q hw=>?_) (λQ=>PY (eP G) G k e0 e1 b G.length c all) λQ' hQ=>?_
 . have hi:i=0:=by grind
   subst hi;cases he;exact adh (bR (cC.a0 ajN) (by decide) rfl (aoV hG) hw)
 . obtain⟨a1,a2,a3,a4,a5⟩:=alp h1 hc;have t8:ξ k 8=k%8:=ο hk;have t2:υ b 2=b/2:=Int.tdiv_eq_ediv_of_nonneg hb.1;have t3:ξ b 2=b%2:=ο hb.1;have t4:ξ (b/2) 2=b/2%2:=ο (by omega);have hM:(m5 G.length).toNat-0=min G.length 5:=by rw[ajZ];rfl
   have ne:∀j:Int,j<=4->aa (k%8) j=false:=λj hj=>aw.mpr (by omega);unfold Kh xl;rw[hM,t8,t2,t3,t4];have y:Tk [σ (min G.length 5) G.length,σ (min G.length 5) 5,σ 1 (min G.length 5)]:=by
    refine⟨?_,?_,?_,trivial⟩<;>rw[al]<;>omega
   refine⟨a1,j6 ⟨a4,ne 0 (by decide),ne 1 (by decide),ne 2 (by decide),ne 3 (by decide),ne 4 (by decide),aai (by omega),h7,j6 (λ_=>?_) y⟩ ⟨a2,a3,trivial⟩⟩;refine ak4 hG (by omega) (by omega) (by omega) ?_;rw[alA,alo (by omega) (by omega)];exact hQ _ (dL.at (k:=3) wc rfl (Nat.lt_succ_self 3) rfl aan rfl)
def fY(all:Bool)(kk:Int)(ea:Bool)(bs:Nat)(sl:AV)(k e0 e1 b:Int)(I:List AV)(l:Bool):EQ:=(.g (fS kk (.b (bs+5) 0 1 (.a 0)) ea l),⟨6,[.a I true (some 21),.a (dp [abu all qe]) true none,.a (fS kk (.b (bs+5) 0 1 (.a 0)) ea l) true none,.a (eP [qe]) true none,.a (fS kk (.b (bs+5) 0 1 (.a 0)) ea l) true none,.a [.a .u8 k,sl,.a .u8 e0,.a .u8 e1,.a .u8 b] true none],[]⟩)
def rY(k b:Int)(all ea la:Bool)(F:List AV->Bool->Prop):Prop:=xl k all (af .u8 (υ b 2)=true) ((ea->(la->ea/\F (dp [pQ [qe] 0]) false)/\(la=false->ea/\F (dp [pQ [qe] 0]) false))/\(ea=false->(la->ea=false/\F (dp [pQ [qe] 0]) la)/\(la=false->ea=false/\F (dp [abu all qe]) la)))
section
variable(w:List AV)(c:Nat)(k e0 e1 b:Int){Q:EQ->Prop}
theorem P1:∀all,∃D,gG Q (bT TU jE [] 6 [kE k e0 e1 b .d]) D=rY k b all (aa (ξ b 2) 1) (aa (ξ (υ b 2) 2) 1) λI l=>Q (fY all (bif all then 4 else 3) (aa (ξ b 2) 1) 14 .d k e0 e1 b I l)
 | false=>⟨bE 10666635106666356640100666625100666625664066400666635253380005,by kernel_rfl⟩
 | true=>⟨bE 106666351066663566401006666251006666256640664000666625253380005,by kernel_rfl⟩
theorem P3:∀all,∃D,gG Q (bT TU jE [.a w false none] 6 [kE k e0 e1 b (.b 14 0 0 (.b c))]) D=rY k b all (aa (ξ b 2) 1) (aa (ξ (υ b 2) 2) 1) λI l=>Q (fY all (bif all then 4 else 3) (aa (ξ b 2) 1) 15 (.b 14 0 0 (.b c)) k e0 e1 b I l)
 | false=>⟨bE 10666635106666356640100666625100666625664066400666635253380005,by kernel_rfl⟩
 | true=>⟨bE 106666351066663566401006666251006666256640664000666625253380005,by kernel_rfl⟩
end
theorem IO{e0 b:Int}(hk:0<=k)(hb:0<=b/\b<=255)(hw:∀x∈ws,cR 14 x)(h4:5<=k%8)(h7:aa (k%8) 7=all)(hD:∀Q,∃D,gG Q (bT TU jE ws 6 [kE k e0 e1 b sl]) D=rY k b all (aa (ξ b 2) 1) (aa (ξ (υ b 2) 2) 1) λI l=>Q (fY all (bif all then 4 else 3) (aa (ξ b 2) 1) (14+ws.length) sl k e0 e1 b I l)):bu Tryz.prog cfg 6 [kE k e0 e1 b sl] ws (.g (fS (bif all then 4 else 3) (.b (14+ws.length) 0 1 (.a 0)) (aa (b%2) 1) (aa (b/2%2) 1&&!(aa (b%2) 1)))) [.a (dp (adz all (aa (b%2) 1) (aa (b/2%2) 1&&!(aa (b%2) 1)) [qe])) true (some 21)]:=by
 refine af6 adQ (L:=jE) adE (by simp) ai hD λQ' hQ=>?_;have t8:ξ k 8=k%8:=ο hk;have t2:υ b 2=b/2:=Int.tdiv_eq_ediv_of_nonneg hb.1;have t3:ξ b 2=b%2:=ο hb.1;have t4:ξ (b/2) 2=b/2%2:=ο (by omega);have ne:∀j:Int,j<=4->aa (k%8) j=false:=λj hj=>aw.mpr (by omega);unfold rY xl;rw[t8,t2,t3,t4];refine⟨ne 0 (by decide),ne 1 (by decide),ne 2 (by decide),ne 3 (by decide),ne 4 (by decide),aai (by omega),h7,?_⟩;have go:∀(ea l l':Bool) (I:List It),l=l'->dL ws (.g (fS (bif all then 4 else 3) (.b (14+ws.length) 0 1 (.a 0)) ea l')) [.a (dp I) true (some 21)] (fY all (bif all then 4 else 3) ea (14+ws.length) sl k e0 e1 b (dp I) l):=λea l l' I hl=>by
  subst hl;refine dL.at (k:=5) hw rfl (Nat.lt_succ_self 5) rfl aan ?_;have:To (14+ws.length) [(14+ws.length+5,14+ws.length)] (14+ws.length+5)=some (14+ws.length):=by
   grind [To,aU,xx,gm]
  simp only[fS,kG,yw,this,ob]
 cases he:aa (b%2) 1<;>cases hl:aa (b/2%2) 1<;>rw[he,hl]at hQ<;>simp only[true_imp_iff,reduceCtorEq,false_imp_iff,and_true,true_and]<;>exact hQ _ (go _ _ _ _ rfl)
end Go.Ev
end
section
namespace Go.Ev
open Go Go.RowKit
variable{C:bg}
def Ci(P:Program)(cfg:cL)(f:FuncId)(C:bg)(args:List AV)(o:aB)(r:AV×aB):Prop:=
 (∀D m w,dX cfg D m C o w->fM D m args->jV P f (ap m args).toArray w λV w'=>∃D' m',V=aj m' r.1/\dh D' m' r.1/\dw cfg C D m o w D' m' r.2 w'/\(cI args (cfg.b0 f)=[]->aa9 D w D' m' w'))/\(o.os.length=o.n->fh C o r.2 (cI args (cfg.b0 f)))
noncomputable def okC(P:Program)(cfg:cL)(f:FuncId)(C:bg)(args:List AV)(o:aB)(r:AV×aB):Bool:=@decide _ (Classical.propDecidable (Ci P cfg f C args o r))
theorem aa3{P:Program}{cfg:cL}{f:FuncId}{args:List AV}{o:aB}{r:AV×aB}:okC P cfg f C args o r=true↔Ci P cfg f C args o r:=@decide_eq_true_iff _ (Classical.propDecidable _)
section
variable{cfg:cL}
theorem abR{P:Program}{f:FuncId}{szs:List Nat}{o:aB}{args args':List AV}{q:Aq}{v v':AV}{news news':List cD}(hK:qX cfg)(hRO:∀id,id<cfg.a0.n->Ep (cfg.a0.at id)=false)(hcan:nC (nX cfg.a0.n C o 20) args ⟨szs,[],true⟩=some (args',q))(hq:q.ok)(hfact:bu P cfg f args' q.ws v news)(hmv:kG cfg.a0.n (VV (cfg.a0.n+q.ws.length) (C.lo+o.n) news.length) 20 v=some v')(hlen:news'.length=news.length)(hnew:∀j,j<news.length->WD cfg.a0.n (VV (cfg.a0.n+q.ws.length) (C.lo+o.n) news.length) ((⟨news.length,news,[]⟩:aB).at j) ((⟨news'.length,news',[]⟩:aB).at j)):Ci P cfg f C args o (v',⟨news'.length+o.n,news'++o.os,o.le⟩):=by
 refine⟨λD m w hi hok=>?_,λhl=>?_⟩
 . have hW0:M0 cfg.a0.n D m w [] []:=⟨rfl,λj x l hj=>by simp⟩;obtain⟨L',_,hL,hS⟩:=Bo hi (d:=20) (λ{v q v' q'}=>BW hi) hcan hok hq [] hW0;have hS:=hS [];simp only[List.nil_append,List.append_nil]at hL hS;obtain⟨hc,hok'⟩:=hS;rw[<-hc];refine(hfact _ _ w (Lk hK hRO hi hL) hok').a0 ?_;rintro V w' ⟨D',m',rfl,hv',hx⟩;have hlo:=hi.lo;have hframe:∀k,k<w.heap.size->w'.heap[k]? = w.heap[k]? := λk hk=>hx.f0 k hk λi hd ho=>by
    exfalso;have hlt:i<cfg.a0.n+q.ws.length:=by
     rcases hd with⟨h1,_⟩|⟨_,h2⟩
     . omega
     . rw[<-hL.1];omega
    grind [dQ,jT,Cw,fp]
   have hfresh:∀i,D' i->¬DL cfg.a0.n D L' i->w.heap.size<=(m' i).a0:=λi hd hn=>(hx.e0 i hd hn).resolve_right λ⟨j,hj,ho,_⟩=>by
    have hlt:j<cfg.a0.n+q.ws.length:=by
     rcases hj with⟨h1,_⟩|⟨_,h2⟩
     . omega
     . rw[<-hL.1];omega
    grind [dQ,jT,Cw,fp]
   obtain⟨D2,hD2⟩:∃D2:Nat->Prop,D2=λid=>D id\/∃j,j<news.length/\id=C.lo+o.n+j/\D' (cfg.a0.n+q.ws.length+j):=⟨_,rfl⟩;obtain⟨m2,hm2⟩:∃m2:Nat->bv,m2=λid=>if id<C.lo+o.n then m id else m' (cfg.a0.n+q.ws.length+(id-(C.lo+o.n))):=⟨_,rfl⟩
   have m2low:∀i,i<C.lo+o.n->m2 i=m i:=λi h=>by grind
   have m2new:∀j,m2 (C.lo+o.n+j)=m' (cfg.a0.n+q.ws.length+j):=λj=>by
    grind
   have hd'low:∀i,D' i->i<cfg.a0.n->D i/\m' i=m i:=λi hd h=>by
    rcases hx.l0 i hd with h1|h1
    . have:=hx.a0 i h1;rcases h1 with⟨_,h2⟩|⟨h2,_⟩<;>grind [oI]
    grind [Cw]
   have mvok:Fl cfg.a0.n (VV (cfg.a0.n+q.ws.length) (C.lo+o.n) news.length) D' D2 m' m2:=by
    refine⟨λi hd h=>?_,λi j hl hd=>?_⟩<;>grind [C7]
   obtain⟨hcv,hokv⟩:=tG mvok hmv hv';have gold:∀i,i<C.lo+o.n->fB C ⟨news'.length+o.n,news'++o.os,o.le⟩ i=fB C o i:=λi h=>ta (o1:=⟨news'.length,news',[]⟩) (o:=o) rfl h;have gnew:∀j,j<news.length->fB C ⟨news'.length+o.n,news'++o.os,o.le⟩ (C.lo+o.n+j)=(⟨news'.length,news',[]⟩:aB).at j:=λj h=>by
    have:=AE (C:=C) (o1:=⟨news'.length,news',[]⟩) (o:=o) (i:=C.lo+o.n+j) rfl (by omega) (by grind);rw[show C.lo+o.n+j-(C.lo+o.n)=j by omega]at this;exact this
   have hold:∀i,D i->i<C.lo+o.n:=hi.lt;have hinv:dX cfg D2 m2 C ⟨news'.length+o.n,news'++o.os,o.le⟩ w':=by
    have hi':dX cfg D m C o w':=hi.d0 λj hj hlv=>hframe _ ((hi.a0 j hj).a0 hlv);refine⟨λid hd=>?_,λi j hdi hdj hij hl hr=>?_,λid hd=>?_,λg hg=>?_,λid hid=>?_,λid hid=>hi.le id hid,hi.lo,by simp[hi.e0]⟩
    . rw[hD2]at hd;rcases hd with hd|⟨j,hj,rfl,hd⟩
      . rw[gold id (hold id hd),m2low id (hold id hd)];exact(hi'.a0 id hd).b0 (λi h=>by grind) λi h=>m2low i (hold i h)
      . rw[gnew j hj,m2new];have:=hx.b0.a0 _ hd;rw[(oR (cfg:=cfg) (id:=0) rfl).2.2 j]at this;grind [OP]
    . rw[hD2]at hdi hdj;have isnew:∀j,j<news.length->D' (cfg.a0.n+q.ws.length+j)->w.heap.size<=(m' (cfg.a0.n+q.ws.length+j)).a0:=λj hj hd=>hfresh _ hd λh=>by
       rcases h with⟨h1,_⟩|⟨_,h2⟩
       . omega
       . rw[hL.1]at h2;omega
      rcases hdi with hdi|⟨a,ha,rfl,hdi⟩<;>rcases hdj with hdj|⟨b,hb,rfl,hdj⟩
      . rw[gold i (hold i hdi)]at hl;rw[gold j (hold j hdj)]at hr;rw[m2low i (hold i hdi),m2low j (hold j hdj)];exact hi.inj i j hdi hdj hij hl hr
      . rw[gold i (hold i hdi)]at hl;rw[m2low i (hold i hdi),m2new];have h1:=(hi.a0 i hdi).a0 hl;grind
      . rw[gold j (hold j hdj)]at hr;rw[m2low j (hold j hdj),m2new];have h1:=(hi.a0 j hdj).a0 (mY hr);grind
      . rw[gnew a ha,(Lq (hnew a ha)).1]at hl;rw[gnew b hb,(Lq (hnew b hb)).2]at hr;rw[m2new,m2new];refine hx.b0.inj _ _ hdi hdj (by omega) ?_ ?_
        . rw[(oR (cfg:=cfg) (id:=0) rfl).2.2 a];omega
        . rw[(oR (cfg:=cfg) (id:=0) rfl).2.2 b];omega
    . grind
    . obtain⟨a1,a2,a3⟩:=hi.c0 g hg;grind
    . obtain⟨a1,a2⟩:=hi.b0 id hid;grind
   have hfr2:∀i,D2 i->¬D i->w.heap.size<=(m2 i).a0:=λi h hn=>by
    rw[hD2]at h;rcases h with h|⟨j,hj,rfl,hd⟩
    . exact absurd h hn
    . rw[m2new];refine hfresh _ hd λh=>?_;rcases h with⟨h1,_⟩|⟨_,h2⟩
      . omega
      . rw[hL.1]at h2;omega
   refine⟨D2,m2,hcv.symm,hokv,⟨hinv,λi h=>by rw[hD2];exact .inl h,λi h=>m2low i (hold i h),λi h=>?_,by simp only;omega,hx.os,hx.j0,hx.c0,hx.i0,λk hk _=>hframe k hk,rfl,λi h hn=>.inl (hfr2 i h hn)⟩,λ_=>⟨hframe,hfr2⟩⟩;rw[hD2]at h;rcases h with h|⟨j,hj,rfl,_⟩
   . exact .inl h
   . exact .inr (by omega)
 . exact fh.f0 (o1:=⟨news'.length,news',[]⟩) hl rfl
end
end Go.Ev
end
