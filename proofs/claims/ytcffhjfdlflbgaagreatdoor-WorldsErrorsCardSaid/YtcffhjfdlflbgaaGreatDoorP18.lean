import Derived.Test.YtcffhjfdlflbgaaGreatDoorP17
set_option linter.all false
open Int renaming ofNat->ν,add->ο
open List renaming pairwise_lt_range->ξ,range->π
open Prod renaming snd->ς
set_option linter.all false
set_option maxRecDepth 100000
set_option maxHeartbeats 4000000
namespace Go.Ev
open Go Go.Proofs
variable{c0 c1 c2 c3:UInt8}{n:Int}{v:AV}
def mt(c:UInt8)(k:Int):Prop:=c.toNat=88\/(c.toNat:Int)=48+k
instance (c:UInt8) (k:Int):Decidable (mt c k):=by unfold mt;infer_instance
def nS(c0 c1 c2 c3:UInt8)(k:Int):Prop:=0<=k/\k<=9999/\mt c0 (k/1000)/\mt c1 (k/100%10)/\mt c2 (k/10%10)/\mt c3 (k%10)
instance (c0 c1 c2 c3:UInt8) (k:Int):Decidable (nS c0 c1 c2 c3 k):=by unfold nS;infer_instance
def c_(c0 c1 c2 c3:UInt8)(n:Int):Option Int:=((π 10000).map ν).find? λk=>decide (n<=k)&&decide (nS c0 c1 c2 c3 k)
def cV(c0 c1 c2 c3:UInt8)(n:Int):Option Int:=((π 10000).map λi=>9999-ν i).find? λk=>decide (k<=n)&&decide (nS c0 c1 c2 c3 k)
theorem nJ:c_ c0 c1 c2 c3 n=none↔∀k,nS c0 c1 c2 c3 k->k<n:=by
 unfold c_;rw[List.find?_eq_none];constructor
 . intro h k hk;have:=h k (List.mem_map.2 ⟨k.toNat,List.mem_range.2 (by have:=hk.2.1;omega),Int.toNat_of_nonneg hk.1⟩);grind
 grind
theorem gF{v:Int}:c_ c0 c1 c2 c3 n=some v↔nS c0 c1 c2 c3 v/\n<=v/\∀k,nS c0 c1 c2 c3 k->n<=k->v<=k:=by
 unfold c_;have inc:∀(l:List Nat),l.Pairwise (· < ·)->∀(p:Int->Bool) (v:Int),(l.map ν).find? p=some v->p v/\v∈l.map ν/\∀k∈l.map ν,p k->v<=k:=by
  intro l hl p;induction l<;>grind [List.pairwise_cons]
 have mem:∀k,nS c0 c1 c2 c3 k->k∈(π 10000).map ν:=λk hk=>List.mem_map.2 ⟨k.toNat,List.mem_range.2 (by have:=hk.2.1;omega),Int.toNat_of_nonneg hk.1⟩;constructor
 . grind [ξ]
 . rintro⟨h1,h2,h3⟩;cases hf:((π 10000).map ν).find? (λk=>decide (n<=k)&&decide (nS c0 c1 c2 c3 k))<;>grind [ξ]
theorem nu:cV c0 c1 c2 c3 n=none↔∀k,nS c0 c1 c2 c3 k->n<k:=by
 unfold cV;rw[List.find?_eq_none];constructor
 . intro h k hk;have:=h k (List.mem_map.2 ⟨(9999-k).toNat,List.mem_range.2 (by have:=hk.1;omega),by have:=hk.2.1;grind⟩);grind
 grind
theorem pw{k0 k1 k2 k3:Int}(h0:0<=k0/\k0<=9)(h1:0<=k1/\k1<=9)(h2:0<=k2/\k2<=9)(h3:0<=k3/\k3<=9):nS c0 c1 c2 c3 (1000*k0+100*k1+10*k2+k3)↔mt c0 k0/\mt c1 k1/\mt c2 k2/\mt c3 k3:=by
 grind [nS]
theorem abJ{k:Int}(h:nS c0 c1 c2 c3 k):∃k0 k1 k2 k3:Int,(0<=k0/\k0<=9)/\(0<=k1/\k1<=9)/\(0<=k2/\k2<=9)/\(0<=k3/\k3<=9)/\k=1000*k0+100*k1+10*k2+k3/\mt c0 k0/\mt c1 k1/\mt c2 k2/\mt c3 k3:=by
 obtain⟨h1,h2,h3⟩:=h;exact⟨k/1000,k/100%10,k/10%10,k%10,by omega,by omega,by omega,by omega,by omega,h3⟩
def fC(c:UInt8):Bool:=Nat.beq c.toNat 88 || (Nat.ble 48 c.toNat&&Nat.ble c.toNat 57)
theorem dD{c:UInt8}:fC c=true↔c.toNat=88\/48<=c.toNat/\c.toNat<=57:=by
 unfold fC;simp
def za(x:Option Int):Bool:=x.isSome
def kp(x:Option Int):Int:=x.getD 0
def Et(x:Option Int):Tr AV:=.d0 (za x) λb=>bif b then .a0 (.d [.a .i64 (kp x),.a .i64 0])else .a0 (.d [.a .i64 0,.a .i64 16])
theorem PG(hn:0<=n/\n<=9999)(hc0:c0.toNat=88\/48<=c0.toNat/\c0.toNat<=57)(hc1:c1.toNat=88\/48<=c1.toNat/\c1.toNat<=57)(hc2:c2.toNat=88\/48<=c2.toNat/\c2.toNat<=57)(hc3:c3.toNat=88\/48<=c3.toNat/\c3.toNat<=57)(hv:(Et (c_ c0 c1 c2 c3 n)).b0=some v):bu Tryz.prog cfg 219 [.e [c0,c1,c2,c3],.a .i64 n,.b true] [] v []:=by
 obtain⟨d0,d1,d2,d3⟩:=Yj hn.1;have hv':Tr.b0 (bif za (c_ c0 c1 c2 c3 n)then .a0 (.d [.a .i64 (kp (c_ c0 c1 c2 c3 n)),.a .i64 0])else .a0 (.d [.a .i64 0,.a .i64 16]))=some v:=hv;have ids:aC v=[]:=by
  cases hb:za (c_ c0 c1 c2 c3 n)<;>rw[hb]at hv'<;>cases hv'<;>simp[aC,bw]
 have g0:0<=dg n 0/\dg n 0<=9:=δ
 have g1:0<=dg n 1/\dg n 1<=9:=δ
 have g2:0<=dg n 2/\dg n 2<=9:=δ
 have g3:0<=dg n 3/\dg n 3<=9:=δ
 have hn2:n=1000*dg n 0+100*dg n 1+10*dg n 2+dg n 3:=δ
 refine jD L0 ai (bE 10662088127000663551001200200066300062000620006254702002251202200066300062000625470200225127000663000625470200225400515564030202002200224062088127000661070056646355100122020006610202005664630006200062547020022512700066107005664630006254702002254005106620881270006635510012202000663630006200062547020022512700066363000625470200220588540051556403020200220022455403020200220022406208812700066107005664612022000661002200566400064635510012700066107005664612022000661002200566400064630006254702002254005106620881270006635510012022000663000626300062547020022058851270006630006254702002254005155640302020022002240620881270006610700566463551001270006610700566463630006254702002205885400510662088127000663551001270006636363000625470200220588058854005155640302020022002245540302020022002245540302020022002240620881270006610700566461202200066100220056640006461220200066102020056646120020006610002005664000640006463551004005106620881270006635510008851202200066300062000625470200225127000663000625470200225400515564030202002200224062088127000661070056646355100088512700066107005664630006254702002254005106620881270006635510008851270006636300062547020022058854005155640302020022002245540302020022002240620881270006610700566461202200066100220056640006463551000885400510662088127000663551000880588512700066300062547020022540051556403020200220022406208812700066107005664635510008805885400510662088127000663551000880588058854005155640302020022002245540302020022002245540302020022002245540302020022002246662200) (R:=λQ=>(λ(I:AV)(P T U V u2 u5 ug uF:Int)=>(λ(B C F W Z u0 u3 u4 u7 u8 u9 un uo up ur ux uz uG uH uJ uK:Bool)(u6 um uq:Int)(uy uI:Prop)=>(λ(A H Y ua uh ui uA uB:Bool)(E G O ub uc ud uj us ut uu uL:Prop)=>(λ(N u1 ue uk ul uv uw uC uM uN uO uP uQ uR:Prop)=>(λ(uf uD uE uS uT uU:Prop)=>(λ(v5:Prop->Prop->Prop)=>(λ(v4:Prop->Prop)=>(λ(v3:Prop->Prop)=>(λ(v2:Prop->Prop)=>(λ(v1:Prop->Prop)=>(λ(v0:Prop->Prop)=>(λ(uZ:Prop->Prop)=>(λ(uY:Prop->Prop)=>(λ(uX:Prop->Prop)=>(λ(uW:Prop->Prop)=>(λ(uV:Prop->Prop)=>ab 0 n/\ab n 9999/\(ua->v5 ua (ub/\(uG->(Y->v4 ((ux->(H->uY ((un->(A->uV (ud->(u7->v5 E uD)/\ue))/\uf)/\(us->(uo->uD)/\uv)))/\(N->uZ ((A->uV (ud->(u7->uX (ut->uD))/\ue))/\uf)))/\(uL->(uz->uC)/\uM)))/\(u1->v3 ((H->uY ((un->(A->uV (ud->(u7->v0 uE)/\ue))/\uf)/\(us->(uo->v1 (v1 (uT/\uE)))/\uv)))/\(N->uZ ((A->uV (ud->(u7->uX (ut->v1 (v1 (uO/\uE))))/\ue))/\uf)))))/\(uG=false->(uK->uy)/\(uK=false->ub/\(C->(F->(Z->u8/\Q (.d [.a .i64 (db u2 48 48 48),I]))/\(O->u8/\W/\Q (.d [.a .i64 (db u2 48 48 P),I])))/\(E->(Z->u8/\u0/\Q (.d [.a .i64 (db u2 48 T 48),I]))/\(O->u8/\u0/\W/\Q (.d [.a .i64 (db u2 48 T P),I]))))/\(G->(F->(Z->u8/\u3/\Q (.d [.a .i64 (db u2 V 48 48),I]))/\(O->u8/\u3/\W/\Q (.d [.a .i64 (db u2 V 48 P),I])))/\(E->(Z->u8/\u3/\u0/\Q (.d [.a .i64 (db u2 V T 48),I]))/\(O->u8/\u3/\u0/\W/\Q (.d [.a .i64 (db u2 V T P),I]))))))))/\(ul->v5 ul (B/\(Y->v4 ((ux->(H->uY ((un->(A->uV (ud->(u7->v5 E (uW ((u9->uh/\G/\E/\O/\uP)/\uj)))/\ue))/\uf)/\(us->(uo->uW ((u9->uh/\G/\E/\uU)/\uj))/\uv)))/\(N->uZ ((A->uV (ud->(u7->uX (ut->uW ((u9->uh/\G/\F/\O/\uQ)/\uj)))/\ue))/\uf)))/\(uL->(uz->v2 (v2 ((u9->uh/\G/\(F->(Z->ui/\u3/\Q (.d [.a .i64 (db u6 V 48 48),I]))/\(O->uQ))/\(E->uU))/\uj)))/\uM)))/\(u1->v3 ((H->uY ((un->(A->uV (ud->(u7->v0 (uu->v2 (v2 ((u9->uh/\C/\E/\O/\uR)/\uj))))/\ue))/\uf)/\(us->(uo->v1 (v1 (uT/\(uu->v2 (v2 ((u9->uh/\C/\E/\(Z->ui/\u0/\Q (.d [.a .i64 (db u6 48 T 48),I]))/\(O->uR))/\uj))))))/\uv)))/\(N->uZ ((A->uV (ud->(u7->uX (ut->v1 (v1 (uO/\(uu->v2 (v2 ((u9->uh/\C/\F/\O/\ui/\W/\Q (.d [.a .i64 (db u6 48 48 P),I]))/\uj)))))))/\ue))/\uf))))))) (λv6=>v5 A (O/\uc/\v6))) (λv6=>v5 G (v2 (v2 v6)))) (λv6=>v5 F (uw/\v6))) (λv6=>v5 H (E/\v6))) (λv6=>v5 N (F/\v6))) (λv6=>v5 E (v1 (v1 (uS/\v6))))) (λv6=>C/\C/\C/\v6)) (λv6=>B/\B/\B/\v6)) (λv6=>v5 u1 (C/\v6))) (λv6=>v5 Y (G/\v6))) (λv6 v7=>v6/\v6/\v6/\v6/\v6/\v6/\v7)) (uk->uk/\uk/\uk/\uk/\uk/\uk/\Z/\uI) (G/\G/\G/\G/\G/\G/\uC) (uu->uC) (ur->uA/\E/\O/\uN) (ur->uA/\E/\(Z->u4/\uB/\u0/\Q (.d [.a .i64 (db U um T 48),I]))/\(O->uN)) ((Z->ui/\u3/\u0/\Q (.d [.a .i64 (db u6 V T 48),I]))/\(O->uP))) (H=false) (Y=false) (u7=false->O/\u4/\up/\and (ab 48 ug) (ab ug 57)/\W/\Q (.d [.a .i64 (db U u5 ug P),I])) (A=false) (ua=false) (uo=false->E/\(Z->u4/\up/\u0/\Q (.d [.a .i64 (db U u5 T 48),I]))/\(O->u4/\up/\u0/\W/\Q (.d [.a .i64 (db U u5 T P),I]))) (uJ->af .u8 uq/\O/\u4/\up/\and (ab 48 uq) (ab uq 57)/\W/\Q (.d [.a .i64 (db U u5 uq P),I])) (ub/\ub/\ub/\ub/\ub/\ub/\uy) (uz=false->G/\(F->(Z->u4/\u3/\Q (.d [.a .i64 (db U V 48 48),I]))/\(O->u4/\u3/\W/\Q (.d [.a .i64 (db U V 48 P),I])))/\(E->(Z->u4/\u3/\u0/\Q (.d [.a .i64 (db U V T 48),I]))/\(O->u4/\u3/\u0/\W/\Q (.d [.a .i64 (db U V T P),I])))) (u4/\uB/\u0/\W/\Q (.d [.a .i64 (db U um T P),I])) (ur->uA/\F/\O/\u4/\uB/\W/\Q (.d [.a .i64 (db U um 48 P),I])) (ui/\u3/\u0/\W/\Q (.d [.a .i64 (db u6 V T P),I])) (ui/\u3/\W/\Q (.d [.a .i64 (db u6 V 48 P),I])) (ui/\u0/\W/\Q (.d [.a .i64 (db u6 48 T P),I]))) (not Z) (not F) (not C) (not B) (af .u8 u6) (and (ab 48 u6) (ab u6 57)) (af .u8 um) (and (ab 48 um) (ab um 57)) (F=false) (C=false) (Z=false) (B=false) (uH->uI) (uH=false) (u9=false->uy) (un=false) (uJ=false) (ur=false) (ux=false)) (aa u2 88) (aa V 88) (aa T 88) (and (ab 48 P) (ab P 57)) (aa P 88) (and (ab 48 T) (ab T 57)) (and (ab 48 V) (ab V 57)) (and (ab 48 U) (ab U 57)) (not (bQ (not (ab P uF)) true)) (and (ab 48 u2) (ab u2 57)) (not (aa U 57)) (aa T ug) (not (bQ (not (ab T ug)) true)) (and (ab 48 u5) (ab u5 57)) (not (aa u5 57)) (aa V u5) (not (bQ (not (ab V u5)) true)) (aa u2 U) (aa P uF) (not (aa ug 57)) (not (bQ (not (ab u2 U)) true)) (ο U 1) (ο u5 1) (ο ug 1) (Q (.d [I,.a .i64 16])) (Q (.d [.a .i64 n,I]))) (.a .i64 0) (ν c3.toNat) (ν c2.toNat) (ο 48 (dg n 0)) (ν c1.toNat) (ν c0.toNat) (ο 48 (dg n 1)) (ο 48 (dg n 2)) (ο 48 (dg n 3))) (λ_=>by kernel_rfl) (hi:=ids) λQ' hQ=>?_;try dsimp only
 have yes:∀u,c_ c0 c1 c2 c3 n=some u->Q' (.d [.a .i64 u,.a .i64 0]):=λu hu=>by
  rw[hu]at hv';cases hv';exact hQ _ rfl
 have no:c_ c0 c1 c2 c3 n=none->Q' (.d [.a .i64 0,.a .i64 16]):=λhu=>by
  rw[hu]at hv';cases hv';grind
 generalize dg n 0=e0 at *;generalize dg n 1=e1 at *;generalize dg n 2=e2 at *;generalize dg n 3=e3 at *;clear d0 d1 d2 d3 hv hv' hQ ids;have all:∀(a b c d:Int),(48<=a/\a<=57)->(48<=b/\b<=57)->(48<=c/\c<=57)->(48<=d/\d<=57)->(c0.toNat=88\/(c0.toNat:Int)=a)->(c1.toNat=88\/(c1.toNat:Int)=b)->(c2.toNat=88\/(c2.toNat:Int)=c)->(c3.toNat=88\/(c3.toNat:Int)=d)->
  1000*e0+100*e1+10*e2+e3<=1000*(a-48)+100*(b-48)+10*(c-48)+(d-48)->
  (∀k0 k1 k2 k3:Int,(0<=k0/\k0<=9)->(0<=k1/\k1<=9)->(0<=k2/\k2<=9)->(0<=k3/\k3<=9)->(c0.toNat=88\/(c0.toNat:Int)=48+k0)->(c1.toNat=88\/(c1.toNat:Int)=48+k1)->(c2.toNat=88\/(c2.toNat:Int)=48+k2)->(c3.toNat=88\/(c3.toNat:Int)=48+k3)->
    1000*e0+100*e1+10*e2+e3<=1000*k0+100*k1+10*k2+k3->1000*(a-48)+100*(b-48)+10*(c-48)+(d-48)<=1000*k0+100*k1+10*k2+k3)->Q' (.d [.a .i64 (db a b c d),.a .i64 0]):=by
  intro a b c d ha hb hc hd m0 m1 m2 m3 hle hmin;refine yes _ (gF.2 ⟨?_,?_,λk hk hnk=>?_⟩)
  . unfold db;rw[pw δ δ δ δ];unfold mt;exact⟨by omega,by omega,by omega,by omega⟩
  . unfold db;omega
  . obtain⟨k0,k1,k2,k3,a1,a2,a3,a4,rfl,b1,b2,b3,b4⟩:=abJ hk;unfold db;exact hmin k0 k1 k2 k3 a1 a2 a3 a4 b1 b2 b3 b4 δ
 have same:(c0.toNat=88\/(c0.toNat:Int)=48+e0)->(c1.toNat=88\/(c1.toNat:Int)=48+e1)->(c2.toNat=88\/(c2.toNat:Int)=48+e2)->(c3.toNat=88\/(c3.toNat:Int)=48+e3)->Q' (.d [.a .i64 n,.a .i64 0]):=λm0 m1 m2 m3=>by
  refine yes _ (gF.2 ⟨?_,Int.le_refl _,λk hk hnk=>hnk⟩);rw[hn2,pw g0 g1 g2 g3];exact⟨m0,m1,m2,m3⟩
 have non:(∀k0 k1 k2 k3:Int,(0<=k0/\k0<=9)->(0<=k1/\k1<=9)->(0<=k2/\k2<=9)->(0<=k3/\k3<=9)->(c0.toNat=88\/(c0.toNat:Int)=48+k0)->(c1.toNat=88\/(c1.toNat:Int)=48+k1)->(c2.toNat=88\/(c2.toNat:Int)=48+k2)->(c3.toNat=88\/(c3.toNat:Int)=48+k3)->
       1000*k0+100*k1+10*k2+k3<1000*e0+100*e1+10*e2+e3)->Q' (.d [.a .i64 0,.a .i64 16]):=λh=>by
  refine no (nJ.2 λk hk=>?_);obtain⟨k0,k1,k2,k3,a1,a2,a3,a4,rfl,b1,b2,b3,b4⟩:=abJ hk;have:=h k0 k1 k2 k3 a1 a2 a3 a4 b1 b2 b3 b4;omega
 clear yes no;simp only[az,reduceCtorEq]
 (repeat' first|exact trivial|refine⟨?_,?_⟩|intro)<;>first|omega|(refine same ?_ ?_ ?_ ?_<;>omega)|(refine all _ _ _ _ ?_ ?_ ?_ ?_ ?_ ?_ ?_ ?_ ?_ ?_<;>(intros;omega))|(refine non ?_;intros;omega)
def anI:dP:=λ
 | [.e [c0,c1,c2,c3],.a .i64 n,.b true]=>some (aH [fC c0,fC c1,fC c2,fC c3,ab 0 n,ab n 9999] (Et (c_ c0 c1 c2 c3 n)))
 | _=>none
def XJ:dP:=λ
 | [.e [c0,c1,c2,c3]]=>some (aH [fC c0,fC c1,fC c2,fC c3] (.a0 (.a .i64 0)))
 | _=>none
def lL(c:UInt8)(x:Int):Int:=(bif Nat.beq c.toNat 88 then x else(c.toNat:Int))-48
def gu(c0 c1 c2 c3:UInt8)(x:Int):Int:=1000*lL c0 x+100*lL c1 x+10*lL c2 x+lL c3 x
def WF:dP:=λ
 | [.e [c0,c1,c2,c3],.a .u8 x]=>some (aH [fC c0,fC c1,fC c2,fC c3,SH x] (.a0 (.a .i64 (gu c0 c1 c2 c3 x))))
 | _=>none
def U3:aQ:=aK (aK (aK U2 219 anI) 216 XJ) 217 WF
def Ub:dP:=λ
 | [.e [c0,c1,c2,c3],.a .i64 n]=>some (aH [fC c0,fC c1,fC c2,fC c3] (Et (c_ c0 c1 c2 c3 n)))
 | _=>none
def U4:aQ:=aK U3 139 Ub
theorem OJ:aY tab 216=some (dH 216,aL 216):=κ
theorem M6:aY tab 217=some (dH 217,aL 217):=κ
theorem JR(h0:fC c0)(h1:fC c1)(h2:fC c2)(h3:fC c3):∀(i:Nat) (h:i<(ByteArray.mk ⟨[c0,c1,c2,c3]⟩).size),Go.Proofs.YtcffhjfdlflbgaaGreatDoor.mb (ByteArray.mk ⟨[c0,c1,c2,c3]⟩)[i]:=by
 intro i h;rw[dD]at h0 h1 h2 h3;have hs:(ByteArray.mk ⟨[c0,c1,c2,c3]⟩).size=4:=rfl;have:i=0\/i=1\/i=2\/i=3:=δ
 rcases this with rfl|rfl|rfl|rfl
 . exact h0
 . exact h1
 . exact h2
 . exact h3
theorem Pv:ak Tryz.prog cfg U3:=by
 refine au (au (au L0 λargs t v he hv=>?_) λargs t v he hv=>?_) λargs t v he hv=>?_
 . unfold anI at he;split at he
   . cases he;obtain⟨⟨h0,h1,h2,h3,h4,h5,-⟩,hv⟩:=aF hv;grind [aq,PG,dD]
   grind
 . unfold XJ at he;split at he
   . rename_i c0 c1 c2 c3;cases he;obtain⟨⟨h0,h1,h2,h3,-⟩,hv⟩:=aF hv;cases hv;refine dy OJ κ λm w hG=>?_;have:=Go.Proofs.YtcffhjfdlflbgaaGreatDoor.masks_Check ⟨⟨[c0,c1,c2,c3]⟩⟩ w (by show 1<=4;decide) (by show 4<=18;decide) (JR h0 h1 h2 h3);grind [aD,aj]
   grind
 . unfold WF at he;split at he
   . rename_i c0 c1 c2 c3 x;cases he;obtain⟨⟨h0,h1,h2,h3,h4,-⟩,hv⟩:=aF hv;unfold SH at h4;rw[zAa,aq,aq]at h4;cases hv;refine dy M6 κ λm w hG=>?_;have:=Go.Proofs.YtcffhjfdlflbgaaGreatDoor.masks_filled ⟨⟨[c0,c1,c2,c3]⟩⟩ x w h4 (by show 4<=18;decide) (JR h0 h1 h2 h3);grind [Go.Proofs.YtcffhjfdlflbgaaGreatDoor.fillv,gu,Go.Proofs.YtcffhjfdlflbgaaGreatDoor.dig,lL,rY,ic,aD,aj]
   grind
theorem Iv(h0:fC c0)(h1:fC c1)(h2:fC c2)(h3:fC c3)(hn:n<=0):c_ c0 c1 c2 c3 n=some (gu c0 c1 c2 c3 48):=by
 rw[dD]at h0 h1 h2 h3;have ed:∀c:UInt8,(c.toNat=88\/48<=c.toNat/\c.toNat<=57)->0<=lL c 48/\lL c 48<=9/\mt c (lL c 48)/\∀k,mt c k->0<=k->lL c 48<=k:=λc h=>by
  grind [lL,mt,rY,ic]
 obtain⟨a0,b0,m0,l0⟩:=ed c0 h0;obtain⟨a1,b1,m1,l1⟩:=ed c1 h1;obtain⟨a2,b2,m2,l2⟩:=ed c2 h2;obtain⟨a3,b3,m3,l3⟩:=ed c3 h3;rw[gF];unfold gu;refine⟨(pw ⟨a0,b0⟩ ⟨a1,b1⟩ ⟨a2,b2⟩ ⟨a3,b3⟩).2 ⟨m0,m1,m2,m3⟩,by omega,λk hk _=>?_⟩;obtain⟨k0,k1,k2,k3,x0,x1,x2,x3,rfl,y0,y1,y2,y3⟩:=abJ hk;have:=l0 k0 y0 x0.1;have:=l1 k1 y1 x1.1;have:=l2 k2 y2 x2.1;have:=l3 k3 y3 x3.1;omega
theorem PE:ak Tryz.prog cfg U4:=by
 refine au Pv λargs t v he hv=>?_;unfold Ub at he;split at he
 . rename_i c0 c1 c2 c3 n;cases he;obtain⟨⟨h0,h1,h2,h3,-⟩,hv⟩:=aF hv;have hv':Tr.b0 (bif za (c_ c0 c1 c2 c3 n)then .a0 (.d [.a .i64 (kp (c_ c0 c1 c2 c3 n)),.a .i64 0])else .a0 (.d [.a .i64 0,.a .i64 16]))=some v:=hv;have ids:aC v=[]:=by
    cases hb:za (c_ c0 c1 c2 c3 n)<;>rw[hb]at hv'<;>cases hv'<;>simp[aC,bw]
   have yes:∀u,c_ c0 c1 c2 c3 n=some u->v=(.d [.a .i64 u,.a .i64 0]):=λu hu=>by
    rw[hu]at hv';cases hv';rfl
   have no:c_ c0 c1 c2 c3 n=none->v=(.d [.a .i64 0,.a .i64 16]):=λhu=>by
    rw[hu]at hv';cases hv';rfl
   refine jD Pv ai (bE 114770142200562710270027040270) (R:=λQ=>(λ(G:AV)(A B C E F H:Bool)(I:Option Int)=>(λ(N:Bool)(O:Prop)=>(λ(P:Prop->Prop)=>P ((N->P (P (Q (.d [.a .i64 (gu c0 c1 c2 c3 48),G]))))/\(N=false->A/\A/\A/\A/\A/\A/\(H->O)/\(H=false->P (A/\ab n 9999/\(za I->Q (.d [.a .i64 (kp I),G]))/\(za I=false->O)))))) (λu0=>B/\C/\E/\F/\u0)) (not A) (Q (.d [G,.a .i64 16]))) (.a .i64 0) (ab 0 n) (fC c0) (fC c1) (fC c2) (fC c3) (not (not (ab 10000 n))) (c_ c0 c1 c2 c3 n)) (λ_=>by rfl) (hi:=ids) λQ' hQ=>?_;simp only[az,reduceCtorEq];have hle:∀k,nS c0 c1 c2 c3 k->k<=9999:=λk hk=>hk.2.1
   (repeat' first|exact trivial|refine⟨?_,?_⟩|intro)<;>first|omega|assumption|refine hQ _ ?_
   . grind [Iv]
   . grind [nJ]
   . rename_i hs;obtain⟨u,hu⟩:=Option.isSome_iff_exists.1 hs;rw[yes u hu,hu];rfl
   . rename_i hs;exact(no (by cases hx:c_ c0 c1 c2 c3 n with
      | none=>rfl
      | some u=>rw[hx]at hs;cases hs)).symm
 grind
theorem fb{v:Int}:cV c0 c1 c2 c3 n=some v↔nS c0 c1 c2 c3 v/\v<=n/\∀k,nS c0 c1 c2 c3 k->k<=n->k<=v:=by
 unfold cV;have dec:∀(l:List Nat),l.Pairwise (· < ·)->∀(p:Int->Bool) (v:Int),(l.map λi=>9999-ν i).find? p=some v->p v/\v∈l.map (λi=>9999-ν i)/\∀k∈l.map (λi=>9999-ν i),p k->k<=v:=by
  intro l hl p;induction l<;>grind [List.pairwise_cons]
 have mem:∀k,nS c0 c1 c2 c3 k->k∈(π 10000).map (λi=>9999-ν i):=λk hk=>List.mem_map.2 ⟨(9999-k).toNat,List.mem_range.2 (by have:=hk.1;omega),by have:=hk.2.1;grind⟩;constructor
 . grind [ξ]
 . rintro⟨h1,h2,h3⟩;cases hf:((π 10000).map λi=>9999-ν i).find? (λk=>decide (k<=n)&&decide (nS c0 c1 c2 c3 k))<;>grind [ξ]
theorem anv(hn:0<=n/\n<=9999)(hc0:c0.toNat=88\/48<=c0.toNat/\c0.toNat<=57)(hc1:c1.toNat=88\/48<=c1.toNat/\c1.toNat<=57)(hc2:c2.toNat=88\/48<=c2.toNat/\c2.toNat<=57)(hc3:c3.toNat=88\/48<=c3.toNat/\c3.toNat<=57)(hv:(Et (cV c0 c1 c2 c3 n)).b0=some v):bu Tryz.prog cfg 219 [.e [c0,c1,c2,c3],.a .i64 n,.b false] [] v []:=by
 obtain⟨d0,d1,d2,d3⟩:=Yj hn.1;have hv':Tr.b0 (bif za (cV c0 c1 c2 c3 n)then .a0 (.d [.a .i64 (kp (cV c0 c1 c2 c3 n)),.a .i64 0])else .a0 (.d [.a .i64 0,.a .i64 16]))=some v:=hv;have ids:aC v=[]:=by
  cases hb:za (cV c0 c1 c2 c3 n)<;>rw[hb]at hv'<;>cases hv'<;>simp[aC,bw]
 have g0:0<=dg n 0/\dg n 0<=9:=δ
 have g1:0<=dg n 1/\dg n 1<=9:=δ
 have g2:0<=dg n 2/\dg n 2<=9:=δ
 have g3:0<=dg n 3/\dg n 3<=9:=δ
 have hn2:n=1000*dg n 0+100*dg n 1+10*dg n 2+dg n 3:=δ
 refine jD L0 ai (bE 10662088127000663551001200200066300062000620006254702002251202200066300062000625470200225127000663000625470200225400515564030202002200224062088127000661070056646355100122020006610202005664630006200062547020022512700066107005664630006254702002254005106620881270006635510012202000663630006200062547020022512700066363000625470200220588540051556403020200220022455403020200220022406208812700066107005664612022000661002200566400064635510012700066107005664612022000661002200566400064630006254702002254005106620881270006635510012022000663000626300062547020022058851270006630006254702002254005155640302020022002240620881270006610700566463551001270006610700566463630006254702002205885400510662088127000663551001270006636363000625470200220588058854005155640302020022002245540302020022002245540302020022002240620881270006610700566461202200066100220056640006461220200066102020056646120020006610002005664000640006463551004005106620881270006635510008851202200066300062000625470200225127000663000625470200225400515564030202002200224062088127000661070056646355100088512700066107005664630006254702002254005106620881270006635510008851270006636300062547020022058854005155640302020022002245540302020022002240620881270006610700566461202200066100220056640006463551000885400510662088127000663551000880588512700066300062547020022540051556403020200220022406208812700066107005664635510008805885400510662088127000663551000880588058854005155640302020022002245540302020022002245540302020022002245540302020022002246662200) (R:=λQ=>(λ(I:AV)(P T U V u2 u5 ug uF:Int)=>(λ(B C F W Z u0 u3 u4 u7 u8 u9 un uo up ur ux uz uG uH uJ uK:Bool)(u6 um uq:Int)(uy uI:Prop)=>(λ(A H Y ua uh ui uA uB:Bool)(E G O ub uc ud uj us ut uu uL:Prop)=>(λ(N u1 ue uk ul uv uw uC uM uN uO uP uQ uR:Prop)=>(λ(uf uD uE uS uT uU:Prop)=>(λ(v5:Prop->Prop->Prop)=>(λ(v4:Prop->Prop)=>(λ(v3:Prop->Prop)=>(λ(v2:Prop->Prop)=>(λ(v1:Prop->Prop)=>(λ(v0:Prop->Prop)=>(λ(uZ:Prop->Prop)=>(λ(uY:Prop->Prop)=>(λ(uX:Prop->Prop)=>(λ(uW:Prop->Prop)=>(λ(uV:Prop->Prop)=>ab 0 n/\ab n 9999/\(ua->v5 ua (ub/\(uG->(Y->v4 ((ux->(H->uY ((un->(A->uV (ud->(u7->v5 E uD)/\ue))/\uf)/\(us->(uo->uD)/\uv)))/\(N->uZ ((A->uV (ud->(u7->uX (ut->uD))/\ue))/\uf)))/\(uL->(uz->uC)/\uM)))/\(u1->v3 ((H->uY ((un->(A->uV (ud->(u7->v0 uE)/\ue))/\uf)/\(us->(uo->v1 (v1 (uT/\uE)))/\uv)))/\(N->uZ ((A->uV (ud->(u7->uX (ut->v1 (v1 (uO/\uE))))/\ue))/\uf)))))/\(uG=false->(uK->uy)/\(uK=false->ub/\(C->(F->(Z->u8/\Q (.d [.a .i64 (db u2 57 57 57),I]))/\(O->u8/\W/\Q (.d [.a .i64 (db u2 57 57 P),I])))/\(E->(Z->u8/\u0/\Q (.d [.a .i64 (db u2 57 T 57),I]))/\(O->u8/\u0/\W/\Q (.d [.a .i64 (db u2 57 T P),I]))))/\(G->(F->(Z->u8/\u3/\Q (.d [.a .i64 (db u2 V 57 57),I]))/\(O->u8/\u3/\W/\Q (.d [.a .i64 (db u2 V 57 P),I])))/\(E->(Z->u8/\u3/\u0/\Q (.d [.a .i64 (db u2 V T 57),I]))/\(O->u8/\u3/\u0/\W/\Q (.d [.a .i64 (db u2 V T P),I]))))))))/\(ul->v5 ul (B/\(Y->v4 ((ux->(H->uY ((un->(A->uV (ud->(u7->v5 E (uW ((u9->uh/\G/\E/\O/\uP)/\uj)))/\ue))/\uf)/\(us->(uo->uW ((u9->uh/\G/\E/\uU)/\uj))/\uv)))/\(N->uZ ((A->uV (ud->(u7->uX (ut->uW ((u9->uh/\G/\F/\O/\uQ)/\uj)))/\ue))/\uf)))/\(uL->(uz->v2 (v2 ((u9->uh/\G/\(F->(Z->ui/\u3/\Q (.d [.a .i64 (db u6 V 57 57),I]))/\(O->uQ))/\(E->uU))/\uj)))/\uM)))/\(u1->v3 ((H->uY ((un->(A->uV (ud->(u7->v0 (uu->v2 (v2 ((u9->uh/\C/\E/\O/\uR)/\uj))))/\ue))/\uf)/\(us->(uo->v1 (v1 (uT/\(uu->v2 (v2 ((u9->uh/\C/\E/\(Z->ui/\u0/\Q (.d [.a .i64 (db u6 57 T 57),I]))/\(O->uR))/\uj))))))/\uv)))/\(N->uZ ((A->uV (ud->(u7->uX (ut->v1 (v1 (uO/\(uu->v2 (v2 ((u9->uh/\C/\F/\O/\ui/\W/\Q (.d [.a .i64 (db u6 57 57 P),I]))/\uj)))))))/\ue))/\uf))))))) (λv6=>v5 A (O/\uc/\v6))) (λv6=>v5 G (v2 (v2 v6)))) (λv6=>v5 F (uw/\v6))) (λv6=>v5 H (E/\v6))) (λv6=>v5 N (F/\v6))) (λv6=>v5 E (v1 (v1 (uS/\v6))))) (λv6=>C/\C/\C/\v6)) (λv6=>B/\B/\B/\v6)) (λv6=>v5 u1 (C/\v6))) (λv6=>v5 Y (G/\v6))) (λv6 v7=>v6/\v6/\v6/\v6/\v6/\v6/\v7)) (uk->uk/\uk/\uk/\uk/\uk/\uk/\Z/\uI) (G/\G/\G/\G/\G/\G/\uC) (uu->uC) (ur->uA/\E/\O/\uN) (ur->uA/\E/\(Z->u4/\uB/\u0/\Q (.d [.a .i64 (db U um T 57),I]))/\(O->uN)) ((Z->ui/\u3/\u0/\Q (.d [.a .i64 (db u6 V T 57),I]))/\(O->uP))) (H=false) (Y=false) (u7=false->O/\u4/\up/\and (ab 48 ug) (ab ug 57)/\W/\Q (.d [.a .i64 (db U u5 ug P),I])) (A=false) (ua=false) (uo=false->E/\(Z->u4/\up/\u0/\Q (.d [.a .i64 (db U u5 T 57),I]))/\(O->u4/\up/\u0/\W/\Q (.d [.a .i64 (db U u5 T P),I]))) (uJ->af .u8 uq/\O/\u4/\up/\and (ab 48 uq) (ab uq 57)/\W/\Q (.d [.a .i64 (db U u5 uq P),I])) (ub/\ub/\ub/\ub/\ub/\ub/\uy) (uz=false->G/\(F->(Z->u4/\u3/\Q (.d [.a .i64 (db U V 57 57),I]))/\(O->u4/\u3/\W/\Q (.d [.a .i64 (db U V 57 P),I])))/\(E->(Z->u4/\u3/\u0/\Q (.d [.a .i64 (db U V T 57),I]))/\(O->u4/\u3/\u0/\W/\Q (.d [.a .i64 (db U V T P),I])))) (u4/\uB/\u0/\W/\Q (.d [.a .i64 (db U um T P),I])) (ur->uA/\F/\O/\u4/\uB/\W/\Q (.d [.a .i64 (db U um 57 P),I])) (ui/\u3/\u0/\W/\Q (.d [.a .i64 (db u6 V T P),I])) (ui/\u3/\W/\Q (.d [.a .i64 (db u6 V 57 P),I])) (ui/\u0/\W/\Q (.d [.a .i64 (db u6 57 T P),I]))) (not Z) (not F) (not C) (not B) (af .u8 u6) (and (ab 48 u6) (ab u6 57)) (af .u8 um) (and (ab 48 um) (ab um 57)) (F=false) (C=false) (Z=false) (B=false) (uH->uI) (uH=false) (u9=false->uy) (un=false) (uJ=false) (ur=false) (ux=false)) (aa u2 88) (aa V 88) (aa T 88) (and (ab 48 P) (ab P 57)) (aa P 88) (and (ab 48 T) (ab T 57)) (and (ab 48 V) (ab V 57)) (and (ab 48 U) (ab U 57)) (not (bQ (not (ab P uF)) false)) (and (ab 48 u2) (ab u2 57)) (not (aa U 48)) (aa T ug) (not (bQ (not (ab T ug)) false)) (and (ab 48 u5) (ab u5 57)) (not (aa u5 48)) (aa V u5) (not (bQ (not (ab V u5)) false)) (aa u2 U) (aa P uF) (not (aa ug 48)) (not (bQ (not (ab u2 U)) false)) (Int.sub U 1) (Int.sub u5 1) (Int.sub ug 1) (Q (.d [I,.a .i64 16])) (Q (.d [.a .i64 n,I]))) (.a .i64 0) (ν c3.toNat) (ν c2.toNat) (ο 48 (dg n 0)) (ν c1.toNat) (ν c0.toNat) (ο 48 (dg n 1)) (ο 48 (dg n 2)) (ο 48 (dg n 3))) (λ_=>by kernel_rfl) (hi:=ids) λQ' hQ=>?_;try dsimp only
 have yes:∀u,cV c0 c1 c2 c3 n=some u->Q' (.d [.a .i64 u,.a .i64 0]):=λu hu=>by
  rw[hu]at hv';cases hv';exact hQ _ rfl
 have no:cV c0 c1 c2 c3 n=none->Q' (.d [.a .i64 0,.a .i64 16]):=λhu=>by
  rw[hu]at hv';cases hv';grind
 generalize dg n 0=e0 at *;generalize dg n 1=e1 at *;generalize dg n 2=e2 at *;generalize dg n 3=e3 at *;clear d0 d1 d2 d3 hv hv' hQ ids;have all:∀(a b c d:Int),(48<=a/\a<=57)->(48<=b/\b<=57)->(48<=c/\c<=57)->(48<=d/\d<=57)->(c0.toNat=88\/(c0.toNat:Int)=a)->(c1.toNat=88\/(c1.toNat:Int)=b)->(c2.toNat=88\/(c2.toNat:Int)=c)->(c3.toNat=88\/(c3.toNat:Int)=d)->
  1000*(a-48)+100*(b-48)+10*(c-48)+(d-48)<=1000*e0+100*e1+10*e2+e3->
  (∀k0 k1 k2 k3:Int,(0<=k0/\k0<=9)->(0<=k1/\k1<=9)->(0<=k2/\k2<=9)->(0<=k3/\k3<=9)->(c0.toNat=88\/(c0.toNat:Int)=48+k0)->(c1.toNat=88\/(c1.toNat:Int)=48+k1)->(c2.toNat=88\/(c2.toNat:Int)=48+k2)->(c3.toNat=88\/(c3.toNat:Int)=48+k3)->
    1000*k0+100*k1+10*k2+k3<=1000*e0+100*e1+10*e2+e3->1000*k0+100*k1+10*k2+k3<=1000*(a-48)+100*(b-48)+10*(c-48)+(d-48))->Q' (.d [.a .i64 (db a b c d),.a .i64 0]):=by
  intro a b c d ha hb hc hd m0 m1 m2 m3 hle hmin;refine yes _ (fb.2 ⟨?_,?_,λk hk hnk=>?_⟩)
  . unfold db;rw[pw δ δ δ δ];unfold mt;exact⟨by omega,by omega,by omega,by omega⟩
  . unfold db;omega
  . obtain⟨k0,k1,k2,k3,a1,a2,a3,a4,rfl,b1,b2,b3,b4⟩:=abJ hk;unfold db;exact hmin k0 k1 k2 k3 a1 a2 a3 a4 b1 b2 b3 b4 δ
 have same:(c0.toNat=88\/(c0.toNat:Int)=48+e0)->(c1.toNat=88\/(c1.toNat:Int)=48+e1)->(c2.toNat=88\/(c2.toNat:Int)=48+e2)->(c3.toNat=88\/(c3.toNat:Int)=48+e3)->Q' (.d [.a .i64 n,.a .i64 0]):=λm0 m1 m2 m3=>by
  refine yes _ (fb.2 ⟨?_,Int.le_refl _,λk hk hnk=>hnk⟩);rw[hn2,pw g0 g1 g2 g3];exact⟨m0,m1,m2,m3⟩
 have non:(∀k0 k1 k2 k3:Int,(0<=k0/\k0<=9)->(0<=k1/\k1<=9)->(0<=k2/\k2<=9)->(0<=k3/\k3<=9)->(c0.toNat=88\/(c0.toNat:Int)=48+k0)->(c1.toNat=88\/(c1.toNat:Int)=48+k1)->(c2.toNat=88\/(c2.toNat:Int)=48+k2)->(c3.toNat=88\/(c3.toNat:Int)=48+k3)->
       1000*e0+100*e1+10*e2+e3<1000*k0+100*k1+10*k2+k3)->Q' (.d [.a .i64 0,.a .i64 16]):=λh=>by
  refine no (nu.2 λk hk=>?_);obtain⟨k0,k1,k2,k3,a1,a2,a3,a4,rfl,b1,b2,b3,b4⟩:=abJ hk;have:=h k0 k1 k2 k3 a1 a2 a3 a4 b1 b2 b3 b4;omega
 clear yes no;simp only[az,reduceCtorEq]
 (repeat' first|exact trivial|refine⟨?_,?_⟩|intro)<;>first|omega|(refine same ?_ ?_ ?_ ?_<;>omega)|(refine all _ _ _ _ ?_ ?_ ?_ ?_ ?_ ?_ ?_ ?_ ?_ ?_<;>(intros;omega))|(refine non ?_;intros;omega)
def XG:dP:=λ
 | [.e [c0,c1],.a .i64 n]=>some (aH [fC c0,fC c1,ab 0 n,ab n 99] (.a0 (.b (agr [c0,c1] n))))
 | _=>none
def U5:aQ:=aK U4 244 XG
def ay(c0 c1:UInt8):Nat->List Int
 | 0=>[]
 | g+1=>ay c0 c1 g++(bif agr [c0,c1] ((g:Int)+1)then[(g:Int)+1]else[])
def iC(b:Nat):List Int->AV
 | []=>.f
 | x::xs=>.c b 0 (xs.length+1) (.b 0)
def zM:List Int->aB
 | []=>⟨0,[],[]⟩
 | x::xs=>⟨1,[.a ((x::xs).map (AV.a .i64)) true (some 1)],[]⟩
theorem F5{tn:Nat}{rel:List Nat}{vs vs':List AV}{x:cD}{k:Nat}{os:List cD}(hlen:os.length=k)(hx:cR 14 x)(hvs:yw (kG 14 [(14+k,14)] 20) vs=some vs') :
 VW cfg (Cw cfg []) 0 tn rel vs ⟨k+1,x::os,[]⟩ vs' ⟨1,[x],[]⟩:=by
 refine VW.d0 gR.lv (C:=Cw cfg []) (kb:=0) (sel:=[k]) zW (Nat.zero_le _) (λs hs=>?_) θ (λp hp=>by grind) rfl rfl rfl (λi hi=>absurd hi (Nat.not_lt_zero i)) (λt ht=>?_) hvs
 . grind
 . have:t=0:=η
   subst this;refine .inl ⟨?_,?_⟩
   . grind [aB.at]
   . show cR 14 ((⟨k+1,x::os,[]⟩:aB).at k);grind [aB.at]
theorem lV{L:List Int}{rw:Bool}{g:Option Nat}{b:Nat}:cR b (.a (L.map (AV.a .i64)) rw g):=by
 refine⟨rfl,λi hi=>?_⟩;exfalso;obtain⟨v,hv,hi⟩:=ga.1 hi;grind [aC]
def Rw:dW:=λ
 | [.e [c0,c1],.a .i64 g,.a .i64 i,.f],⟨0,[],[]⟩=>some (aH [fC c0,fC c1,ab 0 g,ab g 99,aa i 0] (.a0 (.b 0,[.e [c0,c1],.a .i64 g,.a .i64 g,iC 14 (ay c0 c1 g.toNat)],zM (ay c0 c1 g.toNat))))
 | _,_=>none
def Zn:cx:=iz jE 0 (d9 22 [0,7,8,5] Rw)
def gU(L:List Int):Bool:=L.isEmpty
def dG(L:List Int):Nat:=L.length
def aI(L:List Int):List AV:=L.map (AV.a .i64)
def QR:aav:=λ
 | [.e [c0,c1],.a .i64 g],[]=>some (aH [fC c0,fC c1,ab 0 g,ab g 99] (.d0 (gU (ay c0 c1 g.toNat)) λb=>bif b then .a0 (.f,[])else .a0 (.c 14 0 (dG (ay c0 c1 g.toNat)) (.b 0),[.a (aI (ay c0 c1 g.toNat)) true (some 1)])))
 | _,_=>none
def U6:aQ:=eQ U5 172 (fl 14 [] QR)
theorem OA:aY tab 172=some (dH 172,aL 172):=κ
theorem Ln:(bz (aL 172)).map (·.1)=[0]:=κ
theorem Gu{c0 c1:UInt8}{n:Int}:agr [c0,c1] n=true↔(c0.toNat=88\/(c0.toNat:Int)=48+n/10)/\(c1.toNat=88\/(c1.toNat:Int)=48+n%10):=by
 grind [agr,ad7]
theorem Hu:ak Tryz.prog cfg U5:=by
 refine au PE λargs t v he hv=>?_;unfold XG at he;split at he
 . rename_i c0 c1 n;cases he;obtain⟨⟨h0,h1,h2,h3,-⟩,hv⟩:=aF hv;rw[aq]at h2 h3;rw[dD]at h0 h1;cases hv;refine jD PE ai (bE 102088103020770024005288133000581788123220770024220024322077002400) (R:=λQ=>(λ(P T U:Int)(V:Prop)=>(λ(H I:Bool)(N O:Int)=>(λ(A C E W:Bool)(Y Z:Prop)=>(λ(B F G:Prop)=>(λ(u0:Prop->Prop)=>(E->E/\E/\af .u8 N/\E/\af .i64 N/\E/\E/\af .i64 T/\E/\I=false/\(C->C/\C/\C/\(A->u0 (C/\Y/\C/\Z))/\(B->B/\B/\B/\B/\B/\B/\C/\H/\C/\V))/\(G->G/\G/\G/\G/\G/\Q (.b false)))/\(F->F/\F/\F/\F/\F/\F/\I/\(A->u0 (Y/\Z))/\(B->B/\B/\B/\B/\B/\B/\H/\V))) (λu1=>A/\A/\af .u8 O/\A/\W/\A/\A/\A/\u1)) (A=false) (E=false) (C=false)) (not H) (aa N T) (not I) (af .i64 O) (H=false) (Q (.b (aa O (Int.tmod n 10))))) (aa U 88) (aa P 88) (Int.sub P 48) (Int.sub U 48)) (ν c0.toNat) (Int.tdiv n 10) (ν c1.toNat) (Q (.b true))) (λ_=>by rfl) λQ' hQ=>?_;try dsimp only
   have e1:n.tdiv 10=n/10:=Int.tdiv_eq_ediv_of_nonneg h2;have m1:n.tmod 10=n%10:=Int.tmod_eq_emod_of_nonneg h2;rw[e1,m1];have iff:=@Gu c0 c1 n;have yes:agr [c0,c1] n->Q' (.b true):=λh=>hQ _ (by rw[h]);have no:¬agr [c0,c1] n->Q' (.b false):=λh=>hQ _ η;have eq:∀b:Bool,(b=true↔agr [c0,c1] n=true)->Q' (.b b):=λb h=>hQ _ η;simp only[az,reduceCtorEq]
   (repeat' first|exact trivial|refine⟨?_,?_⟩|intro)<;>first|omega|(refine yes (iff.2 ?_);omega)|(refine no λh=>?_;grind)|grind [ao]
 grind
theorem aam(c0 c1:UInt8)(g:Nat):ay c0 c1 (g+1)=ay c0 c1 g++(bif agr [c0,c1] ((g:Int)+1)then[(g:Int)+1]else[]):=rfl
theorem eV(c0 c1:UInt8):∀g,(ay c0 c1 g).length<=g
 | 0=>Nat.le_refl _
 | g+1=>by
   have:=eV c0 c1 g;grind [aam]
theorem jr{b:Nat}{L:List Int}(h:L≠[]):iC b L=.c b 0 L.length (.b 0):=by cases L with|nil=>grind|cons x xs=>rfl
theorem rl{L:List Int}(h:L≠[]):zM L=⟨1,[.a (L.map (AV.a .i64)) true (some 1)],[]⟩:=by cases L with|nil=>grind|cons x xs=>rfl
theorem Vi:cu Tryz.prog (cH cfg U5) (Cw cfg []) (lb 172 0) 22 [0,7,8,5] Rw:=by
 intro vs o t Q hv hq J;unfold Rw at hv;split at hv
 . rename_i c0 c1 g i;cases hv;replace hq:=cO hq;obtain⟨⟨h1,h2,h3,h4,h5,-⟩,hq⟩:=hq;rw[aq]at h3 h4;rw[ao]at h5;subst h5;have hq:Q (.b 0,[.e [c0,c1],.a .i64 g,.a .i64 g,iC 14 (ay c0 c1 g.toNat)],zM (ay c0 c1 g.toNat)):=hq;refine ia Hu rfl rfl ai (ι:={i:Nat // i<=g.toNat}) (λx=>[.e [c0,c1],.a .i64 g,.a .i64 (x.1:Int),iC 14 (ay c0 c1 x.1)]) (λx=>zM (ay c0 c1 x.1)) (λx=>g.toNat-x.1) 0 (λ_=>Nat.zero_le _) (λx J=>?_) (Nat.le_refl _) (λJ=>Wk.a0 ⟨⟨0,Nat.zero_le _⟩,J,rfl⟩) J;obtain⟨i,hi⟩:=x;dsimp only;have hlen:=eV c0 c1 i;have hs:=aam c0 c1 i;have fin:i=g.toNat->∃vs2 o2,VW cfg (Cw cfg []) 0 22 [0,7,8,5] [.e [c0,c1],.a .i64 g,.a .i64 (i:Int),iC 14 (ay c0 c1 i)] (zM (ay c0 c1 i)) vs2 o2/\Q (.b 0,vs2,o2):=λh=>by
    grind [VW.b0]
   by_cases hL:ay c0 c1 i=[]
   . rw[hL]at hs fin ⊢;refine jJ (bE 11212052427024) (R:=λQ=>(λ(C E:AV)(G:Bool)(A:Int)=>(λ(F:AV)(B H:Bool)=>(G->B/\fC c0/\fC c1/\ab 0 A/\ab A 99/\(H->B/\B/\Q (.a,[C,E,F,.c 15 0 1 (fg.b 0)],⟨2,[.a [F] true (some 1),.a [F] true none],[]⟩))/\(H=false->B/\Q (.a,[C,E,F,.f],⟨0,[],[]⟩)))/\(G=false->Q (.b 0,[C,E,.a .i64 i,.f],⟨0,[],[]⟩))) (.a .i64 A) (af .i64 A) (agr [c0,c1] A)) (.e [c0,c1]) (.a .i64 g) (not (ab g i)) (ο i 1)) (λ_=>by rfl) λQ' hQ=>?_;simp only[az,reduceCtorEq]
     (repeat' first|exact trivial|refine⟨?_,?_⟩|intro)<;>first|omega|assumption|refine hQ _ ?_
     . rename_i ha;refine⟨⟨i+1,by omega⟩,by grind,?_⟩;dsimp only;rw[hs,ha];exact F5 (x:=.a [.a .i64 ((i:Int)+1)] true (some 1)) rfl (lV (L:=[(i:Int)+1])) rfl
     . rename_i ha;refine⟨⟨i+1,by omega⟩,by grind,?_⟩;dsimp only;rw[hs,ha];exact VW.a0
     . exact fin δ
   . rw[jr hL,rl hL]at fin ⊢;refine jJ (bE 11211245202427024) (R:=λQ=>(λ(C E N:AV)(G I:Bool)(A:Int)(H:Nat)=>(λ(F:AV)(B O:Bool)=>(G->B/\fC c0/\fC c1/\ab 0 A/\ab A 99/\(O->B/\and (and (Nat.ble H 1000000) true) true/\(I->B/\Q (.a,[C,E,F,.c 16 0 H (fg.b 0)],⟨3,[.a (((ay c0 c1 i).map (AV.a .i64))++[F]) true (some 1),.a [F] true none,cD.b],[]⟩))/\(I=false->False))/\(O=false->B/\Q (.a,[C,E,F,N],⟨1,[.a ((ay c0 c1 i).map (AV.a .i64)) true (some 1)],[]⟩)))/\(G=false->Q (.b 0,[C,E,.a .i64 i,N],⟨1,[.a ((ay c0 c1 i).map (AV.a .i64)) true (some 1)],[]⟩))) (.a .i64 A) (af .i64 A) (agr [c0,c1] A)) (.e [c0,c1]) (.a .i64 g) (.c 14 0 (ay c0 c1 i).length (fg.b 0)) (not (ab g i)) (and true (Nat.beq ((ay c0 c1 i).map (AV.a .i64)).length (HMul.hMul (ay c0 c1 i).length 1))) (ο i 1) (HAdd.hAdd (ay c0 c1 i).length 1)) (λ_=>by rfl) λQ' hQ=>?_;simp only[az,reduceCtorEq];simp only[Bool.and_true,Bool.true_and,aJ,b9,al,List.length_map,Nat.mul_one]
     (repeat' first|exact trivial|refine⟨?_,?_⟩|intro)<;>first|omega|assumption|(exfalso;simp_all;done)|(exfalso;simp_all;omega)|refine hQ _ ?_
     . rename_i ha _;refine⟨⟨i+1,by omega⟩,by grind,?_⟩;dsimp only;have hne:ay c0 c1 (i+1)≠[]:=by simp_all
       have he:ay c0 c1 (i+1)=ay c0 c1 i++[(i:Int)+1]:=η
       rw[jr hne,rl hne,he,List.map_append,zAe];refine F5 (k:=2) (x:=.a ((ay c0 c1 i).map (AV.a .i64)++[.a .i64 ((i:Int)+1)]) true (some 1)) (os:=[.a [.a .i64 ((i:Int)+1)] true none,.b]) rfl ?_ ?_
       . have:=@lV (ay c0 c1 i++[(i:Int)+1]) true (some 1) 14
         rwa [List.map_append]at this
       . rfl
     . rename_i ha;refine⟨⟨i+1,by omega⟩,by dsimp only;omega,?_⟩;dsimp only;have he:ay c0 c1 (i+1)=ay c0 c1 i:=by rw[hs,ha];simp
       rw[he,jr hL,rl hL];exact VW.a0
     . exact fin δ
 . cases hv
theorem Pl:ak Tryz.prog cfg U6:=by
 refine bm Hu (fW gR.lv Az λargs ws t r he hr=>?_);unfold QR at he;split at he
 . rename_i c0 c1 g;cases he;obtain⟨⟨h1,h2,h3,h4,-⟩,hr⟩:=aF hr;rw[aq]at h3 h4;have key:∀(v:AV) (news:List cD),iC 14 (ay c0 c1 g.toNat)=v->zM (ay c0 c1 g.toNat)=⟨news.length,news,[]⟩->bu Tryz.prog cfg 172 [.e [c0,c1],.a .i64 g] [] v news:=λv news e1 e2=>by
    refine Bu Hu (L:=Zn) OA θ (dv Ln λi hi e he st Q hw=>?_) (jJ (bE 1027) (R:=λQ=>(λ(B:AV)(A:List Int)=>fC c0/\fC c1/\ab 0 g/\ab g 99/\(∀J1:Nat->Value,Q (Prod.fst (Prod.fst (iC 14 A,ς ([.e [c0,c1],B,B,iC 14 A],zM A)),ς (iC 14 A,ς ([.e [c0,c1],B,B,iC 14 A],zM A))),ς (Prod.fst (iC 14 A,ς ([.e [c0,c1],B,B,iC 14 A],zM A)),ς (iC 14 A,ς ([.e [c0,c1],B,B,iC 14 A],zM A)))))) (.a .i64 g) (ay c0 c1 g.toNat)) (λ_=>by rfl) λQ' hQ=>?_)
    . have hi:i=0:=η
      subst hi;cases he;exact bR (cC.a0 Hu) ζ rfl Vi hw
    simp_all [az,dL.of]
   have hr:Tr.b0 (bif gU (ay c0 c1 g.toNat)then .a0 (.f,[])else .a0 (.c 14 0 (dG (ay c0 c1 g.toNat)) (.b 0),[.a (aI (ay c0 c1 g.toNat)) true (some 1)]))=some r:=hr;by_cases hL:ay c0 c1 g.toNat=[]
   . rw[hL]at hr key;cases hr;exact⟨key _ _ rfl rfl,λx hx=>by grind⟩
   . have:gU (ay c0 c1 g.toNat)=false:=by grind [gU]
     rw[this]at hr;cases hr;refine⟨key _ _ (jr hL) (rl hL),λx hx=>?_⟩;simp only[List.mem_singleton]at hx;subst hx;exact lV
 grind
end Go.Ev
