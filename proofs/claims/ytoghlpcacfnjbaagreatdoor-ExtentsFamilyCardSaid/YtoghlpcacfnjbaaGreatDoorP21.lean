import Derived.Test.YtoghlpcacfnjbaaGreatDoorP20
set_option linter.all false
set_option maxRecDepth 100000
set_option maxHeartbeats 4000000
namespace Go.Ev
open Go Go.Proofs
variable{c0 c1 c2 c3:UInt8}{n:Int}
def mt(c:UInt8)(k:Int):Prop:=c.toNat=88\/(c.toNat:Int)=48+k
instance (c:UInt8) (k:Int):Decidable (mt c k):=by unfold mt;infer_instance
def nS(c0 c1 c2 c3:UInt8)(k:Int):Prop:=0<=k/\k<=9999/\mt c0 (k/1000)/\mt c1 (k/100%10)/\mt c2 (k/10%10)/\mt c3 (k%10)
instance (c0 c1 c2 c3:UInt8) (k:Int):Decidable (nS c0 c1 c2 c3 k):=by unfold nS;infer_instance
def c_(c0 c1 c2 c3:UInt8)(n:Int):Option Int:=((List.range 10000).map Int.ofNat).find? λk=>decide (n<=k)&&decide (nS c0 c1 c2 c3 k)
def cV(c0 c1 c2 c3:UInt8)(n:Int):Option Int:=((List.range 10000).map λi=>9999-Int.ofNat i).find? λk=>decide (k<=n)&&decide (nS c0 c1 c2 c3 k)
theorem nJ:c_ c0 c1 c2 c3 n=none↔∀k,nS c0 c1 c2 c3 k->k<n:=by
 unfold c_;rw[List.find?_eq_none];constructor
 . intro h k hk;have:=h k (List.mem_map.2 ⟨k.toNat,List.mem_range.2 (by have:=hk.2.1;omega),Int.toNat_of_nonneg hk.1⟩);simp only[hk,decide_true,Bool.and_true,zAb]at this;omega
 . intro h k hk;rw[zAa,zAb,zAb];rintro⟨h1,h2⟩;have:=h k h2;omega
theorem gF{v:Int}:c_ c0 c1 c2 c3 n=some v↔nS c0 c1 c2 c3 v/\n<=v/\∀k,nS c0 c1 c2 c3 k->n<=k->v<=k:=by
 unfold c_;have inc:∀(l:List Nat),l.Pairwise (· < ·)->∀(p:Int->Bool) (v:Int),(l.map Int.ofNat).find? p=some v->p v/\v∈l.map Int.ofNat/\∀k∈l.map Int.ofNat,p k->v<=k:=by
  intro l hl p;induction l with
  | nil=>intro v h;cases h
  | cons x xs ih=>
    intro v h;rw[List.map_cons,List.find?_cons]at h;rw[List.pairwise_cons]at hl;cases hp:p (Int.ofNat x)with
    | true=>
      rw[hp]at h;simp only[zAc]at h;subst h;refine⟨hp,by simp,λk hk _=>?_⟩;rw[List.map_cons,List.mem_cons]at hk;rcases hk with rfl|hk
      . exact Int.le_refl _
      . obtain⟨y,hy,rfl⟩:=List.mem_map.1 hk;have:=hl.1 y hy;simp only[Int.ofNat_eq_natCast];omega
    | false=>
      rw[hp]at h;obtain⟨h1,h2,h3⟩:=ih hl.2 v h;refine⟨h1,by rw[List.map_cons,List.mem_cons];exact .inr h2,λk hk hk2=>?_⟩;rw[List.map_cons,List.mem_cons]at hk;rcases hk with rfl|hk
      . rw[hp]at hk2;cases hk2
      . exact h3 k hk hk2
 have mem:∀k,nS c0 c1 c2 c3 k->k∈(List.range 10000).map Int.ofNat:=λk hk=>List.mem_map.2 ⟨k.toNat,List.mem_range.2 (by have:=hk.2.1;omega),Int.toNat_of_nonneg hk.1⟩;constructor
 . intro h;obtain⟨h1,h2,h3⟩:=inc _ List.pairwise_lt_range _ v h;rw[zAa,zAb,zAb]at h1;exact⟨h1.2,h1.1,λk hk hn=>h3 k (mem k hk) (by simp[hk,hn])⟩
 . rintro⟨h1,h2,h3⟩;cases hf:((List.range 10000).map Int.ofNat).find? (λk=>decide (n<=k)&&decide (nS c0 c1 c2 c3 k))with
   | none=>
     rw[List.find?_eq_none]at hf;have:=hf v (mem v h1);simp[h1,h2]at this
   | some u=>
     obtain⟨k1,k2,k3⟩:=inc _ List.pairwise_lt_range _ u hf;rw[zAa,zAb,zAb]at k1;have a:=h3 u k1.2 k1.1;have b:=k3 v (mem v h1) (by simp[h1,h2]);rw[Int.le_antisymm b a]
theorem nu:cV c0 c1 c2 c3 n=none↔∀k,nS c0 c1 c2 c3 k->n<k:=by
 unfold cV;rw[List.find?_eq_none];constructor
 . intro h k hk;have:=h k (List.mem_map.2 ⟨(9999-k).toNat,List.mem_range.2 (by have:=hk.1;omega),by have:=hk.2.1;simp only[Int.ofNat_eq_natCast];omega⟩);simp only[hk,decide_true,Bool.and_true,zAb]at this;omega
 . intro h k hk;rw[zAa,zAb,zAb];rintro⟨h1,h2⟩;have:=h k h2;omega
theorem pw{k0 k1 k2 k3:Int}(h0:0<=k0/\k0<=9)(h1:0<=k1/\k1<=9)(h2:0<=k2/\k2<=9)(h3:0<=k3/\k3<=9):nS c0 c1 c2 c3 (1000*k0+100*k1+10*k2+k3)↔mt c0 k0/\mt c1 k1/\mt c2 k2/\mt c3 k3:=by
 unfold nS;rw[show(1000*k0+100*k1+10*k2+k3)/1000=k0 by omega,show(1000*k0+100*k1+10*k2+k3)/100%10=k1 by omega,show(1000*k0+100*k1+10*k2+k3)/10%10=k2 by omega,show(1000*k0+100*k1+10*k2+k3)%10=k3 by omega];exact⟨λh=>h.2.2,λh=>⟨by omega,by omega,h⟩⟩
theorem n5{k:Int}(h:nS c0 c1 c2 c3 k):∃k0 k1 k2 k3:Int,(0<=k0/\k0<=9)/\(0<=k1/\k1<=9)/\(0<=k2/\k2<=9)/\(0<=k3/\k3<=9)/\k=1000*k0+100*k1+10*k2+k3/\mt c0 k0/\mt c1 k1/\mt c2 k2/\mt c3 k3:=by
 obtain⟨h1,h2,h3⟩:=h;exact⟨k/1000,k/100%10,k/10%10,k%10,by omega,by omega,by omega,by omega,by omega,h3⟩
def cr(c:UInt8):Bool:=Nat.beq c.toNat 88 || (Nat.ble 48 c.toNat&&Nat.ble c.toNat 57)
theorem dD{c:UInt8}:cr c=true↔c.toNat=88\/48<=c.toNat/\c.toNat<=57:=by
 unfold cr;rw[Bool.or_eq_true,zAa,aJ,al,al]
def fY(x:Option Int):Bool:=x.isSome
def cp(x:Option Int):Int:=x.getD 0
def Et(x:Option Int):Tr AV:=.d0 (fY x) λb=>bif b then .a0 (.e [.a .i64 (cp x),.a .i64 0])else .a0 (.e [.a .i64 0,.a .i64 16])
theorem PG(hn:0<=n/\n<=9999)(hc0:c0.toNat=88\/48<=c0.toNat/\c0.toNat<=57)(hc1:c1.toNat=88\/48<=c1.toNat/\c1.toNat<=57)(hc2:c2.toNat=88\/48<=c2.toNat/\c2.toNat<=57)(hc3:c3.toNat=88\/48<=c3.toNat/\c3.toNat<=57){v:AV}(hv:(Et (c_ c0 c1 c2 c3 n)).b0=some v):bu Tryz.prog cfg 243 [.d [c0,c1,c2,c3],.a .i64 n,.b true] [] v []:=by
 obtain⟨d0,d1,d2,d3⟩:=Yj hn.1;have hv':Tr.b0 (bif fY (c_ c0 c1 c2 c3 n)then .a0 (.e [.a .i64 (cp (c_ c0 c1 c2 c3 n)),.a .i64 0])else .a0 (.e [.a .i64 0,.a .i64 16]))=some v:=hv;have ids:aC v=[]:=by
  cases hb:fY (c_ c0 c1 c2 c3 n)<;>rw[hb]at hv'<;>cases hv'<;>simp[aC,bw]
 have g0:0<=dg n 0/\dg n 0<=9:=by omega
 have g1:0<=dg n 1/\dg n 1<=9:=by omega
 have g2:0<=dg n 2/\dg n 2<=9:=by omega
 have g3:0<=dg n 3/\dg n 3<=9:=by omega
 have hn2:n=1000*dg n 0+100*dg n 1+10*dg n 2+dg n 3:=by omega
 refine jD L0 ai (bE 10662088127000663551001200200066300062000620006254702002251202200066300062000625470200225127000663000625470200225400515564030202002200224062088127000661070056646355100122020006610202005664630006200062547020022512700066107005664630006254702002254005106620881270006635510012202000663630006200062547020022512700066363000625470200220588540051556403020200220022455403020200220022406208812700066107005664612022000661002200566400064635510012700066107005664612022000661002200566400064630006254702002254005106620881270006635510012022000663000626300062547020022058851270006630006254702002254005155640302020022002240620881270006610700566463551001270006610700566463630006254702002205885400510662088127000663551001270006636363000625470200220588058854005155640302020022002245540302020022002245540302020022002240620881270006610700566461202200066100220056640006461220200066102020056646120020006610002005664000640006463551004005106620881270006635510008851202200066300062000625470200225127000663000625470200225400515564030202002200224062088127000661070056646355100088512700066107005664630006254702002254005106620881270006635510008851270006636300062547020022058854005155640302020022002245540302020022002240620881270006610700566461202200066100220056640006463551000885400510662088127000663551000880588512700066300062547020022540051556403020200220022406208812700066107005664635510008805885400510662088127000663551000880588058854005155640302020022002245540302020022002245540302020022002245540302020022002246662200) (R:=λQ=>(λ(I:AV)(P T U V u2 u5 ug uF:Int)=>(λ(B C F W Z u0 u3 u4 u7 u8 u9 un uo up ur ux uz uG uH uJ uK:Bool)(u6 um uq:Int)(uy uI:Prop)=>(λ(A H Y ua uh ui uA uB:Bool)(E G O ub uc ud uj us ut uu uL:Prop)=>(λ(N u1 ue uk ul uv uw uC uM uN uO uP uQ uR:Prop)=>(λ(uf uD uE uS uT uU:Prop)=>(λ(v5:Prop->Prop->Prop)=>(λ(v4:Prop->Prop)=>(λ(v3:Prop->Prop)=>(λ(v2:Prop->Prop)=>(λ(v1:Prop->Prop)=>(λ(v0:Prop->Prop)=>(λ(uZ:Prop->Prop)=>(λ(uY:Prop->Prop)=>(λ(uX:Prop->Prop)=>(λ(uW:Prop->Prop)=>(λ(uV:Prop->Prop)=>ab 0 n/\ab n 9999/\(ua->v5 ua (ub/\(uG->(Y->v4 ((ux->(H->uY ((un->(A->uV (ud->(u7->v5 E uD)/\ue))/\uf)/\(us->(uo->uD)/\uv)))/\(N->uZ ((A->uV (ud->(u7->uX (ut->uD))/\ue))/\uf)))/\(uL->(uz->uC)/\uM)))/\(u1->v3 ((H->uY ((un->(A->uV (ud->(u7->v0 uE)/\ue))/\uf)/\(us->(uo->v1 (v1 (uT/\uE)))/\uv)))/\(N->uZ ((A->uV (ud->(u7->uX (ut->v1 (v1 (uO/\uE))))/\ue))/\uf)))))/\(uG=false->(uK->uy)/\(uK=false->ub/\(C->(F->(Z->u8/\Q (.e [.a .i64 (db u2 48 48 48),I]))/\(O->u8/\W/\Q (.e [.a .i64 (db u2 48 48 P),I])))/\(E->(Z->u8/\u0/\Q (.e [.a .i64 (db u2 48 T 48),I]))/\(O->u8/\u0/\W/\Q (.e [.a .i64 (db u2 48 T P),I]))))/\(G->(F->(Z->u8/\u3/\Q (.e [.a .i64 (db u2 V 48 48),I]))/\(O->u8/\u3/\W/\Q (.e [.a .i64 (db u2 V 48 P),I])))/\(E->(Z->u8/\u3/\u0/\Q (.e [.a .i64 (db u2 V T 48),I]))/\(O->u8/\u3/\u0/\W/\Q (.e [.a .i64 (db u2 V T P),I]))))))))/\(ul->v5 ul (B/\(Y->v4 ((ux->(H->uY ((un->(A->uV (ud->(u7->v5 E (uW ((u9->uh/\G/\E/\O/\uP)/\uj)))/\ue))/\uf)/\(us->(uo->uW ((u9->uh/\G/\E/\uU)/\uj))/\uv)))/\(N->uZ ((A->uV (ud->(u7->uX (ut->uW ((u9->uh/\G/\F/\O/\uQ)/\uj)))/\ue))/\uf)))/\(uL->(uz->v2 (v2 ((u9->uh/\G/\(F->(Z->ui/\u3/\Q (.e [.a .i64 (db u6 V 48 48),I]))/\(O->uQ))/\(E->uU))/\uj)))/\uM)))/\(u1->v3 ((H->uY ((un->(A->uV (ud->(u7->v0 (uu->v2 (v2 ((u9->uh/\C/\E/\O/\uR)/\uj))))/\ue))/\uf)/\(us->(uo->v1 (v1 (uT/\(uu->v2 (v2 ((u9->uh/\C/\E/\(Z->ui/\u0/\Q (.e [.a .i64 (db u6 48 T 48),I]))/\(O->uR))/\uj))))))/\uv)))/\(N->uZ ((A->uV (ud->(u7->uX (ut->v1 (v1 (uO/\(uu->v2 (v2 ((u9->uh/\C/\F/\O/\ui/\W/\Q (.e [.a .i64 (db u6 48 48 P),I]))/\uj)))))))/\ue))/\uf))))))) (λv6=>v5 A (O/\uc/\v6))) (λv6=>v5 G (v2 (v2 v6)))) (λv6=>v5 F (uw/\v6))) (λv6=>v5 H (E/\v6))) (λv6=>v5 N (F/\v6))) (λv6=>v5 E (v1 (v1 (uS/\v6))))) (λv6=>C/\C/\C/\v6)) (λv6=>B/\B/\B/\v6)) (λv6=>v5 u1 (C/\v6))) (λv6=>v5 Y (G/\v6))) (λv6 v7=>v6/\v6/\v6/\v6/\v6/\v6/\v7)) (uk->uk/\uk/\uk/\uk/\uk/\uk/\Z/\uI) (G/\G/\G/\G/\G/\G/\uC) (uu->uC) (ur->uA/\E/\O/\uN) (ur->uA/\E/\(Z->u4/\uB/\u0/\Q (.e [.a .i64 (db U um T 48),I]))/\(O->uN)) ((Z->ui/\u3/\u0/\Q (.e [.a .i64 (db u6 V T 48),I]))/\(O->uP))) (H=false) (Y=false) (u7=false->O/\u4/\up/\and (ab 48 ug) (ab ug 57)/\W/\Q (.e [.a .i64 (db U u5 ug P),I])) (A=false) (ua=false) (uo=false->E/\(Z->u4/\up/\u0/\Q (.e [.a .i64 (db U u5 T 48),I]))/\(O->u4/\up/\u0/\W/\Q (.e [.a .i64 (db U u5 T P),I]))) (uJ->af .u8 uq/\O/\u4/\up/\and (ab 48 uq) (ab uq 57)/\W/\Q (.e [.a .i64 (db U u5 uq P),I])) (ub/\ub/\ub/\ub/\ub/\ub/\uy) (uz=false->G/\(F->(Z->u4/\u3/\Q (.e [.a .i64 (db U V 48 48),I]))/\(O->u4/\u3/\W/\Q (.e [.a .i64 (db U V 48 P),I])))/\(E->(Z->u4/\u3/\u0/\Q (.e [.a .i64 (db U V T 48),I]))/\(O->u4/\u3/\u0/\W/\Q (.e [.a .i64 (db U V T P),I])))) (u4/\uB/\u0/\W/\Q (.e [.a .i64 (db U um T P),I])) (ur->uA/\F/\O/\u4/\uB/\W/\Q (.e [.a .i64 (db U um 48 P),I])) (ui/\u3/\u0/\W/\Q (.e [.a .i64 (db u6 V T P),I])) (ui/\u3/\W/\Q (.e [.a .i64 (db u6 V 48 P),I])) (ui/\u0/\W/\Q (.e [.a .i64 (db u6 48 T P),I]))) (not Z) (not F) (not C) (not B) (af .u8 u6) (and (ab 48 u6) (ab u6 57)) (af .u8 um) (and (ab 48 um) (ab um 57)) (F=false) (C=false) (Z=false) (B=false) (uH->uI) (uH=false) (u9=false->uy) (un=false) (uJ=false) (ur=false) (ux=false)) (aa u2 88) (aa V 88) (aa T 88) (and (ab 48 P) (ab P 57)) (aa P 88) (and (ab 48 T) (ab T 57)) (and (ab 48 V) (ab V 57)) (and (ab 48 U) (ab U 57)) (not (bQ (not (ab P uF)) true)) (and (ab 48 u2) (ab u2 57)) (not (aa U 57)) (aa T ug) (not (bQ (not (ab T ug)) true)) (and (ab 48 u5) (ab u5 57)) (not (aa u5 57)) (aa V u5) (not (bQ (not (ab V u5)) true)) (aa u2 U) (aa P uF) (not (aa ug 57)) (not (bQ (not (ab u2 U)) true)) (Int.add U 1) (Int.add u5 1) (Int.add ug 1) (Q (.e [I,.a .i64 16])) (Q (.e [.a .i64 n,I]))) (.a .i64 0) (Int.ofNat c3.toNat) (Int.ofNat c2.toNat) (Int.add 48 (dg n 0)) (Int.ofNat c1.toNat) (Int.ofNat c0.toNat) (Int.add 48 (dg n 1)) (Int.add 48 (dg n 2)) (Int.add 48 (dg n 3))) (λ_=>by kernel_rfl) (hi:=ids) λQ' hQ=>?_;try dsimp only
 have yes:∀u,c_ c0 c1 c2 c3 n=some u->Q' (.e [.a .i64 u,.a .i64 0]):=λu hu=>by
  rw[hu]at hv';cases hv';exact hQ _ rfl
 have no:c_ c0 c1 c2 c3 n=none->Q' (.e [.a .i64 0,.a .i64 16]):=λhu=>by
  rw[hu]at hv';cases hv';exact hQ _ rfl
 generalize dg n 0=e0 at *;generalize dg n 1=e1 at *;generalize dg n 2=e2 at *;generalize dg n 3=e3 at *;clear d0 d1 d2 d3 hv hv' hQ ids;have all:∀(a b c d:Int),(48<=a/\a<=57)->(48<=b/\b<=57)->(48<=c/\c<=57)->(48<=d/\d<=57)->(c0.toNat=88\/(c0.toNat:Int)=a)->(c1.toNat=88\/(c1.toNat:Int)=b)->(c2.toNat=88\/(c2.toNat:Int)=c)->(c3.toNat=88\/(c3.toNat:Int)=d)->
  1000*e0+100*e1+10*e2+e3<=1000*(a-48)+100*(b-48)+10*(c-48)+(d-48)->
  (∀k0 k1 k2 k3:Int,(0<=k0/\k0<=9)->(0<=k1/\k1<=9)->(0<=k2/\k2<=9)->(0<=k3/\k3<=9)->(c0.toNat=88\/(c0.toNat:Int)=48+k0)->(c1.toNat=88\/(c1.toNat:Int)=48+k1)->(c2.toNat=88\/(c2.toNat:Int)=48+k2)->(c3.toNat=88\/(c3.toNat:Int)=48+k3)->
    1000*e0+100*e1+10*e2+e3<=1000*k0+100*k1+10*k2+k3->1000*(a-48)+100*(b-48)+10*(c-48)+(d-48)<=1000*k0+100*k1+10*k2+k3)->Q' (.e [.a .i64 (db a b c d),.a .i64 0]):=by
  intro a b c d ha hb hc hd m0 m1 m2 m3 hle hmin;refine yes _ (gF.2 ⟨?_,?_,λk hk hnk=>?_⟩)
  . unfold db;rw[pw (by omega) (by omega) (by omega) (by omega)];unfold mt;exact⟨by omega,by omega,by omega,by omega⟩
  . unfold db;omega
  . obtain⟨k0,k1,k2,k3,a1,a2,a3,a4,rfl,b1,b2,b3,b4⟩:=n5 hk;unfold db;exact hmin k0 k1 k2 k3 a1 a2 a3 a4 b1 b2 b3 b4 (by omega)
 have same:(c0.toNat=88\/(c0.toNat:Int)=48+e0)->(c1.toNat=88\/(c1.toNat:Int)=48+e1)->(c2.toNat=88\/(c2.toNat:Int)=48+e2)->(c3.toNat=88\/(c3.toNat:Int)=48+e3)->Q' (.e [.a .i64 n,.a .i64 0]):=λm0 m1 m2 m3=>by
  refine yes _ (gF.2 ⟨?_,Int.le_refl _,λk hk hnk=>hnk⟩);rw[hn2,pw g0 g1 g2 g3];exact⟨m0,m1,m2,m3⟩
 have non:(∀k0 k1 k2 k3:Int,(0<=k0/\k0<=9)->(0<=k1/\k1<=9)->(0<=k2/\k2<=9)->(0<=k3/\k3<=9)->(c0.toNat=88\/(c0.toNat:Int)=48+k0)->(c1.toNat=88\/(c1.toNat:Int)=48+k1)->(c2.toNat=88\/(c2.toNat:Int)=48+k2)->(c3.toNat=88\/(c3.toNat:Int)=48+k3)->
       1000*k0+100*k1+10*k2+k3<1000*e0+100*e1+10*e2+e3)->Q' (.e [.a .i64 0,.a .i64 16]):=λh=>by
  refine no (nJ.2 λk hk=>?_);obtain⟨k0,k1,k2,k3,a1,a2,a3,a4,rfl,b1,b2,b3,b4⟩:=n5 hk;have:=h k0 k1 k2 k3 a1 a2 a3 a4 b1 b2 b3 b4;omega
 clear yes no;simp only[az,reduceCtorEq]
 (repeat' first|exact trivial|refine⟨?_,?_⟩|intro)<;>first|omega|(refine same ?_ ?_ ?_ ?_<;>omega)|(refine all _ _ _ _ ?_ ?_ ?_ ?_ ?_ ?_ ?_ ?_ ?_ ?_<;>(intros;omega))|(refine non ?_;intros;omega)
def TN:dP:=λargs=>match args with
 | [.d [c0,c1,c2,c3],.a .i64 n,.b true]=>some (aH [cr c0,cr c1,cr c2,cr c3,ab 0 n,ab n 9999] (Et (c_ c0 c1 c2 c3 n)))
 | _=>none
def XJ:dP:=λargs=>match args with
 | [.d [c0,c1,c2,c3]]=>some (aH [cr c0,cr c1,cr c2,cr c3] (.a0 (.a .i64 0)))
 | _=>none
def lL(c:UInt8)(x:Int):Int:=(bif Nat.beq c.toNat 88 then x else(c.toNat:Int))-48
def gu(c0 c1 c2 c3:UInt8)(x:Int):Int:=1000*lL c0 x+100*lL c1 x+10*lL c2 x+lL c3 x
def WF:dP:=λargs=>match args with
 | [.d [c0,c1,c2,c3],.a .u8 x]=>some (aH [cr c0,cr c1,cr c2,cr c3,SH x] (.a0 (.a .i64 (gu c0 c1 c2 c3 x))))
 | _=>none
def U3:aQ:=bb (bb (bb U2 243 TN) 158 XJ) 268 WF
def Ub:dP:=λargs=>match args with
 | [.d [c0,c1,c2,c3],.a .i64 n]=>some (aH [cr c0,cr c1,cr c2,cr c3] (Et (c_ c0 c1 c2 c3 n)))
 | _=>none
def U4:aQ:=bb U3 200 Ub
def OJ:bj tab 158=some (dH 158,aL 158):=by kernel_rfl
def M6:bj tab 268=some (dH 268,aL 268):=by kernel_rfl
theorem mB4(h0:cr c0)(h1:cr c1)(h2:cr c2)(h3:cr c3):∀(i:Nat) (h:i<(ByteArray.mk ⟨[c0,c1,c2,c3]⟩).size),Go.Proofs.YtoghlpcacfnjbaaGreatDoor.mb (ByteArray.mk ⟨[c0,c1,c2,c3]⟩)[i]:=by
 intro i h;rw[dD]at h0 h1 h2 h3;have hs:(ByteArray.mk ⟨[c0,c1,c2,c3]⟩).size=4:=rfl;have:i=0\/i=1\/i=2\/i=3:=by omega
 rcases this with rfl|rfl|rfl|rfl
 . exact h0
 . exact h1
 . exact h2
 . exact h3
theorem Pv:ak Tryz.prog cfg U3:=by
 refine au (au (au L0 λargs t v he hv=>?_) λargs t v he hv=>?_) λargs t v he hv=>?_
 . unfold TN at he;split at he
   . cases he;obtain⟨⟨h0,h1,h2,h3,h4,h5,-⟩,hv⟩:=aF hv;rw[aq]at h4 h5;exact PG ⟨h4,h5⟩ (dD.1 h0) (dD.1 h1) (dD.1 h2) (dD.1 h3) hv
   . cases he
 . unfold XJ at he;split at he
   . rename_i c0 c1 c2 c3;cases he;obtain⟨⟨h0,h1,h2,h3,-⟩,hv⟩:=aF hv;cases hv;refine dy OJ (by simp[aC]) λm w hG=>?_;have:=Go.Proofs.YtoghlpcacfnjbaaGreatDoor.masks_Check ⟨⟨[c0,c1,c2,c3]⟩⟩ w (by show 1<=4;decide) (by show 4<=18;decide) (mB4 h0 h1 h2 h3);simpa [ap,aj]using this
   . cases he
 . unfold WF at he;split at he
   . rename_i c0 c1 c2 c3 x;cases he;obtain⟨⟨h0,h1,h2,h3,h4,-⟩,hv⟩:=aF hv;unfold SH at h4;rw[zAa,aq,aq]at h4;cases hv;refine dy M6 (by simp[aC]) λm w hG=>?_;have:=Go.Proofs.YtoghlpcacfnjbaaGreatDoor.masks_filled ⟨⟨[c0,c1,c2,c3]⟩⟩ x w h4 (by show 4<=18;decide) (mB4 h0 h1 h2 h3);have e:Go.Proofs.YtoghlpcacfnjbaaGreatDoor.fillv x [c0,c1,c2,c3]=gu c0 c1 c2 c3 x:=by
      have ed:∀c:UInt8,Go.Proofs.YtoghlpcacfnjbaaGreatDoor.dig x c=lL c x:=λc=>by
       unfold Go.Proofs.YtoghlpcacfnjbaaGreatDoor.dig lL;by_cases h:c.toNat=88
       . rw[if_pos h,gm h];rfl
       . rw[if_neg h,ic h];rfl
      simp only[Go.Proofs.YtoghlpcacfnjbaaGreatDoor.fillv,List.foldl_cons,List.foldl_nil,ed,gu];omega
     rw[show(ByteArray.mk ⟨[c0,c1,c2,c3]⟩).data.toList=[c0,c1,c2,c3]from rfl,e]at this;simpa [ap,aj]using this
   . cases he
theorem Iv(h0:cr c0)(h1:cr c1)(h2:cr c2)(h3:cr c3)(hn:n<=0):c_ c0 c1 c2 c3 n=some (gu c0 c1 c2 c3 48):=by
 rw[dD]at h0 h1 h2 h3;have ed:∀c:UInt8,(c.toNat=88\/48<=c.toNat/\c.toNat<=57)->0<=lL c 48/\lL c 48<=9/\mt c (lL c 48)/\∀k,mt c k->0<=k->lL c 48<=k:=λc h=>by
  unfold lL mt;by_cases hx:c.toNat=88
  . rw[gm hx];rw[cond_true];exact⟨by decide,by decide,.inl hx,λk _ h=>by simpa using h⟩
  . rw[ic hx,cond_false];exact⟨by omega,by omega,.inr (by omega),λk hk _=>by omega⟩
 obtain⟨a0,b0,m0,l0⟩:=ed c0 h0;obtain⟨a1,b1,m1,l1⟩:=ed c1 h1;obtain⟨a2,b2,m2,l2⟩:=ed c2 h2;obtain⟨a3,b3,m3,l3⟩:=ed c3 h3;rw[gF];unfold gu;refine⟨(pw ⟨a0,b0⟩ ⟨a1,b1⟩ ⟨a2,b2⟩ ⟨a3,b3⟩).2 ⟨m0,m1,m2,m3⟩,by omega,λk hk _=>?_⟩;obtain⟨k0,k1,k2,k3,x0,x1,x2,x3,rfl,y0,y1,y2,y3⟩:=n5 hk;have:=l0 k0 y0 x0.1;have:=l1 k1 y1 x1.1;have:=l2 k2 y2 x2.1;have:=l3 k3 y3 x3.1;omega
theorem PE:ak Tryz.prog cfg U4:=by
 refine au Pv λargs t v he hv=>?_;unfold Ub at he;split at he
 . rename_i c0 c1 c2 c3 n;cases he;obtain⟨⟨h0,h1,h2,h3,-⟩,hv⟩:=aF hv;have hv':Tr.b0 (bif fY (c_ c0 c1 c2 c3 n)then .a0 (.e [.a .i64 (cp (c_ c0 c1 c2 c3 n)),.a .i64 0])else .a0 (.e [.a .i64 0,.a .i64 16]))=some v:=hv;have ids:aC v=[]:=by
    cases hb:fY (c_ c0 c1 c2 c3 n)<;>rw[hb]at hv'<;>cases hv'<;>simp[aC,bw]
   have yes:∀u,c_ c0 c1 c2 c3 n=some u->v=(.e [.a .i64 u,.a .i64 0]):=λu hu=>by
    rw[hu]at hv';cases hv';rfl
   have no:c_ c0 c1 c2 c3 n=none->v=(.e [.a .i64 0,.a .i64 16]):=λhu=>by
    rw[hu]at hv';cases hv';rfl
   refine jD Pv ai (bE 114770142200562710270027040270) (R:=λQ=>(λ(G:AV)(A B C E F H:Bool)(I:Option Int)=>(λ(N:Bool)(O:Prop)=>(λ(P:Prop->Prop)=>P ((N->P (P (Q (.e [.a .i64 (gu c0 c1 c2 c3 48),G]))))/\(N=false->A/\A/\A/\A/\A/\A/\(H->O)/\(H=false->P (A/\ab n 9999/\(fY I->Q (.e [.a .i64 (cp I),G]))/\(fY I=false->O)))))) (λu0=>B/\C/\E/\F/\u0)) (not A) (Q (.e [G,.a .i64 16]))) (.a .i64 0) (ab 0 n) (cr c0) (cr c1) (cr c2) (cr c3) (not (not (ab 10000 n))) (c_ c0 c1 c2 c3 n)) (λ_=>by kernel_rfl) (hi:=ids) λQ' hQ=>?_;simp only[az,reduceCtorEq];have hle:∀k,nS c0 c1 c2 c3 k->k<=9999:=λk hk=>hk.2.1
   (repeat' first|exact trivial|refine⟨?_,?_⟩|intro)<;>first|omega|assumption|refine hQ _ ?_
   . exact(yes _ (Iv h0 h1 h2 h3 (by omega))).symm
   . exact(no (nJ.2 λk hk=>by have:=hle k hk;omega)).symm
   . rename_i hs;obtain⟨u,hu⟩:=Option.isSome_iff_exists.1 hs;rw[yes u hu,hu];rfl
   . rename_i hs;exact(no (by cases hx:c_ c0 c1 c2 c3 n with
      | none=>rfl
      | some u=>rw[hx]at hs;cases hs)).symm
 . cases he
theorem fb{v:Int}:cV c0 c1 c2 c3 n=some v↔nS c0 c1 c2 c3 v/\v<=n/\∀k,nS c0 c1 c2 c3 k->k<=n->k<=v:=by
 unfold cV;have dec:∀(l:List Nat),l.Pairwise (· < ·)->∀(p:Int->Bool) (v:Int),(l.map λi=>9999-Int.ofNat i).find? p=some v->p v/\v∈l.map (λi=>9999-Int.ofNat i)/\∀k∈l.map (λi=>9999-Int.ofNat i),p k->k<=v:=by
  intro l hl p;induction l with
  | nil=>intro v h;cases h
  | cons x xs ih=>
    intro v h;rw[List.map_cons,List.find?_cons]at h;rw[List.pairwise_cons]at hl;cases hp:p (9999-Int.ofNat x)with
    | true=>
      rw[hp]at h;simp only[zAc]at h;subst h;refine⟨hp,by simp,λk hk _=>?_⟩;rw[List.map_cons,List.mem_cons]at hk;rcases hk with rfl|hk
      . exact Int.le_refl _
      . obtain⟨y,hy,rfl⟩:=List.mem_map.1 hk;have:=hl.1 y hy;simp only[Int.ofNat_eq_natCast];omega
    | false=>
      rw[hp]at h;obtain⟨h1,h2,h3⟩:=ih hl.2 v h;refine⟨h1,by rw[List.map_cons,List.mem_cons];exact .inr h2,λk hk hk2=>?_⟩;rw[List.map_cons,List.mem_cons]at hk;rcases hk with rfl|hk
      . rw[hp]at hk2;cases hk2
      . exact h3 k hk hk2
 have mem:∀k,nS c0 c1 c2 c3 k->k∈(List.range 10000).map (λi=>9999-Int.ofNat i):=λk hk=>List.mem_map.2 ⟨(9999-k).toNat,List.mem_range.2 (by have:=hk.1;omega),by have:=hk.2.1;simp only[Int.ofNat_eq_natCast];omega⟩;constructor
 . intro h;obtain⟨h1,h2,h3⟩:=dec _ List.pairwise_lt_range _ v h;rw[zAa,zAb,zAb]at h1;exact⟨h1.2,h1.1,λk hk hn=>h3 k (mem k hk) (by simp[hk,hn])⟩
 . rintro⟨h1,h2,h3⟩;cases hf:((List.range 10000).map λi=>9999-Int.ofNat i).find? (λk=>decide (k<=n)&&decide (nS c0 c1 c2 c3 k))with
   | none=>
     rw[List.find?_eq_none]at hf;have:=hf v (mem v h1);simp[h1,h2]at this
   | some u=>
     obtain⟨k1,k2,k3⟩:=dec _ List.pairwise_lt_range _ u hf;rw[zAa,zAb,zAb]at k1;have a:=h3 u k1.2 k1.1;have b:=k3 v (mem v h1) (by simp[h1,h2]);rw[Int.le_antisymm a b]
theorem TP(hn:0<=n/\n<=9999)(hc0:c0.toNat=88\/48<=c0.toNat/\c0.toNat<=57)(hc1:c1.toNat=88\/48<=c1.toNat/\c1.toNat<=57)(hc2:c2.toNat=88\/48<=c2.toNat/\c2.toNat<=57)(hc3:c3.toNat=88\/48<=c3.toNat/\c3.toNat<=57){v:AV}(hv:(Et (cV c0 c1 c2 c3 n)).b0=some v):bu Tryz.prog cfg 243 [.d [c0,c1,c2,c3],.a .i64 n,.b false] [] v []:=by
 obtain⟨d0,d1,d2,d3⟩:=Yj hn.1;have hv':Tr.b0 (bif fY (cV c0 c1 c2 c3 n)then .a0 (.e [.a .i64 (cp (cV c0 c1 c2 c3 n)),.a .i64 0])else .a0 (.e [.a .i64 0,.a .i64 16]))=some v:=hv;have ids:aC v=[]:=by
  cases hb:fY (cV c0 c1 c2 c3 n)<;>rw[hb]at hv'<;>cases hv'<;>simp[aC,bw]
 have g0:0<=dg n 0/\dg n 0<=9:=by omega
 have g1:0<=dg n 1/\dg n 1<=9:=by omega
 have g2:0<=dg n 2/\dg n 2<=9:=by omega
 have g3:0<=dg n 3/\dg n 3<=9:=by omega
 have hn2:n=1000*dg n 0+100*dg n 1+10*dg n 2+dg n 3:=by omega
 refine jD L0 ai (bE 10662088127000663551001200200066300062000620006254702002251202200066300062000625470200225127000663000625470200225400515564030202002200224062088127000661070056646355100122020006610202005664630006200062547020022512700066107005664630006254702002254005106620881270006635510012202000663630006200062547020022512700066363000625470200220588540051556403020200220022455403020200220022406208812700066107005664612022000661002200566400064635510012700066107005664612022000661002200566400064630006254702002254005106620881270006635510012022000663000626300062547020022058851270006630006254702002254005155640302020022002240620881270006610700566463551001270006610700566463630006254702002205885400510662088127000663551001270006636363000625470200220588058854005155640302020022002245540302020022002245540302020022002240620881270006610700566461202200066100220056640006461220200066102020056646120020006610002005664000640006463551004005106620881270006635510008851202200066300062000625470200225127000663000625470200225400515564030202002200224062088127000661070056646355100088512700066107005664630006254702002254005106620881270006635510008851270006636300062547020022058854005155640302020022002245540302020022002240620881270006610700566461202200066100220056640006463551000885400510662088127000663551000880588512700066300062547020022540051556403020200220022406208812700066107005664635510008805885400510662088127000663551000880588058854005155640302020022002245540302020022002245540302020022002245540302020022002246662200) (R:=λQ=>(λ(I:AV)(P T U V u2 u5 ug uF:Int)=>(λ(B C F W Z u0 u3 u4 u7 u8 u9 un uo up ur ux uz uG uH uJ uK:Bool)(u6 um uq:Int)(uy uI:Prop)=>(λ(A H Y ua uh ui uA uB:Bool)(E G O ub uc ud uj us ut uu uL:Prop)=>(λ(N u1 ue uk ul uv uw uC uM uN uO uP uQ uR:Prop)=>(λ(uf uD uE uS uT uU:Prop)=>(λ(v5:Prop->Prop->Prop)=>(λ(v4:Prop->Prop)=>(λ(v3:Prop->Prop)=>(λ(v2:Prop->Prop)=>(λ(v1:Prop->Prop)=>(λ(v0:Prop->Prop)=>(λ(uZ:Prop->Prop)=>(λ(uY:Prop->Prop)=>(λ(uX:Prop->Prop)=>(λ(uW:Prop->Prop)=>(λ(uV:Prop->Prop)=>ab 0 n/\ab n 9999/\(ua->v5 ua (ub/\(uG->(Y->v4 ((ux->(H->uY ((un->(A->uV (ud->(u7->v5 E uD)/\ue))/\uf)/\(us->(uo->uD)/\uv)))/\(N->uZ ((A->uV (ud->(u7->uX (ut->uD))/\ue))/\uf)))/\(uL->(uz->uC)/\uM)))/\(u1->v3 ((H->uY ((un->(A->uV (ud->(u7->v0 uE)/\ue))/\uf)/\(us->(uo->v1 (v1 (uT/\uE)))/\uv)))/\(N->uZ ((A->uV (ud->(u7->uX (ut->v1 (v1 (uO/\uE))))/\ue))/\uf)))))/\(uG=false->(uK->uy)/\(uK=false->ub/\(C->(F->(Z->u8/\Q (.e [.a .i64 (db u2 57 57 57),I]))/\(O->u8/\W/\Q (.e [.a .i64 (db u2 57 57 P),I])))/\(E->(Z->u8/\u0/\Q (.e [.a .i64 (db u2 57 T 57),I]))/\(O->u8/\u0/\W/\Q (.e [.a .i64 (db u2 57 T P),I]))))/\(G->(F->(Z->u8/\u3/\Q (.e [.a .i64 (db u2 V 57 57),I]))/\(O->u8/\u3/\W/\Q (.e [.a .i64 (db u2 V 57 P),I])))/\(E->(Z->u8/\u3/\u0/\Q (.e [.a .i64 (db u2 V T 57),I]))/\(O->u8/\u3/\u0/\W/\Q (.e [.a .i64 (db u2 V T P),I]))))))))/\(ul->v5 ul (B/\(Y->v4 ((ux->(H->uY ((un->(A->uV (ud->(u7->v5 E (uW ((u9->uh/\G/\E/\O/\uP)/\uj)))/\ue))/\uf)/\(us->(uo->uW ((u9->uh/\G/\E/\uU)/\uj))/\uv)))/\(N->uZ ((A->uV (ud->(u7->uX (ut->uW ((u9->uh/\G/\F/\O/\uQ)/\uj)))/\ue))/\uf)))/\(uL->(uz->v2 (v2 ((u9->uh/\G/\(F->(Z->ui/\u3/\Q (.e [.a .i64 (db u6 V 57 57),I]))/\(O->uQ))/\(E->uU))/\uj)))/\uM)))/\(u1->v3 ((H->uY ((un->(A->uV (ud->(u7->v0 (uu->v2 (v2 ((u9->uh/\C/\E/\O/\uR)/\uj))))/\ue))/\uf)/\(us->(uo->v1 (v1 (uT/\(uu->v2 (v2 ((u9->uh/\C/\E/\(Z->ui/\u0/\Q (.e [.a .i64 (db u6 57 T 57),I]))/\(O->uR))/\uj))))))/\uv)))/\(N->uZ ((A->uV (ud->(u7->uX (ut->v1 (v1 (uO/\(uu->v2 (v2 ((u9->uh/\C/\F/\O/\ui/\W/\Q (.e [.a .i64 (db u6 57 57 P),I]))/\uj)))))))/\ue))/\uf))))))) (λv6=>v5 A (O/\uc/\v6))) (λv6=>v5 G (v2 (v2 v6)))) (λv6=>v5 F (uw/\v6))) (λv6=>v5 H (E/\v6))) (λv6=>v5 N (F/\v6))) (λv6=>v5 E (v1 (v1 (uS/\v6))))) (λv6=>C/\C/\C/\v6)) (λv6=>B/\B/\B/\v6)) (λv6=>v5 u1 (C/\v6))) (λv6=>v5 Y (G/\v6))) (λv6 v7=>v6/\v6/\v6/\v6/\v6/\v6/\v7)) (uk->uk/\uk/\uk/\uk/\uk/\uk/\Z/\uI) (G/\G/\G/\G/\G/\G/\uC) (uu->uC) (ur->uA/\E/\O/\uN) (ur->uA/\E/\(Z->u4/\uB/\u0/\Q (.e [.a .i64 (db U um T 57),I]))/\(O->uN)) ((Z->ui/\u3/\u0/\Q (.e [.a .i64 (db u6 V T 57),I]))/\(O->uP))) (H=false) (Y=false) (u7=false->O/\u4/\up/\and (ab 48 ug) (ab ug 57)/\W/\Q (.e [.a .i64 (db U u5 ug P),I])) (A=false) (ua=false) (uo=false->E/\(Z->u4/\up/\u0/\Q (.e [.a .i64 (db U u5 T 57),I]))/\(O->u4/\up/\u0/\W/\Q (.e [.a .i64 (db U u5 T P),I]))) (uJ->af .u8 uq/\O/\u4/\up/\and (ab 48 uq) (ab uq 57)/\W/\Q (.e [.a .i64 (db U u5 uq P),I])) (ub/\ub/\ub/\ub/\ub/\ub/\uy) (uz=false->G/\(F->(Z->u4/\u3/\Q (.e [.a .i64 (db U V 57 57),I]))/\(O->u4/\u3/\W/\Q (.e [.a .i64 (db U V 57 P),I])))/\(E->(Z->u4/\u3/\u0/\Q (.e [.a .i64 (db U V T 57),I]))/\(O->u4/\u3/\u0/\W/\Q (.e [.a .i64 (db U V T P),I])))) (u4/\uB/\u0/\W/\Q (.e [.a .i64 (db U um T P),I])) (ur->uA/\F/\O/\u4/\uB/\W/\Q (.e [.a .i64 (db U um 57 P),I])) (ui/\u3/\u0/\W/\Q (.e [.a .i64 (db u6 V T P),I])) (ui/\u3/\W/\Q (.e [.a .i64 (db u6 V 57 P),I])) (ui/\u0/\W/\Q (.e [.a .i64 (db u6 57 T P),I]))) (not Z) (not F) (not C) (not B) (af .u8 u6) (and (ab 48 u6) (ab u6 57)) (af .u8 um) (and (ab 48 um) (ab um 57)) (F=false) (C=false) (Z=false) (B=false) (uH->uI) (uH=false) (u9=false->uy) (un=false) (uJ=false) (ur=false) (ux=false)) (aa u2 88) (aa V 88) (aa T 88) (and (ab 48 P) (ab P 57)) (aa P 88) (and (ab 48 T) (ab T 57)) (and (ab 48 V) (ab V 57)) (and (ab 48 U) (ab U 57)) (not (bQ (not (ab P uF)) false)) (and (ab 48 u2) (ab u2 57)) (not (aa U 48)) (aa T ug) (not (bQ (not (ab T ug)) false)) (and (ab 48 u5) (ab u5 57)) (not (aa u5 48)) (aa V u5) (not (bQ (not (ab V u5)) false)) (aa u2 U) (aa P uF) (not (aa ug 48)) (not (bQ (not (ab u2 U)) false)) (Int.sub U 1) (Int.sub u5 1) (Int.sub ug 1) (Q (.e [I,.a .i64 16])) (Q (.e [.a .i64 n,I]))) (.a .i64 0) (Int.ofNat c3.toNat) (Int.ofNat c2.toNat) (Int.add 48 (dg n 0)) (Int.ofNat c1.toNat) (Int.ofNat c0.toNat) (Int.add 48 (dg n 1)) (Int.add 48 (dg n 2)) (Int.add 48 (dg n 3))) (λ_=>by kernel_rfl) (hi:=ids) λQ' hQ=>?_;try dsimp only
 have yes:∀u,cV c0 c1 c2 c3 n=some u->Q' (.e [.a .i64 u,.a .i64 0]):=λu hu=>by
  rw[hu]at hv';cases hv';exact hQ _ rfl
 have no:cV c0 c1 c2 c3 n=none->Q' (.e [.a .i64 0,.a .i64 16]):=λhu=>by
  rw[hu]at hv';cases hv';exact hQ _ rfl
 generalize dg n 0=e0 at *;generalize dg n 1=e1 at *;generalize dg n 2=e2 at *;generalize dg n 3=e3 at *;clear d0 d1 d2 d3 hv hv' hQ ids;have all:∀(a b c d:Int),(48<=a/\a<=57)->(48<=b/\b<=57)->(48<=c/\c<=57)->(48<=d/\d<=57)->(c0.toNat=88\/(c0.toNat:Int)=a)->(c1.toNat=88\/(c1.toNat:Int)=b)->(c2.toNat=88\/(c2.toNat:Int)=c)->(c3.toNat=88\/(c3.toNat:Int)=d)->
  1000*(a-48)+100*(b-48)+10*(c-48)+(d-48)<=1000*e0+100*e1+10*e2+e3->
  (∀k0 k1 k2 k3:Int,(0<=k0/\k0<=9)->(0<=k1/\k1<=9)->(0<=k2/\k2<=9)->(0<=k3/\k3<=9)->(c0.toNat=88\/(c0.toNat:Int)=48+k0)->(c1.toNat=88\/(c1.toNat:Int)=48+k1)->(c2.toNat=88\/(c2.toNat:Int)=48+k2)->(c3.toNat=88\/(c3.toNat:Int)=48+k3)->
    1000*k0+100*k1+10*k2+k3<=1000*e0+100*e1+10*e2+e3->1000*k0+100*k1+10*k2+k3<=1000*(a-48)+100*(b-48)+10*(c-48)+(d-48))->Q' (.e [.a .i64 (db a b c d),.a .i64 0]):=by
  intro a b c d ha hb hc hd m0 m1 m2 m3 hle hmin;refine yes _ (fb.2 ⟨?_,?_,λk hk hnk=>?_⟩)
  . unfold db;rw[pw (by omega) (by omega) (by omega) (by omega)];unfold mt;exact⟨by omega,by omega,by omega,by omega⟩
  . unfold db;omega
  . obtain⟨k0,k1,k2,k3,a1,a2,a3,a4,rfl,b1,b2,b3,b4⟩:=n5 hk;unfold db;exact hmin k0 k1 k2 k3 a1 a2 a3 a4 b1 b2 b3 b4 (by omega)
 have same:(c0.toNat=88\/(c0.toNat:Int)=48+e0)->(c1.toNat=88\/(c1.toNat:Int)=48+e1)->(c2.toNat=88\/(c2.toNat:Int)=48+e2)->(c3.toNat=88\/(c3.toNat:Int)=48+e3)->Q' (.e [.a .i64 n,.a .i64 0]):=λm0 m1 m2 m3=>by
  refine yes _ (fb.2 ⟨?_,Int.le_refl _,λk hk hnk=>hnk⟩);rw[hn2,pw g0 g1 g2 g3];exact⟨m0,m1,m2,m3⟩
 have non:(∀k0 k1 k2 k3:Int,(0<=k0/\k0<=9)->(0<=k1/\k1<=9)->(0<=k2/\k2<=9)->(0<=k3/\k3<=9)->(c0.toNat=88\/(c0.toNat:Int)=48+k0)->(c1.toNat=88\/(c1.toNat:Int)=48+k1)->(c2.toNat=88\/(c2.toNat:Int)=48+k2)->(c3.toNat=88\/(c3.toNat:Int)=48+k3)->
       1000*e0+100*e1+10*e2+e3<1000*k0+100*k1+10*k2+k3)->Q' (.e [.a .i64 0,.a .i64 16]):=λh=>by
  refine no (nu.2 λk hk=>?_);obtain⟨k0,k1,k2,k3,a1,a2,a3,a4,rfl,b1,b2,b3,b4⟩:=n5 hk;have:=h k0 k1 k2 k3 a1 a2 a3 a4 b1 b2 b3 b4;omega
 clear yes no;simp only[az,reduceCtorEq]
 (repeat' first|exact trivial|refine⟨?_,?_⟩|intro)<;>first|omega|(refine same ?_ ?_ ?_ ?_<;>omega)|(refine all _ _ _ _ ?_ ?_ ?_ ?_ ?_ ?_ ?_ ?_ ?_ ?_<;>(intros;omega))|(refine non ?_;intros;omega)
end Go.Ev
