import Derived.Test.YtafekjglclnegaaGreatDoorP22
set_option linter.all false
section
set_option maxRecDepth 100000
set_option maxHeartbeats 4000000
namespace Go.Ev
open Go Go.Proofs
theorem e9{c0 c1 c2 c3:UInt8}{n v:Int}:cZ c0 c1 c2 c3 n=some v↔ta c0 c1 c2 c3 v/\v<=n/\∀k,ta c0 c1 c2 c3 k->k<=n->k<=v:=by
 unfold cZ
 have dec:∀(l:List Nat),l.Pairwise (· < ·)->∀(p:Int->Bool) (v:Int),(l.map λi=>9999-Int.ofNat i).find? p=some v->p v=true/\v∈l.map (λi=>9999-Int.ofNat i)/\∀k∈l.map (λi=>9999-Int.ofNat i),p k=true->k<=v:=by
  intro l hl p
  induction l with
  | nil=>intro v h;cases h
  | cons x xs ih=>
    intro v h
    rw[List.map_cons,List.find?_cons]at h
    rw[List.pairwise_cons]at hl
    cases hp:p (9999-Int.ofNat x)with
    | true=>
      rw[hp]at h
      simp only[Option.some.injEq]at h
      subst h
      refine⟨hp,by simp,λk hk _=>?_⟩
      rw[List.map_cons,List.mem_cons]at hk
      rcases hk with rfl|hk
      · exact Int.le_refl _
      · obtain⟨y,hy,rfl⟩:=List.mem_map.1 hk
        have:=hl.1 y hy
        simp only[Int.ofNat_eq_natCast];omega
    | false=>
      rw[hp]at h
      obtain⟨h1,h2,h3⟩:=ih hl.2 v h
      refine⟨h1,by rw[List.map_cons,List.mem_cons];exact .inr h2,λk hk hk2=>?_⟩
      rw[List.map_cons,List.mem_cons]at hk
      rcases hk with rfl|hk
      · rw[hp]at hk2;cases hk2
      · exact h3 k hk hk2
 have mem:∀k,ta c0 c1 c2 c3 k->k∈(List.range 10000).map (λi=>9999-Int.ofNat i):=λk hk=>List.mem_map.2 ⟨(9999-k).toNat,List.mem_range.2 (by have:=hk.1;omega),by have:=hk.2.1;simp only[Int.ofNat_eq_natCast];omega⟩
 constructor
 · intro h
   obtain⟨h1,h2,h3⟩:=dec _ List.pairwise_lt_range _ v h
   rw[Bool.and_eq_true,decide_eq_true_eq,decide_eq_true_eq]at h1
   exact⟨h1.2,h1.1,λk hk hn=>h3 k (mem k hk) (by simp[hk,hn])⟩
 · rintro⟨h1,h2,h3⟩
   cases hf:((List.range 10000).map λi=>9999-Int.ofNat i).find? (λk=>decide (k<=n)&&decide (ta c0 c1 c2 c3 k))with
   | none=>
     rw[List.find?_eq_none]at hf
     have:=hf v (mem v h1)
     simp[h1,h2]at this
   | some u=>
     obtain⟨k1,k2,k3⟩:=dec _ List.pairwise_lt_range _ u hf
     rw[Bool.and_eq_true,decide_eq_true_eq,decide_eq_true_eq]at k1
     have a:=h3 u k1.2 k1.1
     have b:=k3 v (mem v h1) (by simp[h1,h2])
     rw[Int.le_antisymm a b]
theorem Sy(c0 c1 c2 c3:UInt8)(n:Int){Q:AV->Prop}:aO Q (pT U2 aW 211 [.str [c0,c1,c2,c3],.int .i64 n,.bool false]) (b_ 10662088127000663551001200200066300062000620006254702002251202200066300062000625470200225127000663000625470200225400515564030202002200224062088127000661070056646355100122020006610202005664630006200062547020022512700066107005664630006254702002254005106620881270006635510012202000663630006200062547020022512700066363000625470200220588540051556403020200220022455403020200220022406208812700066107005664612022000661002200566400064635510012700066107005664612022000661002200566400064630006254702002254005106620881270006635510012022000663000626300062547020022058851270006630006254702002254005155640302020022002240620881270006610700566463551001270006610700566463630006254702002205885400510662088127000663551001270006636363000625470200220588058854005155640302020022002245540302020022002245540302020022002240620881270006610700566461202200066100220056640006461220200066102020056646120020006610002005664000640006463551004005106620881270006635510008851202200066300062000625470200225127000663000625470200225400515564030202002200224062088127000661070056646355100088512700066107005664630006254702002254005106620881270006635510008851270006636300062547020022058854005155640302020022002245540302020022002240620881270006610700566461202200066100220056640006463551000885400510662088127000663551000880588512700066300062547020022540051556403020200220022406208812700066107005664635510008805885400510662088127000663551000880588058854005155640302020022002245540302020022002245540302020022002245540302020022002246662200)=((λ(u8:AV)(u0 u1 u2 u3 u4 u5 u6 u7:Int)=>(λ(u9 ua uc ue uh un up us uu uw uy:Bool)(uq uv uz:Int)(ub ud uf ug ui uj uk ul um uo ur ut ux:Prop)=>(λ(uA uB uC uD uE uF uG uH uI uJ uK uL uM uN uO uP uQ uR uS uT uU uV uW uX uY uZ u10 u11:Prop)=>(λ(u12 u13 u14 u15 u16 u17 u18 u19 u1a u1b u1c:Prop)=>(λ(u1d u1e u1f u1g u1h:Prop)=>ab 0 n=true/\ab n 9999=true/\(uA->uA/\uA/\uA/\uA/\uA/\uA/\uB/\(aa u0 u1=true->(uC->uC/\uC/\uC/\uC/\uC/\uC/\uD/\(ub->(uE->uE/\uE/\uE/\uE/\uE/\uE/\uF/\(ud->(uG->uG/\uG/\uG/\uG/\uG/\uG/\uH/\uI/\(ug->(uJ->uF/\uF/\uF/\uF/\uF/\uF/\u1d)/\u13))/\u14)/\(um->(uM->u1d)/\u15))/\(uN->uN/\uN/\uN/\uN/\uN/\uN/\uO/\(uG->uG/\uG/\uG/\uG/\uG/\uG/\uH/\uI/\(ug->(uJ->uO/\uO/\uO/\uO/\uO/\uO/\u16/\(uP->u1d))/\u13))/\u14))/\(ur->(us=true->u12)/\u17))/\(uQ->uQ/\uQ/\uQ/\uQ/\uQ/\uQ/\uR/\(uE->uE/\uE/\uE/\uE/\uE/\uE/\uF/\(ud->(uG->uG/\uG/\uG/\uG/\uG/\uG/\uH/\uI/\(ug->(uJ->uF/\uF/\uF/\uF/\uF/\uF/\uR/\uR/\uR/\uR/\uR/\uR/\u1e/\u1f)/\u13))/\u14)/\(um->(uM->uR/\uR/\uR/\uR/\uR/\uR/\u1g/\u1f)/\u15))/\(uN->uN/\uN/\uN/\uN/\uN/\uN/\uO/\(uG->uG/\uG/\uG/\uG/\uG/\uG/\uH/\uI/\(ug->(uJ->uO/\uO/\uO/\uO/\uO/\uO/\u16/\(uP->uR/\uR/\uR/\uR/\uR/\uR/\u19/\u1f))/\u13))/\u14)))/\(aa u0 u1=false->(uw=true->ui)/\(uw=false->uB/\(uR->(uO->(uL->ux/\Q (AV.tuple [AV.int .i64 (cP u0 57 57 57),u8]))/\(uH->ux/\ul/\Q (AV.tuple [AV.int .i64 (cP u0 57 57 u6),u8])))/\(uF->(uL->ux/\uo/\Q (AV.tuple [AV.int .i64 (cP u0 57 u4 57),u8]))/\(uH->ux/\uo/\ul/\Q (AV.tuple [AV.int .i64 (cP u0 57 u4 u6),u8]))))/\(uD->(uO->(uL->ux/\ut/\Q (AV.tuple [AV.int .i64 (cP u0 u2 57 57),u8]))/\(uH->ux/\ut/\ul/\Q (AV.tuple [AV.int .i64 (cP u0 u2 57 u6),u8])))/\(uF->(uL->ux/\ut/\uo/\Q (AV.tuple [AV.int .i64 (cP u0 u2 u4 57),u8]))/\(uH->ux/\ut/\uo/\ul/\Q (AV.tuple [AV.int .i64 (cP u0 u2 u4 u6),u8])))))))/\(uW->uW/\uW/\uW/\uW/\uW/\uW/\uX/\(uC->uC/\uC/\uC/\uC/\uC/\uC/\uD/\(ub->(uE->uE/\uE/\uE/\uE/\uE/\uE/\uF/\(ud->(uG->uG/\uG/\uG/\uG/\uG/\uG/\uH/\uI/\(ug->(uJ->uF/\uF/\uF/\uF/\uF/\uF/\uD/\uD/\uD/\uD/\uD/\uD/\uX/\uX/\uX/\uX/\uX/\uX/\(uY->uZ/\uD/\uF/\uH/\u1a)/\u11)/\u13))/\u14)/\(um->(uM->uD/\uD/\uD/\uD/\uD/\uD/\uX/\uX/\uX/\uX/\uX/\uX/\(uY->uZ/\uD/\uF/\u1h)/\u11)/\u15))/\(uN->uN/\uN/\uN/\uN/\uN/\uN/\uO/\(uG->uG/\uG/\uG/\uG/\uG/\uG/\uH/\uI/\(ug->(uJ->uO/\uO/\uO/\uO/\uO/\uO/\u16/\(uP->uD/\uD/\uD/\uD/\uD/\uD/\uX/\uX/\uX/\uX/\uX/\uX/\(uY->uZ/\uD/\uO/\uH/\u1b)/\u11))/\u13))/\u14))/\(ur->(us=true->uX/\uX/\uX/\uX/\uX/\uX/\(uY->uZ/\uD/\(uO->(uL->u10/\ut/\Q (AV.tuple [AV.int .i64 (cP uz u2 57 57),u8]))/\(uH->u1b))/\(uF->u1h))/\u11)/\u17))/\(uQ->uQ/\uQ/\uQ/\uQ/\uQ/\uQ/\uR/\(uE->uE/\uE/\uE/\uE/\uE/\uE/\uF/\(ud->(uG->uG/\uG/\uG/\uG/\uG/\uG/\uH/\uI/\(ug->(uJ->uF/\uF/\uF/\uF/\uF/\uF/\uR/\uR/\uR/\uR/\uR/\uR/\u1e/\(uV->uX/\uX/\uX/\uX/\uX/\uX/\(uY->uZ/\uR/\uF/\uH/\u1c)/\u11))/\u13))/\u14)/\(um->(uM->uR/\uR/\uR/\uR/\uR/\uR/\u1g/\(uV->uX/\uX/\uX/\uX/\uX/\uX/\(uY->uZ/\uR/\uF/\(uL->u10/\uo/\Q (AV.tuple [AV.int .i64 (cP uz 57 u4 57),u8]))/\(uH->u1c))/\u11))/\u15))/\(uN->uN/\uN/\uN/\uN/\uN/\uN/\uO/\(uG->uG/\uG/\uG/\uG/\uG/\uG/\uH/\uI/\(ug->(uJ->uO/\uO/\uO/\uO/\uO/\uO/\u16/\(uP->uR/\uR/\uR/\uR/\uR/\uR/\u19/\(uV->uX/\uX/\uX/\uX/\uX/\uX/\(uY->uZ/\uR/\uO/\uH/\u10/\ul/\Q (AV.tuple [AV.int .i64 (cP uz 57 57 u6),u8]))/\u11)))/\u13))/\u14)))) (uD/\uD/\uD/\uD/\uD/\uD/\u12) (uS->uT/\uF/\uH/\u18) (uV->u12) (uS->uT/\uF/\(uL->uj/\uU/\uo/\Q (AV.tuple [AV.int .i64 (cP u1 uv u4 57),u8]))/\(uH->u18)) ((uL->u10/\ut/\uo/\Q (AV.tuple [AV.int .i64 (cP uz u2 u4 57),u8]))/\(uH->u1a))) (uB/\uB/\uB/\uB/\uB/\uB/\ui) (uh=false->uH/\uj/\uk/\and (ab 48 u5) (ab u5 57)=true/\ul/\Q (AV.tuple [AV.int .i64 (cP u1 u3 u5 u6),u8])) (uK->uK/\uK/\uK/\uK/\uK/\uK/\uL/\uf) (un=false->uF/\(uL->uj/\uk/\uo/\Q (AV.tuple [AV.int .i64 (cP u1 u3 u4 57),u8]))/\(uH->uj/\uk/\uo/\ul/\Q (AV.tuple [AV.int .i64 (cP u1 u3 u4 u6),u8]))) (up=true->ae .u8 uq=true/\uH/\uj/\uk/\and (ab 48 uq) (ab uq 57)=true/\ul/\Q (AV.tuple [AV.int .i64 (cP u1 u3 uq u6),u8])) (us=false->uD/\(uO->(uL->uj/\ut/\Q (AV.tuple [AV.int .i64 (cP u1 u2 57 57),u8]))/\(uH->uj/\ut/\ul/\Q (AV.tuple [AV.int .i64 (cP u1 u2 57 u6),u8])))/\(uF->(uL->uj/\ut/\uo/\Q (AV.tuple [AV.int .i64 (cP u1 u2 u4 57),u8]))/\(uH->uj/\ut/\uo/\ul/\Q (AV.tuple [AV.int .i64 (cP u1 u2 u4 u6),u8])))) (uj/\uU/\uo/\ul/\Q (AV.tuple [AV.int .i64 (cP u1 uv u4 u6),u8])) (uS->uT/\uO/\uH/\uj/\uU/\ul/\Q (AV.tuple [AV.int .i64 (cP u1 uv 57 u6),u8])) (u10/\ut/\uo/\ul/\Q (AV.tuple [AV.int .i64 (cP uz u2 u4 u6),u8])) (u10/\ut/\ul/\Q (AV.tuple [AV.int .i64 (cP uz u2 57 u6),u8])) (u10/\uo/\ul/\Q (AV.tuple [AV.int .i64 (cP uz 57 u4 u6),u8]))) (not u9=true) (u9=false) (not ua=true) (ua=false) (not uc=true) (uc=false) (not ue=true) (ue=false) (aa u6 u7=true->uf) (uh=true) (not ue=false) (ue=true) (un=true) (not uc=false) (uc=true) (up=false) (not ua=false) (ua=true) (uu=true) (ae .u8 uv=true) (and (ab 48 uv) (ab uv 57)=true) (uu=false) (not u9=false) (u9=true) (uy=true) (ae .u8 uz=true) (and (ab 48 uz) (ab uz 57)=true) (uy=false->ui)) (aa u0 88) (aa u2 88) (aa u4 88) (aa u6 88) (not (aL (not (ab u6 u7)) false)) (not (aL (not (ab u4 u5)) false)) (not (aa u5 48)) (not (aL (not (ab u2 u3)) false)) (not (aa u3 48)) (not (aL (not (ab u0 u1)) false)) (not (aa u1 48)) (Int.sub u5 1) (Int.sub u3 1) (Int.sub u1 1) (aa u2 u3=true) (aa u4 u5=true) (Q (AV.tuple [AV.int .i64 n,u8])) (aa u6 u7=false) (Q (AV.tuple [u8,AV.int .i64 16])) (and (ab 48 u1) (ab u1 57)=true) (and (ab 48 u3) (ab u3 57)=true) (and (ab 48 u6) (ab u6 57)=true) (aa u4 u5=false) (and (ab 48 u4) (ab u4 57)=true) (aa u2 u3=false) (and (ab 48 u2) (ab u2 57)=true) (and (ab 48 u0) (ab u0 57)=true)) (AV.int .i64 0) (Int.ofNat (UInt8.toNat c0)) (Int.add 48 (dg n 0)) (Int.ofNat (UInt8.toNat c1)) (Int.add 48 (dg n 1)) (Int.ofNat (UInt8.toNat c2)) (Int.add 48 (dg n 2)) (Int.ofNat (UInt8.toNat c3)) (Int.add 48 (dg n 3))):=by kernel_rfl
theorem P0{c0 c1 c2 c3:UInt8}{n:Int}(hn:0<=n/\n<=9999)(hc0:c0.toNat=88\/48<=c0.toNat/\c0.toNat<=57)(hc1:c1.toNat=88\/48<=c1.toNat/\c1.toNat<=57)(hc2:c2.toNat=88\/48<=c2.toNat/\c2.toNat<=57)(hc3:c3.toNat=88\/48<=c3.toNat/\c3.toNat<=57){v:AV}(hv:(zX (cZ c0 c1 c2 c3 n)).run=some v):bR Tryz.prog cfg 211 [.str [c0,c1,c2,c3],.int .i64 n,.bool false] [] v []:=by
 obtain⟨d0,d1,d2,d3⟩:=Wq hn.1
 have hv':Tr.run (bif gH (cZ c0 c1 c2 c3 n)then .ret (.tuple [.int .i64 (dp (cZ c0 c1 c2 c3 n)),.int .i64 0])else .ret (.tuple [.int .i64 0,.int .i64 16]))=some v:=hv
 have ids:aq v=[]:=by
  cases hb:gH (cZ c0 c1 c2 c3 n)<;>rw[hb]at hv'<;>cases hv'<;>simp[aq,bG]
 have g0:0<=dg n 0/\dg n 0<=9:=by omega
 have g1:0<=dg n 1/\dg n 1<=9:=by omega
 have g2:0<=dg n 2/\dg n 2<=9:=by omega
 have g3:0<=dg n 3/\dg n 3<=9:=by omega
 have hn2:n=1000*dg n 0+100*dg n 1+10*dg n 2+dg n 3:=by omega
 refine cp Gy (L:=aW) A9 (by simp) ak (ap λQ' hQ=>al ((Sy c0 c1 c2 c3 n).mpr ?_)) ids
 dsimp only
 have yes:∀u,cZ c0 c1 c2 c3 n=some u->Q' (.tuple [.int .i64 u,.int .i64 0]):=λu hu=>by
  rw[hu]at hv'
  cases hv'
  exact hQ _ rfl
 have no:cZ c0 c1 c2 c3 n=none->Q' (.tuple [.int .i64 0,.int .i64 16]):=λhu=>by
  rw[hu]at hv'
  cases hv'
  exact hQ _ rfl
 generalize dg n 0=e0 at *
 generalize dg n 1=e1 at *
 generalize dg n 2=e2 at *
 generalize dg n 3=e3 at *
 clear d0 d1 d2 d3 hv hv' hQ ids
 have all:∀(a b c d:Int),(48<=a/\a<=57)->(48<=b/\b<=57)->(48<=c/\c<=57)->(48<=d/\d<=57)->(c0.toNat=88\/(c0.toNat:Int)=a)->(c1.toNat=88\/(c1.toNat:Int)=b)->(c2.toNat=88\/(c2.toNat:Int)=c)->(c3.toNat=88\/(c3.toNat:Int)=d)->
  1000*(a-48)+100*(b-48)+10*(c-48)+(d-48)<=1000*e0+100*e1+10*e2+e3->
  (∀k0 k1 k2 k3:Int,(0<=k0/\k0<=9)->(0<=k1/\k1<=9)->(0<=k2/\k2<=9)->(0<=k3/\k3<=9)->(c0.toNat=88\/(c0.toNat:Int)=48+k0)->(c1.toNat=88\/(c1.toNat:Int)=48+k1)->(c2.toNat=88\/(c2.toNat:Int)=48+k2)->(c3.toNat=88\/(c3.toNat:Int)=48+k3)->
    1000*k0+100*k1+10*k2+k3<=1000*e0+100*e1+10*e2+e3->1000*k0+100*k1+10*k2+k3<=1000*(a-48)+100*(b-48)+10*(c-48)+(d-48))->Q' (.tuple [.int .i64 (cP a b c d),.int .i64 0]):=by
  intro a b c d ha hb hc hd m0 m1 m2 m3 hle hmin
  refine yes _ (e9.2 ⟨?_,?_,λk hk hnk=>?_⟩)
  · unfold cP
    rw[mf (by omega) (by omega) (by omega) (by omega)]
    unfold mt
    exact⟨by omega,by omega,by omega,by omega⟩
  · unfold cP;omega
  · obtain⟨k0,k1,k2,k3,a1,a2,a3,a4,rfl,b1,b2,b3,b4⟩:=o4 hk
    unfold cP
    exact hmin k0 k1 k2 k3 a1 a2 a3 a4 b1 b2 b3 b4 (by omega)
 have same:(c0.toNat=88\/(c0.toNat:Int)=48+e0)->(c1.toNat=88\/(c1.toNat:Int)=48+e1)->(c2.toNat=88\/(c2.toNat:Int)=48+e2)->(c3.toNat=88\/(c3.toNat:Int)=48+e3)->Q' (.tuple [.int .i64 n,.int .i64 0]):=λm0 m1 m2 m3=>by
  refine yes _ (e9.2 ⟨?_,Int.le_refl _,λk hk hnk=>hnk⟩)
  rw[hn2,mf g0 g1 g2 g3]
  exact⟨m0,m1,m2,m3⟩
 have non:(∀k0 k1 k2 k3:Int,(0<=k0/\k0<=9)->(0<=k1/\k1<=9)->(0<=k2/\k2<=9)->(0<=k3/\k3<=9)->(c0.toNat=88\/(c0.toNat:Int)=48+k0)->(c1.toNat=88\/(c1.toNat:Int)=48+k1)->(c2.toNat=88\/(c2.toNat:Int)=48+k2)->(c3.toNat=88\/(c3.toNat:Int)=48+k3)->
       1000*e0+100*e1+10*e2+e3<1000*k0+100*k1+10*k2+k3)->Q' (.tuple [.int .i64 0,.int .i64 16]):=λh=>by
  refine no (m9.2 λk hk=>?_)
  obtain⟨k0,k1,k2,k3,a1,a2,a3,a4,rfl,b1,b2,b3,b4⟩:=o4 hk
  have:=h k0 k1 k2 k3 a1 a2 a3 a4 b1 b2 b3 b4
  omega
 clear yes no
 simp only[aD,reduceCtorEq,bA,bB,ne_eq]
 (repeat' first|exact trivial|refine⟨?_,?_⟩|intro)<;>first|omega|(refine same ?_ ?_ ?_ ?_<;>omega)|(refine all _ _ _ _ ?_ ?_ ?_ ?_ ?_ ?_ ?_ ?_ ?_ ?_<;>(intros;omega))|(refine non ?_;intros;omega)
end Go.Ev
end
section
set_option maxRecDepth 100000
namespace Go.Ev
open Go Go.Proofs
def Sp:dM:=λargs=>match args with
 | [.str [c0,c1],.int .i64 n]=>some (aN [ek c0,ek c1,ab 0 n,ab n 99] (.ret (.bool (agr [c0,c1] n))))
 | _=>none
def U5:bq:=bw U4 234 Sp
def cJ(c0 c1:UInt8):Nat->List Int
 | 0=>[]
 | g+1=>cJ c0 c1 g++(bif agr [c0,c1] ((g:Int)+1)then[(g:Int)+1]else[])
def nG(b:Nat):List Int->AV
 | []=>.nilslice
 | x::xs=>.slice b 0 (xs.length+1) (.rest 0)
def tk:List Int->aC
 | []=>⟨0,[],[]⟩
 | x::xs=>⟨1,[.cells ((x::xs).map (AV.int .i64)) true (some 1)],[]⟩
theorem Bf{tn:Nat}{rel:List Nat}{vs vs':List AV}{x:aw}{k:Nat}{os:List aw}(hlen:os.length=k)(hx:eG 14 x)(hvs:s_ (jB 14 [(14+k,14)] 20) vs=some vs') :
 VW cfg (Cw cfg []) 0 tn rel vs ⟨k+1,x::os,[]⟩ vs' ⟨1,[x],[]⟩:=by
 refine VW.move d4.lv (C:=Cw cfg []) (kb:=0) (sel:=[k]) Di (Nat.zero_le _) (λs hs=>?_) (by simp) (λp hp=>by cases hp) rfl rfl rfl (λi hi=>absurd hi (Nat.not_lt_zero i)) (λt ht=>?_) hvs
 · simp only[List.mem_singleton]at hs;subst hs;exact⟨Nat.zero_le _,Nat.lt_succ_self _⟩
 · have:t=0:=by simp at ht;omega
   subst this
   refine .inl ⟨?_,?_⟩
   · show(⟨1,[x],[]⟩:aC).at 0=(⟨k+1,x::os,[]⟩:aC).at k
     unfold aC.at
     simp
   · show eG 14 ((⟨k+1,x::os,[]⟩:aC).at k)
     unfold aC.at
     simpa using hx
theorem qZ{L:List Int}{rw:Bool}{g:Option Nat}{b:Nat}:eG b (.cells (L.map (AV.int .i64)) rw g):=by
 refine⟨rfl,λi hi=>?_⟩
 exfalso
 obtain⟨v,hv,hi⟩:=eP.1 hi
 obtain⟨n,_,rfl⟩:=List.mem_map.1 hv
 simp[aq]at hi
def Lp:fp:=λvs o=>match vs,o with
 | [.str [c0,c1],.int .i64 g,.int .i64 i,.nilslice],⟨0,[],[]⟩=>some (aN [ek c0,ek c1,ab 0 g,ab g 99,aa i 0] (.ret (.exit 0,[.str [c0,c1],.int .i64 g,.int .i64 g,nG 14 (cJ c0 c1 g.toNat)],tk (cJ c0 c1 g.toNat))))
 | _,_=>none
def P2:dx:=j7 aW 0 (fL 22 [0,7,8,5] Lp)
def tG(L:List Int):Bool:=L.isEmpty
def yK(L:List Int):Nat:=L.length
def dC(L:List Int):List AV:=L.map (AV.int .i64)
def P4:lq:=λargs ws=>match args,ws with
 | [.str [c0,c1],.int .i64 g],[]=>some (aN [ek c0,ek c1,ab 0 g,ab g 99] (.test (tG (cJ c0 c1 g.toNat)) λb=>bif b then .ret (.nilslice,[])else .ret (.slice 14 0 (yK (cJ c0 c1 g.toNat)) (.rest 0),[.cells (dC (cJ c0 c1 g.toNat)) true (some 1)])))
 | _,_=>none
def U6:bq:=gu U5 177 (gD 14 [] P4)
theorem UB(c0 c1:UInt8)(n:Int){Q:AV->Prop}:aO Q (pT U4 aW 234 [.str [c0,c1],.int .i64 n]) (b_ 102088103020770024005288133000581788123220770024220024322077002400)=((λ(u0 u1:Int)(u2:Prop)=>(λ(u3 u5:Bool)(u4 u6:Int)=>(λ(u8:Bool)(u7 u9 ua ub uc ud ue:Prop)=>(λ(uf ug:Prop)=>(u7->u7/\u7/\ae .u8 u4=true/\u7/\ae .i64 u4=true/\u7/\u7/\ae .i64 (Int.tdiv n 10)=true/\u7/\u3=false/\(uf->uf/\uf/\uf/\(u9->u9/\u9/\ua/\u9/\ub/\u9/\u9/\u9/\uf/\u5=false/\uf/\uc)/\(ud->ud/\ud/\ud/\ud/\ud/\ud/\uf/\u5=true/\uf/\u2))/\(ug->ug/\ug/\ug/\ug/\ug/\Q (AV.bool false)))/\(ue->ue/\ue/\ue/\ue/\ue/\ue/\u3=true/\(u9->u9/\u9/\ua/\u9/\ub/\u9/\u9/\u9/\u5=false/\uc)/\(ud->ud/\ud/\ud/\ud/\ud/\ud/\u5=true/\u2))) (u8=true) (u8=false)) (aa u4 (Int.tdiv n 10)) (not u3=true) (not u5=true) (ae .u8 u6=true) (ae .i64 u6=true) (Q (AV.bool (aa u6 (Int.tmod n 10)))) (not u5=false) (not u3=false)) (aa u0 88) (aa u1 88) (Int.sub u0 48) (Int.sub u1 48)) (Int.ofNat (UInt8.toNat c0)) (Int.ofNat (UInt8.toNat c1)) (Q (AV.bool true))):=by kernel_rfl
theorem S9(c0 c1:UInt8)(g i:Int)(J:Nat->Value){Q:VQ->Prop}:aO Q (rT U5 aW [] 177 0 22 [0,7,8,5] [.str [c0,c1],.int .i64 g,.int .i64 i,.nilslice] J b7) (b_ 11212052427024)=((λ(u2 u3:AV)(u0:Bool)(u1:Int)=>(λ(u6:AV)(u5:Bool)(u4:Prop)=>(u0=true->u4/\ek c0=true/\ek c1=true/\ab 0 u1=true/\ab u1 99=true/\(u5=true->u4/\u4/\Q (AX.normal,([u2,u3,u6,AV.slice 15 0 1 (dv.rest 0)],{ n:=2,os:=[aw.cells [u6] true (Option.some 1),aw.cells [u6] true Option.none],le:=[] })))/\(u5=false->u4/\Q (AX.normal,([u2,u3,u6,AV.nilslice],{ n:=0,os:=[],le:=[] }))))/\(u0=false->Q (AX.exit 0,([u2,u3,AV.int .i64 i,AV.nilslice],{ n:=0,os:=[],le:=[] })))) (AV.int .i64 u1) (agr [c0,c1] u1) (ae .i64 u1=true)) (AV.str [c0,c1]) (AV.int .i64 g) (not (ab g i)) (Int.add i 1)):=by kernel_rfl
theorem Pv(c0 c1:UInt8)(g i:Int)(J:Nat->Value)(cs:List AV)(n:Nat){Q:VQ->Prop}:aO Q (rT U5 aW [] 177 0 22 [0,7,8,5] [.str [c0,c1],.int .i64 g,.int .i64 i,.slice 14 0 n (.rest 0)] J ⟨1,[.cells cs true (some 1)],[]⟩) (b_ 11211245202427024)=((λ(u3 u4 u5:AV)(u0 u2:Bool)(u1:Int)=>(λ(u8:AV)(u7:Bool)(u6:Prop)=>(u0=true->u6/\ek c0=true/\ek c1=true/\ab 0 u1=true/\ab u1 99=true/\(u7=true->u6/\and (and (Nat.ble (HAdd.hAdd n 1) 1000000) true) true=true/\(u2=true->u6/\Q (AX.normal,([u3,u4,u8,AV.slice 16 0 (HAdd.hAdd n 1) (dv.rest 0)],{ n:=3,os:=[aw.cells (HAppend.hAppend cs [u8]) true (Option.some 1),aw.cells [u8] true Option.none,aw.dead],le:=[] })))/\(u2=false->False))/\(u7=false->u6/\Q (AX.normal,([u3,u4,u8,u5],{ n:=1,os:=[aw.cells cs true (Option.some 1)],le:=[] }))))/\(u0=false->Q (AX.exit 0,([u3,u4,AV.int .i64 i,u5],{ n:=1,os:=[aw.cells cs true (Option.some 1)],le:=[] })))) (AV.int .i64 u1) (agr [c0,c1] u1) (ae .i64 u1=true)) (AV.str [c0,c1]) (AV.int .i64 g) (AV.slice 14 0 n (dv.rest 0)) (not (ab g i)) (and true (Nat.beq (List.length cs) (HMul.hMul n 1))) (Int.add i 1)):=by kernel_rfl
theorem TZ(c0 c1:UInt8)(g:Int){Q:EQ->Prop}:aO Q (bT U5 P2 [] 177 [.str [c0,c1],.int .i64 g]) (b_ 1027)=((λ(u0:List Int)=>ek c0=true/\ek c1=true/\ab 0 g=true/\ab g 99=true/\(∀J1:Nat->Value,Q (Prod.fst (Prod.fst (nG 14 u0,Prod.snd ([AV.str [c0,c1],AV.int .i64 g,AV.int .i64 g,nG 14 u0],tk u0)),Prod.snd (nG 14 u0,Prod.snd ([AV.str [c0,c1],AV.int .i64 g,AV.int .i64 g,nG 14 u0],tk u0))),Prod.snd (Prod.fst (nG 14 u0,Prod.snd ([AV.str [c0,c1],AV.int .i64 g,AV.int .i64 g,nG 14 u0],tk u0)),Prod.snd (nG 14 u0,Prod.snd ([AV.str [c0,c1],AV.int .i64 g,AV.int .i64 g,nG 14 u0],tk u0)))))) (cJ c0 c1 (Int.toNat g))):=by kernel_rfl
theorem IA:aH tab 234=some (bC 234,aE 234):=by kernel_rfl
theorem Ig:aH tab 177=some (bC 177,aE 177):=by kernel_rfl
theorem GZ:(bE (aE 177)).map (·.1)=[0]:=by kernel_rfl
theorem AZ{c0 c1:UInt8}{n:Int}:agr [c0,c1] n=true↔(c0.toNat=88\/(c0.toNat:Int)=48+n/10)/\(c1.toNat=88\/(c1.toNat:Int)=48+n%10):=by
 unfold agr
 rw[Bool.and_eq_true,Bool.and_eq_true,decide_eq_true_eq,lF,lF]
 exact⟨λh=>h.2,λh=>⟨rfl,h⟩⟩
theorem A3:az Tryz.prog cfg U5:=by
 refine aA J5 λargs t v he hv=>?_
 unfold Sp at he
 split at he
 · rename_i c0 c1 n
   cases he
   obtain⟨⟨h0,h1,h2,h3,-⟩,hv⟩:=aI hv
   rw[aK]at h2 h3
   rw[dW]at h0 h1
   cases hv
   refine cp J5 (L:=aW) IA (by simp) ak (ap λQ' hQ=>al ((UB c0 c1 n).mpr ?_)) (by simp[aq])
   dsimp only
   have e1:n.tdiv 10=n/10:=Int.tdiv_eq_ediv_of_nonneg h2
   have m1:n.tmod 10=n%10:=Int.tmod_eq_emod_of_nonneg h2
   rw[e1,m1]
   have iff:=@AZ c0 c1 n
   have yes:agr [c0,c1] n=true->Q' (.bool true):=λh=>hQ _ (by rw[h])
   have no:¬agr [c0,c1] n=true->Q' (.bool false):=λh=>hQ _ (by rw[Bool.not_eq_true]at h;rw[h])
   have eq:∀b:Bool,(b=true↔agr [c0,c1] n=true)->Q' (.bool b):=λb h=>hQ _ (by rw[Bool.eq_iff_iff.2 h])
   simp only[aD,reduceCtorEq,bA,bB,ne_eq]
   (repeat' first|exact trivial|refine⟨?_,?_⟩|intro)<;>first|omega|(refine yes (iff.2 ?_);omega)|(refine no λh=>?_;have:=iff.1 h;omega)|(refine eq _ ?_;rw[iff,aS];omega)
 · cases he
theorem py(c0 c1:UInt8)(g:Nat):cJ c0 c1 (g+1)=cJ c0 c1 g++(bif agr [c0,c1] ((g:Int)+1)then[(g:Int)+1]else[]):=rfl
theorem ou(c0 c1:UInt8):∀g,(cJ c0 c1 g).length<=g
 | 0=>Nat.le_refl _
 | g+1=>by
   have:=ou c0 c1 g
   rw[py,List.length_append]
   cases agr [c0,c1] ((g:Int)+1)<;>simp<;>omega
theorem nD{b:Nat}{L:List Int}(h:L≠[]):nG b L=.slice b 0 L.length (.rest 0):=by cases L with|nil=>exact absurd rfl h|cons x xs=>rfl
theorem nM{L:List Int}(h:L≠[]):tk L=⟨1,[.cells (L.map (AV.int .i64)) true (some 1)],[]⟩:=by cases L with|nil=>exact absurd rfl h|cons x xs=>rfl
theorem Qp:dG Tryz.prog (dX cfg U5) (Cw cfg []) (lb 177 0) 22 [0,7,8,5] Lp:=by
 intro vs o t Q hv hq J
 unfold Lp at hv
 split at hv
 · rename_i c0 c1 g i
   cases hv
   replace hq:=eM hq;obtain⟨⟨h1,h2,h3,h4,h5,-⟩,hq⟩:=hq
   rw[aK]at h3 h4
   rw[aS]at h5
   subst h5
   have hq:Q (.exit 0,[.str [c0,c1],.int .i64 g,.int .i64 g,nG 14 (cJ c0 c1 g.toNat)],tk (cJ c0 c1 g.toNat)):=hq
   refine j_ A3 rfl rfl ak (ι:={i:Nat // i<=g.toNat}) (λx=>[.str [c0,c1],.int .i64 g,.int .i64 (x.1:Int),nG 14 (cJ c0 c1 x.1)]) (λx=>tk (cJ c0 c1 x.1)) (λx=>g.toNat-x.1) 0 (λ_=>Nat.zero_le _) (λx J=>?_) (Nat.le_refl _) (λJ=>Wk.refl ⟨⟨0,Nat.zero_le _⟩,J,rfl⟩) J
   obtain⟨i,hi⟩:=x
   dsimp only
   have hlen:=ou c0 c1 i
   have hs:=py c0 c1 i
   have fin:i=g.toNat->∃vs2 o2,VW cfg (Cw cfg []) 0 22 [0,7,8,5] [.str [c0,c1],.int .i64 g,.int .i64 (i:Int),nG 14 (cJ c0 c1 i)] (tk (cJ c0 c1 i)) vs2 o2/\Q (.exit 0,vs2,o2):=λh=>by
    subst h
    exact⟨_,_,VW.of_eq (by rw[Int.toNat_of_nonneg h3]) rfl,hq⟩
   by_cases hL:cJ c0 c1 i=[]
   · rw[hL]at hs fin ⊢
     refine ap λQ' hQ=>al ((S9 c0 c1 g i J).mpr ?_)
     simp only[aD,reduceCtorEq,bA,bB,ne_eq]
     (repeat' first|exact trivial|refine⟨?_,?_⟩|intro)<;>first|omega|assumption|refine hQ _ ?_
     · rename_i ha
       refine⟨⟨i+1,by omega⟩,by dsimp only;omega,?_⟩
       dsimp only
       rw[hs,ha]
       exact Bf (x:=.cells [.int .i64 ((i:Int)+1)] true (some 1)) rfl (qZ (L:=[(i:Int)+1])) rfl
     · rename_i ha
       refine⟨⟨i+1,by omega⟩,by dsimp only;omega,?_⟩
       dsimp only
       rw[hs,ha]
       exact VW.refl
     · exact fin (by omega)
   · rw[nD hL,nM hL]at fin ⊢
     refine ap λQ' hQ=>al ((Pv c0 c1 g i J ((cJ c0 c1 i).map (AV.int .i64)) (cJ c0 c1 i).length).mpr ?_)
     simp only[aD,reduceCtorEq,bA,bB,ne_eq]
     simp only[Bool.and_true,Bool.true_and,bW,jn,aB,List.length_map,Nat.mul_one]
     (repeat' first|exact trivial|refine⟨?_,?_⟩|intro)<;>first|omega|assumption|(exfalso;simp_all;done)|(exfalso;simp_all;omega)|refine hQ _ ?_
     · rename_i ha _
       refine⟨⟨i+1,by omega⟩,by dsimp only;omega,?_⟩
       dsimp only
       have hne:cJ c0 c1 (i+1)≠[]:=by rw[hs];simp[hL]
       have he:cJ c0 c1 (i+1)=cJ c0 c1 i++[(i:Int)+1]:=by rw[hs,ha];rfl
       rw[nD hne,nM hne,he,List.map_append,List.length_append]
       refine Bf (k:=2) (x:=.cells ((cJ c0 c1 i).map (AV.int .i64)++[.int .i64 ((i:Int)+1)]) true (some 1)) (os:=[.cells [.int .i64 ((i:Int)+1)] true none,.dead]) rfl ?_ ?_
       · have:=@qZ (cJ c0 c1 i++[(i:Int)+1]) true (some 1) 14
         rwa [List.map_append]at this
       · rfl
     · rename_i ha
       refine⟨⟨i+1,by omega⟩,by dsimp only;omega,?_⟩
       dsimp only
       have he:cJ c0 c1 (i+1)=cJ c0 c1 i:=by rw[hs,ha];simp
       rw[he,nD hL,nM hL]
       exact VW.refl
     · exact fin (by omega)
 · cases hv
theorem OZ:az Tryz.prog cfg U6:=by
 refine bK A3 (gy d4.lv zG λargs ws t r he hr=>?_)
 unfold P4 at he
 split at he
 · rename_i c0 c1 g
   cases he
   obtain⟨⟨h1,h2,h3,h4,-⟩,hr⟩:=aI hr
   rw[aK]at h3 h4
   have key:∀(v:AV) (news:List aw),nG 14 (cJ c0 c1 g.toNat)=v->tk (cJ c0 c1 g.toNat)=⟨news.length,news,[]⟩->bR Tryz.prog cfg 177 [.str [c0,c1],.int .i64 g] [] v news:=λv news e1 e2=>by
    refine k7 A3 (L:=P2) Ig (by simp) (eC GZ λi hi e he st Q hw=>?_) (ap λQ' hQ=>al ((TZ c0 c1 g).mpr ?_))
    · have hi:i=0:=by simp at hi;omega
      subst hi
      cases he
      exact cR (cV.good A3) (by decide) rfl Qp hw
    · simp only[aD,reduceCtorEq,bA,bB,ne_eq]
      (repeat' first|exact trivial|refine⟨?_,?_⟩|intro)<;>first|omega|assumption|exact hQ _ (fH.of e1 e2)
   have hr:Tr.run (bif tG (cJ c0 c1 g.toNat)then .ret (.nilslice,[])else .ret (.slice 14 0 (yK (cJ c0 c1 g.toNat)) (.rest 0),[.cells (dC (cJ c0 c1 g.toNat)) true (some 1)]))=some r:=hr
   by_cases hL:cJ c0 c1 g.toNat=[]
   · rw[hL]at hr key
     cases hr
     exact⟨key _ _ rfl rfl,λx hx=>by cases hx⟩
   · have:tG (cJ c0 c1 g.toNat)=false:=by unfold tG;cases h:cJ c0 c1 g.toNat with|nil=>exact absurd h hL|cons x xs=>rfl
     rw[this]at hr
     cases hr
     refine⟨key _ _ (nD hL) (nM hL),λx hx=>?_⟩
     simp only[List.mem_singleton]at hx
     subst hx
     exact qZ
 · cases he
end Go.Ev
end
section
set_option maxRecDepth 100000
set_option maxHeartbeats 4000000
namespace Go.Ev
open Go Go.Proofs
def JR:dM:=λargs=>match args with
 | [.str [c0,c1,c2,c3],.int .i64 n,.bool b]=>some (aN [ek c0,ek c1,ek c2,ek c3,ab 0 n,ab n 9999] (.test b λb=>bif b then zX (c_ c0 c1 c2 c3 n)else zX (cZ c0 c1 c2 c3 n)))
 | _=>none
def U7:bq:=bw U6 211 JR
def Pr:dM:=λargs=>match args with
 | [.str [c0,c1,c2,c3],.int .i64 n]=>some (aN [ek c0,ek c1,ek c2,ek c3] (zX (cZ c0 c1 c2 c3 n)))
 | _=>none
def U8:bq:=bw U7 298 Pr
theorem Vk(c0 c1 c2 c3:UInt8)(n:Int){Q:AV->Prop}:aO Q (pT U7 aW 298 [.str [c0,c1,c2,c3],.int .i64 n]) (b_ 1140770102700270422005627140270)=((λ(u5:AV)(u4 u7:Bool)(u8:Option Int)(u0 u1 u2 u3 u6:Prop)=>(λ(u9:Prop)=>u0/\u1/\u2/\u3/\(u4=true->u9)/\(u4=false->u6/\u6/\u6/\u6/\u6/\u6/\(u7=true->u0/\u1/\u2/\u3/\u0/\u1/\u2/\u3/\Q (AV.tuple [AV.int .i64 (wJ c0 c1 c2 c3 57),u5]))/\(u7=false->u0/\u1/\u2/\u3/\u6/\ab n 9999=true/\(gH u8=true->Q (AV.tuple [AV.int .i64 (dp u8),u5]))/\(gH u8=false->u9)))) (Q (AV.tuple [u5,AV.int .i64 16]))) (AV.int .i64 0) (not (ab 0 n)) (not (not (ab 10000 n))) (cZ c0 c1 c2 c3 n) (ek c0=true) (ek c1=true) (ek c2=true) (ek c3=true) (ab 0 n=true)):=by kernel_rfl
theorem Jw:aH tab 298=some (bC 298,aE 298):=by kernel_rfl
theorem J6:az Tryz.prog cfg U7:=by
 refine aA OZ λargs t v he hv=>?_
 unfold JR at he
 split at he
 · rename_i c0 c1 c2 c3 n b
   cases he
   obtain⟨⟨h0,h1,h2,h3,h4,h5,-⟩,hv⟩:=aI hv
   rw[aK]at h4 h5
   cases b with
   | true=>exact Kg ⟨h4,h5⟩ (dW.1 h0) (dW.1 h1) (dW.1 h2) (dW.1 h3) hv
   | false=>exact P0 ⟨h4,h5⟩ (dW.1 h0) (dW.1 h1) (dW.1 h2) (dW.1 h3) hv
 · cases he
theorem CB{c0 c1 c2 c3:UInt8}(h0:ek c0=true)(h1:ek c1=true)(h2:ek c2=true)(h3:ek c3=true){n:Int}(hn:9999<=n):cZ c0 c1 c2 c3 n=some (wJ c0 c1 c2 c3 57):=by
 rw[dW]at h0 h1 h2 h3
 have ed:∀c:UInt8,(c.toNat=88\/48<=c.toNat/\c.toNat<=57)->0<=zh c 57/\zh c 57<=9/\mt c (zh c 57)/\∀k,mt c k->k<=9->k<=zh c 57:=λc h=>by
  unfold zh mt
  by_cases hx:c.toNat=88
  · rw[dI hx,cond_true]
    exact⟨by decide,by decide,.inl hx,λk _ h=>by simpa using h⟩
  · rw[iH hx,cond_false]
    exact⟨by omega,by omega,.inr (by omega),λk hk _=>by omega⟩
 obtain⟨a0,b0,m0,l0⟩:=ed c0 h0
 obtain⟨a1,b1,m1,l1⟩:=ed c1 h1
 obtain⟨a2,b2,m2,l2⟩:=ed c2 h2
 obtain⟨a3,b3,m3,l3⟩:=ed c3 h3
 rw[e9]
 unfold wJ
 refine⟨(mf ⟨a0,b0⟩ ⟨a1,b1⟩ ⟨a2,b2⟩ ⟨a3,b3⟩).2 ⟨m0,m1,m2,m3⟩,by omega,λk hk _=>?_⟩
 obtain⟨k0,k1,k2,k3,x0,x1,x2,x3,rfl,y0,y1,y2,y3⟩:=o4 hk
 have:=l0 k0 y0 x0.2
 have:=l1 k1 y1 x1.2
 have:=l2 k2 y2 x2.2
 have:=l3 k3 y3 x3.2
 omega
theorem Q0:az Tryz.prog cfg U8:=by
 refine aA J6 λargs t v he hv=>?_
 unfold Pr at he
 split at he
 · rename_i c0 c1 c2 c3 n
   cases he
   obtain⟨⟨h0,h1,h2,h3,-⟩,hv⟩:=aI hv
   have hv':Tr.run (bif gH (cZ c0 c1 c2 c3 n)then .ret (.tuple [.int .i64 (dp (cZ c0 c1 c2 c3 n)),.int .i64 0])else .ret (.tuple [.int .i64 0,.int .i64 16]))=some v:=hv
   have ids:aq v=[]:=by
    cases hb:gH (cZ c0 c1 c2 c3 n)<;>rw[hb]at hv'<;>cases hv'<;>simp[aq,bG]
   have yes:∀u,cZ c0 c1 c2 c3 n=some u->v=(.tuple [.int .i64 u,.int .i64 0]):=λu hu=>by
    rw[hu]at hv'
    cases hv'
    rfl
   have no:cZ c0 c1 c2 c3 n=none->v=(.tuple [.int .i64 0,.int .i64 16]):=λhu=>by
    rw[hu]at hv'
    cases hv'
    rfl
   refine cp J6 (L:=aW) Jw (by simp) ak (ap λQ' hQ=>al ((Vk c0 c1 c2 c3 n).mpr ?_)) ids
   simp only[aD,reduceCtorEq,bA,bB,ne_eq]
   have hle:∀k,ta c0 c1 c2 c3 k->0<=k:=λk hk=>hk.1
   (repeat' first|exact trivial|refine⟨?_,?_⟩|intro)<;>first|omega|assumption|refine hQ _ ?_
   · exact(no (m9.2 λk hk=>by have:=hle k hk;omega)).symm
   · exact(yes _ (CB h0 h1 h2 h3 (by omega))).symm
   · rename_i hs
     obtain⟨u,hu⟩:=Option.isSome_iff_exists.1 hs
     rw[yes u hu,hu];rfl
   · rename_i hs
     exact(no (by cases hx:cZ c0 c1 c2 c3 n with
      | none=>rfl
      | some u=>rw[hx]at hs;cases hs)).symm
 · cases he
end Go.Ev
end
section
set_option maxRecDepth 100000
namespace Go.Ev
open Go Go.Proofs Go.Proofs.YtafekjglclnegaaGreatDoor
def tu(s:List UInt8):Bool:=Nat.beq (bz s 48 57+bz s 88 88) s.length
def xA(s:List UInt8):List UInt8:=Lib.trimB s 48
def JM:dM:=λargs=>match args with
 | [.str s,.str t]=>some (aN [af t [88]] (.ret (.bool (!(Nat.beq (bz s 88 88) 0)))))
 | _=>none
def P7:dM:=λargs=>match args with
 | [.str s,.str t]=>some (bif af t [48,49,50,51,52,53,54,55,56,57]then .ret (.bool (fk s))else aN [af t [88,48,49,50,51,52,53,54,55,56,57]] (.ret (.bool (tu s))))
 | _=>none
def OL:dM:=λargs=>match args with
 | [.str s,.str t]=>some (aN [af t [48],Nat.ble s.length 1000000] (.ret (.str (xA s))))
 | _=>none
def OE:dM:=λargs=>match args with
 | [.str s,.int .i64 a,.int .i64 b]=>some (aN [aa a 10,aa b 64,fk s,bm 0 s.length,Nat.ble s.length 18] (.ret (.tuple [.int .i64 (Int.ofNat (numL s)),.niliface])))
 | _=>none
def Ps:dM:=λargs=>match args with
 | [.int .i64 a,.int .i64 b]=>some (aN [ab 0 a,ab 0 b,ae .i64 a,ae .i64 b] (.test (ab (Int.mul a b) 9223372036854775807) λc=>bif c then .ret (.tuple [.int .i64 (Int.mul a b),.int .i64 0])else .ret (.tuple [.int .i64 0,.int .i64 15])))
 | _=>none
def RJ:bq:=bw (bw (bw (bw (bw dF 100 JM) 205 P7) 206 OL) 212 OE) 213 Ps
theorem Fq:aH tab 100=some (bC 100,aE 100):=by kernel_rfl
theorem BO:aH tab 205=some (bC 205,aE 205):=by kernel_rfl
theorem JE:aH tab 206=some (bC 206,aE 206):=by kernel_rfl
theorem Ho:aH tab 212=some (bC 212,aE 212):=by kernel_rfl
theorem AU:aH tab 213=some (bC 213,aE 213):=by kernel_rfl
theorem HW(s:List UInt8):hasX s=!(Nat.beq (bz s 88 88) 0):=by
 rw[Bool.eq_iff_iff,xP,Bool.not_eq_true',jn]
theorem IP(s:List UInt8):mskB s=tu s:=by
 rw[Bool.eq_iff_iff,Pp];unfold tu;rw[bW]
theorem w_:az Tryz.prog cfg RJ:=by
 refine aA (aA (aA (aA (aA aT λargs t v he hv=>?_) λargs t v he hv=>?_) λargs t v he hv=>?_) λargs t v he hv=>?_) λargs t v he hv=>?_
 · unfold JM at he
   split at he
   · rename_i s u
     cases he
     obtain⟨h1,hv⟩:=bU hv
     rw[cF,beq_iff_eq]at h1
     cases hv
     subst h1
     refine db Fq (by simp[aq]) λm w hG=>?_
     refine((Contains_X ⟨⟨s⟩⟩ w).mono λe w' h=>?_)
     obtain⟨rfl,rfl⟩:=h
     exact⟨by rw[show hasX (ByteArray.mk ⟨s⟩).data.toList=hasX s from rfl,HW];simp[aj],RowKit.Below.refl _ _⟩
   · cases he
 · unfold P7 at he
   split at he
   · rename_i s u
     cases he
     cases hb:af u [48,49,50,51,52,53,54,55,56,57]with
     | true=>
       rw[hb]at hv
       rw[cF,beq_iff_eq]at hb
       subst hb
       cases hv
       refine db BO (by simp[aq]) λm w hG=>?_
       have:=only_d ⟨⟨s⟩⟩ w
       rw[show digB (ByteArray.mk ⟨s⟩).data.toList=fk s from qL s]at this
       simpa [ar,aj]using this
     | false=>
       rw[hb]at hv
       obtain⟨h1,hv⟩:=bU hv
       rw[cF,beq_iff_eq]at h1
       cases hv
       subst h1
       refine db BO (by simp[aq]) λm w hG=>?_
       have:=only_m ⟨⟨s⟩⟩ w
       rw[show mskB (ByteArray.mk ⟨s⟩).data.toList=tu s from IP s]at this
       simpa [ar,aj]using this
   · cases he
 · unfold OL at he
   split at he
   · rename_i s u
     cases he
     obtain⟨⟨h1,h2,-⟩,hv⟩:=aI hv
     rw[cF,beq_iff_eq]at h1
     rw[aB]at h2
     cases hv
     subst h1
     refine db JE (by simp[aq]) λm w hG=>?_
     refine((Tryz.strings_Trim_one ⟨⟨s⟩⟩ 48 (by decide) w (by show s.length<=_;omega)).mono λe w' h=>?_)
     rcases h with⟨rfl,rfl|rfl⟩
     · exact⟨by simp[aj,xA],RowKit.Below.refl _ _⟩
     · exact⟨by simp[aj,xA],(RowKit.Below.refl _ _).drew⟩
   · cases he
 · unfold OE at he
   split at he
   · rename_i s a b
     cases he
     obtain⟨⟨h1,h2,h3,h4,h5,-⟩,hv⟩:=aI hv
     rw[aS]at h1 h2
     rw[wb]at h4
     rw[aB]at h5
     cases hv
     subst h1 h2
     refine db Ho (by simp[aq,bG]) λm w hG=>?_
     have:=ParseInt_dig ⟨⟨s⟩⟩ w (by rw[show digB (ByteArray.mk ⟨s⟩).data.toList=fk s from qL s];exact h3) (by show 1<=s.length;omega) (by show s.length<=18;omega)
     rw[show Go.Proofs.YtafekjglclnegaaGreatDoor.numL (ByteArray.mk ⟨s⟩).data.toList=Go.Ev.numL s from wG s]at this
     simpa [ar,aj]using this
   · cases he
 · unfold Ps at he
   split at he
   · rename_i a b
     cases he
     obtain⟨⟨h1,h2,h3,h4,-⟩,hv⟩:=aI hv
     rw[aK]at h1 h2
     rw[aQ]at h3 h4
     simp only[bA,bB]at h3 h4
     obtain⟨x,rfl⟩:=Int.eq_ofNat_of_zero_le h1
     obtain⟨y,rfl⟩:=Int.eq_ofNat_of_zero_le h2
     have e:Int.mul (x:Int) (y:Int)=((x*y:Nat):Int):=(Int.natCast_mul x y).symm
     rw[e]at hv
     have hv:Tr.run (bif ab ((x*y:Nat):Int) 9223372036854775807 then .ret (.tuple [.int .i64 ((x*y:Nat):Int),.int .i64 0])else .ret (.tuple [.int .i64 0,.int .i64 15]))=some v:=hv
     cases hb:ab ((x*y:Nat):Int) 9223372036854775807 with
     | true=>
       rw[hb]at hv
       cases hv
       rw[aK]at hb
       refine db AU (by simp[aq,bG]) λm w hG=>?_
       simpa [ar,aj]using Mul_ok x y w (by omega) (by omega) (by omega)
     | false=>
       rw[hb]at hv
       cases hv
       rw[dc]at hb
       refine db AU (by simp[aq,bG]) λm w hG=>?_
       simpa [ar,aj]using Mul_no x y w (by omega) (by omega) (by omega)
   · cases he
end Go.Ev
end
