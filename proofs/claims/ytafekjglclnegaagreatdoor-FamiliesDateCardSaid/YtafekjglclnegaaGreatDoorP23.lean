import Derived.Test.YtafekjglclnegaaGreatDoorP22
set_option linter.all false
set_option maxRecDepth 100000
set_option maxHeartbeats 4000000
namespace Go.Ev
open Go Go.Proofs
def mt (c:UInt8) (k:Int):Prop:=c.toNat=88∨(c.toNat:Int)=48+k
instance (c:UInt8) (k:Int):Decidable (mt c k):=by unfold mt;infer_instance
def inM (c0 c1 c2 c3:UInt8) (k:Int):Prop:=0≤k/\k≤9999/\mt c0 (k/1000)/\mt c1 (k/100%10)/\mt c2 (k/10%10)/\mt c3 (k%10)
instance (c0 c1 c2 c3:UInt8) (k:Int):Decidable (inM c0 c1 c2 c3 k):=by unfold inM;infer_instance
def nextM (c0 c1 c2 c3:UInt8) (n:Int):Option Int:=((List.range 10000).map Int.ofNat).find? fun k=>decide (n≤k)&&decide (inM c0 c1 c2 c3 k)
def prevM (c0 c1 c2 c3:UInt8) (n:Int):Option Int:=((List.range 10000).map fun i=>9999-Int.ofNat i).find? fun k=>decide (k≤n)&&decide (inM c0 c1 c2 c3 k)
theorem nextM_none {c0 c1 c2 c3:UInt8} {n:Int}:nextM c0 c1 c2 c3 n=none↔∀k,inM c0 c1 c2 c3 k->k<n:=by
 unfold nextM
 rw [List.find?_eq_none]
 constructor
 · intro h k hk
   have:=h k (List.mem_map.2 ⟨k.toNat,List.mem_range.2 (by have:=hk.2.1;omega),Int.toNat_of_nonneg hk.1⟩)
   simp only [hk,decide_true,Bool.and_true,decide_eq_true_eq] at this
   omega
 · intro h k hk
   rw [Bool.and_eq_true,decide_eq_true_eq,decide_eq_true_eq]
   rintro ⟨h1,h2⟩
   have:=h k h2
   omega
theorem nextM_some {c0 c1 c2 c3:UInt8} {n v:Int}:nextM c0 c1 c2 c3 n=some v↔inM c0 c1 c2 c3 v/\n≤v/\∀k,inM c0 c1 c2 c3 k->n≤k->v≤k:=by
 unfold nextM
 have inc:∀(l:List Nat),l.Pairwise (· < ·)->∀(p:Int->Bool) (v:Int),(l.map Int.ofNat).find? p=some v->p v=true/\v∈l.map Int.ofNat/\∀k∈l.map Int.ofNat,p k=true->v≤k:=by
  intro l hl p
  induction l with
  | nil=>intro v h;cases h
  | cons x xs ih=>
    intro v h
    rw [List.map_cons,List.find?_cons] at h
    rw [List.pairwise_cons] at hl
    cases hp:p (Int.ofNat x) with
    | true=>
      rw [hp] at h
      simp only [Option.some.injEq] at h
      subst h
      refine ⟨hp,by simp,fun k hk _=>?_⟩
      rw [List.map_cons,List.mem_cons] at hk
      rcases hk with rfl|hk
      · exact Int.le_refl _
      · obtain ⟨y,hy,rfl⟩:=List.mem_map.1 hk
        have:=hl.1 y hy
        simp only [Int.ofNat_eq_natCast];omega
    | false=>
      rw [hp] at h
      obtain ⟨h1,h2,h3⟩:=ih hl.2 v h
      refine ⟨h1,by rw [List.map_cons,List.mem_cons];exact .inr h2,fun k hk hk2=>?_⟩
      rw [List.map_cons,List.mem_cons] at hk
      rcases hk with rfl|hk
      · rw [hp] at hk2;cases hk2
      · exact h3 k hk hk2
 have mem:∀k,inM c0 c1 c2 c3 k->k∈(List.range 10000).map Int.ofNat:=fun k hk=>List.mem_map.2 ⟨k.toNat,List.mem_range.2 (by have:=hk.2.1;omega),Int.toNat_of_nonneg hk.1⟩
 constructor
 · intro h
   obtain ⟨h1,h2,h3⟩:=inc _ List.pairwise_lt_range _ v h
   rw [Bool.and_eq_true,decide_eq_true_eq,decide_eq_true_eq] at h1
   exact ⟨h1.2,h1.1,fun k hk hn=>h3 k (mem k hk) (by simp [hk,hn])⟩
 · rintro ⟨h1,h2,h3⟩
   cases hf:((List.range 10000).map Int.ofNat).find? (fun k=>decide (n≤k)&&decide (inM c0 c1 c2 c3 k)) with
   | none=>
     rw [List.find?_eq_none] at hf
     have:=hf v (mem v h1)
     simp [h1,h2] at this
   | some u=>
     obtain ⟨k1,k2,k3⟩:=inc _ List.pairwise_lt_range _ u hf
     rw [Bool.and_eq_true,decide_eq_true_eq,decide_eq_true_eq] at k1
     have a:=h3 u k1.2 k1.1
     have b:=k3 v (mem v h1) (by simp [h1,h2])
     rw [Int.le_antisymm b a]
theorem prevM_none {c0 c1 c2 c3:UInt8} {n:Int}:prevM c0 c1 c2 c3 n=none↔∀k,inM c0 c1 c2 c3 k->n<k:=by
 unfold prevM
 rw [List.find?_eq_none]
 constructor
 · intro h k hk
   have:=h k (List.mem_map.2 ⟨(9999-k).toNat,List.mem_range.2 (by have:=hk.1;omega),by have:=hk.2.1;simp only [Int.ofNat_eq_natCast];omega⟩)
   simp only [hk,decide_true,Bool.and_true,decide_eq_true_eq] at this
   omega
 · intro h k hk
   rw [Bool.and_eq_true,decide_eq_true_eq,decide_eq_true_eq]
   rintro ⟨h1,h2⟩
   have:=h k h2
   omega
theorem inM_dig {c0 c1 c2 c3:UInt8} {k0 k1 k2 k3:Int} (h0:0≤k0/\k0≤9) (h1:0≤k1/\k1≤9) (h2:0≤k2/\k2≤9) (h3:0≤k3/\k3≤9):inM c0 c1 c2 c3 (1000*k0+100*k1+10*k2+k3)↔mt c0 k0/\mt c1 k1/\mt c2 k2/\mt c3 k3:=by
 unfold inM
 rw [show (1000*k0+100*k1+10*k2+k3)/1000=k0 by omega,show (1000*k0+100*k1+10*k2+k3)/100%10=k1 by omega,show (1000*k0+100*k1+10*k2+k3)/10%10=k2 by omega,show (1000*k0+100*k1+10*k2+k3)%10=k3 by omega]
 exact ⟨fun h=>h.2.2,fun h=>⟨by omega,by omega,h⟩⟩
theorem inM_ex {c0 c1 c2 c3:UInt8} {k:Int} (h:inM c0 c1 c2 c3 k):∃k0 k1 k2 k3:Int,(0≤k0/\k0≤9)/\(0≤k1/\k1≤9)/\(0≤k2/\k2≤9)/\(0≤k3/\k3≤9)/\k=1000*k0+100*k1+10*k2+k3/\mt c0 k0/\mt c1 k1/\mt c2 k2/\mt c3 k3:=by
 obtain ⟨h1,h2,h3⟩:=h
 exact ⟨k/1000,k/100%10,k/10%10,k%10,by omega,by omega,by omega,by omega,by omega,h3⟩
def mBy (c:UInt8):Bool:=Nat.beq c.toNat 88 || (Nat.ble 48 c.toNat&&Nat.ble c.toNat 57)
theorem mBy_iff {c:UInt8}:mBy c=true↔c.toNat=88∨48≤c.toNat/\c.toNat≤57:=by
 unfold mBy;rw [Bool.or_eq_true,Bool.and_eq_true,q_beq_t,q_ble_t,q_ble_t]
def isM (x:Option Int):Bool:=x.isSome
def getM (x:Option Int):Int:=x.getD 0
def ansM (x:Option Int):Tr AV:=.test (isM x) fun b=>bif b then .ret (.tuple [.int .i64 (getM x),.int .i64 0]) else .ret (.tuple [.int .i64 0,.int .i64 16])
theorem b211u (c0 c1 c2 c3:UInt8) (n:Int) {Q:AV->Prop}:askA Q (pT U2 noL 211 [.str [c0,c1,c2,c3],.int .i64 n,.bool true]) (dtN 10662088127000663551001200200066300062000620006254702002251202200066300062000625470200225127000663000625470200225400515564030202002200224062088127000661070056646355100122020006610202005664630006200062547020022512700066107005664630006254702002254005106620881270006635510012202000663630006200062547020022512700066363000625470200220588540051556403020200220022455403020200220022406208812700066107005664612022000661002200566400064635510012700066107005664612022000661002200566400064630006254702002254005106620881270006635510012022000663000626300062547020022058851270006630006254702002254005155640302020022002240620881270006610700566463551001270006610700566463630006254702002205885400510662088127000663551001270006636363000625470200220588058854005155640302020022002245540302020022002245540302020022002240620881270006610700566461202200066100220056640006461220200066102020056646120020006610002005664000640006463551004005106620881270006635510008851202200066300062000625470200225127000663000625470200225400515564030202002200224062088127000661070056646355100088512700066107005664630006254702002254005106620881270006635510008851270006636300062547020022058854005155640302020022002245540302020022002240620881270006610700566461202200066100220056640006463551000885400510662088127000663551000880588512700066300062547020022540051556403020200220022406208812700066107005664635510008805885400510662088127000663551000880588058854005155640302020022002245540302020022002245540302020022002245540302020022002246662200)=((fun (u8:AV) (u0 u1 u2 u3 u4 u5 u6 u7:Int)=>(fun (u9 ua uc ue uh un up us uu uw uy:Bool) (uq uv uz:Int) (ub ud uf ug ui uj uk ul um uo ur ut ux:Prop)=>(fun (uA uB uC uD uE uF uG uH uI uJ uK uL uM uN uO uP uQ uR uS uT uU uV uW uX uY uZ u10 u11:Prop)=>(fun (u12 u13 u14 u15 u16 u17 u18 u19 u1a u1b u1c:Prop)=>(fun (u1d u1e u1f u1g u1h:Prop)=>intLe 0 n=true/\intLe n 9999=true/\(uA->uA/\uA/\uA/\uA/\uA/\uA/\uB/\(intEq u0 u1=true->(uC->uC/\uC/\uC/\uC/\uC/\uC/\uD/\(ub->(uE->uE/\uE/\uE/\uE/\uE/\uE/\uF/\(ud->(uG->uG/\uG/\uG/\uG/\uG/\uG/\uH/\uI/\(ug->(uJ->uF/\uF/\uF/\uF/\uF/\uF/\u1d)/\u13))/\u14)/\(um->(uM->u1d)/\u15))/\(uN->uN/\uN/\uN/\uN/\uN/\uN/\uO/\(uG->uG/\uG/\uG/\uG/\uG/\uG/\uH/\uI/\(ug->(uJ->uO/\uO/\uO/\uO/\uO/\uO/\u16/\(uP->u1d))/\u13))/\u14))/\(ur->(us=true->u12)/\u17))/\(uQ->uQ/\uQ/\uQ/\uQ/\uQ/\uQ/\uR/\(uE->uE/\uE/\uE/\uE/\uE/\uE/\uF/\(ud->(uG->uG/\uG/\uG/\uG/\uG/\uG/\uH/\uI/\(ug->(uJ->uF/\uF/\uF/\uF/\uF/\uF/\uR/\uR/\uR/\uR/\uR/\uR/\u1e/\u1f)/\u13))/\u14)/\(um->(uM->uR/\uR/\uR/\uR/\uR/\uR/\u1g/\u1f)/\u15))/\(uN->uN/\uN/\uN/\uN/\uN/\uN/\uO/\(uG->uG/\uG/\uG/\uG/\uG/\uG/\uH/\uI/\(ug->(uJ->uO/\uO/\uO/\uO/\uO/\uO/\u16/\(uP->uR/\uR/\uR/\uR/\uR/\uR/\u19/\u1f))/\u13))/\u14)))/\(intEq u0 u1=false->(uw=true->ui)/\(uw=false->uB/\(uR->(uO->(uL->ux/\Q (AV.tuple [AV.int .i64 (val4 u0 48 48 48),u8]))/\(uH->ux/\ul/\Q (AV.tuple [AV.int .i64 (val4 u0 48 48 u6),u8])))/\(uF->(uL->ux/\uo/\Q (AV.tuple [AV.int .i64 (val4 u0 48 u4 48),u8]))/\(uH->ux/\uo/\ul/\Q (AV.tuple [AV.int .i64 (val4 u0 48 u4 u6),u8]))))/\(uD->(uO->(uL->ux/\ut/\Q (AV.tuple [AV.int .i64 (val4 u0 u2 48 48),u8]))/\(uH->ux/\ut/\ul/\Q (AV.tuple [AV.int .i64 (val4 u0 u2 48 u6),u8])))/\(uF->(uL->ux/\ut/\uo/\Q (AV.tuple [AV.int .i64 (val4 u0 u2 u4 48),u8]))/\(uH->ux/\ut/\uo/\ul/\Q (AV.tuple [AV.int .i64 (val4 u0 u2 u4 u6),u8])))))))/\(uW->uW/\uW/\uW/\uW/\uW/\uW/\uX/\(uC->uC/\uC/\uC/\uC/\uC/\uC/\uD/\(ub->(uE->uE/\uE/\uE/\uE/\uE/\uE/\uF/\(ud->(uG->uG/\uG/\uG/\uG/\uG/\uG/\uH/\uI/\(ug->(uJ->uF/\uF/\uF/\uF/\uF/\uF/\uD/\uD/\uD/\uD/\uD/\uD/\uX/\uX/\uX/\uX/\uX/\uX/\(uY->uZ/\uD/\uF/\uH/\u1a)/\u11)/\u13))/\u14)/\(um->(uM->uD/\uD/\uD/\uD/\uD/\uD/\uX/\uX/\uX/\uX/\uX/\uX/\(uY->uZ/\uD/\uF/\u1h)/\u11)/\u15))/\(uN->uN/\uN/\uN/\uN/\uN/\uN/\uO/\(uG->uG/\uG/\uG/\uG/\uG/\uG/\uH/\uI/\(ug->(uJ->uO/\uO/\uO/\uO/\uO/\uO/\u16/\(uP->uD/\uD/\uD/\uD/\uD/\uD/\uX/\uX/\uX/\uX/\uX/\uX/\(uY->uZ/\uD/\uO/\uH/\u1b)/\u11))/\u13))/\u14))/\(ur->(us=true->uX/\uX/\uX/\uX/\uX/\uX/\(uY->uZ/\uD/\(uO->(uL->u10/\ut/\Q (AV.tuple [AV.int .i64 (val4 uz u2 48 48),u8]))/\(uH->u1b))/\(uF->u1h))/\u11)/\u17))/\(uQ->uQ/\uQ/\uQ/\uQ/\uQ/\uQ/\uR/\(uE->uE/\uE/\uE/\uE/\uE/\uE/\uF/\(ud->(uG->uG/\uG/\uG/\uG/\uG/\uG/\uH/\uI/\(ug->(uJ->uF/\uF/\uF/\uF/\uF/\uF/\uR/\uR/\uR/\uR/\uR/\uR/\u1e/\(uV->uX/\uX/\uX/\uX/\uX/\uX/\(uY->uZ/\uR/\uF/\uH/\u1c)/\u11))/\u13))/\u14)/\(um->(uM->uR/\uR/\uR/\uR/\uR/\uR/\u1g/\(uV->uX/\uX/\uX/\uX/\uX/\uX/\(uY->uZ/\uR/\uF/\(uL->u10/\uo/\Q (AV.tuple [AV.int .i64 (val4 uz 48 u4 48),u8]))/\(uH->u1c))/\u11))/\u15))/\(uN->uN/\uN/\uN/\uN/\uN/\uN/\uO/\(uG->uG/\uG/\uG/\uG/\uG/\uG/\uH/\uI/\(ug->(uJ->uO/\uO/\uO/\uO/\uO/\uO/\u16/\(uP->uR/\uR/\uR/\uR/\uR/\uR/\u19/\(uV->uX/\uX/\uX/\uX/\uX/\uX/\(uY->uZ/\uR/\uO/\uH/\u10/\ul/\Q (AV.tuple [AV.int .i64 (val4 uz 48 48 u6),u8]))/\u11)))/\u13))/\u14)))) (uD/\uD/\uD/\uD/\uD/\uD/\u12) (uS->uT/\uF/\uH/\u18) (uV->u12) (uS->uT/\uF/\(uL->uj/\uU/\uo/\Q (AV.tuple [AV.int .i64 (val4 u1 uv u4 48),u8]))/\(uH->u18)) ((uL->u10/\ut/\uo/\Q (AV.tuple [AV.int .i64 (val4 uz u2 u4 48),u8]))/\(uH->u1a))) (uB/\uB/\uB/\uB/\uB/\uB/\ui) (uh=false->uH/\uj/\uk/\and (intLe 48 u5) (intLe u5 57)=true/\ul/\Q (AV.tuple [AV.int .i64 (val4 u1 u3 u5 u6),u8])) (uK->uK/\uK/\uK/\uK/\uK/\uK/\uL/\uf) (un=false->uF/\(uL->uj/\uk/\uo/\Q (AV.tuple [AV.int .i64 (val4 u1 u3 u4 48),u8]))/\(uH->uj/\uk/\uo/\ul/\Q (AV.tuple [AV.int .i64 (val4 u1 u3 u4 u6),u8]))) (up=true->inR .u8 uq=true/\uH/\uj/\uk/\and (intLe 48 uq) (intLe uq 57)=true/\ul/\Q (AV.tuple [AV.int .i64 (val4 u1 u3 uq u6),u8])) (us=false->uD/\(uO->(uL->uj/\ut/\Q (AV.tuple [AV.int .i64 (val4 u1 u2 48 48),u8]))/\(uH->uj/\ut/\ul/\Q (AV.tuple [AV.int .i64 (val4 u1 u2 48 u6),u8])))/\(uF->(uL->uj/\ut/\uo/\Q (AV.tuple [AV.int .i64 (val4 u1 u2 u4 48),u8]))/\(uH->uj/\ut/\uo/\ul/\Q (AV.tuple [AV.int .i64 (val4 u1 u2 u4 u6),u8])))) (uj/\uU/\uo/\ul/\Q (AV.tuple [AV.int .i64 (val4 u1 uv u4 u6),u8])) (uS->uT/\uO/\uH/\uj/\uU/\ul/\Q (AV.tuple [AV.int .i64 (val4 u1 uv 48 u6),u8])) (u10/\ut/\uo/\ul/\Q (AV.tuple [AV.int .i64 (val4 uz u2 u4 u6),u8])) (u10/\ut/\ul/\Q (AV.tuple [AV.int .i64 (val4 uz u2 48 u6),u8])) (u10/\uo/\ul/\Q (AV.tuple [AV.int .i64 (val4 uz 48 u4 u6),u8]))) (not u9=true) (u9=false) (not ua=true) (ua=false) (not uc=true) (uc=false) (not ue=true) (ue=false) (intEq u6 u7=true->uf) (uh=true) (not ue=false) (ue=true) (un=true) (not uc=false) (uc=true) (up=false) (not ua=false) (ua=true) (uu=true) (inR .u8 uv=true) (and (intLe 48 uv) (intLe uv 57)=true) (uu=false) (not u9=false) (u9=true) (uy=true) (inR .u8 uz=true) (and (intLe 48 uz) (intLe uz 57)=true) (uy=false->ui)) (intEq u0 88) (intEq u2 88) (intEq u4 88) (intEq u6 88) (not (boolEq (not (intLe u6 u7)) true)) (not (boolEq (not (intLe u4 u5)) true)) (not (intEq u5 57)) (not (boolEq (not (intLe u2 u3)) true)) (not (intEq u3 57)) (not (boolEq (not (intLe u0 u1)) true)) (not (intEq u1 57)) (Int.add u5 1) (Int.add u3 1) (Int.add u1 1) (intEq u2 u3=true) (intEq u4 u5=true) (Q (AV.tuple [AV.int .i64 n,u8])) (intEq u6 u7=false) (Q (AV.tuple [u8,AV.int .i64 16])) (and (intLe 48 u1) (intLe u1 57)=true) (and (intLe 48 u3) (intLe u3 57)=true) (and (intLe 48 u6) (intLe u6 57)=true) (intEq u4 u5=false) (and (intLe 48 u4) (intLe u4 57)=true) (intEq u2 u3=false) (and (intLe 48 u2) (intLe u2 57)=true) (and (intLe 48 u0) (intLe u0 57)=true)) (AV.int .i64 0) (Int.ofNat (UInt8.toNat c0)) (Int.add 48 (dg n 0)) (Int.ofNat (UInt8.toNat c1)) (Int.add 48 (dg n 1)) (Int.ofNat (UInt8.toNat c2)) (Int.add 48 (dg n 2)) (Int.ofNat (UInt8.toNat c3)) (Int.add 48 (dg n 3))):=by kernel_rfl
theorem body211:bodyOf tab 211=some (fnOf 211,codeOf 211):=by kernel_rfl
theorem f211u {c0 c1 c2 c3:UInt8} {n:Int} (hn:0≤n/\n≤9999) (hc0:c0.toNat=88∨48≤c0.toNat/\c0.toNat≤57) (hc1:c1.toNat=88∨48≤c1.toNat/\c1.toNat≤57) (hc2:c2.toNat=88∨48≤c2.toNat/\c2.toNat≤57) (hc3:c3.toNat=88∨48≤c3.toNat/\c3.toNat≤57) {v:AV} (hv:(ansM (nextM c0 c1 c2 c3 n)).run=some v):FactW Tryz.prog cfg 211 [.str [c0,c1,c2,c3],.int .i64 n,.bool true] [] v []:=by
 obtain ⟨d0,d1,d2,d3⟩:=dgs hn.1
 have hv':Tr.run (bif isM (nextM c0 c1 c2 c3 n) then .ret (.tuple [.int .i64 (getM (nextM c0 c1 c2 c3 n)),.int .i64 0]) else .ret (.tuple [.int .i64 0,.int .i64 16]))=some v:=hv
 have ids:idsA v=[]:=by
  cases hb:isM (nextM c0 c1 c2 c3 n)<;>rw [hb] at hv'<;>cases hv'<;>simp [idsA,idsL]
 have g0:0≤dg n 0/\dg n 0≤9:=by omega
 have g1:0≤dg n 1/\dg n 1≤9:=by omega
 have g2:0≤dg n 2/\dg n 2≤9:=by omega
 have g3:0≤dg n 3/\dg n 3≤9:=by omega
 have hn2:n=1000*dg n 0+100*dg n 1+10*dg n 2+dg n 3:=by omega
 refine fpOK U2_ok (L:=noL) body211 (by simp) lok_none (wp_gen fun Q' hQ=>askA_wp ((b211u c0 c1 c2 c3 n).mpr ?_)) ids
 dsimp only
 have yes:∀u,nextM c0 c1 c2 c3 n=some u->Q' (.tuple [.int .i64 u,.int .i64 0]):=fun u hu=>by
  rw [hu] at hv'
  cases hv'
  exact hQ _ rfl
 have no:nextM c0 c1 c2 c3 n=none->Q' (.tuple [.int .i64 0,.int .i64 16]):=fun hu=>by
  rw [hu] at hv'
  cases hv'
  exact hQ _ rfl
 generalize dg n 0=e0 at *
 generalize dg n 1=e1 at *
 generalize dg n 2=e2 at *
 generalize dg n 3=e3 at *
 clear d0 d1 d2 d3 hv hv' hQ ids
 have all:∀(a b c d:Int),(48≤a/\a≤57)->(48≤b/\b≤57)->(48≤c/\c≤57)->(48≤d/\d≤57)->(c0.toNat=88∨(c0.toNat:Int)=a)->(c1.toNat=88∨(c1.toNat:Int)=b)->(c2.toNat=88∨(c2.toNat:Int)=c)->(c3.toNat=88∨(c3.toNat:Int)=d)->
  1000*e0+100*e1+10*e2+e3≤1000*(a-48)+100*(b-48)+10*(c-48)+(d-48)->
  (∀k0 k1 k2 k3:Int,(0≤k0/\k0≤9)->(0≤k1/\k1≤9)->(0≤k2/\k2≤9)->(0≤k3/\k3≤9)->(c0.toNat=88∨(c0.toNat:Int)=48+k0)->(c1.toNat=88∨(c1.toNat:Int)=48+k1)->(c2.toNat=88∨(c2.toNat:Int)=48+k2)->(c3.toNat=88∨(c3.toNat:Int)=48+k3)->
    1000*e0+100*e1+10*e2+e3≤1000*k0+100*k1+10*k2+k3->1000*(a-48)+100*(b-48)+10*(c-48)+(d-48)≤1000*k0+100*k1+10*k2+k3)->Q' (.tuple [.int .i64 (val4 a b c d),.int .i64 0]):=by
  intro a b c d ha hb hc hd m0 m1 m2 m3 hle hmin
  refine yes _ (nextM_some.2 ⟨?_,?_,fun k hk hnk=>?_⟩)
  · unfold val4
    rw [inM_dig (by omega) (by omega) (by omega) (by omega)]
    unfold mt
    exact ⟨by omega,by omega,by omega,by omega⟩
  · unfold val4;omega
  · obtain ⟨k0,k1,k2,k3,a1,a2,a3,a4,rfl,b1,b2,b3,b4⟩:=inM_ex hk
    unfold val4
    exact hmin k0 k1 k2 k3 a1 a2 a3 a4 b1 b2 b3 b4 (by omega)
 have same:(c0.toNat=88∨(c0.toNat:Int)=48+e0)->(c1.toNat=88∨(c1.toNat:Int)=48+e1)->(c2.toNat=88∨(c2.toNat:Int)=48+e2)->(c3.toNat=88∨(c3.toNat:Int)=48+e3)->Q' (.tuple [.int .i64 n,.int .i64 0]):=fun m0 m1 m2 m3=>by
  refine yes _ (nextM_some.2 ⟨?_,Int.le_refl _,fun k hk hnk=>hnk⟩)
  rw [hn2,inM_dig g0 g1 g2 g3]
  exact ⟨m0,m1,m2,m3⟩
 have non:(∀k0 k1 k2 k3:Int,(0≤k0/\k0≤9)->(0≤k1/\k1≤9)->(0≤k2/\k2≤9)->(0≤k3/\k3≤9)->(c0.toNat=88∨(c0.toNat:Int)=48+k0)->(c1.toNat=88∨(c1.toNat:Int)=48+k1)->(c2.toNat=88∨(c2.toNat:Int)=48+k2)->(c3.toNat=88∨(c3.toNat:Int)=48+k3)->
       1000*k0+100*k1+10*k2+k3<1000*e0+100*e1+10*e2+e3)->Q' (.tuple [.int .i64 0,.int .i64 16]):=fun h=>by
  refine no (nextM_none.2 fun k hk=>?_)
  obtain ⟨k0,k1,k2,k3,a1,a2,a3,a4,rfl,b1,b2,b3,b4⟩:=inM_ex hk
  have:=h k0 k1 k2 k3 a1 a2 a3 a4 b1 b2 b3 b4
  omega
 clear yes no
 simp only [q_all,reduceCtorEq,loK,hiK,ne_eq]
 (repeat' first|exact trivial|refine ⟨?_,?_⟩|intro)<;>first|omega|(refine same ?_ ?_ ?_ ?_<;>omega)|(refine all _ _ _ _ ?_ ?_ ?_ ?_ ?_ ?_ ?_ ?_ ?_ ?_<;>(intros;omega))|(refine non ?_;intros;omega)
def s211:Sum:=fun args=>match args with
 | [.str [c0,c1,c2,c3],.int .i64 n,.bool true]=>some (asrts [mBy c0,mBy c1,mBy c2,mBy c3,intLe 0 n,intLe n 9999] (ansM (nextM c0 c1 c2 c3 n)))
 | _=>none
def s208:Sum:=fun args=>match args with
 | [.str [c0,c1,c2,c3]]=>some (asrts [mBy c0,mBy c1,mBy c2,mBy c3] (.ret (.int .i64 0)))
 | _=>none
def dgx (c:UInt8) (x:Int):Int:=(bif Nat.beq c.toNat 88 then x else (c.toNat:Int))-48
def fil4 (c0 c1 c2 c3:UInt8) (x:Int):Int:=1000*dgx c0 x+100*dgx c1 x+10*dgx c2 x+dgx c3 x
def s209:Sum:=fun args=>match args with
 | [.str [c0,c1,c2,c3],.int .u8 x]=>some (asrts [mBy c0,mBy c1,mBy c2,mBy c3,isD x] (.ret (.int .i64 (fil4 c0 c1 c2 c3 x))))
 | _=>none
def U3:Sums:=addP (addP (addP U2 211 s211) 208 s208) 209 s209
def s147:Sum:=fun args=>match args with
 | [.str [c0,c1,c2,c3],.int .i64 n]=>some (asrts [mBy c0,mBy c1,mBy c2,mBy c3] (ansM (nextM c0 c1 c2 c3 n)))
 | _=>none
def U4:Sums:=addP U3 147 s147
theorem b147 (c0 c1 c2 c3:UInt8) (n:Int) {Q:AV->Prop}:askA Q (pT U3 noL 147 [.str [c0,c1,c2,c3],.int .i64 n]) (dtN 114770142200562710270027040270)=((fun (u5:AV) (u4 u7:Bool) (u8:Option Int) (u0 u1 u2 u3 u6:Prop)=>(fun (u9:Prop)=>u0/\u1/\u2/\u3/\(u4=true->u0/\u1/\u2/\u3/\u0/\u1/\u2/\u3/\Q (AV.tuple [AV.int .i64 (fil4 c0 c1 c2 c3 48),u5]))/\(u4=false->u6/\u6/\u6/\u6/\u6/\u6/\(u7=true->u9)/\(u7=false->u0/\u1/\u2/\u3/\u6/\intLe n 9999=true/\(isM u8=true->Q (AV.tuple [AV.int .i64 (getM u8),u5]))/\(isM u8=false->u9)))) (Q (AV.tuple [u5,AV.int .i64 16]))) (AV.int .i64 0) (not (intLe 0 n)) (not (not (intLe 10000 n))) (nextM c0 c1 c2 c3 n) (mBy c0=true) (mBy c1=true) (mBy c2=true) (mBy c3=true) (intLe 0 n=true)):=by kernel_rfl
theorem body208:bodyOf tab 208=some (fnOf 208,codeOf 208):=by kernel_rfl
theorem body209:bodyOf tab 209=some (fnOf 209,codeOf 209):=by kernel_rfl
theorem body147:bodyOf tab 147=some (fnOf 147,codeOf 147):=by kernel_rfl
theorem mB4 {c0 c1 c2 c3:UInt8} (h0:mBy c0=true) (h1:mBy c1=true) (h2:mBy c2=true) (h3:mBy c3=true):∀(i:Nat) (h:i<(ByteArray.mk ⟨[c0,c1,c2,c3]⟩).size),Go.Proofs.YtafekjglclnegaaGreatDoor.mb (ByteArray.mk ⟨[c0,c1,c2,c3]⟩)[i]:=by
 intro i h
 rw [mBy_iff] at h0 h1 h2 h3
 have hs:(ByteArray.mk ⟨[c0,c1,c2,c3]⟩).size=4:=rfl
 have:i=0∨i=1∨i=2∨i=3:=by omega
 rcases this with rfl|rfl|rfl|rfl
 · exact h0
 · exact h1
 · exact h2
 · exact h3
theorem U3_ok:SumsOK Tryz.prog cfg U3:=by
 refine sums_addP (sums_addP (sums_addP U2_ok fun args t v he hv=>?_) fun args t v he hv=>?_) fun args t v he hv=>?_
 · unfold s211 at he
   split at he
   · cases he
     obtain ⟨h0,hv⟩:=asrts_run hv
     obtain ⟨h1,hv⟩:=asrts_run hv
     obtain ⟨h2,hv⟩:=asrts_run hv
     obtain ⟨h3,hv⟩:=asrts_run hv
     obtain ⟨h4,hv⟩:=asrts_run hv
     obtain ⟨h5,hv⟩:=asrts_run hv
     rw [q_le_t] at h4 h5
     exact f211u ⟨h4,h5⟩ (mBy_iff.1 h0) (mBy_iff.1 h1) (mBy_iff.1 h2) (mBy_iff.1 h3) hv
   · cases he
 · unfold s208 at he
   split at he
   · rename_i c0 c1 c2 c3
     cases he
     obtain ⟨h0,hv⟩:=asrts_run hv
     obtain ⟨h1,hv⟩:=asrts_run hv
     obtain ⟨h2,hv⟩:=asrts_run hv
     obtain ⟨h3,hv⟩:=asrts_run hv
     cases hv
     refine fact_calls body208 (by simp [idsA]) fun m w hG=>?_
     have:=Go.Proofs.YtafekjglclnegaaGreatDoor.masks_Check ⟨⟨[c0,c1,c2,c3]⟩⟩ w (by show 1≤4;decide) (by show 4≤18;decide) (mB4 h0 h1 h2 h3)
     simpa [concL,conc] using this
   · cases he
 · unfold s209 at he
   split at he
   · rename_i c0 c1 c2 c3 x
     cases he
     obtain ⟨h0,hv⟩:=asrts_run hv
     obtain ⟨h1,hv⟩:=asrts_run hv
     obtain ⟨h2,hv⟩:=asrts_run hv
     obtain ⟨h3,hv⟩:=asrts_run hv
     obtain ⟨h4,hv⟩:=asrts_run hv
     unfold isD at h4
     rw [Bool.and_eq_true,q_le_t,q_le_t] at h4
     cases hv
     refine fact_calls body209 (by simp [idsA]) fun m w hG=>?_
     have:=Go.Proofs.YtafekjglclnegaaGreatDoor.masks_filled ⟨⟨[c0,c1,c2,c3]⟩⟩ x w h4 (by show 4≤18;decide) (mB4 h0 h1 h2 h3)
     have e:Go.Proofs.YtafekjglclnegaaGreatDoor.fillv x [c0,c1,c2,c3]=fil4 c0 c1 c2 c3 x:=by
      have ed:∀c:UInt8,Go.Proofs.YtafekjglclnegaaGreatDoor.dig x c=dgx c x:=fun c=>by
       unfold Go.Proofs.YtafekjglclnegaaGreatDoor.dig dgx
       by_cases h:c.toNat=88
       · rw [if_pos h,beqT h];rfl
       · rw [if_neg h,beqF h];rfl
      simp only [Go.Proofs.YtafekjglclnegaaGreatDoor.fillv,List.foldl_cons,List.foldl_nil,ed,fil4]
      omega
     rw [show (ByteArray.mk ⟨[c0,c1,c2,c3]⟩).data.toList=[c0,c1,c2,c3] from rfl,e] at this
     simpa [concL,conc] using this
   · cases he
theorem fil4_next {c0 c1 c2 c3:UInt8} (h0:mBy c0=true) (h1:mBy c1=true) (h2:mBy c2=true) (h3:mBy c3=true) {n:Int} (hn:n≤0):nextM c0 c1 c2 c3 n=some (fil4 c0 c1 c2 c3 48):=by
 rw [mBy_iff] at h0 h1 h2 h3
 have ed:∀c:UInt8,(c.toNat=88∨48≤c.toNat/\c.toNat≤57)->0≤dgx c 48/\dgx c 48≤9/\mt c (dgx c 48)/\∀k,mt c k->0≤k->dgx c 48≤k:=fun c h=>by
  unfold dgx mt
  by_cases hx:c.toNat=88
  · rw [beqT hx]
    rw [cond_true]
    exact ⟨by decide,by decide,.inl hx,fun k _ h=>by simpa using h⟩
  · rw [beqF hx,cond_false]
    exact ⟨by omega,by omega,.inr (by omega),fun k hk _=>by omega⟩
 obtain ⟨a0,b0,m0,l0⟩:=ed c0 h0
 obtain ⟨a1,b1,m1,l1⟩:=ed c1 h1
 obtain ⟨a2,b2,m2,l2⟩:=ed c2 h2
 obtain ⟨a3,b3,m3,l3⟩:=ed c3 h3
 rw [nextM_some]
 unfold fil4
 refine ⟨(inM_dig ⟨a0,b0⟩ ⟨a1,b1⟩ ⟨a2,b2⟩ ⟨a3,b3⟩).2 ⟨m0,m1,m2,m3⟩,by omega,fun k hk _=>?_⟩
 obtain ⟨k0,k1,k2,k3,x0,x1,x2,x3,rfl,y0,y1,y2,y3⟩:=inM_ex hk
 have:=l0 k0 y0 x0.1
 have:=l1 k1 y1 x1.1
 have:=l2 k2 y2 x2.1
 have:=l3 k3 y3 x3.1
 omega
theorem U4_ok:SumsOK Tryz.prog cfg U4:=by
 refine sums_addP U3_ok fun args t v he hv=>?_
 unfold s147 at he
 split at he
 · rename_i c0 c1 c2 c3 n
   cases he
   obtain ⟨h0,hv⟩:=asrts_run hv
   obtain ⟨h1,hv⟩:=asrts_run hv
   obtain ⟨h2,hv⟩:=asrts_run hv
   obtain ⟨h3,hv⟩:=asrts_run hv
   have hv':Tr.run (bif isM (nextM c0 c1 c2 c3 n) then .ret (.tuple [.int .i64 (getM (nextM c0 c1 c2 c3 n)),.int .i64 0]) else .ret (.tuple [.int .i64 0,.int .i64 16]))=some v:=hv
   have ids:idsA v=[]:=by
    cases hb:isM (nextM c0 c1 c2 c3 n)<;>rw [hb] at hv'<;>cases hv'<;>simp [idsA,idsL]
   have yes:∀u,nextM c0 c1 c2 c3 n=some u->v=(.tuple [.int .i64 u,.int .i64 0]):=fun u hu=>by
    rw [hu] at hv'
    cases hv'
    rfl
   have no:nextM c0 c1 c2 c3 n=none->v=(.tuple [.int .i64 0,.int .i64 16]):=fun hu=>by
    rw [hu] at hv'
    cases hv'
    rfl
   refine fpOK U3_ok (L:=noL) body147 (by simp) lok_none (wp_gen fun Q' hQ=>askA_wp ((b147 c0 c1 c2 c3 n).mpr ?_)) ids
   simp only [q_all,reduceCtorEq,loK,hiK,ne_eq]
   have hle:∀k,inM c0 c1 c2 c3 k->k≤9999:=fun k hk=>hk.2.1
   (repeat' first|exact trivial|refine ⟨?_,?_⟩|intro)<;>first|omega|assumption|refine hQ _ ?_
   · exact (yes _ (fil4_next h0 h1 h2 h3 (by omega))).symm
   · exact (no (nextM_none.2 fun k hk=>by have:=hle k hk;omega)).symm
   · rename_i hs
     obtain ⟨u,hu⟩:=Option.isSome_iff_exists.1 hs
     rw [yes u hu,hu];rfl
   · rename_i hs
     exact (no (by cases hx:nextM c0 c1 c2 c3 n with
      | none=>rfl
      | some u=>rw [hx] at hs;cases hs)).symm
 · cases he
theorem prevM_some {c0 c1 c2 c3:UInt8} {n v:Int}:prevM c0 c1 c2 c3 n=some v↔inM c0 c1 c2 c3 v/\v≤n/\∀k,inM c0 c1 c2 c3 k->k≤n->k≤v:=by
 unfold prevM
 have dec:∀(l:List Nat),l.Pairwise (· < ·)->∀(p:Int->Bool) (v:Int),(l.map fun i=>9999-Int.ofNat i).find? p=some v->p v=true/\v∈l.map (fun i=>9999-Int.ofNat i)/\∀k∈l.map (fun i=>9999-Int.ofNat i),p k=true->k≤v:=by
  intro l hl p
  induction l with
  | nil=>intro v h;cases h
  | cons x xs ih=>
    intro v h
    rw [List.map_cons,List.find?_cons] at h
    rw [List.pairwise_cons] at hl
    cases hp:p (9999-Int.ofNat x) with
    | true=>
      rw [hp] at h
      simp only [Option.some.injEq] at h
      subst h
      refine ⟨hp,by simp,fun k hk _=>?_⟩
      rw [List.map_cons,List.mem_cons] at hk
      rcases hk with rfl|hk
      · exact Int.le_refl _
      · obtain ⟨y,hy,rfl⟩:=List.mem_map.1 hk
        have:=hl.1 y hy
        simp only [Int.ofNat_eq_natCast];omega
    | false=>
      rw [hp] at h
      obtain ⟨h1,h2,h3⟩:=ih hl.2 v h
      refine ⟨h1,by rw [List.map_cons,List.mem_cons];exact .inr h2,fun k hk hk2=>?_⟩
      rw [List.map_cons,List.mem_cons] at hk
      rcases hk with rfl|hk
      · rw [hp] at hk2;cases hk2
      · exact h3 k hk hk2
 have mem:∀k,inM c0 c1 c2 c3 k->k∈(List.range 10000).map (fun i=>9999-Int.ofNat i):=fun k hk=>List.mem_map.2 ⟨(9999-k).toNat,List.mem_range.2 (by have:=hk.1;omega),by have:=hk.2.1;simp only [Int.ofNat_eq_natCast];omega⟩
 constructor
 · intro h
   obtain ⟨h1,h2,h3⟩:=dec _ List.pairwise_lt_range _ v h
   rw [Bool.and_eq_true,decide_eq_true_eq,decide_eq_true_eq] at h1
   exact ⟨h1.2,h1.1,fun k hk hn=>h3 k (mem k hk) (by simp [hk,hn])⟩
 · rintro ⟨h1,h2,h3⟩
   cases hf:((List.range 10000).map fun i=>9999-Int.ofNat i).find? (fun k=>decide (k≤n)&&decide (inM c0 c1 c2 c3 k)) with
   | none=>
     rw [List.find?_eq_none] at hf
     have:=hf v (mem v h1)
     simp [h1,h2] at this
   | some u=>
     obtain ⟨k1,k2,k3⟩:=dec _ List.pairwise_lt_range _ u hf
     rw [Bool.and_eq_true,decide_eq_true_eq,decide_eq_true_eq] at k1
     have a:=h3 u k1.2 k1.1
     have b:=k3 v (mem v h1) (by simp [h1,h2])
     rw [Int.le_antisymm a b]
theorem b211d (c0 c1 c2 c3:UInt8) (n:Int) {Q:AV->Prop}:askA Q (pT U2 noL 211 [.str [c0,c1,c2,c3],.int .i64 n,.bool false]) (dtN 10662088127000663551001200200066300062000620006254702002251202200066300062000625470200225127000663000625470200225400515564030202002200224062088127000661070056646355100122020006610202005664630006200062547020022512700066107005664630006254702002254005106620881270006635510012202000663630006200062547020022512700066363000625470200220588540051556403020200220022455403020200220022406208812700066107005664612022000661002200566400064635510012700066107005664612022000661002200566400064630006254702002254005106620881270006635510012022000663000626300062547020022058851270006630006254702002254005155640302020022002240620881270006610700566463551001270006610700566463630006254702002205885400510662088127000663551001270006636363000625470200220588058854005155640302020022002245540302020022002245540302020022002240620881270006610700566461202200066100220056640006461220200066102020056646120020006610002005664000640006463551004005106620881270006635510008851202200066300062000625470200225127000663000625470200225400515564030202002200224062088127000661070056646355100088512700066107005664630006254702002254005106620881270006635510008851270006636300062547020022058854005155640302020022002245540302020022002240620881270006610700566461202200066100220056640006463551000885400510662088127000663551000880588512700066300062547020022540051556403020200220022406208812700066107005664635510008805885400510662088127000663551000880588058854005155640302020022002245540302020022002245540302020022002245540302020022002246662200)=((fun (u8:AV) (u0 u1 u2 u3 u4 u5 u6 u7:Int)=>(fun (u9 ua uc ue uh un up us uu uw uy:Bool) (uq uv uz:Int) (ub ud uf ug ui uj uk ul um uo ur ut ux:Prop)=>(fun (uA uB uC uD uE uF uG uH uI uJ uK uL uM uN uO uP uQ uR uS uT uU uV uW uX uY uZ u10 u11:Prop)=>(fun (u12 u13 u14 u15 u16 u17 u18 u19 u1a u1b u1c:Prop)=>(fun (u1d u1e u1f u1g u1h:Prop)=>intLe 0 n=true/\intLe n 9999=true/\(uA->uA/\uA/\uA/\uA/\uA/\uA/\uB/\(intEq u0 u1=true->(uC->uC/\uC/\uC/\uC/\uC/\uC/\uD/\(ub->(uE->uE/\uE/\uE/\uE/\uE/\uE/\uF/\(ud->(uG->uG/\uG/\uG/\uG/\uG/\uG/\uH/\uI/\(ug->(uJ->uF/\uF/\uF/\uF/\uF/\uF/\u1d)/\u13))/\u14)/\(um->(uM->u1d)/\u15))/\(uN->uN/\uN/\uN/\uN/\uN/\uN/\uO/\(uG->uG/\uG/\uG/\uG/\uG/\uG/\uH/\uI/\(ug->(uJ->uO/\uO/\uO/\uO/\uO/\uO/\u16/\(uP->u1d))/\u13))/\u14))/\(ur->(us=true->u12)/\u17))/\(uQ->uQ/\uQ/\uQ/\uQ/\uQ/\uQ/\uR/\(uE->uE/\uE/\uE/\uE/\uE/\uE/\uF/\(ud->(uG->uG/\uG/\uG/\uG/\uG/\uG/\uH/\uI/\(ug->(uJ->uF/\uF/\uF/\uF/\uF/\uF/\uR/\uR/\uR/\uR/\uR/\uR/\u1e/\u1f)/\u13))/\u14)/\(um->(uM->uR/\uR/\uR/\uR/\uR/\uR/\u1g/\u1f)/\u15))/\(uN->uN/\uN/\uN/\uN/\uN/\uN/\uO/\(uG->uG/\uG/\uG/\uG/\uG/\uG/\uH/\uI/\(ug->(uJ->uO/\uO/\uO/\uO/\uO/\uO/\u16/\(uP->uR/\uR/\uR/\uR/\uR/\uR/\u19/\u1f))/\u13))/\u14)))/\(intEq u0 u1=false->(uw=true->ui)/\(uw=false->uB/\(uR->(uO->(uL->ux/\Q (AV.tuple [AV.int .i64 (val4 u0 57 57 57),u8]))/\(uH->ux/\ul/\Q (AV.tuple [AV.int .i64 (val4 u0 57 57 u6),u8])))/\(uF->(uL->ux/\uo/\Q (AV.tuple [AV.int .i64 (val4 u0 57 u4 57),u8]))/\(uH->ux/\uo/\ul/\Q (AV.tuple [AV.int .i64 (val4 u0 57 u4 u6),u8]))))/\(uD->(uO->(uL->ux/\ut/\Q (AV.tuple [AV.int .i64 (val4 u0 u2 57 57),u8]))/\(uH->ux/\ut/\ul/\Q (AV.tuple [AV.int .i64 (val4 u0 u2 57 u6),u8])))/\(uF->(uL->ux/\ut/\uo/\Q (AV.tuple [AV.int .i64 (val4 u0 u2 u4 57),u8]))/\(uH->ux/\ut/\uo/\ul/\Q (AV.tuple [AV.int .i64 (val4 u0 u2 u4 u6),u8])))))))/\(uW->uW/\uW/\uW/\uW/\uW/\uW/\uX/\(uC->uC/\uC/\uC/\uC/\uC/\uC/\uD/\(ub->(uE->uE/\uE/\uE/\uE/\uE/\uE/\uF/\(ud->(uG->uG/\uG/\uG/\uG/\uG/\uG/\uH/\uI/\(ug->(uJ->uF/\uF/\uF/\uF/\uF/\uF/\uD/\uD/\uD/\uD/\uD/\uD/\uX/\uX/\uX/\uX/\uX/\uX/\(uY->uZ/\uD/\uF/\uH/\u1a)/\u11)/\u13))/\u14)/\(um->(uM->uD/\uD/\uD/\uD/\uD/\uD/\uX/\uX/\uX/\uX/\uX/\uX/\(uY->uZ/\uD/\uF/\u1h)/\u11)/\u15))/\(uN->uN/\uN/\uN/\uN/\uN/\uN/\uO/\(uG->uG/\uG/\uG/\uG/\uG/\uG/\uH/\uI/\(ug->(uJ->uO/\uO/\uO/\uO/\uO/\uO/\u16/\(uP->uD/\uD/\uD/\uD/\uD/\uD/\uX/\uX/\uX/\uX/\uX/\uX/\(uY->uZ/\uD/\uO/\uH/\u1b)/\u11))/\u13))/\u14))/\(ur->(us=true->uX/\uX/\uX/\uX/\uX/\uX/\(uY->uZ/\uD/\(uO->(uL->u10/\ut/\Q (AV.tuple [AV.int .i64 (val4 uz u2 57 57),u8]))/\(uH->u1b))/\(uF->u1h))/\u11)/\u17))/\(uQ->uQ/\uQ/\uQ/\uQ/\uQ/\uQ/\uR/\(uE->uE/\uE/\uE/\uE/\uE/\uE/\uF/\(ud->(uG->uG/\uG/\uG/\uG/\uG/\uG/\uH/\uI/\(ug->(uJ->uF/\uF/\uF/\uF/\uF/\uF/\uR/\uR/\uR/\uR/\uR/\uR/\u1e/\(uV->uX/\uX/\uX/\uX/\uX/\uX/\(uY->uZ/\uR/\uF/\uH/\u1c)/\u11))/\u13))/\u14)/\(um->(uM->uR/\uR/\uR/\uR/\uR/\uR/\u1g/\(uV->uX/\uX/\uX/\uX/\uX/\uX/\(uY->uZ/\uR/\uF/\(uL->u10/\uo/\Q (AV.tuple [AV.int .i64 (val4 uz 57 u4 57),u8]))/\(uH->u1c))/\u11))/\u15))/\(uN->uN/\uN/\uN/\uN/\uN/\uN/\uO/\(uG->uG/\uG/\uG/\uG/\uG/\uG/\uH/\uI/\(ug->(uJ->uO/\uO/\uO/\uO/\uO/\uO/\u16/\(uP->uR/\uR/\uR/\uR/\uR/\uR/\u19/\(uV->uX/\uX/\uX/\uX/\uX/\uX/\(uY->uZ/\uR/\uO/\uH/\u10/\ul/\Q (AV.tuple [AV.int .i64 (val4 uz 57 57 u6),u8]))/\u11)))/\u13))/\u14)))) (uD/\uD/\uD/\uD/\uD/\uD/\u12) (uS->uT/\uF/\uH/\u18) (uV->u12) (uS->uT/\uF/\(uL->uj/\uU/\uo/\Q (AV.tuple [AV.int .i64 (val4 u1 uv u4 57),u8]))/\(uH->u18)) ((uL->u10/\ut/\uo/\Q (AV.tuple [AV.int .i64 (val4 uz u2 u4 57),u8]))/\(uH->u1a))) (uB/\uB/\uB/\uB/\uB/\uB/\ui) (uh=false->uH/\uj/\uk/\and (intLe 48 u5) (intLe u5 57)=true/\ul/\Q (AV.tuple [AV.int .i64 (val4 u1 u3 u5 u6),u8])) (uK->uK/\uK/\uK/\uK/\uK/\uK/\uL/\uf) (un=false->uF/\(uL->uj/\uk/\uo/\Q (AV.tuple [AV.int .i64 (val4 u1 u3 u4 57),u8]))/\(uH->uj/\uk/\uo/\ul/\Q (AV.tuple [AV.int .i64 (val4 u1 u3 u4 u6),u8]))) (up=true->inR .u8 uq=true/\uH/\uj/\uk/\and (intLe 48 uq) (intLe uq 57)=true/\ul/\Q (AV.tuple [AV.int .i64 (val4 u1 u3 uq u6),u8])) (us=false->uD/\(uO->(uL->uj/\ut/\Q (AV.tuple [AV.int .i64 (val4 u1 u2 57 57),u8]))/\(uH->uj/\ut/\ul/\Q (AV.tuple [AV.int .i64 (val4 u1 u2 57 u6),u8])))/\(uF->(uL->uj/\ut/\uo/\Q (AV.tuple [AV.int .i64 (val4 u1 u2 u4 57),u8]))/\(uH->uj/\ut/\uo/\ul/\Q (AV.tuple [AV.int .i64 (val4 u1 u2 u4 u6),u8])))) (uj/\uU/\uo/\ul/\Q (AV.tuple [AV.int .i64 (val4 u1 uv u4 u6),u8])) (uS->uT/\uO/\uH/\uj/\uU/\ul/\Q (AV.tuple [AV.int .i64 (val4 u1 uv 57 u6),u8])) (u10/\ut/\uo/\ul/\Q (AV.tuple [AV.int .i64 (val4 uz u2 u4 u6),u8])) (u10/\ut/\ul/\Q (AV.tuple [AV.int .i64 (val4 uz u2 57 u6),u8])) (u10/\uo/\ul/\Q (AV.tuple [AV.int .i64 (val4 uz 57 u4 u6),u8]))) (not u9=true) (u9=false) (not ua=true) (ua=false) (not uc=true) (uc=false) (not ue=true) (ue=false) (intEq u6 u7=true->uf) (uh=true) (not ue=false) (ue=true) (un=true) (not uc=false) (uc=true) (up=false) (not ua=false) (ua=true) (uu=true) (inR .u8 uv=true) (and (intLe 48 uv) (intLe uv 57)=true) (uu=false) (not u9=false) (u9=true) (uy=true) (inR .u8 uz=true) (and (intLe 48 uz) (intLe uz 57)=true) (uy=false->ui)) (intEq u0 88) (intEq u2 88) (intEq u4 88) (intEq u6 88) (not (boolEq (not (intLe u6 u7)) false)) (not (boolEq (not (intLe u4 u5)) false)) (not (intEq u5 48)) (not (boolEq (not (intLe u2 u3)) false)) (not (intEq u3 48)) (not (boolEq (not (intLe u0 u1)) false)) (not (intEq u1 48)) (Int.sub u5 1) (Int.sub u3 1) (Int.sub u1 1) (intEq u2 u3=true) (intEq u4 u5=true) (Q (AV.tuple [AV.int .i64 n,u8])) (intEq u6 u7=false) (Q (AV.tuple [u8,AV.int .i64 16])) (and (intLe 48 u1) (intLe u1 57)=true) (and (intLe 48 u3) (intLe u3 57)=true) (and (intLe 48 u6) (intLe u6 57)=true) (intEq u4 u5=false) (and (intLe 48 u4) (intLe u4 57)=true) (intEq u2 u3=false) (and (intLe 48 u2) (intLe u2 57)=true) (and (intLe 48 u0) (intLe u0 57)=true)) (AV.int .i64 0) (Int.ofNat (UInt8.toNat c0)) (Int.add 48 (dg n 0)) (Int.ofNat (UInt8.toNat c1)) (Int.add 48 (dg n 1)) (Int.ofNat (UInt8.toNat c2)) (Int.add 48 (dg n 2)) (Int.ofNat (UInt8.toNat c3)) (Int.add 48 (dg n 3))):=by kernel_rfl
theorem f211d {c0 c1 c2 c3:UInt8} {n:Int} (hn:0≤n/\n≤9999) (hc0:c0.toNat=88∨48≤c0.toNat/\c0.toNat≤57) (hc1:c1.toNat=88∨48≤c1.toNat/\c1.toNat≤57) (hc2:c2.toNat=88∨48≤c2.toNat/\c2.toNat≤57) (hc3:c3.toNat=88∨48≤c3.toNat/\c3.toNat≤57) {v:AV} (hv:(ansM (prevM c0 c1 c2 c3 n)).run=some v):FactW Tryz.prog cfg 211 [.str [c0,c1,c2,c3],.int .i64 n,.bool false] [] v []:=by
 obtain ⟨d0,d1,d2,d3⟩:=dgs hn.1
 have hv':Tr.run (bif isM (prevM c0 c1 c2 c3 n) then .ret (.tuple [.int .i64 (getM (prevM c0 c1 c2 c3 n)),.int .i64 0]) else .ret (.tuple [.int .i64 0,.int .i64 16]))=some v:=hv
 have ids:idsA v=[]:=by
  cases hb:isM (prevM c0 c1 c2 c3 n)<;>rw [hb] at hv'<;>cases hv'<;>simp [idsA,idsL]
 have g0:0≤dg n 0/\dg n 0≤9:=by omega
 have g1:0≤dg n 1/\dg n 1≤9:=by omega
 have g2:0≤dg n 2/\dg n 2≤9:=by omega
 have g3:0≤dg n 3/\dg n 3≤9:=by omega
 have hn2:n=1000*dg n 0+100*dg n 1+10*dg n 2+dg n 3:=by omega
 refine fpOK U2_ok (L:=noL) body211 (by simp) lok_none (wp_gen fun Q' hQ=>askA_wp ((b211d c0 c1 c2 c3 n).mpr ?_)) ids
 dsimp only
 have yes:∀u,prevM c0 c1 c2 c3 n=some u->Q' (.tuple [.int .i64 u,.int .i64 0]):=fun u hu=>by
  rw [hu] at hv'
  cases hv'
  exact hQ _ rfl
 have no:prevM c0 c1 c2 c3 n=none->Q' (.tuple [.int .i64 0,.int .i64 16]):=fun hu=>by
  rw [hu] at hv'
  cases hv'
  exact hQ _ rfl
 generalize dg n 0=e0 at *
 generalize dg n 1=e1 at *
 generalize dg n 2=e2 at *
 generalize dg n 3=e3 at *
 clear d0 d1 d2 d3 hv hv' hQ ids
 have all:∀(a b c d:Int),(48≤a/\a≤57)->(48≤b/\b≤57)->(48≤c/\c≤57)->(48≤d/\d≤57)->(c0.toNat=88∨(c0.toNat:Int)=a)->(c1.toNat=88∨(c1.toNat:Int)=b)->(c2.toNat=88∨(c2.toNat:Int)=c)->(c3.toNat=88∨(c3.toNat:Int)=d)->
  1000*(a-48)+100*(b-48)+10*(c-48)+(d-48)≤1000*e0+100*e1+10*e2+e3->
  (∀k0 k1 k2 k3:Int,(0≤k0/\k0≤9)->(0≤k1/\k1≤9)->(0≤k2/\k2≤9)->(0≤k3/\k3≤9)->(c0.toNat=88∨(c0.toNat:Int)=48+k0)->(c1.toNat=88∨(c1.toNat:Int)=48+k1)->(c2.toNat=88∨(c2.toNat:Int)=48+k2)->(c3.toNat=88∨(c3.toNat:Int)=48+k3)->
    1000*k0+100*k1+10*k2+k3≤1000*e0+100*e1+10*e2+e3->1000*k0+100*k1+10*k2+k3≤1000*(a-48)+100*(b-48)+10*(c-48)+(d-48))->Q' (.tuple [.int .i64 (val4 a b c d),.int .i64 0]):=by
  intro a b c d ha hb hc hd m0 m1 m2 m3 hle hmin
  refine yes _ (prevM_some.2 ⟨?_,?_,fun k hk hnk=>?_⟩)
  · unfold val4
    rw [inM_dig (by omega) (by omega) (by omega) (by omega)]
    unfold mt
    exact ⟨by omega,by omega,by omega,by omega⟩
  · unfold val4;omega
  · obtain ⟨k0,k1,k2,k3,a1,a2,a3,a4,rfl,b1,b2,b3,b4⟩:=inM_ex hk
    unfold val4
    exact hmin k0 k1 k2 k3 a1 a2 a3 a4 b1 b2 b3 b4 (by omega)
 have same:(c0.toNat=88∨(c0.toNat:Int)=48+e0)->(c1.toNat=88∨(c1.toNat:Int)=48+e1)->(c2.toNat=88∨(c2.toNat:Int)=48+e2)->(c3.toNat=88∨(c3.toNat:Int)=48+e3)->Q' (.tuple [.int .i64 n,.int .i64 0]):=fun m0 m1 m2 m3=>by
  refine yes _ (prevM_some.2 ⟨?_,Int.le_refl _,fun k hk hnk=>hnk⟩)
  rw [hn2,inM_dig g0 g1 g2 g3]
  exact ⟨m0,m1,m2,m3⟩
 have non:(∀k0 k1 k2 k3:Int,(0≤k0/\k0≤9)->(0≤k1/\k1≤9)->(0≤k2/\k2≤9)->(0≤k3/\k3≤9)->(c0.toNat=88∨(c0.toNat:Int)=48+k0)->(c1.toNat=88∨(c1.toNat:Int)=48+k1)->(c2.toNat=88∨(c2.toNat:Int)=48+k2)->(c3.toNat=88∨(c3.toNat:Int)=48+k3)->
       1000*e0+100*e1+10*e2+e3<1000*k0+100*k1+10*k2+k3)->Q' (.tuple [.int .i64 0,.int .i64 16]):=fun h=>by
  refine no (prevM_none.2 fun k hk=>?_)
  obtain ⟨k0,k1,k2,k3,a1,a2,a3,a4,rfl,b1,b2,b3,b4⟩:=inM_ex hk
  have:=h k0 k1 k2 k3 a1 a2 a3 a4 b1 b2 b3 b4
  omega
 clear yes no
 simp only [q_all,reduceCtorEq,loK,hiK,ne_eq]
 (repeat' first|exact trivial|refine ⟨?_,?_⟩|intro)<;>first|omega|(refine same ?_ ?_ ?_ ?_<;>omega)|(refine all _ _ _ _ ?_ ?_ ?_ ?_ ?_ ?_ ?_ ?_ ?_ ?_<;>(intros;omega))|(refine non ?_;intros;omega)
end Go.Ev
