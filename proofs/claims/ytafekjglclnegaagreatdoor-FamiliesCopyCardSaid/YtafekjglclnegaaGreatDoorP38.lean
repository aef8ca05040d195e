import Derived.Test.YtafekjglclnegaaGreatDoorP37
import Derived.Test.YtafekjglclnegaaGreatDoorP36
set_option linter.all false
set_option maxRecDepth 100000
set_option maxHeartbeats 1000000
namespace Go.Ev
open Go Go.Proofs
def xB(q r:Rn):Prop:=q.c=0/\r.a=0/\q.d+1<r.b
def rC:List Rn->Prop
 | []=>True
 | [r]=>bH r.a r.b r.c r.d=0
 | q::r::rs=>bH q.a q.b q.c q.d=0/\xB q r/\rC (r::rs)
theorem wC:∀{R:List Rn},rC R->∀i,i<R.length->bH (R.getD i fG).a (R.getD i fG).b (R.getD i fG).c (R.getD i fG).d=0/\(∀j,i=j+1->xB (R.getD j fG) (R.getD i fG))
 | [],_,i,hi=>absurd hi (Nat.not_lt_zero _)
 | [r],h,i,hi=>by
   obtain rfl:i=0:=by simpa using hi
   exact⟨h,λj hj=>by omega⟩
 | q::r::rs,h,i,hi=>by
   obtain⟨h1,h2,h3⟩:=h
   match i with
   | 0=>exact⟨h1,λj hj=>by omega⟩
   | 1=>exact⟨(wC h3 0 (by simp)).1,λj hj=>by
     have e:j=0:=by omega
     subst e
     exact h2⟩
   | i+2=>
     obtain⟨g1,g2⟩:=wC h3 (i+1) (by simpa using hi)
     exact⟨g1,λj hj=>by
      have e:j=i+1:=by omega
      subst e
      exact g2 i rfl⟩
theorem I2{R:List Rn}(h:rC R):eY R=0:=by
 refine sY λi _ hi=>?_
 obtain⟨h1,h2⟩:=wC h i (by omega)
 unfold mB Gx
 rw[if_pos h1,if_neg]
 rintro⟨h0,h3⟩
 obtain⟨j,rfl⟩:∃j,i=j+1:=⟨i-1,by omega⟩
 rw[show j+1-1=j by omega]at h3
 have ha:=h2 j rfl
 have h4:=(wC h j (by omega)).1
 have q1:=ji.1 h1
 have q2:=ji.1 h4
 generalize List.getD R j fG=q at *
 generalize List.getD R (j+1) fG=r at *
 obtain⟨a1,a2,a3⟩:=ha
 have lt1:eH q.a q.b r.a r.b = -1:=by
  unfold eH iS
  (repeat' split)<;>omega
 have gt1:eH r.a r.b q.a q.b=1:=by
  unfold eH iS
  (repeat' split)<;>omega
 have gt1':eH r.a r.b q.c q.d=1:=by
  unfold eH iS
  (repeat' split)<;>omega
 rcases h3 with h3|h3
 · unfold BV at h3
   rw[lt1]at h3
   simp at h3
 · unfold pz at h3
   rw[decide_eq_true_eq]at h3
   rw[gt1]at h3
   obtain⟨_,_,⟨h5,_⟩|⟨_,h5⟩⟩:=h3
   · omega
   · unfold oU at h5
     rw[gt1']at h5
     omega
theorem Nv:∀{R:List Rn},rC R->rC (yQ R)
 | [],_=>trivial
 | [r],h=>by
   have:=ji.1 h
   exact ji.2 ⟨.inr ⟨rfl,rfl⟩,this.2.1,.inl (by show -1<r.c;omega)⟩
 | q::r::rs,h=>by
   obtain⟨h1,h2,h3⟩:=h
   have:=ji.1 h1
   exact⟨ji.2 ⟨.inr ⟨rfl,rfl⟩,this.2.1,.inl (by show -1<q.c;omega)⟩,h2,h3⟩
theorem zm:∀{R:List Rn},rC R->rC (qa R)
 | [],_=>trivial
 | [r],h=>by
   have:=ji.1 h
   exact ji.2 ⟨this.1,.inr ⟨rfl,rfl⟩,.inl (by show r.a<1;omega)⟩
 | [q,r],h=>by
   obtain⟨h1,h2,h3⟩:=h
   exact⟨h1,h2,zm (R:=[r]) h3⟩
 | q::r::s::rs,h=>by
   obtain⟨h1,h2,h3⟩:=h
   exact⟨h1,h2,zm (R:=r::s::rs) h3⟩
theorem Bl:∀{gs:List (Int×Int)} {day:Int},(∀p∈gs,(0<=p.1/\p.1<=255)/\(0<=p.2/\p.2<=255))->rC (Ai day gs)
 | [],_,_=>trivial
 | [p],day,h=>by
   have:=h p (by simp)
   exact ji.2 ⟨.inl rfl,.inl rfl,.inr ⟨rfl,by show day<=day+p.2;omega⟩⟩
 | p::q::r,day,h=>by
   have hp:=h p (by simp)
   have ih:=Bl (gs:=q::r) (day:=day+p.2+2+p.1) λx hx=>h x (by simp only[List.mem_cons]at hx ⊢;exact .inr hx)
   exact⟨ji.2 ⟨.inl rfl,.inl rfl,.inr ⟨rfl,by show day<=day+p.2;omega⟩⟩,⟨rfl,rfl,by show day+p.2+1<day+p.2+2+p.1;omega⟩,ih⟩
theorem JZ{gs:List (Int×Int)}(h:∀p∈gs,(0<=p.1/\p.1<=255)/\(0<=p.2/\p.2<=255)):∀p∈gs.take 4,(0<=p.1/\p.1<=255)/\(0<=p.2/\p.2<=255):=λp hp=>h p (List.mem_of_mem_take hp)
theorem EG{fr ma:Int}{gs:List (Int×Int)}(hma:0<=ma)(h:∀p∈gs,(0<=p.1/\p.1<=255)/\(0<=p.2/\p.2<=255)):rC (sR fr ma gs):=by
 match gs,h with
 | [],_=>exact ji.2 ⟨.inl rfl,.inl rfl,.inr ⟨rfl,by show fr<=fr+ma;omega⟩⟩
 | p::r,h=>exact Bl (JZ h)
theorem dO{fr ma:Int}{b1 b2:Bool}{gs:List (Int×Int)}(hma:0<=ma)(h:∀p∈gs,(0<=p.1/\p.1<=255)/\(0<=p.2/\p.2<=255)):rC (bY fr ma b1 b2 gs):=by
 have hb:=EG (fr:=fr) hma h
 unfold bY AT
 cases b1 with
 | true=>exact Nv hb
 | false=>
   cases b2 with
   | true=>exact zm hb
   | false=>exact hb
def iX(R:List Rn):Prop:=∀r∈R,(-40000<=r.b/\r.b<=40000)/\(-40000<=r.d/\r.d<=40000)
theorem E8:∀{R:List Rn},iX R->iX (yQ R)
 | [],h=>h
 | r::rs,h=>λx hx=>by
   simp only[yQ,List.mem_cons]at hx
   rcases hx with rfl|hx
   · exact⟨by show -40000<=(0:Int)/\(0:Int)<=40000;omega,(h r (by simp)).2⟩
   · exact h x (by simp[hx])
theorem xO:∀{R:List Rn},iX R->iX (qa R)
 | [],h=>h
 | [r],h=>λx hx=>by
   simp only[qa,List.mem_singleton]at hx
   subst hx
   exact⟨(h r (by simp)).1,by show -40000<=(0:Int)/\(0:Int)<=40000;omega⟩
 | r::s::rs,h=>λx hx=>by
   simp only[qa,List.mem_cons]at hx
   rcases hx with rfl|hx
   · exact h x (by simp)
   · exact xO (R:=s::rs) (λy hy=>h y (by simp only[List.mem_cons]at hy ⊢;exact .inr hy)) x (by simpa using hx)
theorem tY:∀{gs:List (Int×Int)} {day:Int} {k:Nat},(∀p∈gs,(0<=p.1/\p.1<=255)/\(0<=p.2/\p.2<=255))->gs.length<=k->∀r∈Ai day gs,(day<=r.b/\r.b<=day+600*k)/\(day<=r.d/\r.d<=day+600*k)
 | [],_,_,_,_,r,hr=>by cases hr
 | p::gs,day,k+1,h,hk,r,hr=>by
   have hp:=h p (by simp)
   simp only[Ai,List.mem_cons]at hr
   rcases hr with rfl|hr
   · show(day<=day/\day<=_)/\(day<=day+p.2/\day+p.2<=_);omega
   · have:=tY (gs:=gs) (day:=day+p.2+2+p.1) (k:=k) (λx hx=>h x (by simp[hx])) (by simpa using hk) r hr
     omega
theorem cE{fr ma:Int}{b1 b2:Bool}{gs:List (Int×Int)}(hfr : -32768<=fr/\fr<=32767)(hma:0<=ma/\ma<=255)(h:∀p∈gs,(0<=p.1/\p.1<=255)/\(0<=p.2/\p.2<=255)):iX (bY fr ma b1 b2 gs):=by
 have hb:iX (sR fr ma gs):=by
  match gs,h with
  | [],_=>
    intro r hr
    simp only[sR,List.mem_singleton]at hr
    subst hr
    show(-40000<=fr/\fr<=40000)/\(-40000<=fr+ma/\fr+ma<=40000)
    omega
  | p::r,h=>
    intro x hx
    have:=tY (k:=4) (JZ h) (by rw[List.length_take];exact Nat.min_le_left _ _) x hx
    omega
 unfold bY AT
 cases b1 with
 | true=>exact E8 hb
 | false=>
   cases b2 with
   | true=>exact xO hb
   | false=>exact hb
theorem Mp:∀{R:List Rn},(yQ R).length=R.length
 | []=>rfl
 | _::_=>rfl
theorem DX:∀{R:List Rn},(qa R).length=R.length
 | []=>rfl
 | [_]=>rfl
 | r::s::rs=>by simp only[qa,List.length_cons];rw[DX (R:=s::rs)];rfl
theorem AC:∀{gs:List (Int×Int)} {day:Int},(Ai day gs).length=gs.length
 | [],_=>rfl
 | p::r,_=>by simp only[Ai,List.length_cons,AC (gs:=r)]
theorem dL{fr ma:Int}{b1 b2:Bool}{gs:List (Int×Int)}:1<=(bY fr ma b1 b2 gs).length/\(bY fr ma b1 b2 gs).length<=4:=by
 have hb:1<=(sR fr ma gs).length/\(sR fr ma gs).length<=4:=by
  match gs with
  | []=>exact⟨Nat.le_refl _,(by show 1<=4;decide)⟩
  | p::r=>
    unfold sR
    rw[AC,List.length_take,List.length_cons]
    omega
 unfold bY AT
 cases b1 with
 | true=>rw[cond_true,Mp];exact hb
 | false=>
   cases b2 with
   | true=>rw[cond_false,cond_true,DX];exact hb
   | false=>exact hb
theorem Ef{R:List Rn}(h:iX R):n4 R:=λi hi=>by
 have hm:R.getD i fG∈R:=by
  rw[List.getD_eq_getElem?_getD,List.getElem?_eq_getElem hi]
  exact List.getElem_mem hi
 have:=h _ hm
 unfold Br
 omega
def iR:List Rn->Nat->List Rn
 | [],_=>[]
 | r::rs,0=>⟨r.a,r.b+1,r.c,r.d⟩::rs
 | r::rs,i+1=>r::iR rs i
theorem oH:∀{R:List Rn} {i:Nat},(iR R i).length=R.length
 | [],_=>rfl
 | _::_,0=>rfl
 | _::rs,i+1=>by simp only[iR,List.length_cons,oH (R:=rs)]
theorem Bk:∀{R:List Rn} {i:Nat},i<R.length->kn (iR R i) R=false
 | [],i,h=>absurd h (Nat.not_lt_zero i)
 | r::rs,0,_=>by
   have:iQ ⟨r.a,r.b+1,r.c,r.d⟩ r=false:=by
    rw[<-Bool.not_eq_true,yG]
    intro e
    have:=congrArg Rn.b e
    simp only at this
    omega
   simp only[iR,kn,this,Bool.false_and]
 | r::rs,i+1,h=>by
   simp only[iR,kn,Bk (R:=rs) (i:=i) (by simpa using h),Bool.and_false]
theorem xC:∀{R:List Rn} {i:Nat} {v:Int},i<R.length->v=(R.getD i fG).b+1->gP (aJ R) (i*4+1) [.int .i64 v]=aJ (iR R i)
 | [],i,v,h,_=>absurd h (Nat.not_lt_zero i)
 | r::rs,0,v,_,e=>by subst e;rfl
 | r::rs,i+1,v,h,e=>by
   have ih:=xC (R:=rs) (i:=i) (v:=v) (by simpa using h) e
   rw[show(i+1)*4+1=i*4+1+1+1+1+1 by omega]
   simp only[aJ,gP,iR,ih]
theorem sU:∀{R:List Rn} {i:Nat},iX R->∀r∈iR R i,(-40000<=r.b/\r.b<=40001)/\(-40000<=r.d/\r.d<=40000)
 | [],_,_,r,hr=>by cases hr
 | q::rs,0,h,r,hr=>by
   simp only[iR,List.mem_cons]at hr
   rcases hr with rfl|hr
   · have:=h q (by simp)
     show(-40000<=q.b+1/\q.b+1<=40001)/\(-40000<=q.d/\q.d<=40000);omega
   · have:=h r (by simp[hr]);omega
 | q::rs,i+1,h,r,hr=>by
   simp only[iR,List.mem_cons]at hr
   rcases hr with rfl|hr
   · have:=h r (by simp);omega
   · exact sU (R:=rs) (λx hx=>h x (by simp[hx])) r hr
theorem Hd{R:List Rn}{j:Nat}(h:iX R):n4 (iR R j):=λi hi=>by
 have hm:(iR R j).getD i fG∈iR R j:=by
  rw[List.getD_eq_getElem?_getD,List.getElem?_eq_getElem hi]
  exact List.getElem_mem hi
 have:=sU h _ hm
 unfold Br
 omega
theorem JV{i:Int}:xD i 2=gE i:=by
 have hm:eX i 12+1≠0/\¬13<=eX i 12+1:=by unfold eX;omega
 show G7 (dH i 12) (eX i 12+1) 0=_
 unfold G7 gE
 rw[aF.mpr hm.1,dc.mpr (show eX i 12+1<13 by omega)]
 rfl
theorem Kl{i:Int}:xH i 2=gE (i+1)-1:=by
 have hm:eX i 12+1≠0/\¬13<=eX i 12+1:=by unfold eX;omega
 show G8 (dH i 12) (eX i 12+1) 0=_
 unfold G8
 rw[aF.mpr hm.1,dc.mpr (show eX i 12+1<13 by omega),(xG i).2,show eX i 12+1+1=eX i 12+2 by omega]
 rfl
theorem Aj{y m:Int}(h:1<=m/\m<=12):bN y<=aR y m/\aR y m<aR y (m+1)/\aR y (m+1)<=bN (y+1)/\aR y m+d8 y m=aR y (m+1):=by
 have ys:bN (y+1)=bN y+365+gO y:=Go.Proofs.YtafekjglclnegaaGreatDoor.yst_succ y
 have bl:0<=gO y/\gO y<=1:=Go.Proofs.YtafekjglclnegaaGreatDoor.lp_01 y
 have e:=@zf y m h.1 (by omega)
 have hn:=jj y m
 have key:∀k:Int,1<=k->k<=13->bN y<=aR y k/\aR y k<=bN y+365+gO y:=λk h1 h2=>by
  have:aR y k=bN y+Go.Proofs.YtafekjglclnegaaGreatDoor.mcum y k:=rfl
  have hl:gO y=Go.Proofs.YtafekjglclnegaaGreatDoor.lp y:=rfl
  rw[this,hl]
  rw[hl]at bl
  unfold Go.Proofs.YtafekjglclnegaaGreatDoor.mcum
  (repeat' split)<;>omega
 have k1:=key m h.1 (by omega)
 have k2:=key (m+1) (by omega) (by omega)
 omega
theorem Ed{y m d:Int}(h:1<=m/\m<=12)(h1:aR y m<=d)(h2:d<aR y (m+1)):bO d=y/\eo d=m:=by
 obtain⟨a,b,c,e⟩:=@Aj y m h
 have hy:bO d=y:=Go.Proofs.YtafekjglclnegaaGreatDoor.yOf_unique (show bN y<=d by omega) (show d<bN (y+1)by omega)
 have hy':Go.Proofs.YtafekjglclnegaaGreatDoor.yOf d=y:=hy
 refine⟨hy,Go.Proofs.YtafekjglclnegaaGreatDoor.mOf_unique h.1 ?_ ?_⟩
 · rw[hy'];exact h1
 · rw[hy'];exact h2
theorem JH{i p:Int}(hi : -40000<=i/\i<=40000)(hp:1<=p/\p<=3):tC (xD i p) p=true/\Ow (xD i p) p=xD i p/\(-3652425000000000000<=xD i p/\xD i p<=3652425000000000000):=by
 obtain⟨e1,e2⟩:=yl
 have hp:p=1\/p=2\/p=3:=by omega
 rcases hp with rfl|rfl|rfl
 · have h:xD i 1=bN i:=rfl
   have m1:=gw (show -10000000000000000<=i by omega)
   have m2:=gw (show i<=10000000000000000 by omega)
   rw[h]
   refine⟨?_,?_,by omega⟩
   · unfold tC;rw[fj.2 (by omega),Bool.or_true]
   · show bN (bO (bN i))=_;rw[E4.1]
 · have hm:1<=eX i 12+1/\eX i 12+1<=12:=by unfold eX;omega
   have hf : -4000<=dH i 12/\dH i 12<=4000:=by unfold dH;omega
   obtain⟨a,b,c,e⟩:=@Aj (dH i 12) _ hm
   have h:xD i 2=aR (dH i 12) (eX i 12+1):=JV
   have m1:=gw (show -10000000000000000<=dH i 12 by omega)
   have m2:=gw (show dH i 12+1<=10000000000000000 by omega)
   obtain⟨q1,q2⟩:=Ed hm (Int.le_refl _) b
   rw[h]
   refine⟨?_,?_,by omega⟩
   · unfold tC;rw[fj.2 (by omega),Bool.or_true]
   · show aR (bO _) (eo _)=_;rw[q1,q2]
 · have h:xD i 3=i:=rfl
   rw[h]
   exact⟨rfl,rfl,by omega⟩
theorem Kv{i p:Int}(hi : -40000<=i/\i<=40000)(hp:1<=p/\p<=3):tC (xH i p) p=true/\Ot (xH i p) p=xH i p/\(-3652425000000000000<=xH i p/\xH i p<=3652425000000000000):=by
 obtain⟨e1,e2⟩:=yl
 have hp:p=1\/p=2\/p=3:=by omega
 rcases hp with rfl|rfl|rfl
 · have h:xH i 1=bN (i+1)-1:=rfl
   have ys:bN (i+1)=bN i+365+gO i:=Go.Proofs.YtafekjglclnegaaGreatDoor.yst_succ i
   have bl:0<=gO i/\gO i<=1:=Go.Proofs.YtafekjglclnegaaGreatDoor.lp_01 i
   have m1:=gw (show -10000000000000000<=i by omega)
   have m2:=gw (show i+1<=10000000000000000 by omega)
   rw[h]
   refine⟨?_,?_,by omega⟩
   · unfold tC;rw[fj.2 (by omega),Bool.or_true]
   · show bN (bO (bN (i+1)-1))+364+gO (bO (bN (i+1)-1))=_;rw[E4.2];omega
 · have hm:1<=eX i 12+1/\eX i 12+1<=12:=by unfold eX;omega
   have hf : -4000<=dH i 12/\dH i 12<=4000:=by unfold dH;omega
   obtain⟨a,b,c,e⟩:=@Aj (dH i 12) _ hm
   have h:xH i 2=aR (dH i 12) (eX i 12+1+1)-1:=by rw[Kl,(xG i).2,show eX i 12+1+1=eX i 12+2 by omega]
   have m1:=gw (show -10000000000000000<=dH i 12 by omega)
   have m2:=gw (show dH i 12+1<=10000000000000000 by omega)
   obtain⟨q1,q2⟩:=Ed (y:=dH i 12) (d:=aR (dH i 12) (eX i 12+1+1)-1) hm (by omega) (by omega)
   rw[h]
   refine⟨?_,?_,by omega⟩
   · unfold tC;rw[fj.2 (by omega),Bool.or_true]
   · show aR (bO _) (eo _)+d8 (bO _) (eo _)-1=_;rw[q1,q2];omega
 · have h:xH i 3=i:=rfl
   rw[h]
   exact⟨rfl,rfl,by omega⟩
theorem Qn{i j p:Int}(hij:i<=j)(hp:1<=p/\p<=3):xD i p<=xH j p:=by
 have hp:p=1\/p=2\/p=3:=by omega
 rcases hp with rfl|rfl|rfl
 · have ys:bN (j+1)=bN j+365+gO j:=Go.Proofs.YtafekjglclnegaaGreatDoor.yst_succ j
   have bl:0<=gO j/\gO j<=1:=Go.Proofs.YtafekjglclnegaaGreatDoor.lp_01 j
   have:=gw hij
   show bN i<=bN (j+1)-1
   omega
 · rw[JV,Kl]
   have:=GX i (j+1-i).toNat
   rw[show i+((j+1-i).toNat:Int)=j+1 by omega]at this
   omega
 · exact hij
theorem Cv{fr ma P:Int}{o1 o2:Bool}(hfr : -32768<=fr/\fr<=32767)(hma:0<=ma/\ma<=255)(hP:1<=P/\P<=3)(h12:¬(o1=true/\o2=true)):cI (bif o1 then -1 else 0) (bif o1 then 0 else xD fr P) (bif o2 then 1 else 0) (bif o2 then 0 else xH (fr+ma) P) P=true/\bH (bif o1 then -1 else 0) (bif o1 then 0 else xD fr P) (bif o2 then 1 else 0) (bif o2 then 0 else xH (fr+ma) P)=0:=by
 obtain⟨l1,l2,_⟩:=JH (i:=fr) (by omega) hP
 obtain⟨u1,u2,_⟩:=Kv (i:=fr+ma) (by omega) hP
 have le:=Qn (show fr<=fr+ma by omega) hP
 have hr:bH (bif o1 then -1 else 0) (bif o1 then 0 else xD fr P) (bif o2 then 1 else 0) (bif o2 then 0 else xH (fr+ma) P)=0:=by
  rw[ji]
  cases o1 with
  | false=>
    cases o2 with
    | false=>exact⟨.inl rfl,.inl rfl,.inr ⟨rfl,le⟩⟩
    | true=>exact⟨.inl rfl,.inr ⟨rfl,rfl⟩,.inl (by decide)⟩
  | true=>
    cases o2 with
    | false=>exact⟨.inr ⟨rfl,rfl⟩,.inl rfl,.inl (by decide)⟩
    | true=>exact absurd ⟨rfl,rfl⟩ h12
 refine⟨GL.2 ⟨?_,hr,?_,?_⟩,hr⟩
 · cases o1 with
   | false=>exact .inl rfl
   | true=>
     cases o2 with
     | false=>exact .inr rfl
     | true=>exact absurd ⟨rfl,rfl⟩ h12
 · cases o1 with
   | false=>exact λ_=>⟨l1,l2⟩
   | true=>exact λh=>absurd h (by decide)
 · cases o2 with
   | false=>exact λ_=>⟨u1,u2⟩
   | true=>exact λh=>absurd h (by decide)
theorem HK{k p op f:Int}{ng:Bool}{n z0 z1 m d fr ma:Int}(hz0:0<=z0/\z0<=255)(hz1:0<=z1/\z1<=255)(hk:0<=k/\k<=255)(hfr : -32768<=fr/\fr<=32767)(hma:0<=ma/\ma<=255)(h:cN k f n z0 z1 m d=false) :
 cC (fK k f n z0 z1 m d) 0 0 (dZ (mw k f ng n z0 z1 m d) (mr k f n z0 z1 m d) (fS k f n z0 z1 m d) (fE k f n z0 z1 m d) 0 (kz k f n z0 z1 m d) (kw k f n z0 z1 m d) 0 0 0) (fP k p) (sZ (fA k op) (fB k p op fr) (fC k op) (fD k p op fr ma)) (cL (mw k f ng n z0 z1 m d) (mr k f n z0 z1 m d) (fS k f n z0 z1 m d) (fE k f n z0 z1 m d) 0 (kz k f n z0 z1 m d) (kw k f n z0 z1 m d) 0 0 0) 0 (bc (fS k f n z0 z1 m d++kz k f n z0 z1 m d++kw k f n z0 z1 m d)) (mZ 0 0 0) (cI (fA k op) (fB k p op fr) (fC k op) (fD k p op fr ma) (fP k p)) (bH (fA k op) (fB k p op fr) (fC k op) (fD k p op fr ma)) (fA k op) (fC k op)=0/\
 ((0<=fK k f n z0 z1 m d/\fK k f n z0 z1 m d<=255)/\(-9223372036854775808<=fE k f n z0 z1 m d/\fE k f n z0 z1 m d<=9223372036854775807)/\(0<=fP k p/\fP k p<=255)/\(-128<=fA k op/\fA k op<=127)/\(-9223372036854775808<=fB k p op fr/\fB k p op fr<=9223372036854775807)/\(-128<=fC k op/\fC k op<=127)/\(-9223372036854775808<=fD k p op fr ma/\fD k p op fr ma<=9223372036854775807))/\(fS k f n z0 z1 m d).length<=5/\(kz k f n z0 z1 m d).length<=2/\(kw k f n z0 z1 m d).length<=2:=by
 have l1:=@oK f n z0 z1
 have l2:=@oA f n z0 z1 m
 have l3:=@nV f n z0 z1 m d
 have mz:mZ 0 0 0=true:=rfl
 have dz:dZ false false [] 0 0 [] [] 0 0 0=true:=rfl
 have sz:sZ 0 0 0 0=true:=rfl
 have cf:k%5=0\/k%5=1\/k%5=2\/k%5=3\/k%5=4:=by omega
 have hE:0<=jx f z1/\jx f z1<=11:=by
  rcases @oz f n z0 z1 hz0 hz1 with a|a<;>omega
 rcases cf with cf|cf|cf|cf|cf
 · exfalso
   unfold cN fX at h
   rw[aF.mpr (show k%5≠1 by omega),aF.mpr (show k%5≠2 by omega),aF.mpr (show k%5≠3 by omega),aF.mpr (show k%5≠4 by omega)]at h
   cases h
 · have e2:aa (k%5) 2=false:=aF.mpr (by omega)
   have e3:aa (k%5) 3=false:=aF.mpr (by omega)
   have e4:aa (k%5) 4=false:=aF.mpr (by omega)
   have hX:fX k f n z0 z1 m d=true:=by
    unfold cN at h
    rw[e2,e3,e4]at h
    simpa using h
   have hX':=hX
   unfold fX at hX'
   simp only[Bool.and_eq_true]at hX'
   obtain⟨_,hg,hx⟩:=hX'
   have hmk:errMk 0 0 0 (cO (iI f n z0 z1 m) (kC f n z0 z1 m d))=0:=by
    have:=lR (iI f n z0 z1 m) (kC f n z0 z1 m d)
    unfold errMk
    rw[if_neg (by omega),if_neg (by omega)]
   have hd:=MB (f:=f) (ng:=ng) (n:=n) (m:=m) (d:=d) hz0 hz1 hmk
   rw[aS.mp hg]at hd
   unfold mw mr fS fE kz kw
   simp only[fK,fP,fA,fB,fC,fD,hX,e2,e3,e4,cond_true,cond_false,Bool.true_and]
   refine⟨?_,by omega,by omega,by omega,by omega⟩
   rw[hd,hx,mz,sz,OT]
 · have e2:aa (k%5) 2=true:=aS.mpr cf
   have hX:fX k f n z0 z1 m d=false:=by unfold fX;rw[aF.mpr (show k%5≠1 by omega)];rfl
   have oc:¬(aa (op%4) 1=true/\aa (op%4) 2=true):=Oc
   have hP:1<=1+p%3/\1+p%3<=3:=by omega
   obtain⟨w1,w2⟩:=Cv hfr hma hP oc
   obtain⟨_,_,r1⟩:=JH (i:=fr) (by omega) hP
   obtain⟨_,_,r2⟩:=Kv (i:=fr+ma) (by omega) hP
   unfold mw mr fS fE kz kw
   simp only[fK,fP,fA,fB,fC,fD,hX,e2,cond_true,cond_false,Bool.false_and]
   refine⟨?_,⟨by omega,by omega,by omega,?_,?_,?_,?_⟩,by decide,by decide,by decide⟩
   · rw[w1,dz]
     generalize 1+p%3=P at *
     unfold cC
     rw[if_neg (by decide),if_neg (by decide),if_neg (by decide),if_pos rfl,if_pos ⟨rfl,rfl⟩,if_pos hP,if_pos rfl]
   · cases aa (op%4) 1<;>simp only[cond_true,cond_false]<;>omega
   · cases aa (op%4) 1<;>simp only[cond_true,cond_false]<;>omega
   · cases aa (op%4) 2<;>simp only[cond_true,cond_false]<;>omega
   · cases aa (op%4) 2<;>simp only[cond_true,cond_false]<;>omega
 · have e2:aa (k%5) 2=false:=aF.mpr (by omega)
   have e3:aa (k%5) 3=true:=aS.mpr cf
   have e4:aa (k%5) 4=false:=aF.mpr (by omega)
   have hX:fX k f n z0 z1 m d=false:=by unfold fX;rw[aF.mpr (show k%5≠1 by omega)];rfl
   unfold mw mr fS fE kz kw
   simp only[fK,fP,fA,fB,fC,fD,hX,e2,e3,e4,cond_true,cond_false,Bool.false_and]
   refine⟨?_,by omega,by decide,by decide,by decide⟩
   have hr:bH (-1) 0 0 fr=0:=ji.2 ⟨.inr ⟨rfl,rfl⟩,.inl rfl,.inl (by decide)⟩
   rw[hr,dz]
   unfold cC
   rw[if_neg (by decide),if_neg (by decide),if_neg (by decide),if_neg (by decide),if_pos ⟨rfl,rfl,rfl⟩,if_pos ⟨rfl,.inl ⟨rfl,rfl,rfl⟩⟩]
 · have e2:aa (k%5) 2=false:=aF.mpr (by omega)
   have e3:aa (k%5) 3=false:=aF.mpr (by omega)
   have e4:aa (k%5) 4=true:=aS.mpr cf
   have hX:fX k f n z0 z1 m d=false:=by unfold fX;rw[aF.mpr (show k%5≠1 by omega)];rfl
   unfold mw mr fS fE kz kw
   simp only[fK,fP,fA,fB,fC,fD,hX,e2,e3,e4,cond_true,cond_false,Bool.false_and]
   refine⟨?_,by omega,by decide,by decide,by decide⟩
   have hr:bH 0 fr 1 0=0:=ji.2 ⟨.inl rfl,.inr ⟨rfl,rfl⟩,.inl (by decide)⟩
   rw[hr,dz]
   unfold cC
   rw[if_neg (by decide),if_neg (by decide),if_neg (by decide),if_neg (by decide),if_pos ⟨rfl,rfl,rfl⟩,if_pos ⟨rfl,.inr ⟨rfl,rfl,rfl⟩⟩]
end Go.Ev
