import Derived.Test.YtafekjglclnegaaGreatDoorP28
set_option linter.all false
section
set_option maxRecDepth 100000
namespace Go.Ev
open Go Go.Proofs
def inY (ng:Bool) (s:List UInt8) (e k:Int):Prop:=bif Nat.beq (hasN s 88 88) 0 then k=valR ng s e else match s with|[c0,c1,c2,c3]=>(bif ng then 1≤-k/\inM c0 c1 c2 c3 (-k) else inM c0 c1 c2 c3 k)|_=>False
def goodY (M D:List Int) (k:Int):Prop:=∃m,m∈M/\∃d,d∈D/\d≤mlenR k m
theorem yB_iff {ng:Bool} {s:List UInt8} {e n:Int}:yB ng s e n true=true->inY ng s e (yV ng s e n true)/\n≤yV ng s e n true/\∀k,inY ng s e k->n≤k->yV ng s e n true≤k:=by
 intro h
 unfold yB at h
 unfold yV inY
 cases hx:Nat.beq (hasN s 88 88) 0 with
 | true=>
   rw [hx] at h
   simp only [cond_true] at h ⊢
   rw [q_le_t] at h
   exact ⟨trivial,h,fun k hk _=>by omega⟩
 | false=>
   rw [hx,cond_false] at h
   simp only [cond_false]
   split at h
   · rename_i c0 c1 c2 c3
     simp only
     unfold nyB at h
     unfold nyV
     cases ng with
     | true=>
       simp only [cond_true,Bool.and_eq_true,q_le_t] at h ⊢
       obtain ⟨h1,h2⟩:=h
       cases hp:prevM c0 c1 c2 c3 (ngN n) with
       | none=>rw [hp] at h1;cases h1
       | some u=>
         rw [hp] at h2
         simp only [getM,Option.getD_some] at h2 ⊢
         obtain ⟨p1,p2,p3⟩:=prevM_some.1 hp
         unfold ngN at p2 p3
         rw [q_maxI] at p2 p3
         refine ⟨⟨by omega,by rw [show -(0-u)=u by omega];exact p1⟩,by omega,fun k hk hn=>?_⟩
         have:=p3 (-k) hk.2 (by have:=hk.2.2.1;omega)
         omega
     | false=>
       simp only [cond_true,cond_false] at h ⊢
       cases hp:nextM c0 c1 c2 c3 (maxI n 0) with
       | none=>rw [hp] at h;cases h
       | some u=>
         simp only [getM,Option.getD_some]
         obtain ⟨p1,p2,p3⟩:=nextM_some.1 hp
         rw [q_maxI] at p2 p3
         exact ⟨p1,by omega,fun k hk hn=>p3 k hk (by have:=hk.1;omega)⟩
   · cases h
theorem yB_no {ng:Bool} {s:List UInt8} {e n:Int} (hs:okX s=true) (h:yB ng s e n true=false) {k:Int} (hk:inY ng s e k):k<n:=by
 unfold yB at h
 unfold inY at hk
 cases hx:Nat.beq (hasN s 88 88) 0 with
 | true=>
   rw [hx] at h hk
   simp only [cond_true] at h hk
   rw [q_le_f] at h
   omega
 | false=>
   rw [hx] at h hk
   simp only [cond_false] at h hk
   obtain ⟨c0,c1,c2,c3,rfl,_⟩:=okX_m hs hx
   simp only at h hk
   unfold nyB at h
   cases ng with
   | true=>
     simp only [cond_true] at h hk
     cases hp:prevM c0 c1 c2 c3 (ngN n) with
     | none=>
       have:=prevM_none.1 hp _ hk.2
       have hb:=hk.2.2.1
       unfold ngN at this
       rw [q_maxI] at this
       omega
     | some u=>
       rw [hp] at h
       simp only [isM,getM,Option.isSome_some,Option.getD_some,Bool.true_and] at h
       rw [q_le_f] at h
       obtain ⟨p1,p2,p3⟩:=prevM_some.1 hp
       unfold ngN at p3
       rw [q_maxI] at p3
       by_cases hn:n≤k
       · have:=p3 (-k) hk.2 (by have:=hk.2.2.1;omega)
         omega
       · omega
   | false=>
     simp only [cond_true,cond_false] at h hk
     cases hp:nextM c0 c1 c2 c3 (maxI n 0) with
     | none=>
       have:=nextM_none.1 hp _ hk
       have:=hk.1
       rw [q_maxI] at *
       omega
     | some u=>rw [hp] at h;cases h
theorem isM_find {p:Int->Bool} {l:List Int}:isM (l.find? p)=true↔∃x,x∈l/\p x=true:=by
 unfold isM
 rw [List.find?_isSome]
theorem firstM_iff {y cy cm cd:Int} {mo da:List UInt8} {M D:List Int} (hy:y≠cy) (hd:bytesEq da []=false):isM (firstM y cy cm cd mo da M D)=true↔goodY M D y:=by
 have he:intEq y cy=false:=q_eq_f.mpr hy
 unfold firstM
 rw [isM_find]
 unfold goodY pickM monD smB
 simp only [he,Bool.false_and,cond_false]
 refine exists_congr fun m=>and_congr_right fun _=>?_
 unfold firstD
 rw [isM_find]
 refine exists_congr fun d=>and_congr_right fun _=>?_
 unfold pickD mstR
 rw [hd]
 simp only [Bool.false_and,Bool.not_false,Bool.and_true,cond_false,q_le_t]
theorem seek_iff {ng lg:Bool} {s:List UInt8} {e g cy cm cd:Int} {mo da:List UInt8} {M D:List Int} (ho:okY14 ng lg s e g=true) (hx:okX s=true) (hd:bytesEq da []=false) (hc:cy < -10000000000000000):∀(t:Nat) (n:Int),muY (yV ng s e n true) (yB ng s e n true)≤t->
 (isP (seekF ng s e cy cm cd mo da M D (yV ng s e n true) (yB ng s e n true))=true↔∃k,inY ng s e k/\n≤k/\goodY M D k)
 | t,n,ht=>by
   cases hb:yB ng s e n true with
   | false=>
     rw [seekF_none]
     refine ⟨fun h=>(by cases h),fun h=>?_⟩
     obtain ⟨k,h1,h2,_⟩:=h
     have:=yB_no hx hb h1
     omega
   | true=>
     obtain ⟨p1,p2,p3⟩:=yB_iff hb
     have bd:=yV_bnd (n:=n) (up:=true) ho
     have hne:yV ng s e n true≠cy:=by omega
     cases hf:firstM (yV ng s e n true) cy cm cd mo da M D with
     | some m=>
       rw [seekF_some hf]
       refine ⟨fun _=>⟨_,p1,p2,?_⟩,fun _=>rfl⟩
       rw [←firstM_iff hne hd,hf]
       rfl
     | none=>
       rw [seekF_next ho bd.2 hf]
       have hm:=muY_next (ng:=ng) (s:=s) (e:=e) bd.2
       rw [hb] at ht
       match t,ht with
       | 0,ht=>omega
       | t+1,ht=>
         rw [seek_iff ho hx hd hc t _ (by omega)]
         refine exists_congr fun k=>⟨fun ⟨a,b,c⟩=>⟨a,by omega,c⟩,fun ⟨a,b,c⟩=>⟨a,?_,c⟩⟩
         have:=p3 k a b
         by_cases he:k=yV ng s e n true
         · subst he
           rw [←firstM_iff hne hd,hf] at c
           cases c
         · omega
theorem mem_fitL {c0 c1:UInt8} {x:Int}:∀{g:Nat},x∈fitL c0 c1 g↔(1≤x/\x≤g)/\agr [c0,c1] x=true
 | 0=>by simp only [fitL,List.not_mem_nil,false_iff];omega
 | g+1=>by
   rw [fitL_succ,List.mem_append,mem_fitL (g:=g)]
   constructor
   · rintro (⟨h1,h2⟩|h)
     · exact ⟨by omega,h2⟩
     · cases ha:agr [c0,c1] ((g:Int)+1) with
       | true=>
         rw [ha] at h
         simp only [cond_true,List.mem_singleton] at h
         subst h
         exact ⟨by omega,ha⟩
       | false=>rw [ha] at h;cases h
   · rintro ⟨h1,h2⟩
     by_cases he:x=(g:Int)+1
     · subst he
       right
       rw [h2]
       simp
     · exact .inl ⟨by omega,h2⟩
theorem mlenR_bd (y m:Int):28≤mlenR y m/\mlenR y m≤31:=Go.Proofs.YtafekjglclnegaaGreatDoor.mlen_bd y m
theorem goodY_iff {m0 m1 d0 d1:UInt8} {k:Int}:goodY (fitL m0 m1 12) (fitL d0 d1 31) k↔∃m,m∈fitL m0 m1 12/\fitL d0 d1 (mlenR k m).toNat≠[]:=by
 unfold goodY
 refine exists_congr fun m=>and_congr_right fun _=>?_
 have hb:=mlenR_bd k m
 constructor
 · rintro ⟨d,hd,hle⟩ hn
   have:d∈fitL d0 d1 (mlenR k m).toNat:=mem_fitL.2 ⟨⟨(mem_fitL.1 hd).1.1,by omega⟩,(mem_fitL.1 hd).2⟩
   rw [hn] at this
   cases this
 · intro hn
   obtain ⟨d,hd⟩:=List.exists_mem_of_ne_nil _ hn
   have:=mem_fitL.1 hd
   exact ⟨d,mem_fitL.2 ⟨⟨this.1.1,by omega⟩,this.2⟩,by omega⟩
def lastX (c1 c2 c3:UInt8):Int:=bif Nat.beq c3.toNat 88 then 1 else bif Nat.beq c2.toNat 88 then 10 else bif Nat.beq c1.toNat 88 then 100 else 1000
def lowM (ng:Bool) (c0 c1 c2 c3:UInt8):Int:=bif ng&&intEq (fil4 c0 c1 c2 c3 48) 0 then lastX c1 c2 c3 else fil4 c0 c1 c2 c3 48
def loY (ng:Bool) (s:List UInt8) (e:Int):Int:=bif Nat.beq (hasN s 88 88) 0 then valR ng s e else match s with|[c0,c1,c2,c3]=>(bif ng then -(fil4 c0 c1 c2 c3 57) else lowM ng c0 c1 c2 c3)|_=>0
def hiY (ng:Bool) (s:List UInt8) (e:Int):Int:=bif Nat.beq (hasN s 88 88) 0 then valR ng s e else match s with|[c0,c1,c2,c3]=>(bif ng then -(lowM ng c0 c1 c2 c3) else fil4 c0 c1 c2 c3 57)|_=>0
theorem inM_bd {c0 c1 c2 c3:UInt8} {k:Int} (h0:mBy c0=true) (h1:mBy c1=true) (h2:mBy c2=true) (h3:mBy c3=true) (h:inM c0 c1 c2 c3 k):fil4 c0 c1 c2 c3 48≤k/\k≤fil4 c0 c1 c2 c3 57/\(fil4 c0 c1 c2 c3 48=0->1≤k->lastX c1 c2 c3≤k):=by
 rw [mBy_iff] at h0 h1 h2 h3
 obtain ⟨k0,k1,k2,k3,x0,x1,x2,x3,rfl,y0,y1,y2,y3⟩:=inM_ex h
 clear h
 unfold fil4 lastX dgx
 unfold mt at y0 y1 y2 y3
 have hb:∀(c:UInt8) (x y:Int),(bif Nat.beq c.toNat 88 then x else y)=if c.toNat=88 then x else y:=fun c x y=>by
  by_cases hc:c.toNat=88
  · rw [beqT hc,if_pos hc];rfl
  · rw [beqF hc,if_neg hc];rfl
 simp only [hb]
 have e0:c0.toNat=88∨c0.toNat≠88:=Classical.em _
 have e1:c1.toNat=88∨c1.toNat≠88:=Classical.em _
 have e2:c2.toNat=88∨c2.toNat≠88:=Classical.em _
 have e3:c3.toNat=88∨c3.toNat≠88:=Classical.em _
 rcases e1 with e1|e1<;>rcases e2 with e2|e2<;>rcases e3 with e3|e3<;>rcases e0 with e0|e0<;>simp only [e0,e1,e2,e3,if_true,if_false]<;>omega
theorem inY_bd {ng:Bool} {s:List UInt8} {e k:Int} (hx:okX s=true) (h:inY ng s e k):loY ng s e≤k/\k≤hiY ng s e:=by
 unfold inY at h
 unfold loY hiY
 cases hX:Nat.beq (hasN s 88 88) 0 with
 | true=>rw [hX,cond_true] at h;rw [cond_true,cond_true];omega
 | false=>
   rw [hX,cond_false] at h
   obtain ⟨c0,c1,c2,c3,rfl,h0,h1,h2,h3⟩:=okX_m hx hX
   simp only [cond_false] at h ⊢
   unfold lowM
   cases ng with
   | true=>
     simp only [cond_true,Bool.true_and] at h ⊢
     obtain ⟨b1,b2,b3⟩:=inM_bd h0 h1 h2 h3 h.2
     cases hz:intEq (fil4 c0 c1 c2 c3 48) 0 with
     | true=>rw [q_eq_t] at hz;rw [cond_true];have:=b3 hz h.1;omega
     | false=>rw [cond_false];omega
   | false=>
     simp only [cond_false,Bool.false_and] at h ⊢
     obtain ⟨b1,b2,b3⟩:=inM_bd h0 h1 h2 h3 h
     omega
end Go.Ev
end
section
set_option maxRecDepth 100000
set_option maxHeartbeats 4000000
namespace Go.Ev
open Go Go.Proofs
noncomputable def V3:Sums:=addG V2 115 (winS 14 [1,1] w115)
theorem V3_ok:SumsOK Tryz.prog cfg V3:=add115 V2_ok
def mLs (s:List UInt8) (g:Nat):List Int:=match s with|[c0,c1]=>fitL c0 c1 g|_=>[]
def isF (ng:Bool) (s:List UInt8) (e:Int) (mo da:List UInt8):Bool:=isP (seekF ng s e (-9223372036854775808) 0 0 mo da (mLs mo 12) (mLs da 31) (yV ng s e (-9223372036854775808) true) (yB ng s e (-9223372036854775808) true))
def errF (ng lg:Bool) (s:List UInt8) (e g:Int) (mo da:List UInt8) (a b c:Int):Int:=
 bif intEq (errD ng lg s e g mo da a b c) 0 then (bif bytesEq da [] then 0 else bif isF ng s e mo da then 0 else 8) else errD ng lg s e g mo da a b c
def s59:Sum:=fun args=>match args with
 | [.agg [.bool ng,.bool lg,.str s,.int .i64 e,.int .i64 g,.str mo,.str da,.int .u8 a,.int .u8 b,.int .u8 c]]=>some (asrts [Nat.ble s.length 1000,Nat.ble mo.length 1000,Nat.ble da.length 1000,inR .i64 e,inR .i64 g,inR .u8 a,inR .u8 b,inR .u8 c] (.ret (.int .i64 (errF ng lg s e g mo da a b c))))
 | _=>none
theorem b59a (ng lg:Bool) (s:List UInt8) (e g:Int) (mo da:List UInt8) (a b c:Int) {Q:AV->Prop}:askA Q (pT V3 noL 59 [.agg [.bool ng,.bool lg,.str s,.int .i64 e,.int .i64 g,.str mo,.str da,.int .u8 a,.int .u8 b,.int .u8 c]]) (dtN 1777006)=((fun (u0:Int)=>Nat.ble (List.length s) 1000=true/\Nat.ble (List.length mo) 1000=true/\Nat.ble (List.length da) 1000=true/\inR .i64 e=true/\inR .i64 g=true/\inR .u8 a=true/\inR .u8 b=true/\inR .u8 c=true/\not (intEq u0 0)=true/\Q (AV.int .i64 u0)) (errD ng lg s e g mo da a b c)):=by kernel_rfl
theorem b59b (ng lg:Bool) (s:List UInt8) (e g:Int) (mo da:List UInt8) (a b c:Int) {Q:AV->Prop}:askA Q (pT V3 noL 59 [.agg [.bool ng,.bool lg,.str s,.int .i64 e,.int .i64 g,.str mo,.str da,.int .u8 a,.int .u8 b,.int .u8 c]]) (dtN 12032277006)=(Nat.ble (List.length s) 1000=true/\Nat.ble (List.length mo) 1000=true/\Nat.ble (List.length da) 1000=true/\inR .i64 e=true/\inR .i64 g=true/\inR .u8 a=true/\inR .u8 b=true/\inR .u8 c=true/\not (intEq (errD ng lg s e g mo da a b c) 0)=false/\bytesEq da []=true/\Q (AV.int .i64 0)):=by kernel_rfl
theorem b59c (ng lg:Bool) (s:List UInt8) (e g:Int) (m0 m1 d0 d1:UInt8) (a b c:Int) {Q:AV->Prop}:askA Q (pT V3 noL 59 [.agg [.bool ng,.bool lg,.str s,.int .i64 e,.int .i64 g,.str [m0,m1],.str [d0,d1],.int .u8 a,.int .u8 b,.int .u8 c]]) (dtN 11111111114070444444440563002205300225322700200056663227002006)=((fun (u6 u7:List Int) (u0 u1 u2 u3 u4 u5:Prop)=>(fun (u9 ua:Nat)=>(fun (ud ue:Bool) (ub uc:Nat)=>(fun (uf ug:List AV)=>(fun (uh ui uj uk ul:Bool)=>u0/\u1/\u2/\u3/\u4/\u5/\not (intEq (errD ng lg s e g [m0,m1] [d0,d1] a b c) 0)=false/\u0/\u1/\u2/\u3/\u4/\u5/\not (intEq (seasR [m0,m1]) 0)=false/\mBy m0=true/\mBy m1=true/\nilB u6=false/\mBy d0=true/\mBy d1=true/\nilB u7=false/\(uh=true->(List.all uf (isKA .i64)=true->(List.all ug (isKA .i64)=true->(ui=true->(uj=true->(ud=true->(ue=true->(uk=true->okY14 ng lg s e g=true/\u0/\okX s=true/\(ul=true->Q (AV.int .i64 8))/\(ul=false->Q (AV.int .i64 0)))/\(uk=false->False))/\(ue=false->False))/\(ud=false->False))/\(uj=false->False))/\(ui=false->False))/\(List.all ug (isKA .i64)=false->False))/\(List.all uf (isKA .i64)=false->False))/\(uh=false->False)) (and (and true (and (Nat.ble (HAdd.hAdd 0 ub) (List.length (celL u6))) (belowL 14 uf))) (and (Nat.ble (HAdd.hAdd 0 uc) (List.length (celL u7))) (belowL 14 ug))) (Nat.beq (List.length uf) u9) (Nat.beq (List.length ug) ua) (allM [d0,d1] (unI uf)) (not (isP (seekF ng s e (Neg.neg 9223372036854775808) 0 0 [m0,m1] [d0,d1] (unI uf) (unI ug) (yV ng s e (Neg.neg 9223372036854775808) true) (yB ng s e (Neg.neg 9223372036854775808) true))))) (winOf (celL u6) 0 ub) (winOf (celL u7) 0 uc)) (Nat.ble u9 1000) (Nat.ble ua 1000) (HMul.hMul u9 1) (HMul.hMul ua 1)) (lenN u6) (lenN u7)) (fitL m0 m1 12) (fitL d0 d1 31) (Nat.ble (List.length s) 1000=true) (inR .i64 e=true) (inR .i64 g=true) (inR .u8 a=true) (inR .u8 b=true) (inR .u8 c=true)):=by kernel_rfl
theorem mBy_dig {c:UInt8} {d:Int} (h:c.toNat=88∨(c.toNat:Int)=48+d) (h0:0≤d) (h1:d≤9):mBy c=true:=by
 rw [mBy_iff];omega
theorem someA_ex {s:List UInt8} {g:Nat} (hg:g≤99) (h:someA s g=true):∃c0 c1,s=[c0,c1]/\mBy c0=true/\mBy c1=true/\fitL c0 c1 g≠[]:=by
 unfold someA at h
 obtain ⟨k,hk,ha⟩:=List.any_eq_true.1 h
 rw [List.mem_range] at hk
 match s,ha with
 | [c0,c1],ha=>
   have hi:=agr_iff.1 ha
   refine ⟨c0,c1,rfl,mBy_dig hi.1 (by omega) (by omega),mBy_dig hi.2 (by omega) (by omega),fun hn=>?_⟩
   have:((k:Int)+1)∈fitL c0 c1 g:=mem_fitL.2 ⟨by omega,ha⟩
   rw [hn] at this
   cases this
 | [],ha=>simp [agr] at ha
 | [_],ha=>simp [agr] at ha
 | _::_::_::_,ha=>simp [agr] at ha
theorem okX_of {ng lg:Bool} {s:List UInt8} {e g:Int} (h:okY14 ng lg s e g=true):okX s=true:=by
 unfold okY14 at h
 rw [decide_eq_true_eq] at h
 unfold okX
 by_cases hx:hasN s 88 88=0
 · rw [beqT hx];rfl
 · rw [beqF hx,Bool.false_or]
   have h4:s.length=4:=by omega
   have hm:=(mskN s).2 h.1
   match s,h4,hm with
   | [c0,c1,c2,c3],_,hm=>
     simp only [Go.Proofs.YtafekjglclnegaaGreatDoor.mskB,List.all_cons,List.all_nil,Bool.and_true,Bool.and_eq_true,decide_eq_true_eq,Go.Proofs.YtafekjglclnegaaGreatDoor.mb] at hm
     simp only [Bool.and_eq_true,mBy_iff]
     exact ⟨of_decide_eq_true hm.1,of_decide_eq_true hm.2.1,of_decide_eq_true hm.2.2.1,of_decide_eq_true hm.2.2.2⟩
theorem errD0_ok {ng lg:Bool} {s:List UInt8} {e g:Int} {mo da:List UInt8} {a b c:Int} (h:errD ng lg s e g mo da a b c=0) (hc:0≤errMk a b c (compsR mo da)):okY14 ng lg s e g=true/\okX s=true/\¬(0<g/\bytesEq mo []=false)/\(bytesEq mo []=false/\seasR mo=0->someA mo 12=true)/\(bytesEq da []=false->bytesEq mo []=false/\seasR mo=0/\someA da 31=true):=by
 have hn:=seasR_nn mo
 unfold errD at h
 by_cases h1:okDYR ng lg s e g mo=false
 · rw [if_pos h1] at h;omega
 · rw [if_neg h1] at h
   by_cases h2:bytesEq mo []=false/\seasR mo=0/\someA mo 12=false
   · rw [if_pos h2] at h;omega
   · rw [if_neg h2] at h
     by_cases h3:bytesEq da []=false/\(bytesEq mo []=true∨0<seasR mo∨someA da 31=false)
     · rw [if_pos h3] at h;omega
     · rw [Bool.not_eq_false] at h1
       unfold okDYR at h1
       rw [decide_eq_true_eq] at h1
       refine ⟨h1.1,okX_of h1.1,h1.2.1,fun ⟨k1,k2⟩=>?_,fun hd=>⟨?_,?_,?_⟩⟩
       · rw [←Bool.not_eq_false];exact fun k3=>h2 ⟨k1,k2,k3⟩
       · rw [←Bool.not_eq_true];exact fun k=>h3 ⟨hd,.inl k⟩
       · have:¬0<seasR mo:=fun k=>h3 ⟨hd,.inr (.inl k)⟩
         omega
       · rw [←Bool.not_eq_false];exact fun k=>h3 ⟨hd,.inr (.inr k)⟩
theorem errMk_nn {a b c n:Int}:0≤errMk a b c n:=by unfold errMk;(repeat' split)<;>omega
theorem errD0_day {ng lg:Bool} {s:List UInt8} {e g:Int} {mo da:List UInt8} {a b c:Int} (h:errD ng lg s e g mo da a b c=0) (hd:bytesEq da []=false) :
 ∃m0 m1 d0 d1,mo=[m0,m1]/\da=[d0,d1]/\mBy m0=true/\mBy m1=true/\mBy d0=true/\mBy d1=true/\fitL m0 m1 12≠[]/\fitL d0 d1 31≠[]/\seasR mo=0/\okY14 ng lg s e g=true/\okX s=true/\g=0:=by
 obtain ⟨h1,h2,h3,h4,h5⟩:=errD0_ok h errMk_nn
 obtain ⟨k1,k2,k3⟩:=h5 hd
 obtain ⟨m0,m1,rfl,a1,a2,a3⟩:=someA_ex (by decide) (h4 ⟨k1,k2⟩)
 obtain ⟨d0,d1,rfl,b1,b2,b3⟩:=someA_ex (by decide) k3
 have hg:0≤g:=by
  have:=h1
  unfold okY14 at this
  rw [decide_eq_true_eq] at this
  exact this.2.1
 refine ⟨m0,m1,d0,d1,rfl,rfl,a1,a2,b1,b2,a3,b3,k2,h1,h2,?_⟩
 have:¬0<g:=fun k=>h3 ⟨k,k1⟩
 omega
theorem body59:bodyOf tab 59=some (fnOf 59,codeOf 59):=by kernel_rfl
theorem unI_celL {M:List Int}:unI (celL M)=M:=by
 unfold unI celL
 rw [List.map_map]
 exact List.map_id' M
theorem all_celL {M:List Int}:(celL M).all (isKA .i64)=true:=by
 unfold celL
 rw [List.all_map]
 exact List.all_eq_true.2 fun x _=>rfl
theorem allM_fitL {da:List UInt8} {c0 c1:UInt8}:allM da (fitL c0 c1 12)=true:=by
 unfold allM
 rw [List.all_eq_true]
 intro x hx
 have:=mem_fitL.1 hx
 unfold okM
 rw [Bool.or_eq_true,Bool.and_eq_true,q_le_t,q_le_t]
 right;omega
theorem f59 {ng lg:Bool} {s:List UInt8} {e g:Int} {mo da:List UInt8} {a b c:Int} (hs:s.length≤1000) (hmo:mo.length≤1000) (hda:da.length≤1000) (he : -9223372036854775808≤e/\e≤9223372036854775807) (hg : -9223372036854775808≤g/\g≤9223372036854775807) (ha:0≤a/\a≤255) (hb:0≤b/\b≤255) (hc:0≤c/\c≤255) :
 FactW Tryz.prog cfg 59 [.agg [.bool ng,.bool lg,.str s,.int .i64 e,.int .i64 g,.str mo,.str da,.int .u8 a,.int .u8 b,.int .u8 c]] [] (.int .i64 (errF ng lg s e g mo da a b c)) []:=by
 unfold errF
 cases hE:intEq (errD ng lg s e g mo da a b c) 0 with
 | false=>
   refine fpOK V3_ok (L:=noL) body59 (by simp) lok_none (wp_gen fun Q' hQ=>askA_wp ((b59a ng lg s e g mo da a b c).mpr ?_)) (by simp [idsA])
   dsimp only
   rw [cond_false] at hQ
   have hQ:=hQ _ rfl
   rw [q_eq_f] at hE
   generalize errD ng lg s e g mo da a b c=r at *
   simp only [q_all,reduceCtorEq,loK,hiK,ne_eq]
   (repeat' first|exact trivial|refine ⟨?_,?_⟩|intro)<;>first|contradiction|omega|assumption
 | true=>
   rw [cond_true]
   cases hd:bytesEq da [] with
   | true=>
     refine fpOK V3_ok (L:=noL) body59 (by simp) lok_none (wp_gen fun Q' hQ=>askA_wp ((b59b ng lg s e g mo da a b c).mpr ?_)) (by simp [idsA])
     rw [cond_true] at hQ
     have hQ:=hQ _ rfl
     rw [q_eq_t] at hE
     generalize errD ng lg s e g mo da a b c=r at *
     simp only [q_all,reduceCtorEq,loK,hiK,ne_eq]
     (repeat' first|exact trivial|refine ⟨?_,?_⟩|intro)<;>first|contradiction|omega|assumption
   | false=>
     have hE':=q_eq_t.mp hE
     obtain ⟨m0,m1,d0,d1,rfl,rfl,h0,h1,h2,h3,k1,k2,hse,ho,hx,hg0⟩:=errD0_day hE' hd
     have n1:nilB (fitL m0 m1 12)=false:=by unfold nilB;cases h:fitL m0 m1 12 with|nil=>exact absurd h k1|cons x xs=>rfl
     have n2:nilB (fitL d0 d1 31)=false:=by unfold nilB;cases h:fitL d0 d1 31 with|nil=>exact absurd h k2|cons x xs=>rfl
     refine fpOK V3_ok (L:=noL) body59 (by simp) lok_none (wp_gen fun Q' hQ=>askA_wp ((b59c ng lg s e g m0 m1 d0 d1 a b c).mpr ?_)) (by simp [idsA])
     rw [cond_false] at hQ
     have w1:winOf (celL (fitL m0 m1 12)) 0 (lenN (fitL m0 m1 12)*1)=celL (fitL m0 m1 12):=winL
     have w2:winOf (celL (fitL d0 d1 31)) 0 (lenN (fitL d0 d1 31)*1)=celL (fitL d0 d1 31):=winL
     have l1:lenN (fitL m0 m1 12)=(fitL m0 m1 12).length:=rfl
     have l2:lenN (fitL d0 d1 31)=(fitL d0 d1 31).length:=rfl
     have z1:=fitL_len m0 m1 12
     have z2:=fitL_len d0 d1 31
     have hF:isF ng s e [m0,m1] [d0,d1]=isP (seekF ng s e (-9223372036854775808) 0 0 [m0,m1] [d0,d1] (fitL m0 m1 12) (fitL d0 d1 31) (yV ng s e (-9223372036854775808) true) (yB ng s e (-9223372036854775808) true)):=rfl
     rw [hF] at hQ
     have aM:allM [d0,d1] (fitL m0 m1 12)=true:=allM_fitL
     have aX:∀M:List Int,Nat.ble (0+M.length*1) M.length=true:=fun M=>by simp
     simp only [l1,l2,@winL,unI_celL,all_celL,celL_len,belowL_celL,aM,aX,Bool.and_true,Bool.true_and]
     generalize isP (seekF ng s e (-9223372036854775808) 0 0 [m0,m1] [d0,d1] (fitL m0 m1 12) (fitL d0 d1 31) (yV ng s e (-9223372036854775808) true) (yB ng s e (-9223372036854775808) true))=r at *
     rw [q_eq_t] at hE
     clear hF aM w1 w2 hE'
     generalize errD ng lg s e g [m0,m1] [d0,d1] a b c=er at *
     generalize seasR [m0,m1]=se at *
     generalize fitL m0 m1 12=M at *
     generalize fitL d0 d1 31=D at *
     have h8:r=false->Q' (.int .i64 8):=fun h=>hQ _ (by rw [h];rfl)
     have h9:r=true->Q' (.int .i64 0):=fun h=>hQ _ (by rw [h];rfl)
     clear hQ
     simp only [q_all,reduceCtorEq,loK,hiK,ne_eq]
     (repeat' first|exact trivial|refine ⟨?_,?_⟩|intro)<;>first|contradiction|omega|assumption|(exact h8 (by assumption))|(exact h9 (by assumption))
theorem add59 {S:Sums} (hS:SumsOK Tryz.prog cfg S):SumsOK Tryz.prog cfg (addP S 59 s59):=sums_addP hS fun args t v he hv=>by
 unfold s59 at he
 split at he
 · cases he
   obtain ⟨h1,hv⟩:=asrts_run hv
   obtain ⟨h2,hv⟩:=asrts_run hv
   obtain ⟨h3,hv⟩:=asrts_run hv
   obtain ⟨h4,hv⟩:=asrts_run hv
   obtain ⟨h5,hv⟩:=asrts_run hv
   obtain ⟨h6,hv⟩:=asrts_run hv
   obtain ⟨h7,hv⟩:=asrts_run hv
   obtain ⟨h8,hv⟩:=asrts_run hv
   rw [q_ble_t] at h1 h2 h3
   rw [q_inR_t] at h4 h5 h6 h7 h8
   simp only [loK,hiK] at h4 h5 h6 h7 h8
   cases hv
   exact f59 h1 h2 h3 h4 h5 h6 h7 h8
 · cases he
end Go.Ev
end
section
set_option maxRecDepth 100000
namespace Go.Ev
open Go Go.Proofs
theorem rChk0 {a b c d:Int}:rChk a b c d=0↔(a=0∨a = -1/\b=0)/\(c=0∨c=1/\d=0)/\(a<c∨a=c/\b≤d):=by
 have h1:=cmpE_cases a b c d
 have h2:=@eChk0 a b
 have h3:=@eChk0 c d
 unfold rChk
 constructor
 · intro h
   by_cases hc:eChk a b=0/\eChk c d=0
   · rw [if_pos hc] at h
     have e1:=h2.1 hc.1
     have e2:=h3.1 hc.2
     by_cases h4:0<a∨c<0
     · rw [if_pos h4] at h;omega
     · rw [if_neg h4] at h
       by_cases h5:0<cmpE a b c d
       · rw [if_pos h5] at h;omega
       · omega
   · rw [if_neg hc] at h;omega
 · intro h
   have e1:eChk a b=0:=h2.2 (by omega)
   have e2:eChk c d=0:=h3.2 (by omega)
   rw [if_pos ⟨e1,e2⟩,if_neg (by omega),if_neg (by omega)]
end Go.Ev
end
section
set_option maxRecDepth 100000
set_option maxHeartbeats 4000000
namespace Go.Ev
open Go Go.Proofs
def S8:Sums:=addS S7 118 s118
theorem S8_ok:SumsOK Tryz.prog cfg S8:=sums_add S7_ok s118_ok
structure Rn where
 a:Int
 b:Int
 c:Int
 d:Int
def rn0:Rn:=⟨0,0,0,0⟩
def flat:List Rn->List AV
 | []=>[]
 | r::rs=>.int .i8 r.a::.int .i64 r.b::.int .i8 r.c::.int .i64 r.d::flat rs
def firstE (f:Nat->Int):Nat->Nat->Int
 | _,0=>0
 | i,n+1=>if f i=0 then firstE f (i+1) n else f i
def chk1 (q r:Rn) (i:Nat):Int:=if rChk r.a r.b r.c r.d=0 then (if 0<i/\(0<cmpR q.a q.b q.c q.d r.a r.b r.c r.d∨touchB q.a q.b q.c q.d r.a r.b r.c r.d=true) then 12 else 0) else rChk r.a r.b r.c r.d
def chkAt (R:List Rn) (i:Nat):Int:=chk1 (R.getD (i-1) rn0) (R.getD i rn0) i
def chkS (R:List Rn):Int:=firstE (chkAt R) 0 R.length
def v58 (R:List Rn):LoopV:=fun vs o=>match vs,o with
 | [.slice 14 0 n k,.int .i64 z,.slice 14 0 n' k',.int .i64 n'',.int .i64 i],⟨0,[],[]⟩=>some (asrts [Nat.ble n 1000,Nat.beq R.length n,Nat.beq n' n,intEq n'' (Int.ofNat n),intEq i 0,intEq z 0] (.test (intEq (chkS R) 0) fun b=>bif b then .ret (.exit 0,[.slice 14 0 n k,.int .i64 0,.slice 14 0 n' k',.int .i64 n'',.int .i64 n''],own0) else .all fun J=>.ret (.ret,[.slice 14 0 n k,.int .i64 (chkS R),.slice 14 0 n' k',.int .i64 n'',.any (J 0)],own0)))
 | _,_=>none
def L58 (R:List Rn):Loops:=addL noL 0 (loopE 43 [0,2,9,10,11] (v58 R))
theorem r58 (w:List AV) (n:Nat) (k k':Cap) (i:Nat) (J:Nat->Value) {Q:VQ->Prop}:askA Q (rT S8 noL [.cells w false none] 58 0 43 [0,2,9,10,11] [.slice 14 0 n k,.int .i64 0,.slice 14 0 n k',.int .i64 (Int.ofNat n),.int .i64 (Int.ofNat i)] J own0) (dtN 1111112033000533881111107881112142324425777747524444277414054444204)=((fun (u1 u2 u3 u4:AV) (u0:Int)=>(fun (ue:AV) (u5 u6 u7 u8 u9 uf:Bool) (ua ub uc ud ug:Int)=>(fun (uh:Int) (um:Nat) (ui uj uk ul un uo up:Prop)=>(fun (uq ur:Bool) (ut:Int) (us:Nat)=>(fun (uu:Bool) (uw:Int) (uv:Nat)=>(fun (ux uy:Bool) (uz uA:Int)=>(fun (uB uC:Bool)=>(fun (uD uE:Prop)=>(u5=true->natLt i n=true/\(u6=true->(u7=true->(u8=true->(u9=true->(uq=true->Q (AX.ret,([u2,AV.int .i64 uh,u3,u4,ue],{ n:=1,os:=[AObj.cells [AV.int .i8 ua,AV.int .i64 ub,AV.int .i8 uc,AV.int .i64 ud] true Option.none],le:=[] })))/\(uq=false->(ui->ui/\ui/\uj/\ui/\uk/\ul/\ui/\(ur=true->(uu=true->(ux=true->(uy=true->ui/\ui/\ui/\ui/\(uD->uD/\uD/\uj/\uD/\uk/\ul/\uD/\ur=true/\uu=true/\ux=true/\uy=true/\uD/\uD/\(inR .i64 uA=true->(inR .i64 ud=true->ui/\uB=false/\ui/\(uC=true->un)/\(uC=false->uo))/\(inR .i64 ud=false->False))/\(inR .i64 uA=false->False))/\(uE->uE/\uE/\uE/\uE/\uE/\uE/\ui/\uB=true/\ui/\un))/\(uy=false->False))/\(ux=false->False))/\(uu=false->False))/\(ur=false->False))/\(up->up/\up/\up/\up/\up/\up/\up/\up/\up/\up/\uo)))/\(u9=false->False))/\(u8=false->False))/\(u7=false->False))/\(u6=false->False))/\(u5=false->Q (AX.exit 0,([u2,AV.int .i64 0,u3,u4,ue],{ n:=0,os:=[],le:=[] })))) (not uB=true) (not uB=false)) (not (intLe (cmpR ut uw uz uA ua ub uc ud) 0)) (touchB ut uw uz uA ua ub uc ud)) (isKA .i8 (List.getD w uv u1)) (isKA .i64 (List.getD w (HAdd.hAdd uv 1) u1)) (intOf (List.getD w uv u1)) (intOf (List.getD w (HAdd.hAdd uv 1) u1))) (isKA .i64 (List.getD w us u1)) (intOf (List.getD w us u1)) (HAdd.hAdd us 1)) (not (intEq uh 0)) (isKA .i8 (List.getD w um u1)) (intOf (List.getD w um u1)) (HAdd.hAdd um 1)) (rChk ua ub uc ud) (HAdd.hAdd 0 (HMul.hMul (Int.toNat ug) 4)) (uf=true) (inR .i64 ug=true) (intLe 0 ug=true) (natLt (Int.toNat ug) n=true) (Q (AX.ret,([u2,AV.int .i64 12,u3,u4,ue],{ n:=1,os:=[AObj.cells [AV.int .i8 ua,AV.int .i64 ub,AV.int .i8 uc,AV.int .i64 ud] true Option.none],le:=[] }))) (inR .i64 (Int.add u0 1)=true/\Q (AX.normal,([u2,AV.int .i64 0,u3,u4,AV.int .i64 (Int.add u0 1)],{ n:=1,os:=[AObj.cells [AV.int .i8 ua,AV.int .i64 ub,AV.int .i8 uc,AV.int .i64 ud] true Option.none],le:=[] }))) (uf=false)) (AV.int .i64 u0) (not (intLe (Int.ofNat n) u0)) (isKA .i8 (List.getD w (HAdd.hAdd 0 (HMul.hMul i 4)) u1)) (isKA .i64 (List.getD w (HAdd.hAdd (HAdd.hAdd 0 (HMul.hMul i 4)) 1) u1)) (isKA .i8 (List.getD w (HAdd.hAdd (HAdd.hAdd (HAdd.hAdd 0 (HMul.hMul i 4)) 1) 1) u1)) (isKA .i64 (List.getD w (HAdd.hAdd (HAdd.hAdd (HAdd.hAdd (HAdd.hAdd 0 (HMul.hMul i 4)) 1) 1) 1) u1)) (not (intLe u0 0)) (intOf (List.getD w (HAdd.hAdd 0 (HMul.hMul i 4)) u1)) (intOf (List.getD w (HAdd.hAdd (HAdd.hAdd 0 (HMul.hMul i 4)) 1) u1)) (intOf (List.getD w (HAdd.hAdd (HAdd.hAdd (HAdd.hAdd 0 (HMul.hMul i 4)) 1) 1) u1)) (intOf (List.getD w (HAdd.hAdd (HAdd.hAdd (HAdd.hAdd (HAdd.hAdd 0 (HMul.hMul i 4)) 1) 1) 1) u1)) (Int.sub u0 1)) (AV.tuple []) (AV.slice 14 0 n k) (AV.slice 14 0 n k') (AV.int .i64 (Int.ofNat n)) (Int.ofNat i)):=by kernel_rfl
theorem b58 (w:List AV) (R:List Rn) (n:Nat) (k:Cap) {Q:AV->Prop}:askA Q (pW S8 (L58 R) [.cells w false none] 58 [.slice 14 0 n k]) (dtN 11140022423)=((fun (u1 u2:Bool) (u0:Int)=>not (intLe u0 4096)=false/\Nat.ble n 1000=true/\(u1=true->Nat.beq n n=true/\intEq u0 u0=true/\(u2=true->(∀J1:Nat->Value,Q (AV.int .i64 0)))/\(u2=false->(∀J1:Nat->Value,∀J2:Nat->Value,Q (AV.int .i64 (chkS R)))))/\(u1=false->False)) (Nat.beq (List.length R) n) (intEq (chkS R) 0) (Int.ofNat n)):=by kernel_rfl
theorem VW.trans {C:Ctx} {kb tn:Nat} {rel:List Nat} {vs vs' vs'':List AV} {o o' o'':Own} (h1:VW cfg C kb tn rel vs o vs' o') (h2:VW cfg C kb tn rel vs' o' vs'' o''):VW cfg C kb tn rel vs o vs'' o'':=fun J=>(h1 J).trans fun s ⟨J',e⟩=>by rw [e];exact h2 J'
theorem vw_drop {ws:List AObj} {tn:Nat} {rel:List Nat} {vs vs':List AV} {o:Own} (hw:∀x∈ws,LowO 14 x) (hle:o.le=[]) (hvs:mvL (mvA (14+ws.length+0) [] 20) vs=some vs'):VW cfg (Cw cfg ws) 0 tn rel vs o vs' own0:=
 VW.move good0.lv (C:=Cw cfg ws) (kb:=0) (sel:=[]) (lowC_cw hw) (Nat.zero_le _) (fun s hs=>by cases hs) List.nodup_nil (fun p hp=>by rw [hle] at hp;cases hp) hle.symm rfl rfl (fun i hi=>absurd hi (Nat.not_lt_zero i)) (fun t ht=>absurd ht (Nat.not_lt_zero t)) hvs
theorem firstE_at {f:Nat->Int}:∀{n i k:Nat},(∀j,i≤j->j<k->f j=0)->i≤k->k<i+n->f k≠0->firstE f i n=f k
 | 0,i,k,_,h1,h2,_=>by omega
 | n+1,i,k,h,h1,h2,h3=>by
   rw [firstE]
   by_cases e:i=k
   · subst e;rw [if_neg h3]
   · rw [if_pos (h i (Nat.le_refl _) (by omega))]
     exact firstE_at (fun j hj hk=>h j (by omega) hk) (by omega) (by omega) h3
theorem firstE_0 {f:Nat->Int}:∀{n i:Nat},(∀j,i≤j->j<i+n->f j=0)->firstE f i n=0
 | 0,_,_=>rfl
 | n+1,i,h=>by
   rw [firstE,if_pos (h i (Nat.le_refl _) (by omega))]
   exact firstE_0 fun j hj hk=>h j (by omega) (by omega)
theorem flat_skip {r:Rn} {rs:List Rn} {n:Nat} {v:AV}:(flat (r::rs)).getD (n+4) v=(flat rs).getD n v:=rfl
theorem flat_at {R:List Rn} {i:Nat} (h:i<R.length):(flat R).getD (i*4) (.tuple [])=.int .i8 (R.getD i rn0).a/\(flat R).getD (i*4+1) (.tuple [])=.int .i64 (R.getD i rn0).b/\(flat R).getD (i*4+2) (.tuple [])=.int .i8 (R.getD i rn0).c/\(flat R).getD (i*4+3) (.tuple [])=.int .i64 (R.getD i rn0).d:=by
 induction R generalizing i with
 | nil=>exact absurd h (Nat.not_lt_zero _)
 | cons r rs ih=>
   cases i with
   | zero=>exact ⟨rfl,rfl,rfl,rfl⟩
   | succ i=>
     obtain ⟨h1,h2,h3,h4⟩:=ih (i:=i) (by simpa using h)
     rw [show (i+1)*4=i*4+4 by omega,show i*4+4+1=i*4+1+4 by omega,show i*4+4+2=i*4+2+4 by omega,show i*4+4+3=i*4+3+4 by omega,flat_skip,flat_skip,flat_skip,flat_skip]
     exact ⟨h1,h2,h3,h4⟩
theorem pre_eq {j:Nat}:Int.toNat (Int.sub (Int.ofNat (j+1)) 1)=j:=by
 show ((j:Int)+1-1).toNat=j
 omega
theorem flat_ids:∀{R:List Rn},idsL (flat R)=[]
 | []=>rfl
 | r::rs=>by simp only [flat,idsL,idsA,List.nil_append];exact flat_ids
theorem flat_low {R:List Rn}:∀x∈[AObj.cells (flat R) false none],LowO 14 x:=fun x hx=>by
 simp only [List.mem_singleton] at hx
 subst hx
 refine ⟨rfl,fun i hi=>?_⟩
 exfalso
 simp only [idsO,flat_ids] at hi
 cases hi
theorem lv58 {R:List Rn} (hR:∀i,i<R.length->inL (R.getD i rn0).d):LoopVOK Tryz.prog (cfgS cfg S8) (Cw cfg [.cells (flat R) false none]) (lb 58 0) 43 [0,2,9,10,11] (v58 R):=by
 have hw:=@flat_low R
 intro vs o t Q hv hq J
 unfold v58 at hv
 split at hv
 · rename_i n k z n' k' n'' i
   cases hv
   obtain ⟨h1,hq'⟩:=asrts_wp hq;clear hq;have hq:=hq';clear hq'
   obtain ⟨h2,hq'⟩:=asrts_wp hq;clear hq;have hq:=hq';clear hq'
   obtain ⟨h3,hq'⟩:=asrts_wp hq;clear hq;have hq:=hq';clear hq'
   obtain ⟨h4,hq'⟩:=asrts_wp hq;clear hq;have hq:=hq';clear hq'
   obtain ⟨h5,hq'⟩:=asrts_wp hq;clear hq;have hq:=hq';clear hq'
   obtain ⟨h6,hq'⟩:=asrts_wp hq;clear hq;have hq:=hq';clear hq'
   rw [q_ble_t] at h1
   rw [q_beq_t] at h2 h3
   rw [q_eq_t] at h4 h5 h6
   subst h2 h3 h4 h5 h6
   simp only [asrts,Tr.wp] at hq
   refine lvOK S8_ok rfl rfl lok_none (ι:={i:Nat // i≤R.length/\∀j,j<i->chkAt R j=0}) (fun x=>[.slice 14 0 R.length k,.int .i64 0,.slice 14 0 R.length k',.int .i64 (Int.ofNat R.length),.int .i64 (Int.ofNat x.1)]) (fun _=>own0) (fun x=>R.length-x.1) 0 (fun _=>Nat.le_refl _) (fun x J=>?_) (Nat.le_refl _) (fun J=>Wk.refl ⟨⟨0,Nat.zero_le _,fun j hj=>absurd hj (Nat.not_lt_zero j)⟩,J,rfl⟩) J
   obtain ⟨i,hi,hz⟩:=x
   dsimp only
   refine wp_gen fun Q' hQ=>askA_wp ((r58 (flat R) R.length k k' i J).mpr ?_)
   dsimp only
   have yes:i<R.length->∀e,chkAt R i=e->e≠0->∀J:Nat->Value,Q (.ret,[.slice 14 0 R.length k,.int .i64 e,.slice 14 0 R.length k',.int .i64 (Int.ofNat R.length),.any (J 0)],own0):=fun hlt e he hne J2=>by
    have hc:chkS R=e:=he▸firstE_at (fun j _ hj=>hz j hj) (Nat.zero_le _) (by omega) (he.symm▸hne)
    rw [hc,q_eq_f.mpr hne] at hq
    exact hq J2
   have no:i=R.length->Q (.exit 0,[.slice 14 0 R.length k,.int .i64 0,.slice 14 0 R.length k',.int .i64 (Int.ofNat R.length),.int .i64 (Int.ofNat R.length)],own0):=fun he=>by
    subst he
    have hc:chkS R=0:=firstE_0 fun j _ hj=>hz j (by omega)
    rw [hc] at hq
    exact hq
   have next:chkAt R i=0->∀j,j<i+1->chkAt R j=0:=fun h j hj=>by
    by_cases e:j=i
    · subst e;exact h
    · exact hz j (by omega)
   clear hq
   by_cases hlt:i<R.length
   · obtain ⟨f1,f2,f3,f4⟩:=flat_at hlt
     have b1:=hR i hlt
     have ret:∀(e:Int) (o:Own),o.le=[]->chkAt R i=e->e≠0->∃vs2 o2,VW cfg (Cw cfg [.cells (flat R) false none]) 0 43 [0,2,9,10,11] [.slice 14 0 R.length k,.int .i64 e,.slice 14 0 R.length k',.int .i64 (Int.ofNat R.length),.int .i64 (Int.ofNat i)] o vs2 o2/\Q (.ret,vs2,o2):=fun e o ho he hne=>
      ⟨_,_,(vw_drop hw ho rfl).trans (VW.any (.same (.same (.same (.same (.int .nil))))) rfl),yes hlt e he hne (jv [_])⟩
     have go:∀(o:Own),o.le=[]->chkAt R i=0->∃y:{i:Nat // i≤R.length/\∀j,j<i->chkAt R j=0},R.length-y.1<R.length-i/\VW cfg (Cw cfg [.cells (flat R) false none]) 0 43 [0,2,9,10,11] [.slice 14 0 R.length k,.int .i64 0,.slice 14 0 R.length k',.int .i64 (Int.ofNat R.length),.int .i64 (Int.add (Int.ofNat i) 1)] o [.slice 14 0 R.length k,.int .i64 0,.slice 14 0 R.length k',.int .i64 (Int.ofNat R.length),.int .i64 (Int.ofNat y.1)] own0:=fun o ho h0=>
      ⟨⟨i+1,by omega,next h0⟩,by dsimp only;omega,vw_drop hw ho rfl⟩
     have hE:chkAt R i=chk1 (R.getD (i-1) rn0) (R.getD i rn0) i:=rfl
     rw [hE] at ret go
     clear yes no next hz hE
     cases i with
     | zero=>
       clear hR
       simp only [Nat.add_assoc,Nat.reduceAdd,Nat.zero_add,Nat.add_zero,f1,f2,f3,f4,isKA,intOf,sameK,ctorK] at *
       generalize R.getD 0 rn0=r at *
       unfold chk1 at ret go
       simp only [q_all,reduceCtorEq,loK,hiK,ne_eq]
       (repeat' first|exact trivial|refine ⟨?_,?_⟩|intro)<;>first|contradiction|omega|assumption|refine hQ _ ?_
       · exact ret _ _ rfl (by rw [if_neg (by assumption)]) (by assumption)
       · exact go _ rfl (by rw [if_pos (by assumption),if_neg (by omega)])
     | succ j=>
       obtain ⟨g1,g2,g3,g4⟩:=flat_at (R:=R) (i:=j) (by omega)
       have b2:=hR j (by omega)
       clear hR
       rw [show j+1-1=j by omega] at ret go
       simp only [pre_eq,Nat.add_assoc,Nat.reduceAdd,Nat.zero_add,Nat.add_zero,f1,f2,f3,f4,g1,g2,g3,g4,isKA,intOf,sameK,ctorK] at *
       generalize R.getD (j+1) rn0=r at *
       generalize R.getD j rn0=q at *
       unfold chk1 at ret go
       unfold inL at b1 b2
       simp only [q_all,reduceCtorEq,loK,hiK,ne_eq]
       (repeat' first|exact trivial|refine ⟨?_,?_⟩|intro)<;>first|contradiction|omega|assumption|refine hQ _ ?_
       all_goals first
        | exact ret _ _ rfl (by rw [if_neg (by assumption)]) (by assumption)
        | exact ret 12 _ rfl (by rw [if_pos (by assumption),if_pos ⟨by omega,.inl (by assumption)⟩]) (by decide)
        | exact ret 12 _ rfl (by rw [if_pos (by assumption),if_pos ⟨by omega,.inr (by assumption)⟩]) (by decide)
        | exact go _ rfl (by rw [if_pos (by assumption),if_neg (by rintro ⟨_,h|h⟩<;>simp_all<;>omega)])
   · obtain rfl:i=R.length:=by omega
     have no:=no rfl
     simp only [q_all,reduceCtorEq,loK,hiK,ne_eq]
     (repeat' first|exact trivial|refine ⟨?_,?_⟩|intro)<;>first|contradiction|omega|assumption|(refine hQ _ ?_;exact ⟨_,_,VW.refl,no⟩)
 · cases hv
def unR:List AV->List Rn
 | .int .i8 a::.int .i64 b::.int .i8 c::.int .i64 d::r=>⟨a,b,c,d⟩::unR r
 | _=>[]
def isRs:List AV->Bool
 | []=>true
 | .int .i8 _::.int .i64 b::.int .i8 _::.int .i64 d::r=>inR .i64 b&&(inR .i64 d&&isRs r)
 | _=>false
theorem flat_unR:∀{w:List AV},isRs w=true->flat (unR w)=w
 | [],_=>rfl
 | .int .i8 a::.int .i64 b::.int .i8 c::.int .i64 d::r,h=>by
   simp only [isRs,Bool.and_eq_true] at h
   simp only [unR,flat,flat_unR h.2.2]
theorem isRs_in:∀{w:List AV},isRs w=true->∀i,i<(unR w).length->inL ((unR w).getD i rn0).d
 | [],_,i,hi=>absurd hi (Nat.not_lt_zero _)
 | .int .i8 a::.int .i64 b::.int .i8 c::.int .i64 d::r,h,i,hi=>by
   simp only [isRs,Bool.and_eq_true,q_inR_t,loK,hiK] at h
   cases i with
   | zero=>exact h.2.1
   | succ i=>exact isRs_in h.2.2 i (by simpa [unR] using hi)
theorem body58:bodyOf tab 58=some (fnOf 58,codeOf 58):=by kernel_rfl
theorem loops58:(loopsOf (codeOf 58)).map (·.1)=[0]:=by kernel_rfl
theorem f58 {R:List Rn} {k:Cap} (hR:∀i,i<R.length->inL (R.getD i rn0).d) (hn:R.length≤1000):FactW Tryz.prog cfg 58 [.slice 14 0 R.length k] [.cells (flat R) false none] (.int .i64 (chkS R)) []:=by
 refine fpwOK S8_ok (L:=L58 R) flat_low body58 (by simp) (lok_at loops58 fun i hi e he st Q hw=>?_) (wp_gen fun Q' hQ=>askA_wp ((b58 (flat R) R R.length k).mpr ?_)) (by simp [idsA])
 · have hi:i=0:=by simp at hi;omega
   subst hi
   cases he
   exact loopE_ok (base0.good S8_ok) (by decide) rfl (lv58 hR) hw
 · have h0:chkS R=0->Q' (.int .i64 0):=fun h=>hQ _ (by rw [h])
   simp only [q_all,reduceCtorEq,loK,hiK,ne_eq]
   (repeat' first|exact trivial|refine ⟨?_,?_⟩|intro)<;>first|contradiction|omega|assumption|(exact h0 (by assumption))|exact hQ _ rfl
def w58:WSum:=fun args ws=>match args,ws with
 | [.slice 14 0 n k],[.cells w false none]=>some (asrts [isRs w,Nat.beq (unR w).length n,Nat.ble n 1000] (.ret (.int .i64 (chkS (unR w)),[])))
 | _,_=>none
theorem add58 {S:Sums} (hS:SumsOK Tryz.prog cfg S):SumsOK Tryz.prog cfg (addG S 58 (winS 14 [4] w58)):=by
 refine sums_addG hS (win_ok good0.lv ro0 fun args ws t r he hr=>?_)
 unfold w58 at he
 split at he
 · rename_i n k w
   cases he
   obtain ⟨h1,hr'⟩:=asrts_run hr;clear hr;have hr:=hr';clear hr'
   obtain ⟨h2,hr'⟩:=asrts_run hr;clear hr;have hr:=hr';clear hr'
   obtain ⟨h3,hr'⟩:=asrts_run hr;clear hr;have hr:=hr';clear hr'
   rw [q_beq_t] at h2
   rw [q_ble_t] at h3
   subst h2
   cases hr
   have key:=f58 (R:=unR w) (k:=k) (isRs_in h1) h3
   rw [flat_unR h1] at key
   exact ⟨key,fun x hx=>by cases hx⟩
 · cases he
end Go.Ev
end
