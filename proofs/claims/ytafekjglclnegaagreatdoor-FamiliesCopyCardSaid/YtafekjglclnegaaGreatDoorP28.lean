import Derived.Test.YtafekjglclnegaaGreatDoorP27
set_option linter.all false
section
set_option maxRecDepth 100000
set_option maxHeartbeats 4000000
namespace Go.Ev
open Go Go.Proofs
def La(M D:List Int):dx:=j7 aW 0 (fL 127 Nt (Dk M D))
theorem UG(ng lg:Bool)(s:List UInt8)(e g:Int)(mo da:List UInt8)(a b c:Int)(n1 n2:Nat)(k1 k2:dv)(cy cm cd:Int)(w1 w2:List AV)(M D:List Int){Q:AV->Prop}:aO Q (pW V2 (La M D) [.cells w1 false none,.cells w2 false none] 115 [.agg [.bool ng,.bool lg,.str s,.int .i64 e,.int .i64 g,.str mo,.str da,.int .u8 a,.int .u8 b,.int .u8 c,.slice 14 0 n1 k1,.slice 15 0 n2 k2],.agg [.int .i64 cy,.int .i64 cm,.int .i64 cd],.bool true]) (b_ 1111110142244777744466)=((λ(u6:AV)(u5:Int)(u0 u1:Nat)(u2 u3 u4:Prop)=>(λ(u7 u9 ua ub:Bool)(uc:Option (Int×Int×Int))=>(λ(ud:Bool)=>(ud=true->(u7=true->(u9=true->ae .i64 cy=true/\u2/\u3/\u4/\Nat.ble n1 1000=true/\Nat.beq (List.length M) n1=true/\Nat.ble n2 1000=true/\Nat.beq (List.length D) n2=true/\List.all M (okM da)=true/\u2/\u3/\u4/\(ua=true->(ub=true->Nat.beq n1 n1=true/\Nat.beq n2 n2=true/\(CV uc=true->(∀J1:Nat->Value,∀J2:Nat->Value,Q (AV.tuple [AV.agg [AV.int .i64 (p1 uc),AV.int .i64 (p2 uc),AV.int .i64 (p3 uc)],AV.bool true])))/\(CV uc=false->(∀J1:Nat->Value,∀J2:Nat->Value,Q (AV.tuple [AV.agg [u6,u6,u6],AV.bool false]))))/\(ub=false->False))/\(ua=false->False))/\(u9=false->False))/\(u7=false->False))/\(ud=false->False)) (and (and true (and (Nat.ble (HAdd.hAdd 0 u0) (List.length w1)) u7)) (and (Nat.ble (HAdd.hAdd 0 u1) (List.length w2)) u9))) (aG 14 (aY w1 0 u0)) (aG 14 (aY w2 0 u1)) (ab (Neg.neg 10000000000000000) u5) (ab u5 10000000000000000) (dN ng s e cy cm cd mo da M D u5 (yB ng s e cy true))) (AV.int .i64 0) (yV ng s e cy true) (HMul.hMul n1 1) (HMul.hMul n2 1) (bD ng lg s e g=true) (Nat.ble (List.length s) 1000=true) (Ap s=true)):=by kernel_rfl
theorem Hl(M D:List Int):s8 Tryz.prog (dX cfg V2) (Cw cfg [.cells (dC M) false none,.cells (dC D) false none]) (La M D) (aE 115):=by
 refine eC Gu λi hi e he st Q hw=>?_
 have hi:i=0\/i=1\/i=2:=by simp at hi;omega
 rcases hi with rfl|rfl|rfl
 · cases he
   exact cR (cV.good p6) (by decide) rfl (M5 M D) hw
 · cases he
 · cases he
theorem OO{x:Option (Int×Int×Int)}(h:CV x=false):p1 x=0/\p2 x=0/\p3 x=0:=by
 cases x with
 | none=>exact⟨rfl,rfl,rfl⟩
 | some u=>cases h
theorem Po{ng lg:Bool}{s:List UInt8}{e g:Int}{mo da:List UInt8}{a b c:Int}{k1 k2:dv}{cy cm cd:Int}{M D:List Int}(h1:M.length<=1000)(h2:D.length<=1000)(hA:M.all (okM da)=true)(ho:bD ng lg s e g=true)(hs:s.length<=1000)(hx:Ap s=true)(hy : -9223372036854775808<=cy/\cy<=9223372036854775807) :
 bR Tryz.prog cfg 115 [.agg [.bool ng,.bool lg,.str s,.int .i64 e,.int .i64 g,.str mo,.str da,.int .u8 a,.int .u8 b,.int .u8 c,.slice 14 0 M.length k1,.slice 15 0 D.length k2],.agg [.int .i64 cy,.int .i64 cm,.int .i64 cd],.bool true] [.cells (dC M) false none,.cells (dC D) false none] (.tuple [.agg [.int .i64 (p1 (dN ng s e cy cm cd mo da M D (yV ng s e cy true) (yB ng s e cy true))),.int .i64 (p2 (dN ng s e cy cm cd mo da M D (yV ng s e cy true) (yB ng s e cy true))),.int .i64 (p3 (dN ng s e cy cm cd mo da M D (yV ng s e cy true) (yB ng s e cy true)))],.bool (CV (dN ng s e cy cm cd mo da M D (yV ng s e cy true) (yB ng s e cy true)))]) []:=by
 refine bX p6 (L:=La M D) (λx hx=>?_) IW (by simp) (Hl M D) (ap λQ' hQ=>al ((UG ng lg s e g mo da a b c M.length D.length k1 k2 cy cm cd (dC M) (dC D) M D).mpr ?_)) (by simp[aq,bG])
 · simp only[List.mem_cons,List.not_mem_nil,or_false]at hx
   rcases hx with rfl|rfl
   · exact iL e_
   · exact iL e_
 · have hb1:aG 14 (aY (dC M) 0 (M.length*1))=true:=by rw[zl];exact e_
   have hb2:aG 14 (aY (dC D) 0 (D.length*1))=true:=by rw[zl];exact e_
   have hc1:Nat.ble (0+M.length*1) (dC M).length=true:=by rw[kM];simp
   have hc2:Nat.ble (0+D.length*1) (dC D).length=true:=by rw[kM];simp
   have hbn:=rQ (n:=cy) (up:=true) ho
   simp only[hb1,hb2,hc1,hc2,Bool.and_true,Bool.true_and]
   have fin:∀v,v=(.tuple [.agg [.int .i64 (p1 (dN ng s e cy cm cd mo da M D (yV ng s e cy true) (yB ng s e cy true))),.int .i64 (p2 (dN ng s e cy cm cd mo da M D (yV ng s e cy true) (yB ng s e cy true))),.int .i64 (p3 (dN ng s e cy cm cd mo da M D (yV ng s e cy true) (yB ng s e cy true)))],.bool (CV (dN ng s e cy cm cd mo da M D (yV ng s e cy true) (yB ng s e cy true)))])->Q' v:=λv hv=>hQ _ hv
   generalize (dN ng s e cy cm cd mo da M D (yV ng s e cy true) (yB ng s e cy true))=r at *
   have hf:=@OO r
   cases hr:CV r with
   | true=>
     rw[hr]at fin
     simp only[aD,reduceCtorEq,bA,bB,ne_eq]
     (repeat' first|exact trivial|refine⟨?_,?_⟩|intro)<;>first|contradiction|omega|assumption|exact fin _ rfl
   | false=>
     obtain⟨e1,e2,e3⟩:=hf hr
     rw[hr,e1,e2,e3]at fin
     simp only[aD,reduceCtorEq,bA,bB,ne_eq]
     (repeat' first|exact trivial|refine⟨?_,?_⟩|intro)<;>first|contradiction|omega|assumption|exact fin _ rfl
def tS(w:List AV):List Int:=w.map bL
theorem yf{w:List AV}(h:w.all (bM .i64)=true):dC (tS w)=w:=by
 unfold dC tS
 rw[List.map_map]
 refine(List.map_congr_left λx hx=>?_).trans (List.map_id w)
 have:=List.all_eq_true.1 h x hx
 cases x with
 | int k n=>cases k<;>first|rfl|cases this
 | _=>cases this
theorem qA{w:List AV}:(tS w).length=w.length:=by unfold tS;rw[List.length_map]
def Ec(da:List UInt8)(M:List Int):Bool:=M.all (okM da)
def L8:lq:=λargs ws=>match args,ws with
 | [.agg [.bool ng,.bool lg,.str s,.int .i64 e,.int .i64 g,.str mo,.str da,.int .u8 a,.int .u8 b,.int .u8 c,.slice 14 0 n1 k1,.slice 15 0 n2 k2],.agg [.int .i64 cy,.int .i64 cm,.int .i64 cd],.bool true],[.cells w1 false none,.cells w2 false none]=>
   some (aN [w1.all (bM .i64),w2.all (bM .i64),Nat.beq w1.length n1,Nat.beq w2.length n2,Nat.ble n1 1000,Nat.ble n2 1000,Ec da (tS w1),ae .i64 cy,bD ng lg s e g,Nat.ble s.length 1000,Ap s] (.ret ((.tuple [.agg [.int .i64 (p1 (dN ng s e cy cm cd mo da (tS w1) (tS w2) (yV ng s e cy true) (yB ng s e cy true))),.int .i64 (p2 (dN ng s e cy cm cd mo da (tS w1) (tS w2) (yV ng s e cy true) (yB ng s e cy true))),.int .i64 (p3 (dN ng s e cy cm cd mo da (tS w1) (tS w2) (yV ng s e cy true) (yB ng s e cy true)))],.bool (CV (dN ng s e cy cm cd mo da (tS w1) (tS w2) (yV ng s e cy true) (yB ng s e cy true)))]),[])))
 | _,_=>none
theorem KE{S:bq}(hS:az Tryz.prog cfg S):az Tryz.prog cfg (gu S 115 (gD 14 [1,1] L8)):=by
 refine bK hS (gy d4.lv zG λargs ws t r he hr=>?_)
 unfold L8 at he
 split at he
 · rename_i ng lg s e g mo da a b c n1 k1 n2 k2 cy cm cd w1 w2
   cases he
   replace hr:=aI hr;obtain⟨⟨h1,h2,h3,h4,h5,h6,h7,h8,h9,h10,h11,-⟩,hr⟩:=hr
   rw[bW]at h3 h4
   rw[aB]at h5 h6 h10
   rw[xS]at h8
   subst h3 h4
   cases hr
   have key:=Po (g:=g) (mo:=mo) (da:=da) (a:=a) (b:=b) (c:=c) (k1:=k1) (k2:=k2) (cy:=cy) (cm:=cm) (cd:=cd) (M:=tS w1) (D:=tS w2) (by rw[qA];exact h5) (by rw[qA];exact h6) h7 h9 h10 h11 h8
   rw[yf h1,yf h2,qA,qA]at key
   exact⟨key,λx hx=>by cases hx⟩
 · cases he
end Go.Ev
end
section
set_option maxRecDepth 100000
namespace Go.Ev
open Go Go.Proofs
def G6(ng:Bool)(s:List UInt8)(e k:Int):Prop:=bif Nat.beq (bz s 88 88) 0 then k=eW ng s e else match s with|[c0,c1,c2,c3]=>(bif ng then 1<=-k/\ta c0 c1 c2 c3 (-k)else ta c0 c1 c2 c3 k)|_=>False
def Fd(M D:List Int)(k:Int):Prop:=∃m,m∈M/\∃d,d∈D/\d<=sV k m
theorem NN{ng:Bool}{s:List UInt8}{e n:Int}:yB ng s e n true=true->G6 ng s e (yV ng s e n true)/\n<=yV ng s e n true/\∀k,G6 ng s e k->n<=k->yV ng s e n true<=k:=by
 intro h
 unfold yB at h
 unfold yV G6
 cases hx:Nat.beq (bz s 88 88) 0 with
 | true=>
   rw[hx]at h
   simp only[cond_true]at h ⊢
   rw[aK]at h
   exact⟨trivial,h,λk hk _=>by omega⟩
 | false=>
   rw[hx,cond_false]at h
   simp only[cond_false]
   split at h
   · rename_i c0 c1 c2 c3
     simp only
     unfold IJ at h
     unfold IM
     cases ng with
     | true=>
       simp only[cond_true,Bool.and_eq_true,aK]at h ⊢
       obtain⟨h1,h2⟩:=h
       cases hp:cZ c0 c1 c2 c3 (At n)with
       | none=>rw[hp]at h1;cases h1
       | some u=>
         rw[hp]at h2
         simp only[dp,Option.getD_some]at h2 ⊢
         obtain⟨p1,p2,p3⟩:=e9.1 hp
         unfold At at p2 p3
         rw[kH]at p2 p3
         refine⟨⟨by omega,by rw[show -(0-u)=u by omega];exact p1⟩,by omega,λk hk hn=>?_⟩
         have:=p3 (-k) hk.2 (by have:=hk.2.2.1;omega)
         omega
     | false=>
       simp only[cond_true,cond_false]at h ⊢
       cases hp:c_ c0 c1 c2 c3 (jc n 0)with
       | none=>rw[hp]at h;cases h
       | some u=>
         simp only[dp,Option.getD_some]
         obtain⟨p1,p2,p3⟩:=fY.1 hp
         rw[kH]at p2 p3
         exact⟨p1,by omega,λk hk hn=>p3 k hk (by have:=hk.1;omega)⟩
   · cases h
theorem SZ{ng:Bool}{s:List UInt8}{e n:Int}(hs:Ap s=true)(h:yB ng s e n true=false){k:Int}(hk:G6 ng s e k):k<n:=by
 unfold yB at h
 unfold G6 at hk
 cases hx:Nat.beq (bz s 88 88) 0 with
 | true=>
   rw[hx]at h hk
   simp only[cond_true]at h hk
   rw[dc]at h
   omega
 | false=>
   rw[hx]at h hk
   simp only[cond_false]at h hk
   obtain⟨c0,c1,c2,c3,rfl,_⟩:=JG hs hx
   simp only at h hk
   unfold IJ at h
   cases ng with
   | true=>
     simp only[cond_true]at h hk
     cases hp:cZ c0 c1 c2 c3 (At n)with
     | none=>
       have:=m9.1 hp _ hk.2
       have hb:=hk.2.2.1
       unfold At at this
       rw[kH]at this
       omega
     | some u=>
       rw[hp]at h
       simp only[gH,dp,Option.isSome_some,Option.getD_some,Bool.true_and]at h
       rw[dc]at h
       obtain⟨p1,p2,p3⟩:=e9.1 hp
       unfold At at p3
       rw[kH]at p3
       by_cases hn:n<=k
       · have:=p3 (-k) hk.2 (by have:=hk.2.2.1;omega)
         omega
       · omega
   | false=>
     simp only[cond_true,cond_false]at h hk
     cases hp:c_ c0 c1 c2 c3 (jc n 0)with
     | none=>
       have:=nq.1 hp _ hk
       have:=hk.1
       rw[kH]at *
       omega
     | some u=>rw[hp]at h;cases h
theorem yT{p:Int->Bool}{l:List Int}:gH (l.find? p)=true↔∃x,x∈l/\p x=true:=by
 unfold gH
 rw[List.find?_isSome]
theorem qO{y cy cm cd:Int}{mo da:List UInt8}{M D:List Int}(hy:y≠cy)(hd:af da []=false):gH (fF y cy cm cd mo da M D)=true↔Fd M D y:=by
 have he:aa y cy=false:=aF.mpr hy
 unfold fF
 rw[yT]
 unfold Fd q7 sA XU
 simp only[he,Bool.false_and,cond_false]
 refine exists_congr λm=>and_congr_right λ_=>?_
 unfold gS
 rw[yT]
 refine exists_congr λd=>and_congr_right λ_=>?_
 unfold n9 OI
 rw[hd]
 simp only[Bool.false_and,Bool.not_false,Bool.and_true,cond_false,aK]
theorem yD{ng lg:Bool}{s:List UInt8}{e g cy cm cd:Int}{mo da:List UInt8}{M D:List Int}(ho:bD ng lg s e g=true)(hx:Ap s=true)(hd:af da []=false)(hc:cy < -10000000000000000):∀(t:Nat) (n:Int),JQ (yV ng s e n true) (yB ng s e n true)<=t->
 (CV (dN ng s e cy cm cd mo da M D (yV ng s e n true) (yB ng s e n true))=true↔∃k,G6 ng s e k/\n<=k/\Fd M D k)
 | t,n,ht=>by
   cases hb:yB ng s e n true with
   | false=>
     rw[qU]
     refine⟨λh=>(by cases h),λh=>?_⟩
     obtain⟨k,h1,h2,_⟩:=h
     have:=SZ hx hb h1
     omega
   | true=>
     obtain⟨p1,p2,p3⟩:=NN hb
     have bd:=rQ (n:=n) (up:=true) ho
     have hne:yV ng s e n true≠cy:=by omega
     cases hf:fF (yV ng s e n true) cy cm cd mo da M D with
     | some m=>
       rw[s5 hf]
       refine⟨λ_=>⟨_,p1,p2,?_⟩,λ_=>rfl⟩
       rw[<-qO hne hd,hf]
       rfl
     | none=>
       rw[sI ho bd.2 hf]
       have hm:=nX (ng:=ng) (s:=s) (e:=e) bd.2
       rw[hb]at ht
       match t,ht with
       | 0,ht=>omega
       | t+1,ht=>
         rw[yD ho hx hd hc t _ (by omega)]
         refine exists_congr λk=>⟨λ⟨a,b,c⟩=>⟨a,by omega,c⟩,λ⟨a,b,c⟩=>⟨a,?_,c⟩⟩
         have:=p3 k a b
         by_cases he:k=yV ng s e n true
         · subst he
           rw[<-qO hne hd,hf]at c
           cases c
         · omega
theorem rv{c0 c1:UInt8}{x:Int}:∀{g:Nat},x∈cJ c0 c1 g↔(1<=x/\x<=g)/\agr [c0,c1] x=true
 | 0=>by simp only[cJ,List.not_mem_nil,false_iff];omega
 | g+1=>by
   rw[py,List.mem_append,rv (g:=g)]
   constructor
   · rintro(⟨h1,h2⟩|h)
     · exact⟨by omega,h2⟩
     · cases ha:agr [c0,c1] ((g:Int)+1)with
       | true=>
         rw[ha]at h
         simp only[cond_true,List.mem_singleton]at h
         subst h
         exact⟨by omega,ha⟩
       | false=>rw[ha]at h;cases h
   · rintro⟨h1,h2⟩
     by_cases he:x=(g:Int)+1
     · subst he
       right
       rw[h2]
       simp
     · exact .inl ⟨by omega,h2⟩
end Go.Ev
end
section
set_option maxRecDepth 100000
set_option maxHeartbeats 4000000
namespace Go.Ev
open Go Go.Proofs
noncomputable def V3:bq:=gu V2 115 (gD 14 [1,1] L8)
theorem DH:az Tryz.prog cfg V3:=KE p6
def JI(s:List UInt8)(g:Nat):List Int:=match s with|[c0,c1]=>cJ c0 c1 g|_=>[]
def TJ(ng:Bool)(s:List UInt8)(e:Int)(mo da:List UInt8):Bool:=CV (dN ng s e (-9223372036854775808) 0 0 mo da (JI mo 12) (JI da 31) (yV ng s e (-9223372036854775808) true) (yB ng s e (-9223372036854775808) true))
def cL(ng lg:Bool)(s:List UInt8)(e g:Int)(mo da:List UInt8)(a b c:Int):Int:=
 bif aa (jM ng lg s e g mo da a b c) 0 then(bif af da []then 0 else bif TJ ng s e mo da then 0 else 8)else jM ng lg s e g mo da a b c
def U0:dM:=λargs=>match args with
 | [.agg [.bool ng,.bool lg,.str s,.int .i64 e,.int .i64 g,.str mo,.str da,.int .u8 a,.int .u8 b,.int .u8 c]]=>some (aN [Nat.ble s.length 1000,Nat.ble mo.length 1000,Nat.ble da.length 1000,ae .i64 e,ae .i64 g,ae .u8 a,ae .u8 b,ae .u8 c] (.ret (.int .i64 (cL ng lg s e g mo da a b c))))
 | _=>none
theorem T0(ng lg:Bool)(s:List UInt8)(e g:Int)(mo da:List UInt8)(a b c:Int){Q:AV->Prop}:aO Q (pT V3 aW 59 [.agg [.bool ng,.bool lg,.str s,.int .i64 e,.int .i64 g,.str mo,.str da,.int .u8 a,.int .u8 b,.int .u8 c]]) (b_ 1777006)=((λ(u0:Int)=>Nat.ble (List.length s) 1000=true/\Nat.ble (List.length mo) 1000=true/\Nat.ble (List.length da) 1000=true/\ae .i64 e=true/\ae .i64 g=true/\ae .u8 a=true/\ae .u8 b=true/\ae .u8 c=true/\not (aa u0 0)=true/\Q (AV.int .i64 u0)) (jM ng lg s e g mo da a b c)):=by kernel_rfl
theorem UL(ng lg:Bool)(s:List UInt8)(e g:Int)(mo da:List UInt8)(a b c:Int){Q:AV->Prop}:aO Q (pT V3 aW 59 [.agg [.bool ng,.bool lg,.str s,.int .i64 e,.int .i64 g,.str mo,.str da,.int .u8 a,.int .u8 b,.int .u8 c]]) (b_ 12032277006)=(Nat.ble (List.length s) 1000=true/\Nat.ble (List.length mo) 1000=true/\Nat.ble (List.length da) 1000=true/\ae .i64 e=true/\ae .i64 g=true/\ae .u8 a=true/\ae .u8 b=true/\ae .u8 c=true/\not (aa (jM ng lg s e g mo da a b c) 0)=false/\af da []=true/\Q (AV.int .i64 0)):=by kernel_rfl
theorem WX(ng lg:Bool)(s:List UInt8)(e g:Int)(m0 m1 d0 d1:UInt8)(a b c:Int){Q:AV->Prop}:aO Q (pT V3 aW 59 [.agg [.bool ng,.bool lg,.str s,.int .i64 e,.int .i64 g,.str [m0,m1],.str [d0,d1],.int .u8 a,.int .u8 b,.int .u8 c]]) (b_ 11111111114070444444440563002205300225322700200056663227002006)=((λ(u6 u7:List Int)(u0 u1 u2 u3 u4 u5:Prop)=>(λ(u9 ua:Nat)=>(λ(ud ue:Bool)(ub uc:Nat)=>(λ(uf ug:List AV)=>(λ(uh ui uj uk ul:Bool)=>u0/\u1/\u2/\u3/\u4/\u5/\not (aa (jM ng lg s e g [m0,m1] [d0,d1] a b c) 0)=false/\u0/\u1/\u2/\u3/\u4/\u5/\not (aa (cg [m0,m1]) 0)=false/\ek m0=true/\ek m1=true/\tG u6=false/\ek d0=true/\ek d1=true/\tG u7=false/\(uh=true->(List.all uf (bM .i64)=true->(List.all ug (bM .i64)=true->(ui=true->(uj=true->(ud=true->(ue=true->(uk=true->bD ng lg s e g=true/\u0/\Ap s=true/\(ul=true->Q (AV.int .i64 8))/\(ul=false->Q (AV.int .i64 0)))/\(uk=false->False))/\(ue=false->False))/\(ud=false->False))/\(uj=false->False))/\(ui=false->False))/\(List.all ug (bM .i64)=false->False))/\(List.all uf (bM .i64)=false->False))/\(uh=false->False)) (and (and true (and (Nat.ble (HAdd.hAdd 0 ub) (List.length (dC u6))) (aG 14 uf))) (and (Nat.ble (HAdd.hAdd 0 uc) (List.length (dC u7))) (aG 14 ug))) (Nat.beq (List.length uf) u9) (Nat.beq (List.length ug) ua) (Ec [d0,d1] (tS uf)) (not (CV (dN ng s e (Neg.neg 9223372036854775808) 0 0 [m0,m1] [d0,d1] (tS uf) (tS ug) (yV ng s e (Neg.neg 9223372036854775808) true) (yB ng s e (Neg.neg 9223372036854775808) true))))) (aY (dC u6) 0 ub) (aY (dC u7) 0 uc)) (Nat.ble u9 1000) (Nat.ble ua 1000) (HMul.hMul u9 1) (HMul.hMul ua 1)) (yK u6) (yK u7)) (cJ m0 m1 12) (cJ d0 d1 31) (Nat.ble (List.length s) 1000=true) (ae .i64 e=true) (ae .i64 g=true) (ae .u8 a=true) (ae .u8 b=true) (ae .u8 c=true)):=by kernel_rfl
theorem BS{c:UInt8}{d:Int}(h:c.toNat=88\/(c.toNat:Int)=48+d)(h0:0<=d)(h1:d<=9):ek c=true:=by
 rw[dW];omega
theorem xX{s:List UInt8}{g:Nat}(hg:g<=99)(h:dD s g=true):∃c0 c1,s=[c0,c1]/\ek c0=true/\ek c1=true/\cJ c0 c1 g≠[]:=by
 unfold dD at h
 obtain⟨k,hk,ha⟩:=List.any_eq_true.1 h
 rw[List.mem_range]at hk
 match s,ha with
 | [c0,c1],ha=>
   have hi:=AZ.1 ha
   refine⟨c0,c1,rfl,BS hi.1 (by omega) (by omega),BS hi.2 (by omega) (by omega),λhn=>?_⟩
   have:((k:Int)+1)∈cJ c0 c1 g:=rv.2 ⟨by omega,ha⟩
   rw[hn]at this
   cases this
 | [],ha=>simp[agr]at ha
 | [_],ha=>simp[agr]at ha
 | _::_::_::_,ha=>simp[agr]at ha
theorem GM{ng lg:Bool}{s:List UInt8}{e g:Int}(h:bD ng lg s e g=true):Ap s=true:=by
 unfold bD at h
 rw[decide_eq_true_eq]at h
 unfold Ap
 by_cases hx:bz s 88 88=0
 · rw[dI hx];rfl
 · rw[iH hx,Bool.false_or]
   have h4:s.length=4:=by omega
   have hm:=(Pp s).2 h.1
   match s,h4,hm with
   | [c0,c1,c2,c3],_,hm=>
     simp only[Go.Proofs.YtafekjglclnegaaGreatDoor.mskB,List.all_cons,List.all_nil,Bool.and_true,Bool.and_eq_true,decide_eq_true_eq,Go.Proofs.YtafekjglclnegaaGreatDoor.mb]at hm
     simp only[Bool.and_eq_true,dW]
     exact⟨of_decide_eq_true hm.1,of_decide_eq_true hm.2.1,of_decide_eq_true hm.2.2.1,of_decide_eq_true hm.2.2.2⟩
theorem DC{ng lg:Bool}{s:List UInt8}{e g:Int}{mo da:List UInt8}{a b c:Int}(h:jM ng lg s e g mo da a b c=0)(hc:0<=errMk a b c (cO mo da)):bD ng lg s e g=true/\Ap s=true/\¬(0<g/\af mo []=false)/\(af mo []=false/\cg mo=0->dD mo 12=true)/\(af da []=false->af mo []=false/\cg mo=0/\dD da 31=true):=by
 have hn:=yh mo
 unfold jM at h
 by_cases h1:ic ng lg s e g mo=false
 · rw[if_pos h1]at h;omega
 · rw[if_neg h1]at h
   by_cases h2:af mo []=false/\cg mo=0/\dD mo 12=false
   · rw[if_pos h2]at h;omega
   · rw[if_neg h2]at h
     by_cases h3:af da []=false/\(af mo []=true\/0<cg mo\/dD da 31=false)
     · rw[if_pos h3]at h;omega
     · rw[Bool.not_eq_false]at h1
       unfold ic at h1
       rw[decide_eq_true_eq]at h1
       refine⟨h1.1,GM h1.1,h1.2.1,λ⟨k1,k2⟩=>?_,λhd=>⟨?_,?_,?_⟩⟩
       · rw[<-Bool.not_eq_false];exact λk3=>h2 ⟨k1,k2,k3⟩
       · rw[<-Bool.not_eq_true];exact λk=>h3 ⟨hd,.inl k⟩
       · have:¬0<cg mo:=λk=>h3 ⟨hd,.inr (.inl k)⟩
         omega
       · rw[<-Bool.not_eq_false];exact λk=>h3 ⟨hd,.inr (.inr k)⟩
theorem EW{a b c n:Int}:0<=errMk a b c n:=by unfold errMk;(repeat' split)<;>omega
theorem CS{ng lg:Bool}{s:List UInt8}{e g:Int}{mo da:List UInt8}{a b c:Int}(h:jM ng lg s e g mo da a b c=0)(hd:af da []=false) :
 ∃m0 m1 d0 d1,mo=[m0,m1]/\da=[d0,d1]/\ek m0=true/\ek m1=true/\ek d0=true/\ek d1=true/\cJ m0 m1 12≠[]/\cJ d0 d1 31≠[]/\cg mo=0/\bD ng lg s e g=true/\Ap s=true/\g=0:=by
 obtain⟨h1,h2,h3,h4,h5⟩:=DC h EW
 obtain⟨k1,k2,k3⟩:=h5 hd
 obtain⟨m0,m1,rfl,a1,a2,a3⟩:=xX (by decide) (h4 ⟨k1,k2⟩)
 obtain⟨d0,d1,rfl,b1,b2,b3⟩:=xX (by decide) k3
 have hg:0<=g:=by
  have:=h1
  unfold bD at this
  rw[decide_eq_true_eq]at this
  exact this.2.1
 refine⟨m0,m1,d0,d1,rfl,rfl,a1,a2,b1,b2,a3,b3,k2,h1,h2,?_⟩
 have:¬0<g:=λk=>h3 ⟨k,k1⟩
 omega
theorem zy:aH tab 59=some (bC 59,aE 59):=by kernel_rfl
theorem GT{M:List Int}:tS (dC M)=M:=by
 unfold tS dC
 rw[List.map_map]
 exact List.map_id' M
theorem FA{M:List Int}:(dC M).all (bM .i64)=true:=by
 unfold dC
 rw[List.all_map]
 exact List.all_eq_true.2 λx _=>rfl
theorem Ce{da:List UInt8}{c0 c1:UInt8}:Ec da (cJ c0 c1 12)=true:=by
 unfold Ec
 rw[List.all_eq_true]
 intro x hx
 have:=rv.1 hx
 unfold okM
 rw[Bool.or_eq_true,Bool.and_eq_true,aK,aK]
 right;omega
theorem Ya{ng lg:Bool}{s:List UInt8}{e g:Int}{mo da:List UInt8}{a b c:Int}(hs:s.length<=1000)(hmo:mo.length<=1000)(hda:da.length<=1000)(he : -9223372036854775808<=e/\e<=9223372036854775807)(hg : -9223372036854775808<=g/\g<=9223372036854775807)(ha:0<=a/\a<=255)(hb:0<=b/\b<=255)(hc:0<=c/\c<=255) :
 bR Tryz.prog cfg 59 [.agg [.bool ng,.bool lg,.str s,.int .i64 e,.int .i64 g,.str mo,.str da,.int .u8 a,.int .u8 b,.int .u8 c]] [] (.int .i64 (cL ng lg s e g mo da a b c)) []:=by
 unfold cL
 cases hE:aa (jM ng lg s e g mo da a b c) 0 with
 | false=>
   refine cp DH (L:=aW) zy (by simp) ak (ap λQ' hQ=>al ((T0 ng lg s e g mo da a b c).mpr ?_)) (by simp[aq])
   dsimp only
   rw[cond_false]at hQ
   have hQ:=hQ _ rfl
   rw[aF]at hE
   generalize jM ng lg s e g mo da a b c=r at *
   simp only[aD,reduceCtorEq,bA,bB,ne_eq]
   (repeat' first|exact trivial|refine⟨?_,?_⟩|intro)<;>first|contradiction|omega|assumption
 | true=>
   rw[cond_true]
   cases hd:af da []with
   | true=>
     refine cp DH (L:=aW) zy (by simp) ak (ap λQ' hQ=>al ((UL ng lg s e g mo da a b c).mpr ?_)) (by simp[aq])
     rw[cond_true]at hQ
     have hQ:=hQ _ rfl
     rw[aS]at hE
     generalize jM ng lg s e g mo da a b c=r at *
     simp only[aD,reduceCtorEq,bA,bB,ne_eq]
     (repeat' first|exact trivial|refine⟨?_,?_⟩|intro)<;>first|contradiction|omega|assumption
   | false=>
     have hE':=aS.mp hE
     obtain⟨m0,m1,d0,d1,rfl,rfl,h0,h1,h2,h3,k1,k2,hse,ho,hx,hg0⟩:=CS hE' hd
     have n1:tG (cJ m0 m1 12)=false:=by unfold tG;cases h:cJ m0 m1 12 with|nil=>exact absurd h k1|cons x xs=>rfl
     have n2:tG (cJ d0 d1 31)=false:=by unfold tG;cases h:cJ d0 d1 31 with|nil=>exact absurd h k2|cons x xs=>rfl
     refine cp DH (L:=aW) zy (by simp) ak (ap λQ' hQ=>al ((WX ng lg s e g m0 m1 d0 d1 a b c).mpr ?_)) (by simp[aq])
     rw[cond_false]at hQ
     have w1:aY (dC (cJ m0 m1 12)) 0 (yK (cJ m0 m1 12)*1)=dC (cJ m0 m1 12):=zl
     have w2:aY (dC (cJ d0 d1 31)) 0 (yK (cJ d0 d1 31)*1)=dC (cJ d0 d1 31):=zl
     have l1:yK (cJ m0 m1 12)=(cJ m0 m1 12).length:=rfl
     have l2:yK (cJ d0 d1 31)=(cJ d0 d1 31).length:=rfl
     have z1:=ou m0 m1 12
     have z2:=ou d0 d1 31
     have hF:TJ ng s e [m0,m1] [d0,d1]=CV (dN ng s e (-9223372036854775808) 0 0 [m0,m1] [d0,d1] (cJ m0 m1 12) (cJ d0 d1 31) (yV ng s e (-9223372036854775808) true) (yB ng s e (-9223372036854775808) true)):=rfl
     rw[hF]at hQ
     have aM:Ec [d0,d1] (cJ m0 m1 12)=true:=Ce
     have aX:∀M:List Int,Nat.ble (0+M.length*1) M.length=true:=λM=>by simp
     simp only[l1,l2,@zl,GT,FA,kM,e_,aM,aX,Bool.and_true,Bool.true_and]
     generalize CV (dN ng s e (-9223372036854775808) 0 0 [m0,m1] [d0,d1] (cJ m0 m1 12) (cJ d0 d1 31) (yV ng s e (-9223372036854775808) true) (yB ng s e (-9223372036854775808) true))=r at *
     rw[aS]at hE
     clear hF aM w1 w2 hE'
     generalize jM ng lg s e g [m0,m1] [d0,d1] a b c=er at *
     generalize cg [m0,m1]=se at *
     generalize cJ m0 m1 12=M at *
     generalize cJ d0 d1 31=D at *
     have h8:r=false->Q' (.int .i64 8):=λh=>hQ _ (by rw[h];rfl)
     have h9:r=true->Q' (.int .i64 0):=λh=>hQ _ (by rw[h];rfl)
     clear hQ
     simp only[aD,reduceCtorEq,bA,bB,ne_eq]
     (repeat' first|exact trivial|refine⟨?_,?_⟩|intro)<;>first|contradiction|omega|assumption|(exact h8 (by assumption))|(exact h9 (by assumption))
theorem OH{S:bq}(hS:az Tryz.prog cfg S):az Tryz.prog cfg (bw S 59 U0):=aA hS λargs t v he hv=>by
 unfold U0 at he
 split at he
 · cases he
   obtain⟨⟨h1,h2,h3,h4,h5,h6,h7,h8,-⟩,hv⟩:=aI hv
   rw[aB]at h1 h2 h3
   rw[aQ]at h4 h5 h6 h7 h8
   simp only[bA,bB]at h4 h5 h6 h7 h8
   cases hv
   exact Ya h1 h2 h3 h4 h5 h6 h7 h8
 · cases he
end Go.Ev
end
section
set_option maxRecDepth 100000
namespace Go.Ev
open Go Go.Proofs
theorem ji{a b c d:Int}:bH a b c d=0↔(a=0\/a = -1/\b=0)/\(c=0\/c=1/\d=0)/\(a<c\/a=c/\b<=d):=by
 have h1:=sG a b c d
 have h2:=@AQ a b
 have h3:=@AQ c d
 unfold bH
 constructor
 · intro h
   by_cases hc:cu a b=0/\cu c d=0
   · rw[if_pos hc]at h
     have e1:=h2.1 hc.1
     have e2:=h3.1 hc.2
     by_cases h4:0<a\/c<0
     · rw[if_pos h4]at h;omega
     · rw[if_neg h4]at h
       by_cases h5:0<eH a b c d
       · rw[if_pos h5]at h;omega
       · omega
   · rw[if_neg hc]at h;omega
 · intro h
   have e1:cu a b=0:=h2.2 (by omega)
   have e2:cu c d=0:=h3.2 (by omega)
   rw[if_pos ⟨e1,e2⟩,if_neg (by omega),if_neg (by omega)]
end Go.Ev
end
section
set_option maxRecDepth 100000
set_option maxHeartbeats 4000000
namespace Go.Ev
open Go Go.Proofs
def S8:bq:=j1 S7 118 NQ
theorem Ei:az Tryz.prog cfg S8:=dr n6 Iz
structure Rn where
 a:Int
 b:Int
 c:Int
 d:Int
def fG:Rn:=⟨0,0,0,0⟩
def aJ:List Rn->List AV
 | []=>[]
 | r::rs=>.int .i8 r.a::.int .i64 r.b::.int .i8 r.c::.int .i64 r.d::aJ rs
def pi(f:Nat->Int):Nat->Nat->Int
 | _,0=>0
 | i,n+1=>if f i=0 then pi f (i+1) n else f i
def Gx(q r:Rn)(i:Nat):Int:=if bH r.a r.b r.c r.d=0 then(if 0<i/\(0<BV q.a q.b q.c q.d r.a r.b r.c r.d\/pz q.a q.b q.c q.d r.a r.b r.c r.d=true)then 12 else 0)else bH r.a r.b r.c r.d
def mB(R:List Rn)(i:Nat):Int:=Gx (R.getD (i-1) fG) (R.getD i fG) i
def eY(R:List Rn):Int:=pi (mB R) 0 R.length
def V4(R:List Rn):fp:=λvs o=>match vs,o with
 | [.slice 14 0 n k,.int .i64 z,.slice 14 0 n' k',.int .i64 n'',.int .i64 i],⟨0,[],[]⟩=>some (aN [Nat.ble n 1000,Nat.beq R.length n,Nat.beq n' n,aa n'' (Int.ofNat n),aa i 0,aa z 0] (.test (aa (eY R) 0) λb=>bif b then .ret (.exit 0,[.slice 14 0 n k,.int .i64 0,.slice 14 0 n' k',.int .i64 n'',.int .i64 n''],b7)else .all λJ=>.ret (.ret,[.slice 14 0 n k,.int .i64 (eY R),.slice 14 0 n' k',.int .i64 n'',.any (J 0)],b7)))
 | _,_=>none
def Yd(R:List Rn):dx:=j7 aW 0 (fL 43 [0,2,9,10,11] (V4 R))
theorem YJ(w:List AV)(n:Nat)(k k':dv)(i:Nat)(J:Nat->Value){Q:VQ->Prop}:aO Q (rT S8 aW [.cells w false none] 58 0 43 [0,2,9,10,11] [.slice 14 0 n k,.int .i64 0,.slice 14 0 n k',.int .i64 (Int.ofNat n),.int .i64 (Int.ofNat i)] J b7) (b_ 1111112033000533881111107881112142324425777747524444277414054444204)=((λ(u2 u3 u4 u5:AV)(u0:Int)(u1:Nat)=>(λ(u7 u9:AV)(u6 ua:Bool)(ub:Int)(u8:Nat)=>(λ(uc:AV)(ue:Int)(ud uj:Nat)(uf ug uh ui uk:Prop)=>(λ(ul um uo:AV)(un:Int)(up:Nat)=>(λ(ut:AV)(uq ur:Int)(uu:Nat)(us:Prop)=>(λ(ux uy:AV)(uv:Int)(uw uz uA:Prop)=>(λ(uB:Bool)(uE:Int)(uC uD:Prop)=>(λ(uF uG:Bool)=>(λ(uH uI:Prop)=>(u6=true->bm i n=true/\(bM .i8 u7=true->(bM .i64 uc=true->(bM .i8 ul=true->(bM .i64 um=true->(uB=true->Q (AX.ret,([u3,AV.int .i64 uv,u4,u5,u9],{ n:=1,os:=[aw.cells [AV.int .i8 ue,AV.int .i64 un,AV.int .i8 uq,AV.int .i64 ur] true Option.none],le:=[] })))/\(uB=false->(uf->uf/\uf/\ug/\uf/\uh/\ui/\uf/\(us->(uw->(uC->(uD->uf/\uf/\uf/\uf/\(uH->uH/\uH/\ug/\uH/\uh/\ui/\uH/\us/\uw/\uC/\uD/\uH/\uH/\(ae .i64 uE=true->(ae .i64 ur=true->uf/\uF=false/\uf/\(uG=true->uz)/\(uG=false->uA))/\(ae .i64 ur=false->False))/\(ae .i64 uE=false->False))/\(uI->uI/\uI/\uI/\uI/\uI/\uI/\uf/\uF=true/\uf/\uz))/\(bM .i64 uy=false->False))/\(bM .i8 ux=false->False))/\(bM .i64 ut=false->False))/\(bM .i8 uo=false->False))/\(uk->uk/\uk/\uk/\uk/\uk/\uk/\uk/\uk/\uk/\uk/\uA)))/\(bM .i64 um=false->False))/\(bM .i8 ul=false->False))/\(bM .i64 uc=false->False))/\(bM .i8 u7=false->False))/\(u6=false->Q (AX.exit 0,([u3,AV.int .i64 0,u4,u5,u9],{ n:=0,os:=[],le:=[] })))) (not uF=true) (not uF=false)) (not (ab (BV (bL uo) (bL ut) (bL ux) uE ue un uq ur) 0)) (pz (bL uo) (bL ut) (bL ux) uE ue un uq ur)) (not (aa uv 0)) (bL uy) (bM .i8 ux=true) (bM .i64 uy=true)) (List.getD w uu u2) (List.getD w (HAdd.hAdd uu 1) u2) (bH ue un uq ur) (bM .i64 ut=true) (Q (AX.ret,([u3,AV.int .i64 12,u4,u5,u9],{ n:=1,os:=[aw.cells [AV.int .i8 ue,AV.int .i64 un,AV.int .i8 uq,AV.int .i64 ur] true Option.none],le:=[] }))) (ae .i64 (Int.add u0 1)=true/\Q (AX.normal,([u3,AV.int .i64 0,u4,u5,AV.int .i64 (Int.add u0 1)],{ n:=1,os:=[aw.cells [AV.int .i8 ue,AV.int .i64 un,AV.int .i8 uq,AV.int .i64 ur] true Option.none],le:=[] })))) (List.getD w up u2) (bL ul) (bL um) (HAdd.hAdd up 1) (bM .i8 uo=true)) (List.getD w ud u2) (List.getD w (HAdd.hAdd ud 1) u2) (List.getD w uj u2) (bL uc) (HAdd.hAdd uj 1)) (List.getD w u8 u2) (bL u7) (HAdd.hAdd u8 1) (HAdd.hAdd 0 (HMul.hMul (Int.toNat ub) 4)) (ua=true) (ae .i64 ub=true) (ab 0 ub=true) (bm (Int.toNat ub) n=true) (ua=false)) (List.getD w u1 u2) (AV.int .i64 u0) (not (ab (Int.ofNat n) u0)) (not (ab u0 0)) (Int.sub u0 1) (HAdd.hAdd u1 1)) (AV.tuple []) (AV.slice 14 0 n k) (AV.slice 14 0 n k') (AV.int .i64 (Int.ofNat n)) (Int.ofNat i) (HAdd.hAdd 0 (HMul.hMul i 4))):=by kernel_rfl
theorem Yp(w:List AV)(R:List Rn)(n:Nat)(k:dv){Q:AV->Prop}:aO Q (pW S8 (Yd R) [.cells w false none] 58 [.slice 14 0 n k]) (b_ 11140022423)=((λ(u1 u2:Bool)(u0:Int)=>not (ab u0 4096)=false/\Nat.ble n 1000=true/\(u1=true->Nat.beq n n=true/\aa u0 u0=true/\(u2=true->(∀J1:Nat->Value,Q (AV.int .i64 0)))/\(u2=false->(∀J1:Nat->Value,∀J2:Nat->Value,Q (AV.int .i64 (eY R)))))/\(u1=false->False)) (Nat.beq (List.length R) n) (aa (eY R) 0) (Int.ofNat n)):=by kernel_rfl
theorem VW.trans{C:bg}{kb tn:Nat}{rel:List Nat}{vs vs' vs'':List AV}{o o' o'':aC}(h1:VW cfg C kb tn rel vs o vs' o')(h2:VW cfg C kb tn rel vs' o' vs'' o''):VW cfg C kb tn rel vs o vs'' o'':=λJ=>(h1 J).trans λs ⟨J',e⟩=>by rw[e];exact h2 J'
theorem Ay{ws:List aw}{tn:Nat}{rel:List Nat}{vs vs':List AV}{o:aC}(hw:∀x∈ws,eG 14 x)(hle:o.le=[])(hvs:s_ (jB (14+ws.length+0) [] 20) vs=some vs'):VW cfg (Cw cfg ws) 0 tn rel vs o vs' b7:=
 VW.move d4.lv (C:=Cw cfg ws) (kb:=0) (sel:=[]) (xm hw) (Nat.zero_le _) (λs hs=>by cases hs) List.nodup_nil (λp hp=>by rw[hle]at hp;cases hp) hle.symm rfl rfl (λi hi=>absurd hi (Nat.not_lt_zero i)) (λt ht=>absurd ht (Nat.not_lt_zero t)) hvs
theorem vN{f:Nat->Int}:∀{n i k:Nat},(∀j,i<=j->j<k->f j=0)->i<=k->k<i+n->f k≠0->pi f i n=f k
 | 0,i,k,_,h1,h2,_=>by omega
 | n+1,i,k,h,h1,h2,h3=>by
   rw[pi]
   by_cases e:i=k
   · subst e;rw[if_neg h3]
   · rw[if_pos (h i (Nat.le_refl _) (by omega))]
     exact vN (λj hj hk=>h j (by omega) hk) (by omega) (by omega) h3
theorem sY{f:Nat->Int}:∀{n i:Nat},(∀j,i<=j->j<i+n->f j=0)->pi f i n=0
 | 0,_,_=>rfl
 | n+1,i,h=>by
   rw[pi,if_pos (h i (Nat.le_refl _) (by omega))]
   exact sY λj hj hk=>h j (by omega) (by omega)
theorem lY{r:Rn}{rs:List Rn}{n:Nat}{v:AV}:(aJ (r::rs)).getD (n+4) v=(aJ rs).getD n v:=rfl
theorem kh{R:List Rn}{i:Nat}(h:i<R.length):(aJ R).getD (i*4) (.tuple [])=.int .i8 (R.getD i fG).a/\(aJ R).getD (i*4+1) (.tuple [])=.int .i64 (R.getD i fG).b/\(aJ R).getD (i*4+2) (.tuple [])=.int .i8 (R.getD i fG).c/\(aJ R).getD (i*4+3) (.tuple [])=.int .i64 (R.getD i fG).d:=by
 induction R generalizing i with
 | nil=>exact absurd h (Nat.not_lt_zero _)
 | cons r rs ih=>
   cases i with
   | zero=>exact⟨rfl,rfl,rfl,rfl⟩
   | succ i=>
     obtain⟨h1,h2,h3,h4⟩:=ih (i:=i) (by simpa using h)
     rw[show(i+1)*4=i*4+4 by omega,show i*4+4+1=i*4+1+4 by omega,show i*4+4+2=i*4+2+4 by omega,show i*4+4+3=i*4+3+4 by omega,lY,lY,lY,lY]
     exact⟨h1,h2,h3,h4⟩
theorem Nz{j:Nat}:Int.toNat (Int.sub (Int.ofNat (j+1)) 1)=j:=by
 show((j:Int)+1-1).toNat=j
 omega
theorem kQ:∀{R:List Rn},bG (aJ R)=[]
 | []=>rfl
 | r::rs=>by simp only[aJ,bG,aq,List.nil_append];exact kQ
theorem dE{R:List Rn}:∀x∈[aw.cells (aJ R) false none],eG 14 x:=λx hx=>by
 simp only[List.mem_singleton]at hx
 subst hx
 refine⟨rfl,λi hi=>?_⟩
 exfalso
 simp only[B4,kQ]at hi
 cases hi
theorem VB{R:List Rn}(hR:∀i,i<R.length->Br (R.getD i fG).d):dG Tryz.prog (dX cfg S8) (Cw cfg [.cells (aJ R) false none]) (lb 58 0) 43 [0,2,9,10,11] (V4 R):=by
 have hw:=@dE R
 intro vs o t Q hv hq J
 unfold V4 at hv
 split at hv
 · rename_i n k z n' k' n'' i
   cases hv
   replace hq:=eM hq;obtain⟨⟨h1,h2,h3,h4,h5,h6,-⟩,hq⟩:=hq
   rw[aB]at h1
   rw[bW]at h2 h3
   rw[aS]at h4 h5 h6
   subst h2 h3 h4 h5 h6
   simp only[aN,Tr.wp]at hq
   refine j_ Ei rfl rfl ak (ι:={i:Nat // i<=R.length/\∀j,j<i->mB R j=0}) (λx=>[.slice 14 0 R.length k,.int .i64 0,.slice 14 0 R.length k',.int .i64 (Int.ofNat R.length),.int .i64 (Int.ofNat x.1)]) (λ_=>b7) (λx=>R.length-x.1) 0 (λ_=>Nat.le_refl _) (λx J=>?_) (Nat.le_refl _) (λJ=>Wk.refl ⟨⟨0,Nat.zero_le _,λj hj=>absurd hj (Nat.not_lt_zero j)⟩,J,rfl⟩) J
   obtain⟨i,hi,hz⟩:=x
   dsimp only
   refine ap λQ' hQ=>al ((YJ (aJ R) R.length k k' i J).mpr ?_)
   dsimp only
   have yes:i<R.length->∀e,mB R i=e->e≠0->∀J:Nat->Value,Q (.ret,[.slice 14 0 R.length k,.int .i64 e,.slice 14 0 R.length k',.int .i64 (Int.ofNat R.length),.any (J 0)],b7):=λhlt e he hne J2=>by
    have hc:eY R=e:=he▸vN (λj _ hj=>hz j hj) (Nat.zero_le _) (by omega) (he.symm▸hne)
    rw[hc,aF.mpr hne]at hq
    exact hq J2
   have no:i=R.length->Q (.exit 0,[.slice 14 0 R.length k,.int .i64 0,.slice 14 0 R.length k',.int .i64 (Int.ofNat R.length),.int .i64 (Int.ofNat R.length)],b7):=λhe=>by
    subst he
    have hc:eY R=0:=sY λj _ hj=>hz j (by omega)
    rw[hc]at hq
    exact hq
   have next:mB R i=0->∀j,j<i+1->mB R j=0:=λh j hj=>by
    by_cases e:j=i
    · subst e;exact h
    · exact hz j (by omega)
   clear hq
   by_cases hlt:i<R.length
   · obtain⟨f1,f2,f3,f4⟩:=kh hlt
     have b1:=hR i hlt
     have ret:∀(e:Int) (o:aC),o.le=[]->mB R i=e->e≠0->∃vs2 o2,VW cfg (Cw cfg [.cells (aJ R) false none]) 0 43 [0,2,9,10,11] [.slice 14 0 R.length k,.int .i64 e,.slice 14 0 R.length k',.int .i64 (Int.ofNat R.length),.int .i64 (Int.ofNat i)] o vs2 o2/\Q (.ret,vs2,o2):=λe o ho he hne=>
      ⟨_,_,(Ay hw ho rfl).trans (VW.any (.same (.same (.same (.same (.int .nil))))) rfl),yes hlt e he hne (jv [_])⟩
     have go:∀(o:aC),o.le=[]->mB R i=0->∃y:{i:Nat // i<=R.length/\∀j,j<i->mB R j=0},R.length-y.1<R.length-i/\VW cfg (Cw cfg [.cells (aJ R) false none]) 0 43 [0,2,9,10,11] [.slice 14 0 R.length k,.int .i64 0,.slice 14 0 R.length k',.int .i64 (Int.ofNat R.length),.int .i64 (Int.add (Int.ofNat i) 1)] o [.slice 14 0 R.length k,.int .i64 0,.slice 14 0 R.length k',.int .i64 (Int.ofNat R.length),.int .i64 (Int.ofNat y.1)] b7:=λo ho h0=>
      ⟨⟨i+1,by omega,next h0⟩,by dsimp only;omega,Ay hw ho rfl⟩
     have hE:mB R i=Gx (R.getD (i-1) fG) (R.getD i fG) i:=rfl
     rw[hE]at ret go
     clear yes no next hz hE
     cases i with
     | zero=>
       clear hR
       simp only[Nat.add_assoc,Nat.reduceAdd,Nat.zero_add,Nat.add_zero,f1,f2,f3,f4,bM,bL,hU,nB]at *
       generalize R.getD 0 fG=r at *
       unfold Gx at ret go
       simp only[aD,reduceCtorEq,bA,bB,ne_eq]
       (repeat' first|exact trivial|refine⟨?_,?_⟩|intro)<;>first|contradiction|omega|assumption|refine hQ _ ?_
       · exact ret _ _ rfl (by rw[if_neg (by assumption)]) (by assumption)
       · exact go _ rfl (by rw[if_pos (by assumption),if_neg (by omega)])
     | succ j=>
       obtain⟨g1,g2,g3,g4⟩:=kh (R:=R) (i:=j) (by omega)
       have b2:=hR j (by omega)
       clear hR
       rw[show j+1-1=j by omega]at ret go
       simp only[Nz,Nat.add_assoc,Nat.reduceAdd,Nat.zero_add,Nat.add_zero,f1,f2,f3,f4,g1,g2,g3,g4,bM,bL,hU,nB]at *
       generalize R.getD (j+1) fG=r at *
       generalize R.getD j fG=q at *
       unfold Gx at ret go
       unfold Br at b1 b2
       simp only[aD,reduceCtorEq,bA,bB,ne_eq]
       (repeat' first|exact trivial|refine⟨?_,?_⟩|intro)<;>first|contradiction|omega|assumption|refine hQ _ ?_
       all_goals first
        | exact ret _ _ rfl (by rw[if_neg (by assumption)]) (by assumption)
        | exact ret 12 _ rfl (by rw[if_pos (by assumption),if_pos ⟨by omega,.inl (by assumption)⟩]) (by decide)
        | exact ret 12 _ rfl (by rw[if_pos (by assumption),if_pos ⟨by omega,.inr (by assumption)⟩]) (by decide)
        | exact go _ rfl (by rw[if_pos (by assumption),if_neg (by rintro⟨_,h|h⟩<;>simp_all<;>omega)])
   · obtain rfl:i=R.length:=by omega
     have no:=no rfl
     simp only[aD,reduceCtorEq,bA,bB,ne_eq]
     (repeat' first|exact trivial|refine⟨?_,?_⟩|intro)<;>first|contradiction|omega|assumption|(refine hQ _ ?_;exact⟨_,_,VW.refl,no⟩)
 · cases hv
def b8:List AV->List Rn
 | .int .i8 a::.int .i64 b::.int .i8 c::.int .i64 d::r=>⟨a,b,c,d⟩::b8 r
 | _=>[]
def aZ:List AV->Bool
 | []=>true
 | .int .i8 _::.int .i64 b::.int .i8 _::.int .i64 d::r=>ae .i64 b&&(ae .i64 d&&aZ r)
 | _=>false
theorem cA:∀{w:List AV},aZ w=true->aJ (b8 w)=w
 | [],_=>rfl
 | .int .i8 a::.int .i64 b::.int .i8 c::.int .i64 d::r,h=>by
   simp only[aZ,Bool.and_eq_true]at h
   simp only[b8,aJ,cA h.2.2]
theorem BL:∀{w:List AV},aZ w=true->∀i,i<(b8 w).length->Br ((b8 w).getD i fG).d
 | [],_,i,hi=>absurd hi (Nat.not_lt_zero _)
 | .int .i8 a::.int .i64 b::.int .i8 c::.int .i64 d::r,h,i,hi=>by
   simp only[aZ,Bool.and_eq_true,aQ,bA,bB]at h
   cases i with
   | zero=>exact h.2.1
   | succ i=>exact BL h.2.2 i (by simpa [b8]using hi)
theorem Nc:aH tab 58=some (bC 58,aE 58):=by kernel_rfl
theorem Iv:(bE (aE 58)).map (·.1)=[0]:=by kernel_rfl
theorem XL{R:List Rn}{k:dv}(hR:∀i,i<R.length->Br (R.getD i fG).d)(hn:R.length<=1000):bR Tryz.prog cfg 58 [.slice 14 0 R.length k] [.cells (aJ R) false none] (.int .i64 (eY R)) []:=by
 refine bX Ei (L:=Yd R) dE Nc (by simp) (eC Iv λi hi e he st Q hw=>?_) (ap λQ' hQ=>al ((Yp (aJ R) R R.length k).mpr ?_)) (by simp[aq])
 · have hi:i=0:=by simp at hi;omega
   subst hi
   cases he
   exact cR (cV.good Ei) (by decide) rfl (VB hR) hw
 · have h0:eY R=0->Q' (.int .i64 0):=λh=>hQ _ (by rw[h])
   simp only[aD,reduceCtorEq,bA,bB,ne_eq]
   (repeat' first|exact trivial|refine⟨?_,?_⟩|intro)<;>first|contradiction|omega|assumption|(exact h0 (by assumption))|exact hQ _ rfl
def UO:lq:=λargs ws=>match args,ws with
 | [.slice 14 0 n k],[.cells w false none]=>some (aN [aZ w,Nat.beq (b8 w).length n,Nat.ble n 1000] (.ret (.int .i64 (eY (b8 w)),[])))
 | _,_=>none
theorem PL{S:bq}(hS:az Tryz.prog cfg S):az Tryz.prog cfg (gu S 58 (gD 14 [4] UO)):=by
 refine bK hS (gy d4.lv zG λargs ws t r he hr=>?_)
 unfold UO at he
 split at he
 · rename_i n k w
   cases he
   replace hr:=aI hr;obtain⟨⟨h1,h2,h3,-⟩,hr⟩:=hr
   rw[bW]at h2
   rw[aB]at h3
   subst h2
   cases hr
   have key:=XL (R:=b8 w) (k:=k) (BL h1) h3
   rw[cA h1]at key
   exact⟨key,λx hx=>by cases hx⟩
 · cases he
end Go.Ev
end
