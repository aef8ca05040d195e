import Derived.Test.YtcffhjfdlflbgaaGreatDoorP29
set_option linter.all false
open Int renaming ofNat->ν,ofNat_eq_natCast->σ
open HAdd renaming hAdd->ξ
open List renaming getD->ο,length_reverse->ω,mem_cons_self->Α,reverse_cons->Β,length_take->Γ
open HMul renaming hMul->π
open Nat renaming ble->ς,beq->τ,le_refl->χ,zero_add->Δ
open Bool renaming not_true->υ
set_option linter.all false
set_option maxRecDepth 100000
set_option maxHeartbeats 4000000
namespace Go.Ev
open Go Go.Proofs
variable{n i:Nat}{k:Int}{ea la:Bool}{K:fg}{S:aQ}{R acc:List Rn}{r:Rn}
structure It where
 f:Da
 r:Bool
 t:Da
def gL:Da:=⟨false,false,[],0,0,[],[],0,0,0⟩
def fP:It:=⟨gL,false,gL⟩
def dp:List It->List AV
 | []=>[]
 | x::xs=>x.f.ng::x.f.lg::x.f.s::x.f.e::x.f.g::x.f.mo::x.f.da::.a .u8 x.f.a::.a .u8 x.f.b::.a .u8 x.f.c::x.r::x.t.ng::x.t.lg::x.t.s::x.t.e::x.t.g::x.t.mo::x.t.da::.a .u8 x.t.a::.a .u8 x.t.b::.a .u8 x.t.c::dp xs
def acw:List AV->List It
 | .e v0::.e v1::.f v2::.a .i64 v3::.a .i64 v4::.f v5::.f v6::.a .u8 v7::.a .u8 v8::.a .u8 v9::.e v10::.e v11::.e v12::.f v13::.a .i64 Yd::.a .i64 v15::.f v16::.f v17::.a .u8 v18::.a .u8 v19::.a .u8 v20::w=>⟨⟨v0,v1,v2,v3,v4,v5,v6,v7,v8,v9⟩,v10,⟨v11,v12,v13,Yd,v15,v16,v17,v18,v19,v20⟩⟩::acw w
 | _=>[]
def fS(k:Int)(sl:AV)(ea la:Bool):List AV:=.a .u8 k::false::false::.f []::.a .i64 0::.a .i64 0::.f []::.f []::.a .u8 0::.a .u8 0::.a .u8 0::.a .u8 0::false::false::.f []::.a .i64 0::.a .i64 0::.f []::.f []::.a .u8 0::.a .u8 0::.a .u8 0::.a .u8 0::false::false::.f []::.a .i64 0::.a .i64 0::.f []::.f []::.a .u8 0::.a .u8 0::.a .u8 0::sl::ea::la::[]
def dF(x:Da):Bool:=wa x.ng x.lg x.s x.e x.g x.mo x.da x.a x.b x.c
def fy(x:Da):Bool:=cK x.s x.g x.mo x.da
def kZ(x:Da):Bool:=eX x.s x.g x.mo x.da
def aap(k:Int)(x:It):Bool:=mB x.r (aa k 4) (dF x.f) (dF x.t) (mV x.f.s x.f.ng x.f.e x.f.g x.f.mo x.f.da x.t.s x.t.ng x.t.e x.t.g x.t.mo x.t.da) (dZ x.t.ng x.t.lg x.t.s x.t.e x.t.g x.t.mo x.t.da x.t.a x.t.b x.t.c) (fy x.f)
def aaD(x:It):Bool:=!x.r&&kZ x.f
structure nI(k:Int)(ea la:Bool)(L:List It):Prop where
 hk:(aa k 3 || aa k 4)=true
 n1:1<=L.length
 n2:L.length<=200
 it:∀i,i<L.length->aap k (L.getD i fP)=true
 he:ea->aaD (L.getD 0 fP)=true
 hl:la->aaD (L.getD (L.length-1) fP)=true
 h1:ea->la->L.length≠1
def TG:aQ:=d5 (d5 gZ 265 yc) 207 Cu
def DR(L:List It)(k:Int)(ea la:Bool):dW:=λ
 | [.h 15 0,.a .i64 z,.a .i64 z',.h 16 0,.b 14 0 n K,.a .i64 n',.a .i64 i],⟨2,[.a [.a .i64 last] true none,.a (.a .u8 k1::.e false::.e false::.f []::.a .i64 0::.a .i64 0::.f []::.f []::.a .u8 0::.a .u8 0::.a .u8 0::.a .u8 0::.e false::.e false::.f []::.a .i64 0::.a .i64 0::.f []::.f []::.a .u8 0::.a .u8 0::.a .u8 0::.a .u8 0::.e false::.e false::.f []::.a .i64 0::.a .i64 0::.f []::.f []::.a .u8 0::.a .u8 0::.a .u8 0::.b 14 0 m K1::.e ea1::.e la1::[]) true none],[]⟩=>some (aH [τ L.length n,τ m n,aa n' (ν n),aa i 0,aa z 0,aa z' 0,aa last (ν n-1),aa k1 k,bQ ea1 ea,bQ la1 la] (.a0 (.b 0,[.h 15 0,.a .i64 0,.a .i64 0,.h 16 0,.b 14 0 n K,.a .i64 n',.a .i64 (ν n)],⟨2,[.a [.a .i64 (ν n-1)] true none,.a (fS k (.b 14 0 n K1) ea la) true none],[]⟩)))
 | _,_=>none
def MG(L:List It)(k:Int)(ea la:Bool):cx:=iz jE 0 (d9 39 [1,2,3,4,13,14,15] (DR L k ea la))
theorem alw:ec eS 134=some (dH 134,aL 134):=by rfl
theorem aiO:(bz (aL 134)).map (·.1)=[0]:=by rfl
theorem ahW:ak Tryz.prog cfg TG:=amk (aj2 aW)
theorem afm{x:It}{xs:List It}{v:AV}:(dp (x::xs)).getD (n+21) v=(dp xs).getD n v:=rfl
theorem adN{L:List It}(h:i<L.length):∀k,k<21->(dp L).getD (i*21+k) (.c [])=(dp [L.getD i fP]).getD k (.c []):=by
 induction L generalizing i with
 | nil=>grind
 | cons r rs ih=>
   intro k hk;cases i with
   | zero=>
     rw[Nat.zero_mul,Δ]
     match k,hk with
     | 0,_=>rfl
     | 1,_=>rfl
     | 2,_=>rfl
     | 3,_=>rfl
     | 4,_=>rfl
     | 5,_=>rfl
     | 6,_=>rfl
     | 7,_=>rfl
     | 8,_=>rfl
     | 9,_=>rfl
     | 10,_=>rfl
     | 11,_=>rfl
     | 12,_=>rfl
     | 13,_=>rfl
     | 14,_=>rfl
     | 15,_=>rfl
     | 16,_=>rfl
     | 17,_=>rfl
     | 18,_=>rfl
     | 19,_=>rfl
     | 20,_=>rfl
     | k+21,hk=>omega
   | succ i=>
     grind [afm]
theorem ac3{L:List It}(h:i<L.length):(dp L).getD (0+i*21) (.c [])=.e (L.getD i fP).f.ng/\(dp L).getD (0+i*21+1) (.c [])=.e (L.getD i fP).f.lg/\(dp L).getD (0+i*21+1+1) (.c [])=.f (L.getD i fP).f.s/\(dp L).getD (0+i*21+1+1+1) (.c [])=.a .i64 (L.getD i fP).f.e/\(dp L).getD (0+i*21+1+1+1+1) (.c [])=.a .i64 (L.getD i fP).f.g/\(dp L).getD (0+i*21+1+1+1+1+1) (.c [])=.f (L.getD i fP).f.mo/\(dp L).getD (0+i*21+1+1+1+1+1+1) (.c [])=.f (L.getD i fP).f.da/\(dp L).getD (0+i*21+1+1+1+1+1+1+1) (.c [])=.a .u8 (L.getD i fP).f.a/\(dp L).getD (0+i*21+1+1+1+1+1+1+1+1) (.c [])=.a .u8 (L.getD i fP).f.b/\(dp L).getD (0+i*21+1+1+1+1+1+1+1+1+1) (.c [])=.a .u8 (L.getD i fP).f.c/\(dp L).getD (0+i*21+1+1+1+1+1+1+1+1+1+1) (.c [])=.e (L.getD i fP).r/\(dp L).getD (0+i*21+1+1+1+1+1+1+1+1+1+1+1) (.c [])=.e (L.getD i fP).t.ng/\(dp L).getD (0+i*21+1+1+1+1+1+1+1+1+1+1+1+1) (.c [])=.e (L.getD i fP).t.lg/\(dp L).getD (0+i*21+1+1+1+1+1+1+1+1+1+1+1+1+1) (.c [])=.f (L.getD i fP).t.s/\(dp L).getD (0+i*21+1+1+1+1+1+1+1+1+1+1+1+1+1+1) (.c [])=.a .i64 (L.getD i fP).t.e/\(dp L).getD (0+i*21+1+1+1+1+1+1+1+1+1+1+1+1+1+1+1) (.c [])=.a .i64 (L.getD i fP).t.g/\(dp L).getD (0+i*21+1+1+1+1+1+1+1+1+1+1+1+1+1+1+1+1) (.c [])=.f (L.getD i fP).t.mo/\(dp L).getD (0+i*21+1+1+1+1+1+1+1+1+1+1+1+1+1+1+1+1+1) (.c [])=.f (L.getD i fP).t.da/\(dp L).getD (0+i*21+1+1+1+1+1+1+1+1+1+1+1+1+1+1+1+1+1+1) (.c [])=.a .u8 (L.getD i fP).t.a/\(dp L).getD (0+i*21+1+1+1+1+1+1+1+1+1+1+1+1+1+1+1+1+1+1+1) (.c [])=.a .u8 (L.getD i fP).t.b/\(dp L).getD (0+i*21+1+1+1+1+1+1+1+1+1+1+1+1+1+1+1+1+1+1+1+1) (.c [])=.a .u8 (L.getD i fP).t.c:=by
 have key:=adN h;rw[Δ];exact⟨key 0 (by decide),key 1 (by decide),key 2 (by decide),key 3 (by decide),key 4 (by decide),key 5 (by decide),key 6 (by decide),key 7 (by decide),key 8 (by decide),key 9 (by decide),key 10 (by decide),key 11 (by decide),key 12 (by decide),key 13 (by decide),key 14 (by decide),key 15 (by decide),key 16 (by decide),key 17 (by decide),key 18 (by decide),key 19 (by decide),key 20 (by decide)⟩
theorem acs:∀{L:List It},bw (dp L)=[]
 | []=>rfl
 | r::rs=>by simp only[dp,bw,aC,List.nil_append];exact acs
theorem ir{L:List It}:∀x∈[cD.a (dp L) false none],cR 14 x:=λx hx=>by
 simp only[List.mem_singleton]at hx;subst hx;refine⟨rfl,λi hi=>?_⟩;grind [HL,acs]
theorem ad6{ws:List cD}(hw:∀x∈ws,cR 14 x){tn:Nat}{rel:List Nat}{vs vs':List AV}{top B:List cD}{kb:Nat}(hB:B.length=kb)(hn:n=kb+top.length)(hlow:∀b∈B,cR (14+ws.length+kb) b)(hvs:yw (kG (14+ws.length+kb) [] 20) vs=some vs'):VW cfg (Cw cfg ws) kb tn rel vs ⟨n,top++B,[]⟩ vs' ⟨kb,B,[]⟩:=by
 subst hn;have at0:∀(os:List cD) (n i:Nat),(⟨n,os,[]⟩:aB).at i=os.getD (n-1-i) .b:=λos n i=>rfl;refine VW.d0 dI.lv (C:=Cw cfg ws) (kb:=kb) (sel:=[]) (B6 hw) (Nat.le_add_right _ _) (λs hs=>by grind) List.nodup_nil (λp hp=>by grind) rfl rfl hB (λi hi=>?_) (λt ht=>absurd ht (Nat.not_lt_zero t)) hvs;have e1:(⟨kb,B,[]⟩:aB).at i=B.getD (kb-1-i) .b:=at0 _ _ _;have e2:(⟨kb+top.length,top++B,[]⟩:aB).at i=B.getD (kb-1-i) .b:=by
  grind
 rw[e1,e2];refine⟨rfl,?_⟩;have hlt:kb-1-i<B.length:=by omega
 rw[zAf,List.getElem?_eq_getElem hlt];exact hlow _ (List.getElem_mem hlt)
theorem yl{a b:Bool}(h:bQ a b):a=b:=by cases a<;>cases b<;>first|rfl|cases h
theorem aeU{x:It}(h:aap k x):dF x.f=true:=by
 grind [aap,mB]
theorem ao_{L:List It}(h:nI k ea la L):cu Tryz.prog (cH cfg TG) (Cw cfg [.a (dp L) false none]) (lb 134 0) 39 [1,2,3,4,13,14,15] (DR L k ea la):=by
 have hw:=@ir L;intro vs o t Q hv hq J;unfold DR at hv;split at hv
 . rename_i z z' n K n' i last k1 m K1 ea1 la1;cases hv;replace hq:=cO hq;obtain⟨⟨h1,h2,h3,h4,h5,h6,h7,h8,h9,h10,-⟩,hq⟩:=hq;rw[aJ]at h1 h2;rw[ao]at h3 h4 h5 h6 h7 h8;replace h9:=yl h9;replace h10:=yl h10;subst h1 h2 h3 h4 h5 h6 h7 h8 h9 h10;simp only[aH,Tr.wp]at hq;refine ia ahW rfl rfl ai (ι:={i:Nat // i<=L.length}) (λx=>[.h 15 0,.a .i64 0,.a .i64 0,.h 16 0,.b 14 0 L.length K,.a .i64 (ν L.length),.a .i64 (ν x.1)]) (λ_=>⟨2,[.a [.a .i64 (ν L.length-1)] true none,.a (fS k1 (.b 14 0 L.length K1) ea1 la1) true none],[]⟩) (λx=>L.length-x.1) 2 (λ_=>χ _) (λx J=>?_) (χ _) (λJ=>Wk.a0 ⟨⟨0,Nat.zero_le _⟩,J,rfl⟩) J;obtain⟨i,hi⟩:=x;dsimp only;refine jJ (bE 11200058056812000580681522812000586100042702062402000664220204056331258202205681200032202202206815228120003220220226100042702062402000664220204068152281258202205681200032202202206810007022022632702062202000664220204610004270206240200066422040622000666220005662777777704) (R:=λQ=>(λ(A G H N T V Z u5 uh ui ux:AV)(uw:Bool)(Y ug:Int)(uv:Nat)(B F I W:Prop)=>(λ(uB:cD)(u6 uj uz:AV)(U uy:Bool)(uk uC:Int)(uA:Nat)=>(λ(uF:cD)(uD:AV)(E ul:Bool)(uE:Nat)(u7:Prop)=>(λ(uG:AV)(uH:Nat)(O:Prop)=>(λ(uI:AV)(u0:List UInt8)(uJ:Nat)=>(λ(uK:AV)(um:Int)(uL:Nat)=>(λ(uM:AV)(u1:Int)(uN:Nat)=>(λ(uO:AV)(u2:List UInt8)(uP:Nat)=>(λ(uQ:AV)(u3:List UInt8)(uR:Nat)=>(λ(uS:AV)(uU:Bool)(uT:Nat)=>(λ(uV:AV)(uW:Nat)(u8:Prop)=>(λ(uX:AV)(u4:Bool)(uY:Nat)=>(λ(uZ:AV)(un:Bool)(v0:Nat)=>(λ(v1:AV)(C u9:Bool)(v2:Nat)=>(λ(v3:AV)(uo:Bool)(v4:Nat)(P:Prop)=>(λ(v5:AV)(ua:List UInt8)(v6:Nat)=>(λ(v7:AV)(ub:Int)(v8:Nat)=>(λ(v9:AV)(uc:Int)(va:Nat)=>(λ(vb:AV)(ud:List UInt8)(vc:Nat)=>(λ(vd:AV)(ue:List UInt8)(ve:Nat)=>(λ(vf vg:AV)(up:Int)=>(λ(uq ur:Int)=>(λ(uf us:Prop)=>(λ(ut uu vh vi vj:Prop)=>(λ(vk:Prop)=>(λ(vm:Prop->Prop)=>(λ(vl:Prop->Prop)=>(uy->aS i L.length/\Sn uz/\Sn uD/\Iq uG/\eB .i64 uI/\eB .i64 uK/\Iq uM/\Iq uO/\eB .u8 uQ/\eB .u8 uS/\eB .u8 uV/\Sn uX/\Sn uZ/\Sn v1/\Iq v3/\eB .i64 v5/\eB .i64 v7/\Iq v9/\Iq vb/\eB .u8 vd/\eB .u8 vf/\eB .u8 vg/\vl (vl ((F->F/\F/\(U->U/\(C->C/\C/\u4/\C/\U/\U/\ut/\(u8->(B->B/\B/\B/\(E->E/\C/\vm (u8/\F/\F/\F/\B/\B/\B/\aa uk 0/\uf))/\vk)/\vi))/\(P->P/\P/\P/\U/\U/\uf))/\(u7->u7/\u7/\u7/\(B->B/\B/\B/\(E->E/\(C->vm (ut/\(u8->vh)))/\vj)/\vk)/\vi))/\(W->W/\W/\(B->B/\B/\B/\(E->E/\(C->vm (ut/\(u8->uu)))/\vj)/\(O->O/\O/\O/\uu))/\(I->I/\I/\I/\uu)))))/\(uy=false->Q (.b 0,[T,G,G,Z,uh,uj,u6],⟨2,[uF,uB],[]⟩))) (λvn=>uw/\mB un (aa k1 4) u4 (wa u9 uo ua ub uc ud ue up uq ur) (mV u0 ul um u1 u2 u3 ua u9 ub uc ud ue) (dZ u9 uo ua ub uc ud ue up uq ur) (cK u0 u1 u2 u3)/\vn)) (λvn=>C/\C/\u4/\C/\E/\E/\vn)) (O->O/\O/\O/\vh)) (uU->uf) (W/\W/\W/\us) (F/\F/\F/\B/\B/\B/\aa uk 0=false/\us) (I->I/\I/\I/\F/\F/\F/\I/\I/\I/\us) (P->P/\P/\P/\E/\E/\uf)) (Q (.c,[T,u6,u5,Z,uh,uj,u6],⟨5,[.a [G,.i 208 [] [ui,T],u5,.i 209 [] [T,ux,ui],u5,.i 211 [] [T,ux,Z,ui],u5,.i 212 [] [T,Z]] true none,.a [.e ul,.e (KK uD),.f u0,.a .i64 um,.a .i64 u1,.f u2,.f u3,.a .u8 (dx uQ),.a .u8 (dx uS),.a .u8 (dx uV),.e un,.e u9,.e uo,.f ua,.a .i64 ub,.a .i64 uc,.f ud,.f ue,.a .u8 up,.a .u8 uq,.a .u8 ur] true none,.a [u6] true none,uF,uB],[]⟩)) (af .i64 uC/\Q (.a,[T,G,G,Z,uh,uj,.a .i64 uC],⟨5,[.a [G,.i 208 [] [ui,T],u5,.i 209 [] [T,ux,ui],u5,.i 211 [] [T,ux,Z,ui],u5,.i 212 [] [T,Z]] true none,.a [.e ul,.e (KK uD),.f u0,.a .i64 um,.a .i64 u1,.f u2,.f u3,.a .u8 (dx uQ),.a .u8 (dx uS),.a .u8 (dx uV),.e un,.e u9,.e uo,.f ua,.a .i64 ub,.a .i64 uc,.f ud,.f ue,.a .u8 up,.a .u8 uq,.a .u8 ur] true none,.a [u6] true none,uF,uB],[]⟩))) (dx vf) (dx vg)) (ο (dp L) ve A) (ο (dp L) (ξ ve 1) A) (dx vd)) (ο (dp L) vc A) (C9 vb) (ξ vc 1)) (ο (dp L) va A) (C9 v9) (ξ va 1)) (ο (dp L) v8 A) (dx v7) (ξ v8 1)) (ο (dp L) v6 A) (dx v5) (ξ v6 1)) (ο (dp L) v4 A) (C9 v3) (ξ v4 1)) (ο (dp L) v2 A) (KK v1) (ξ v2 1) (C=false)) (ο (dp L) v0 A) (not un) (KK uZ) (ξ v0 1)) (ο (dp L) uY A) (KK uX) (ξ uY 1)) (ο (dp L) uW A) (wa ul (KK uD) u0 um u1 u2 u3 (dx uQ) (dx uS) (dx uV)) (ξ uW 1)) (ο (dp L) uT A) (ξ uT 1) (uU=false)) (ο (dp L) uR A) (not (eX u0 u1 u2 u3)) (ξ uR 1)) (ο (dp L) uP A) (C9 uO) (ξ uP 1)) (ο (dp L) uN A) (C9 uM) (ξ uN 1)) (ο (dp L) uL A) (dx uK) (ξ uL 1)) (ο (dp L) uJ A) (dx uI) (ξ uJ 1)) (ο (dp L) uH A) (C9 uG) (ξ uH 1)) (ο (dp L) uE A) (ξ uE 1) (E=false)) (.a [.a .i64 uk] true none) (ο (dp L) uA A) (aa Y uk) (KK uz) (ξ uA 1) (U=false)) (.a [.a .u8 k1,V,V,N,G,G,N,N,H,H,H,H,V,V,N,G,G,N,N,H,H,H,H,V,V,N,G,G,N,N,H,H,H,.b 14 0 L.length K1,.e ea1,.e la1] true none) (.a .i64 Y) (.a .i64 ug) (ο (dp L) uv A) (aa Y 0) (not (ab ug Y)) (HSub.hSub ug 1) (Int.add Y 1) (ξ uv 1)) (.c []) (.a .i64 0) (.a .u8 0) (.f []) (.h 15 0) (.e false) (.h 16 0) (.a .i64 10) (.b 14 0 L.length K) (.h 18 0) (.h 17 0) (or (aa k1 3) (aa k1 4)) (ν i) (ν L.length) (ξ 0 (π i 21)) la1 ea1 (la1=false) (ea1=false)) (λ_=>by kernel_rfl) λQ' hQ=>?_;try dsimp only
   by_cases hlt:i<L.length
   . have go:∀a b c:cD,Q' (AX.a,([.h 15 0,.a .i64 0,.a .i64 0,.h 16 0,.b 14 0 L.length K,.a .i64 (ν L.length),.a .i64 (Int.add (ν i) 1)],⟨5,[a,b,c,.a [.a .i64 (ν L.length-1)] true none,.a (fS k1 (.b 14 0 L.length K1) ea1 la1) true none],[]⟩)):=λa b c=>
      hQ _ ⟨⟨i+1,hlt⟩,by dsimp only;omega,ad6 (top:=[a,b,c]) (B:=[.a [.a .i64 (ν L.length-1)] true none,.a (fS k1 (.b 14 0 L.length K1) ea1 la1) true none]) hw rfl rfl (λx hx=>by
       simp only[List.mem_cons,List.not_mem_nil,or_false]at hx;rcases hx with rfl|rfl
       . exact⟨rfl,λi hi=>by simp[HL,bw,aC]at hi⟩
       . exact⟨rfl,λi hi=>by simp[fS,HL,bw,aC]at hi;subst hi;show 14<14+1+2;omega⟩) rfl⟩
     clear hQ hq;have itk:=h.it i hlt;have he:ea1->i=0->aaD (L.getD i fP)=true:=λa b=>by subst b;exact h.he a
     have hl:la1->i=L.length-1->aaD (L.getD i fP)=true:=λa b=>by subst b;exact h.hl a
     obtain⟨f0,f1,f2,f3,f4,f5,f6,f7,f8,f9,f10,f11,f12,f13,f14,f15,f16,f17,f18,f19,f20⟩:=ac3 hlt;generalize L.getD i fP=x at *;have hva:=aeU itk;unfold aap dF fy at itk;unfold dF at hva;rw[hva]at itk;unfold fS at go;have j1:ab (ν L.length) (ν i)=false:=by rw[bF];simp only[σ];omega
     have j2:aS i L.length=true:=aU.2 hlt;have j3:af .i64 (Int.add (ν i) 1)=true:=by rw[aE];simp only[eH,eE];have:=h.n2;show _<=(i:Int)+1/\(i:Int)+1<=_;omega
     have kk:∀(a:IntKind) (n:Int),eB a (.a a n)=true:=λa n=>by cases a<;>rfl
     have ib:∀b:Bool,Sn (.e b)=true:=λ_=>rfl;have is:∀s:List UInt8,Iq (.f s)=true:=λ_=>rfl;have bo:∀b:Bool,KK (.e b)=b:=λ_=>rfl;have st:∀s:List UInt8,C9 (.f s)=s:=λ_=>rfl;have io:∀(a:IntKind) (n:Int),dx (.a a n)=n:=λ_ _=>rfl;simp only[f0,f1,f2,f3,f4,f5,f6,f7,f8,f9,f10,f11,f12,f13,f14,f15,f16,f17,f18,f19,f20,kk,ib,is,bo,st,io,j1,j2,j3,h.hk,itk,hva,υ,Bool.not_false,true_and,and_true,true_imp_iff,reduceCtorEq,false_imp_iff];clear f0 f1 f2 f3 f4 f5 f6 f7 f8 f9 f10 f11 f12 f13 f14 f15 f16 f17 f18 f19 f20;have e1:ea1->aa (ν i) 0->x.r=false/\eX x.f.s x.f.g x.f.mo x.f.da=true:=λa b=>by
      have:=he a (by rw[ao]at b;exact Int.ofNat.inj b);unfold aaD kZ at this;simpa only[zAa,Bool.not_eq_true']using this
     have e2:la1->aa (ν i) (ν L.length-1)->x.r=false/\eX x.f.s x.f.g x.f.mo x.f.da=true:=λa b=>by
      have:=hl a (by rw[ao]at b;simp only[σ]at b;omega);unfold aaD kZ at this;simpa only[zAa,Bool.not_eq_true']using this
     have e3:ea1->la1->aa (ν L.length-1) 0=false:=λa b=>by
      have:=h.h1 a b;have:=h.n1;rw[aw];simp only[σ];omega
     have e4:aa (ν i) 0->aa (ν i) (ν L.length-1)->aa (ν L.length-1) 0=true:=λa b=>by
      rw[ao]at a b ⊢;rw[<-b,a]
     clear he hl h hw itk hva;generalize eX x.f.s x.f.g x.f.mo x.f.da=pl at *;generalize x.r=xr at *;generalize aa (ν i) 0=i0 at *;generalize aa (ν i) (ν L.length-1)=il at *;generalize aa (ν L.length-1) 0=n0 at *;cases ea1<;>cases la1<;>cases i0<;>cases il<;>simp only[true_imp_iff,reduceCtorEq,false_imp_iff]at e1 e2 e3 e4<;>(try(rw[e3]at e4;cases e4))<;>(try obtain⟨rfl,rfl⟩:=e1)<;>(try obtain⟨rfl,rfl⟩:=e2)<;>(try subst e3)<;>simp only[go,υ,Bool.not_false,true_and,and_true,true_imp_iff,reduceCtorEq,false_imp_iff,implies_true,and_self]
   . obtain rfl:i=L.length:=by omega
     have j1:ab (ν L.length) (ν L.length)=true:=by rw[aq];exact Int.le_refl _
     simp only[j1,υ,reduceCtorEq,false_imp_iff,true_and,true_imp_iff];refine hQ _ ⟨_,_,VW.a0,?_⟩;exact hq
 . cases hv
noncomputable def abk(w:List AV)(n:Nat)(k:Int)(ea la:Bool):Bool:=@decide (∃L:List It,dp L=w/\L.length=n/\nI k ea la L) (Classical.propDecidable _)
noncomputable def FE:aav:=λ
 | [.g (.a .u8 k::.e false::.e false::.f []::.a .i64 0::.a .i64 0::.f []::.f []::.a .u8 0::.a .u8 0::.a .u8 0::.a .u8 0::.e false::.e false::.f []::.a .i64 0::.a .i64 0::.f []::.f []::.a .u8 0::.a .u8 0::.a .u8 0::.a .u8 0::.e false::.e false::.f []::.a .i64 0::.a .i64 0::.f []::.f []::.a .u8 0::.a .u8 0::.a .u8 0::.b 14 0 n K::.e ea::.e la::[])],[.a w false none]=>some (aH [abk w n k ea la] (.a0 (.c [.a .i64 0,.a .i64 0],[])))
 | _,_=>none
noncomputable def TH:aQ:=eQ gZ 134 (fl 14 [21] FE)
theorem QN{L:List It}(h:nI k ea la L):bu Tryz.prog cfg 134 [.g (fS k (.b 14 0 L.length K) ea la)] [.a (dp L) false none] (.c [.a .i64 0,.a .i64 0]) []:=by
 refine P0 ahW (L:=MG L k ea la) ir alw (by simp) (dv aiO λi hi e he st Q hw=>?_) (jJ (bE 12700070020) (R:=λQ=>(λ(B:AV)(A:Int)=>(λ(C:Int)=>af .i64 C/\τ L.length L.length/\τ L.length L.length/\aa A A/\aa C (HSub.hSub A 1)/\aa k k/\bQ ea ea/\bQ la la/\(∀J1:Nat->Value,Q (.c [B,B]))) (Int.sub A 1)) (.a .i64 0) (ν L.length)) (λ_=>by rfl) λQ' hQ=>?_) (by rfl)
 . have hi:i=0:=by grind
   subst hi;cases he;exact bR (cC.a0 ahW) (by decide) rfl (ao_ h) hw
 . dsimp only;have j1:af .i64 (Int.sub (ν L.length) 1)=true:=by
    rw[aE];simp only[eH,eE];have:=h.n2
    grind
   have j2:τ L.length L.length=true:=aJ.mpr rfl;have j3:∀b,bQ b b=true:=λb=>by cases b<;>rfl
   grind [aa0]
theorem lh:∀{L:List It},(dp L).length=L.length*21
 | []=>rfl
 | x::xs=>by simp only[dp,zAd,lh];omega
theorem qi{L:List It}:b_ (dp L) 0 (L.length*21)=dp L:=by
 grind [b_,lh]
theorem lU:∀{L:List It},bc 14 (dp L)=true
 | []=>rfl
 | _::xs=>lU (L:=xs)
theorem rd{w:List AV}:abk w n k ea la=true↔∃L:List It,dp L=w/\L.length=n/\nI k ea la L:=by
 grind [abk]
theorem amM(hS:ak Tryz.prog cfg S):ak Tryz.prog cfg (eQ S 134 (fl 14 [21] FE)):=by
 refine bm hS (fW dI.lv Az λargs ws t r he hr=>?_);unfold FE at he;split at he
 . cases he;replace hr:=aF hr;obtain⟨⟨h1,-⟩,hr⟩:=hr;obtain⟨L,rfl,rfl,hs⟩:=rd.1 h1;cases hr;exact⟨QN hs,λx hx=>by grind⟩
 grind
theorem amr:ak Tryz.prog cfg TH:=amM aW
theorem Qv{L:List It}(h:nI k ea la L):bu Tryz.prog cfg 25 [.g (fS k (.b 14 0 L.length K) ea la)] [.a (dp L) false none] (.a .i64 0) []:=by
 refine ns amr ir ai (bE 1226666303030305662331226666303030355230003300088202403020056700622032206220666633202206666) (R:=λQ=>not (not (ab 1 k))/\not (not (ab 1 k))/\not (not (ab 1 k))/\not (ab 1 k)=false/\not (ab k 4)=false/\not (aa k 1)/\not (aa k 1)/\not (aa k 1)/\not (aa k 1)/\aa k 1=false/\not (aa k 2)/\not (aa k 2)/\not (aa k 2)/\not (aa k 2)/\not (aa k 2)/\not (aa k 2)/\aa k 2=false/\(not (aa k 3)->not (aa k 3)/\not (aa k 3)/\aa k 3=false/\not (aa k 4)=false/\not (aa k 4)=false/\not (aa k 4)=false/\not (aa k 4)=false/\not (aa k 4)=false/\not (aa k 4)=false/\not (aa k 4)=false/\not (aa k 4)=false/\aa k 4/\aa k 1=false/\aa k 2=false/\aa (ν L.length) 0=false/\not (ab (ν L.length) 256)=false/\and true (and (ς (ξ 0 (π L.length 21)) (dp L).length) (bc 14 (b_ (dp L) 0 (π L.length 21))))/\abk (b_ (dp L) 0 (π L.length 21)) L.length k ea la/\Q (.a .i64 0))/\(not (aa k 3)=false->not (aa k 3)=false/\not (aa k 3)=false/\aa k 3/\aa k 1=false/\aa k 2=false/\aa (ν L.length) 0=false/\not (ab (ν L.length) 256)=false/\and true (and (ς (ξ 0 (π L.length 21)) (dp L).length) (bc 14 (b_ (dp L) 0 (π L.length 21))))/\abk (b_ (dp L) 0 (π L.length 21)) L.length k ea la/\Q (.a .i64 0))) (λ_=>by kernel_rfl) λQ' hQ=>?_;have hk:=h.hk;have n1:=h.n1;have n2:=h.n2;have hB:abk (dp L) L.length k ea la=true:=rd.2 ⟨L,rfl,rfl,h⟩;rw[qi,lU,hB];have l1:ς (0+L.length*21) (dp L).length=true:=by rw[al,lh];omega
 have l2:aa (ν L.length) 0=false:=by grind [aw]
 have l3:ab (ν L.length) 256=true:=by grind [aq]
 rw[l1,l2,l3];rw[Bool.or_eq_true,ao,ao]at hk;rcases hk with rfl|rfl
 . rw[show ab 1 3=true from rfl,show ab 3 4=true from rfl,show aa 3 1=false from rfl,show aa 3 2=false from rfl,show aa 3 3=true from rfl,show aa 3 4=false from rfl];grind
 . rw[show ab 1 4=true from rfl,show ab 4 4=true from rfl,show aa 4 1=false from rfl,show aa 4 2=false from rfl,show aa 4 3=false from rfl,show aa 4 4=true from rfl];grind
noncomputable def sI:aav:=λ
 | [.g (.a .u8 k::.e false::.e false::.f []::.a .i64 0::.a .i64 0::.f []::.f []::.a .u8 0::.a .u8 0::.a .u8 0::.a .u8 0::.e false::.e false::.f []::.a .i64 0::.a .i64 0::.f []::.f []::.a .u8 0::.a .u8 0::.a .u8 0::.a .u8 0::.e false::.e false::.f []::.a .i64 0::.a .i64 0::.f []::.f []::.a .u8 0::.a .u8 0::.a .u8 0::.b 14 0 n K::.e ea::.e la::[])],[.a w false none]=>some (aH [abk w n k ea la] (.a0 (.a .i64 0,[])))
 | _,_=>none
theorem ajV(hS:ak Tryz.prog cfg S):ak Tryz.prog cfg (eQ S 25 (fl 14 [21] sI)):=by
 refine bm hS (fW dI.lv Az λargs ws t r he hr=>?_);unfold sI at he;split at he
 . cases he;replace hr:=aF hr;obtain⟨⟨h1,-⟩,hr⟩:=hr;obtain⟨L,rfl,rfl,hs⟩:=rd.1 h1;cases hr;exact⟨Qv hs,λx hx=>by grind⟩
 grind
def fD(q r:Rn):Rn:=⟨bif ab 0 (gc r.a r.b q.a q.b)then q.a else r.a,bif ab 0 (gc r.a r.b q.a q.b)then q.b else r.b,bif ab (gc r.c r.d q.c q.d) 0 then q.c else r.c,bif ab (gc r.c r.d q.c q.d) 0 then q.d else r.d⟩
def acE(q r:Rn):Bool:=vz q.a q.b q.c q.d r.a r.b r.c r.d
def Cy:dP:=λ
 | [.g [.a .i8 a,.a .i64 b,.a .i8 c,.a .i64 d],.g [.a .i8 e,.a .i64 f,.a .i8 g,.a .i64 h]]=>some (aH [af .i64 d,af .i64 h] (.d0 (vz a b c d e f g h) λt=>bif t then .a0 (.c [.g [.a .i8 (bif ab 0 (gc e f a b)then a else e),.a .i64 (bif ab 0 (gc e f a b)then b else f),.a .i8 (bif ab (gc g h c d) 0 then c else g),.a .i64 (bif ab (gc g h c d) 0 then d else h)],.e true])else .a0 (.c [.g [.a .i8 0,.a .i64 0,.a .i8 0,.a .i64 0],.e false])))
 | _=>none
def TJ:aQ:=pX (pX gZ 93 Sp) 92 FB
def TK:aQ:=d5 gZ 152 Cy
def q8(acc:List Rn)(r:Rn):List Rn:=match acc with
 | []=>[r]
 | q::p=>bif acE q r then fD q r::p else r::q::p
def abL(R:List Rn):List Rn:=R.foldl q8 []
def aaO(R:List Rn):List Rn:=(abL R).reverse
def aaq(R:List Rn):Nat:=(aaO R).length
def DS(R:List Rn):dW:=λ
 | [.d,.d,.b 14 0 n K,.a .i64 n',.a .i64 i],⟨0,[],[]⟩=>some (aH [τ R.length n,ς 1 n,ς n 1000,aa n' (ν n),aa i 0] (.a0 (.b 0,[.d,.b 15 0 (aaq R) (.a 0),.b 14 0 n K,.a .i64 n',.a .i64 (ν n)],⟨1,[.a (bh (aaO R)) true (some 4)],[]⟩)))
 | _,_=>none
def MJ(R:List Rn):cx:=iz jE 0 (d9 46 [2,3,9,10,11] (DS R))
def HN(a b c d e f g h:Int){Q:AV->Prop}:gG Q (pT TJ jE 152 [.g [.a .i8 a,.a .i64 b,.a .i8 c,.a .i64 d],.g [.a .i8 e,.a .i64 f,.a .i8 g,.a .i64 h]]) (bE 15154006151540064551042255)=((λ(A E F H I N O P T U V:AV)(B C G:Bool)=>(λ(W:Prop)=>af .i64 d/\af .i64 h/\(C->Q (.c [.g [E,F,E,F],.e false]))/\(C=false->(G->(B->Q (.c [.g [H,I,N,O],A]))/\(W->Q (.c [.g [H,I,P,T],A])))/\(G=false->(B->Q (.c [.g [U,V,N,O],A]))/\(W->Q (.c [.g [U,V,P,T],A]))))) (B=false)) (.e true) (.a .i8 0) (.a .i64 0) (.a .i8 e) (.a .i64 f) (.a .i8 g) (.a .i64 h) (.a .i8 c) (.a .i64 d) (.a .i8 a) (.a .i64 b) (not (ab (gc g h c d) 0)) (not (vz a b c d e f g h)) (not (ab 0 (gc e f a b)))):=by kernel_rfl
theorem ahk:ec eS 152=some (dH 152,aL 152):=by rfl
theorem alD:ec eS 82=some (dH 82,aL 82):=by rfl
theorem ajg:(bz (aL 82)).map (·.1)=[0]:=by rfl
theorem ajx:ak Tryz.prog cfg TJ:=eG (eG aW Nh) NE
theorem anZ(hS:ak Tryz.prog cfg S):ak Tryz.prog cfg (d5 S 152 Cy):=by
 refine au hS λargs t v he hv=>?_;unfold Cy at he;split at he
 . rename_i a b c d e f g h;cases he;replace hv:=aF hv;obtain⟨⟨h1,h2,-⟩,hv⟩:=hv;simp only[Tr.b0]at hv;have ids:∀{x y z u:Int} {t:Bool},aC (.c [.g [.a .i8 x,.a .i64 y,.a .i8 z,.a .i64 u],.e t])=[]:=by grind [aC,bw]
   cases ht:vz a b c d e f g h with
   | false=>
     rw[ht,cond_false]at hv;cases hv;refine kA ajx (L:=jE) ahk (by simp) ai (eD λQ' hQ=>cg ((HN a b c d e f g h).mpr ?_)) ids;grind
   | true=>
     rw[ht,cond_true]at hv;cases hv;refine kA ajx (L:=jE) ahk (by simp) ai (eD λQ' hQ=>cg ((HN a b c d e f g h).mpr ?_)) ids;grind
 grind
theorem agO:ak Tryz.prog cfg TK:=anZ aW
theorem kC:∀{R:List Rn},(bh R).length=R.length*4
 | []=>rfl
 | r::R=>by simp only[bh,zAd,kC];omega
theorem hH{rw:Bool}{g:Option Nat}{b:Nat}:cR b (.a (bh R) rw g):=⟨rfl,λi hi=>by
 grind [HL,sR]⟩
theorem ym:∀{A B:List Rn},bh (A++B)=bh A++bh B
 | [],_=>rfl
 | r::A,B=>by simp only[List.cons_append,bh,ym]
theorem afA{B vs:List AV}:∀{A:List AV} {n:Nat},A.length=n->JL (A++B) n vs=A++JL B 0 vs
 | [],n,h=>by grind
 | c::A,n,h=>by
   subst h;simp only[List.cons_append,zAd,JL,afA (A:=A) rfl]
theorem afL{A B:List AV}(h:A.length=n*4):(A++(bh [r]++B)).getD (0+n*4) (.c [])=.a .i8 r.a/\(A++(bh [r]++B)).getD (0+n*4+1) (.c [])=.a .i64 r.b/\(A++(bh [r]++B)).getD (0+n*4+1+1) (.c [])=.a .i8 r.c/\(A++(bh [r]++B)).getD (0+n*4+1+1+1) (.c [])=.a .i64 r.d:=by
 rw[Δ,<-h];have key:∀k,(A++(bh [r]++B)).getD (A.length+k) (.c [])=(bh [r]++B).getD k (.c []):=λk=>by
  grind
 exact⟨key 0,key 1,key 2,key 3⟩
theorem abI(h:i<R.length):bh R=bh (R.take i)++(bh [R.getD i fo]++bh (R.drop (i+1))):=by
 conv=>lhs;rw[<-List.take_append_drop i R,ym,List.drop_eq_getElem_cons h]
 rw[show R.getD i fo=R[i]by grind];rfl
theorem adP(h:i<R.length):abL (R.take (i+1))=q8 (abL (R.take i)) (R.getD i fo):=by
 grind [abL,List.take_succ]
theorem aeh{ws:List cD}(hw:∀x∈ws,cR 14 x){tn:Nat}{rel:List Nat}{vs vs':List AV}{x:cD}{k:Nat}{os:List cD}(hk:k<n)(h1:os.getD (n-1-k) .b=x)(hx:cR (14+ws.length) x)(hvs:yw (kG (14+ws.length) [(14+ws.length+k,14+ws.length)] 20) vs=some vs') :
 VW cfg (Cw cfg ws) 0 tn rel vs ⟨n,os,[]⟩ vs' ⟨1,[x],[]⟩:=by
 refine VW.d0 dI.lv (C:=Cw cfg ws) (kb:=0) (sel:=[k]) (B6 hw) (Nat.zero_le _) (λs hs=>?_) (by simp) (λp hp=>by grind) rfl rfl rfl (λi hi=>absurd hi (Nat.not_lt_zero i)) (λt ht=>?_) hvs
 . grind
 . have:t=0:=by grind
   subst this;refine .inl ⟨?_,?_⟩
   . show(⟨1,[x],[]⟩:aB).at 0=os.getD (n-1-k) .b;rw[h1];rfl
   . show cR (14+ws.length) (os.getD (n-1-k) .b);grind
def ajI:List Rn->AV
 | []=>.d
 | x::xs=>.b 15 0 (xs.length+1) (.a 0)
def anc:List Rn->aB
 | []=>⟨0,[],[]⟩
 | x::xs=>⟨1,[.a (bh (x::xs).reverse) true (some 4)],[]⟩
theorem agQ:q8 acc r≠[]:=by
 cases acc with
 | nil=>nofun
 | cons q p=>
   show(bif acE q r then fD q r::p else r::q::p)≠[];grind
theorem agy:(q8 acc r).length<=acc.length+1:=by
 cases acc with
 | nil=>exact χ _
 | cons q p=>
   show(bif acE q r then fD q r::p else r::q::p).length<=_;grind
theorem adT:∀{R acc:List Rn},(R.foldl q8 acc).length<=acc.length+R.length
 | [],acc=>χ _
 | r::R,acc=>by
   have h1:=@adT R (q8 acc r);grind [agy]
theorem ahl(ha:∀x∈acc,IJ x.d)(hr:IJ r.d):∀x∈q8 acc r,IJ x.d:=by
 cases acc with
 | nil=>intro x hx;rw[List.mem_singleton.1 hx];omega
 | cons q p=>
   have hq:=ha q Α;have hp:∀x∈p,IJ x.d:=λx hx=>ha x (List.mem_cons_of_mem _ hx);show ∀x∈(bif acE q r then fD q r::p else r::q::p),IJ x.d;cases acE q r with
   | true=>
     intro x hx;rcases List.mem_cons.1 hx with rfl|hx
     . show IJ (bif ab (gc r.c r.d q.c q.d) 0 then q.d else r.d);grind
     grind
   | false=>
     grind
theorem aeu:∀{R acc:List Rn},(∀x∈acc,IJ x.d)->(∀x∈R,IJ x.d)->∀x∈R.foldl q8 acc,IJ x.d
 | [],acc,ha,_=>ha
 | r::R,acc,ha,hr=>aeu (R:=R) (acc:=q8 acc r) (ahl ha (hr r Α)) λx hx=>hr x (List.mem_cons_of_mem _ hx)
theorem aot(hR:∀i,i<R.length->IJ (R.getD i fo).d):cu Tryz.prog (cH cfg TK) (Cw cfg [.a (bh R) false none]) (lb 82 0) 46 [2,3,9,10,11] (DS R):=by
 have hw:=@jz R;intro vs o t Q hv hq J;unfold DS at hv;split at hv
 . rename_i n K n' i;cases hv;replace hq:=cO hq;obtain⟨⟨h1,h2,h3,h4,h5,-⟩,hq⟩:=hq;rw[aJ]at h1;rw[al]at h2 h3;rw[ao]at h4 h5;subst h1 h4 h5;simp only[aH,Tr.wp]at hq;refine ia agO rfl rfl ai (ι:={i:Nat // i<=R.length}) (λx=>[.d,ajI (abL (R.take x.1)),.b 14 0 R.length K,.a .i64 (ν R.length),.a .i64 (ν x.1)]) (λx=>anc (abL (R.take x.1))) (λx=>R.length-x.1) 0 (λ_=>Nat.zero_le _) (λx J=>?_) (χ _) (λJ=>Wk.a0 ⟨⟨0,Nat.zero_le _⟩,J,rfl⟩) J;obtain⟨i,hi⟩:=x;dsimp only;have kk:∀(a:IntKind) (n:Int),eB a (.a a n)=true:=λa n=>by cases a<;>rfl
   have io:∀(a:IntKind) (n:Int),dx (.a a n)=n:=λ_ _=>rfl;have nx:i<R.length->abL (R.take (i+1))=q8 (abL (R.take i)) (R.getD i fo):=adP;have nn:1<=i->abL (R.take i)≠[]:=λh=>by
    obtain⟨j,rfl⟩:∃j,i=j+1:=⟨i-1,by omega⟩;grind [adP,agQ]
   have facts:i<R.length->ab (ν R.length) (ν i)=false/\aS i R.length/\af .i64 (Int.add (ν i) 1)=true:=λh=>⟨by grind [bF],aU.2 h,by grind [aE,eH,eE]⟩;cases hacc:abL (R.take i)with
   | nil=>
     refine jJ (bE 11111120064444204) (R:=λQ=>(λ(A F:AV)(B C:Int)(E:Nat)=>(λ(H O:AV)(G:Bool)(N:Int)(I:Nat)=>(λ(T:AV)(P:Bool)(U:Nat)=>(λ(W Y:AV)(V:Bool)=>(λ(Z u0:Bool)(u1:List AV)=>(λ(u2:cD)=>(G->aS i R.length/\(P->(V->(Z->(u0->af .i64 N/\Q (.a,[.d,.b 17 0 1 (fg.a 0),F,O,.a .i64 N],⟨3,[.a u1 true (some 4),u2,u2],[]⟩))/\(u0=false->False))/\(Z=false->False))/\(V=false->False))/\(P=false->False))/\(G=false->Q (.b 0,[.d,.d,F,O,.a .i64 B],⟨0,[],[]⟩))) (.a u1 true none)) (eB .i8 W) (eB .i64 Y) [.a .i8 (dx H),.a .i64 (dx T),.a .i8 (dx W),.a .i64 (dx Y)]) (ο (bh R) U A) (ο (bh R) (ξ U 1) A) (eB .i64 T)) (ο (bh R) I A) (eB .i8 H) (ξ I 1)) (ο (bh R) E A) (.a .i64 C) (not (ab C B)) (Int.add B 1) (ξ E 1)) (.c []) (.b 14 0 R.length K) (ν i) (ν R.length) (ξ 0 (π i 4))) (λ_=>by rfl) λQ' hQ=>?_;try dsimp only
     by_cases hlt:i<R.length
     . obtain⟨j1,j2,j3⟩:=facts hlt;obtain⟨f1,f2,f3,f4⟩:=afL (A:=bh (R.take i)) (B:=bh (R.drop (i+1))) (r:=R.getD i fo) (n:=i) (by rw[kC,Γ,Nat.min_eq_left hi]);rw[<-abI hlt]at f1 f2 f3 f4;simp only[f1,f2,f3,f4,kk,io,j1,j2,j3,υ,Bool.not_false,true_and,and_true,true_imp_iff,reduceCtorEq,false_imp_iff];refine hQ _ ⟨⟨i+1,hlt⟩,by dsimp only;omega,?_⟩;dsimp only;rw[nx hlt,hacc];exact aeh (k:=2) hw (by decide) rfl hH rfl
     . exfalso;exact nn (by omega) hacc
   | cons q p=>
     refine jJ (bE 11225200051275200422052277022704) (R:=λQ=>(λ(A N u2 u4 u5:AV)(I Y u0:Int)(Z u1 u3:Nat)=>(λ(P u7:AV)(u6:Bool)(O u9:Int)(u8:Nat)=>(λ(ua uf:AV)(uc ue:Bool)(C:Int)(ub ud:Nat)=>(λ(ug uh:AV)(F:Int)(E:Nat)=>(λ(ui:AV)(B G:Int)(uj:Nat)=>(λ(uk:AV)(T:Int)(um:List AV)(ul:Nat)=>(λ(V:cD)(un uo:AV)(U:Int)=>(λ(up:Bool)(H W:Int)=>(λ(uq ur:Bool)=>(λ(us:List AV)=>(λ(ut:Prop->Prop)=>(u6->aS i R.length/\eB .i8 u7/\eB .i64 ua/\eB .i8 ug/\eB .i64 uh/\not (ab u0 0)/\ut (eB .i8 ui/\eB .i64 uk/\eB .i8 un/\eB .i64 uo/\af .i64 H/\af .i64 B/\(uq->ut (ς (ξ E 4) u1/\ue/\Q (.a,[.d,u2,N,P,uf],⟨3,[.a us true none,V,.a (JL (bh (q::p).reverse) E us) true (some 4)],[]⟩)))/\(uq=false->and (and (ς u3 1000000) true) true/\and true (τ u1 (π (p.length+1) 4))/\ue/\Q (.a,[.d,.b 19 0 u3 (fg.a 0),N,P,uf],⟨5,[.a ((bh (q::p).reverse)++um) true (some 4),V,.a [u4,u5,u4,u5] true none,V,cD.b],[]⟩))))/\(u6=false->Q (.b 0,[.d,u2,N,P,.a .i64 I],⟨1,[.a (bh (q::p).reverse) true (some 4)],[]⟩))) (λuu=>uc/\ab 0 O/\aS ud (p.length+1)/\uu)) [.a .i8 (cond up T C),.a .i64 (cond up U F),.a .i8 (cond ur W G),.a .i64 (cond ur H B)]) (vz T U W H C F G B) (ab (gc G B W H) 0)) (ab 0 (gc C F T U)) (dx uo) (dx un)) (.a um true none) (ο (bh (q::p).reverse) ul A) (ο (bh (q::p).reverse) (ξ ul 1) A) (dx uk)) (ο (bh (q::p).reverse) uj A) (dx ui) [.a .i8 C,.a .i64 F,.a .i8 G,.a .i64 B] (ξ uj 1)) (ο (bh (q::p).reverse) E A) (dx uh) (dx ug) (ξ E 1)) (ο (bh R) ub A) (ο (bh R) (ξ ub 1) A) (dx ua) (ξ 0 (π ud 4))) (ο (bh R) u8 A) (.a .i64 u9) (af .i64 O) (af .i64 u9) (dx u7) (ξ u8 1) O.toNat) (.a .i64 Y) (ο (bh R) Z A) (not (ab Y I)) (Int.sub u0 1) (Int.add I 1) (ξ Z 1)) (.c []) (.b 14 0 R.length K) (.b 15 0 (p.length+1) (fg.a 0)) (.a .i8 0) (.a .i64 0) (ν i) (ν R.length) (ν (p.length+1)) (ξ 0 (π i 4)) (bh (q::p).reverse).length (ξ (p.length+1) 1)) (λ_=>by kernel_rfl) λQ' hQ=>?_;try dsimp only
     have e0:bh (q::p).reverse=bh p.reverse++(bh [q]++[]):=by rw[Β,ym,List.append_nil]
     have lp:(bh p.reverse).length=p.length*4:=by rw[kC,ω]
     by_cases hlt:i<R.length
     . obtain⟨j1,j2,j3⟩:=facts hlt;obtain⟨f1,f2,f3,f4⟩:=afL (A:=bh (R.take i)) (B:=bh (R.drop (i+1))) (r:=R.getD i fo) (n:=i) (by rw[kC,Γ,Nat.min_eq_left hi]);rw[<-abI hlt]at f1 f2 f3 f4;obtain⟨g1,g2,g3,g4⟩:=afL (A:=bh p.reverse) (B:=[]) (r:=q) lp;rw[<-e0]at g1 g2 g3 g4;have hl:p.length+1<=i:=by
        have h:(abL (R.take i)).length<=([]:List Rn).length+(R.take i).length:=adT;rw[hacc,Γ,Nat.min_eq_left hi]at h;simpa using h
       have mem:∀x∈R,IJ x.d:=λx hx=>by
        obtain⟨k,hk,rfl⟩:=List.getElem_of_mem hx;have:=hR k hk
        rwa [List.getD_eq_getElem?_getD,List.getElem?_eq_getElem hk]at this
       have hin:∀x∈q::p,IJ x.d:=λx hx=>aeu (acc:=[]) (λx hx=>by cases hx) (λx hx=>mem x (List.mem_of_mem_take hx)) x (by show x∈abL (R.take i);rw[hacc];exact hx);have i1:af .i64 q.d=true:=by rw[aE];exact hin q Α
       have i2:af .i64 (R.getD i fo).d=true:=by rw[aE];exact hR i hlt
       have pm:Int.toNat (Int.sub (ν (p.length+1)) 1)=p.length:=Q1;have m1:af .i64 (Int.sub (ν (p.length+1)) 1)=true:=by
        rw[aE];simp only[eH,eE];show _<=((p.length+1:Nat):Int)-1/\((p.length+1:Nat):Int)-1<=_;omega
       have m2:ab 0 (Int.sub (ν (p.length+1)) 1)=true:=by
        rw[aq];show(0:Int)<=((p.length+1:Nat):Int)-1;omega
       have m3:aS p.length (p.length+1)=true:=aU.2 (Nat.lt_succ_self _);have m4:ab (ν (p.length+1)) 0=false:=by rw[bF];simp only[σ];omega
       have le:(bh (q::p).reverse).length=(p.length+1)*4:=by rw[kC,ω];rfl
       have m5:ς (0+p.length*4+4) (bh (q::p).reverse).length=true:=by rw[al,le];omega
       have m6:τ (bh (q::p).reverse).length ((p.length+1)*4)=true:=aJ.mpr le;have m7:ς (p.length+1+1) 1000000=true:=by rw[al];omega
       rw[pm];generalize hr:R.getD i fo=r at *;have hs:abL (R.take (i+1))=bif acE q r then fD q r::p else r::q::p:=by rw[nx hlt,hacc];rfl
       simp only[f1,f2,f3,f4,g1,g2,g3,g4,kk,io,i1,i2,j1,j2,j3,m1,m2,m3,m4,m5,m6,m7,zAi,true_and,and_true,true_imp_iff,reduceCtorEq,false_imp_iff];unfold acE at hs;cases ht:vz q.a q.b q.c q.d r.a r.b r.c r.d with
       | true=>
         rw[ht,cond_true]at hs;simp only[true_and,and_true,true_imp_iff,reduceCtorEq,false_imp_iff];refine hQ _ ⟨⟨i+1,hlt⟩,by dsimp only;omega,?_⟩;dsimp only;rw[hs];have ep:JL (bh (q::p).reverse) (0+p.length*4) (bh [fD q r])=bh (fD q r::p).reverse:=by
          rw[e0,Δ,afA lp,Β,ym];rfl
         refine aeh (k:=0) hw (by decide) ?_ hH ?_
         . exact congrArg (λc=>cD.a c true (some 4)) ep
         . show some _=some _;simp[ajI]
       | false=>
         rw[ht,cond_false]at hs;simp only[true_and,and_true,true_imp_iff,reduceCtorEq,false_imp_iff];refine hQ _ ⟨⟨i+1,hlt⟩,by dsimp only;omega,?_⟩;dsimp only;rw[hs];have ep:bh (q::p).reverse++bh [r]=bh (r::q::p).reverse:=by
          rw[Β (a:=r),ym]
         refine aeh (k:=4) hw (by decide) ?_ hH ?_
         . exact congrArg (λc=>cD.a c true (some 4)) ep
         . rfl
     . obtain rfl:i=R.length:=by omega
       have j1:ab (ν R.length) (ν R.length)=true:=by rw[aq];exact Int.le_refl _
       simp only[j1,υ,reduceCtorEq,false_imp_iff,true_and,true_imp_iff];refine hQ _ ⟨_,_,VW.a0,?_⟩;rw[List.take_length]at hacc;unfold aaq aaO at hq;rw[hacc,ω]at hq;exact hq
 . cases hv
theorem QW(hR:∀i,i<R.length->IJ (R.getD i fo).d)(h1:1<=R.length)(hn:R.length<=1000):bu Tryz.prog cfg 82 [.b 14 0 R.length K] [.a (bh R) false none] (.b 15 0 (aaq R) (.b (aaq R))) [.a (bh (aaO R)) true (some 4)]:=by
 refine Bu agO (L:=MJ R) alD (by simp) (dv ajg λi hi e he st Q hw=>?_) (jJ (bE 11142020074) (R:=λQ=>(λ(A C E:Bool)(B:Int)(F:Prop)=>(A->ς 1 R.length/\ς R.length 1000/\aa B B/\(∀J1:Nat->Value,C/\C/\(E->F)/\(E=false->F)))/\(A=false->False)) (τ R.length R.length) (ς (aaq R) (aaq R)) (τ (aaq R) 0) (ν R.length) (Q (.b 15 0 (HSub.hSub (aaq R) 0) (fg.b (HSub.hSub (aaq R) 0)),⟨1,[.a (bh (aaO R)) true (some 4)],[]⟩))) (λ_=>by rfl) λQ' hQ=>?_)
 . have hi:i=0:=by grind
   subst hi;cases he;exact bR (cC.a0 agO) (by decide) rfl (aot hR) hw
 . try dsimp only
   have hQ:Q' (AV.b 15 0 (aaq R-0) (fg.b (aaq R-0)),⟨1,[cD.a (bh (aaO R)) true (some 4)],[]⟩):=hQ _ dL.b0;rw[show τ R.length R.length=true from aJ.mpr rfl,show ς 1 R.length=true from al.mpr h1,show ς R.length 1000=true from al.mpr hn,show ς (aaq R) (aaq R)=true from al.mpr (χ _)];simp only[true_and,and_true,true_imp_iff,reduceCtorEq,false_imp_iff];exact⟨ao.mpr rfl,λ_=>⟨λ_=>hQ,λ_=>hQ⟩⟩
end Go.Ev
