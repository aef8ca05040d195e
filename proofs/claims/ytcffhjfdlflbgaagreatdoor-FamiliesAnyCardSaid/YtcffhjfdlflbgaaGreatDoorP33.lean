import Derived.Test.YtcffhjfdlflbgaaGreatDoorP32
set_option linter.all false
open Int renaming ofNat->ν
open Nat renaming ble->ξ
set_option linter.all false
set_option maxRecDepth 100000
set_option maxHeartbeats 4000000
namespace Go.Ev
open Go Go.Proofs
variable{S:aQ}{L:List It}{i n nb f:Nat}{ws B:List cD}{rel:List Nat}{ea la:Bool}{x:It}{E:cD}{D:DT}
def oB(x:It):Int:=aP x.f.ng x.f.s x.f.e x.f.mo x.f.da
def mw(x:It):Int:=bif x.r then bq x.t.ng x.t.s x.t.e x.t.mo x.t.da else bq x.f.ng x.f.s x.f.e x.f.mo x.f.da
def kW(ea la:Bool)(x:It):Rn:=⟨bif ea then -1 else 0,bif ea then 0 else oB x,bif la then 1 else 0,bif la then 0 else mw x⟩
def W2(ea la:Bool)(L:List It)(i:Nat):Rn:=kW (ea&&Nat.beq i 0) (la&&Nat.beq (i+1) L.length) (L.getD i fP)
def km(ea la:Bool)(L:List It)(n:Nat):List Rn:=(List.range n).map (W2 ea la L)
def gN(x:Da):Bool:=fL x.ng x.lg x.s x.e x.g x.mo x.da x.a x.b x.c
def nD(x:It):Bool:=gN x.f&&(!x.r || gN x.t)
def vS(x:Rn):AV:=.h [.a .i8 x.a,.a .i64 x.b,.a .i8 x.c,.a .i64 x.d]
def yh:dP:=λ
 | [.h [.b ng,.b lg,.e s,.a .i64 e,.a .i64 g,.e mo,.e da,.a .u8 a,.a .u8 b,.a .u8 c,.b r,.b ng',.b lg',.e s',.a .i64 e',.a .i64 g',.e mo',.e da',.a .u8 a',.a .u8 b',.a .u8 c'],.b ea,.b la]=>some (aH [nD ⟨⟨ng,lg,s,e,g,mo,da,a,b,c⟩,r,⟨ng',lg',s',e',g',mo',da',a',b',c'⟩⟩] (.a0 (vS (kW ea la ⟨⟨ng,lg,s,e,g,mo,da,a,b,c⟩,r,⟨ng',lg',s',e',g',mo',da',a',b',c'⟩⟩))))
 | _=>none
def TM:aQ:=d5 gZ 75 tZ
def TA:aQ:=d5 gZ 29 yh
def yT:Bool->Bool->Prop->Prop
 | true,b,X=>b/\X
 | false,_,X=>X
theorem PA(x y:Da)(r ea la:Bool){Q:AV->Prop}:gG Q (pT TM jE 29 [.h (x.cs++.b r::y.cs),.b ea,.b la]) (bE 1005620562006)=(gN x/\yT r (gN y) (Q (vS (kW ea la ⟨x,r,y⟩)))):=by
 cases r<;>cases ea<;>cases la<;>kernel_rfl
theorem akb:ec tab 29=some (dH 29,aL 29):=by rfl
theorem ajS(hS:ak Tryz.prog cfg S):ak Tryz.prog cfg (d5 S 29 yh):=au hS λargs t v he hv=>by
 unfold yh at he;split at he
 . cases he;obtain⟨⟨h1,-⟩,hv⟩:=aF hv;cases hv;refine kA (afy aW) (L:=jE) akb (by simp) ai (eD λQ' hQ=>cg ((PA ⟨_,_,_,_,_,_,_,_,_,_⟩ ⟨_,_,_,_,_,_,_,_,_,_⟩ _ _ _).mpr ?_)) (by rfl);unfold nD at h1;rw[zAa]at h1;refine⟨h1.1,?_⟩;rename_i r _ _ _ _ _ _ _ _ _ _ _ _;cases r
   . exact hQ _ rfl
   . exact⟨h1.2,hQ _ rfl⟩
 . cases he
def z8(a:Nat->AV):List Bool:=[Sn (a 0),Sn (a 1),Iq (a 2),eB .i64 (a 3),eB .i64 (a 4),Iq (a 5),Iq (a 6),eB .u8 (a 7),eB .u8 (a 8),eB .u8 (a 9)]
def Be(a:Nat->AV):Da:=⟨KK (a 0),KK (a 1),C9 (a 2),dx (a 3),dx (a 4),C9 (a 5),C9 (a 6),dx (a 7),dx (a 8),dx (a 9)⟩
def tg(a:Nat->AV):List Bool:=z8 a++Sn (a 10)::z8 λk=>a (k+11)
def jQ(a:Nat->AV):It:=⟨Be a,KK (a 10),Be λk=>a (k+11)⟩
def wF(w:List AV)(i k:Nat):AV:=w.getD (0+i*21+k) bt
theorem afB(h:i<L.length):Tk (tg (wF (dp L) i))/\jQ (wF (dp L) i)=L.getD i fP:=by
 have e:∀k,k<21->wF (dp L) i k=(dp [L.getD i fP]).getD k bt:=λk hk=>by
  unfold wF;rw[Nat.zero_add];exact adN h k hk
 simp only[tg,jQ,z8,Be,e,Nat.reduceAdd,Nat.reduceLT];exact⟨⟨rfl,rfl,rfl,rfl,rfl,rfl,rfl,rfl,rfl,rfl,rfl,rfl,rfl,rfl,rfl,rfl,rfl,rfl,rfl,rfl,rfl,trivial⟩,rfl⟩
theorem af8(hw:∀x∈ws,cR 14 x){tn:Nat}{vs vs':List AV}{x:cD}{top:List cD}{kb k:Nat}(hB:B.length=kb)(hn:n=kb+top.length)(hk:kb<=k)(hkn:k<n)(h1:(top++B).getD (n-1-k) .b=x)(hlow:∀b∈B,cR (14+ws.length+kb) b)(hx:cR (14+ws.length+kb) x)(hvs:yw (kG (14+ws.length+kb) [(14+ws.length+k,14+ws.length+kb)] 20) vs=some vs'):VW cfg (Cw cfg ws) kb tn rel vs ⟨n,top++B,[]⟩ vs' ⟨kb+1,x::B,[]⟩:=by
 subst hn;have at0:∀(os:List cD) (n i:Nat),(⟨n,os,[]⟩:aB).at i=os.getD (n-1-i) .b:=λos n i=>rfl;refine VW.d0 eb.lv (C:=Cw cfg ws) (kb:=kb) (sel:=[k]) (B6 hw) (Nat.le_add_right _ _) (λs hs=>?_) (by simp) (λp hp=>by grind) rfl rfl (by grind) (λi hi=>?_) (λt ht=>?_) hvs
 . grind
 . have e1:(⟨kb+1,x::B,[]⟩:aB).at i=B.getD (kb-1-i) .b:=by
    grind
   have e2:(⟨kb+top.length,top++B,[]⟩:aB).at i=B.getD (kb-1-i) .b:=by
    grind
   rw[e1,e2];refine⟨rfl,?_⟩;have hlt:kb-1-i<B.length:=by omega
   rw[zAf,List.getElem?_eq_getElem hlt];exact hlow _ (List.getElem_mem hlt)
 . have:t=0:=by grind
   subst this;refine .inl ⟨?_,?_⟩
   . grind
   . show cR (14+ws.length+kb) ((⟨kb+top.length,top++B,[]⟩:aB).at k);grind
theorem agv:km ea la L (n+1)=km ea la L n++[W2 ea la L n]:=by
 grind [km,List.range_succ]
theorem N2{ea la:Bool}{L:List It}{n:Nat}:(km ea la L n).length=n:=by simp[km]
theorem abX{k:Int}{K:fg}{b:Nat}(hb:14<b):cR b (.a (fS k (.c 14 0 n K) ea la) true none):=⟨rfl,λi hi=>by simp_all [fS,HL,bw,aC]⟩
theorem ajr(h:aap 4 x):fL x.f.ng x.f.lg x.f.s x.f.e x.f.g x.f.mo x.f.da x.f.a x.f.b x.f.c/\(x.r->fL x.t.ng x.t.lg x.t.s x.t.e x.t.g x.t.mo x.t.da x.t.a x.t.b x.t.c=true):=by
 unfold aap mB at h;simp only[zAa,show aa (4:Int) 4=true from rfl,Bool.not_true,Bool.false_or]at h;obtain⟨v1,v2,v3⟩:=h;refine⟨qd v1 v3,λhr=>?_⟩;rw[hr,cond_true,zAa]at v2;have ho:=v2.2;unfold mV at ho;simp only[zAa]at ho;exact qd v2.1 (qc.1 ho.2.1).1
theorem ahr(h:aap 4 x):nD x=true:=by
 grind [ajr,nD,gN]
theorem rB{f:AV->Option AV}:∀{a a' b b':List AV},yw f a=some a'->yw f b=some b'->yw f (a++b)=some (a'++b')
 | [],a',b,b',h1,h2=>by cases h1;grind
 | x::a,a',b,b',h1,h2=>by
   simp only[yw,ag,zAb]at h1;obtain⟨v,hv,vs,hvs,rfl⟩:=h1;have:=rB hvs h2;grind [yw,ob]
def ij(k:Nat)(x:List AV)(E:List cD):AV×aB->AV×aB
 | (.c _ _ m _,⟨n,.a cs _ _::os,_⟩)=>(.c (16+(n+E.length)) 0 (m+1) (.a 0),⟨n+E.length+2,.a (cs++x) true (some k)::.a x true none::(E++.b::os),[]⟩)
 | (_,o)=>(.c (16+(o.n+E.length)) 0 1 (.a 0),⟨o.n+E.length+2,.a x true (some k)::.a x true none::(E++o.os),[]⟩)
abbrev Ac:=Option (Nat×List AV)
def fF:List Rn->Ac
 | []=>none
 | r::R=>some (R.length+1,bh (r::R))
def nk(k:Nat):Ac->Prop->Prop
 | none,X=>X
 | some (m,cs),X=>(ξ (m+1) 1000000&&true&&true)/\(true&&Nat.beq cs.length (m*k))/\X
def w6(k nb:Nat)(B:List cD):Ac->AV×aB
 | none=>(.f,⟨nb,B,[]⟩)
 | some (m,cs)=>(.c (15+nb) 0 m (.a 0),⟨nb+1,.a cs true (some k)::B,[]⟩)
def rC(r:Rn):List AV:=[.a .i8 r.a,.a .i64 r.b,.a .i8 r.c,.a .i64 r.d]
def ba(n i:Nat)(X E:Prop):Prop:=(not (ab (ν n) (ν i))->X)/\(not (ab (ν n) (ν i))=false->E)
def nR(i:Nat)(X:Prop):Prop:=af .i64 (Int.add (ν i) 1)/\X
abbrev iV(i:Nat):AV:=.a .i64 (ν i)
abbrev iX(i:Nat):AV:=.a .i64 (Int.add (ν i) 1)
def vI(nb:Nat)(B:List cD)(M:List Rn)(st:AV×aB):Prop:=∃t:List cD,M≠[]/\st=(.c (15+nb+t.length) 0 M.length (.a 0),⟨nb+t.length+1,(.a (bh M) true (some 4)::t)++B,[]⟩)
theorem aj4{E:List cD}{M:List Rn}{st:AV×aB}{x:Rn}(h:vI nb B M st):vI nb B (M++[x]) (ij 4 (rC x) E st):=by
 obtain⟨t,hM,rfl⟩:=h;refine⟨.a (rC x) true none::(E++.b::t),by simp,?_⟩;simp only[ij,List.cons_append,List.append_assoc,zAd,zAe,List.length_nil,ym];rw[show 16+(nb+t.length+1+E.length)=15+nb+(E.length+(t.length+1)+1)by omega,show nb+t.length+1+E.length+2=nb+(E.length+(t.length+1)+1)+1 by omega];rfl
theorem aeH{E:List cD}{L:List Rn}{x:Rn}:vI nb B (L++[x]) (ij 4 (rC x) E (w6 4 nb B (fF L))):=by
 cases L with
 | nil=>
   refine⟨.a (rC x) true none::E,by simp,?_⟩;simp only[ij,w6,fF];rw[show 16+(nb+E.length)=15+nb+(E.length+1)by omega];rfl
 | cons y L=>exact aj4 ⟨[],by simp,rfl⟩
theorem aeW{M:List Rn}{st:AV×aB}{w:List AV}{tn:Nat}(h:vI nb B M st)(hw:∀x∈[cD.a w false none],cR 14 x)(hB:B.length=nb)(hlow:∀b∈B,cR (15+nb) b){P T:List AV}(hP:∀ρ,yw (kG (15+nb) ρ 20) P=some P)(hT:∀ρ,yw (kG (15+nb) ρ 20) T=some T):VW cfg (Cw cfg [.a w false none]) nb tn rel (P++st.1::T) st.2 (P++(w6 4 nb B (fF M)).1::T) (w6 4 nb B (fF M)).2:=by
 obtain⟨t,hM,rfl⟩:=h;obtain⟨y,L,rfl⟩:=List.exists_cons_of_ne_nil hM;refine af8 (top:=.a (bh (y::L)) true (some 4)::t) (k:=nb+t.length) hw hB (by simp only[zAd];omega) (Nat.le_add_right _ _) (by omega) ?_ hlow hH ?_
 . rw[show nb+t.length+1-1-(nb+t.length)=0 by omega];rfl
 . rw[show 14+[cD.a w false none].length=15 from rfl];refine rB (hP _) ?_;rw[yw,hT];have e1:To (15+nb) [(15+(nb+t.length),15+nb)] (15+nb+t.length)=some (15+nb):=by
    rw[To,show aS (15+nb+t.length) (15+nb)=false from by cases h:aS (15+nb+t.length) (15+nb)<;>first|rfl|(rw[aU]at h;omega),Nat.add_assoc];simp[xx]
   simp only[kG,e1,ob,w6,fF];rfl
theorem abi{X E:Prop}(hi:i<=n)(hX:i<n->X)(hE:i=n->E):ba n i X E:=by
 constructor
 . intro h;refine hX ?_;simp[bF]at h;omega
 . intro h;refine hE ?_;simp[aq]at h;omega
theorem aaH{X:Prop}(h:i<n)(hn:n<=1000)(hX:X):nR i X:=⟨by rw[aE];simp[eH,eE];omega,hX⟩
theorem abE{L:List Rn}{X:Prop}(h:L.length<=3000)(hX:X):nk 4 (fF L) X:=by
 cases L with
 | nil=>exact hX
 | cons y L=>
   rw[zAd]at h;exact⟨by simp[al];omega,aJ.mpr kC,hX⟩
theorem afz{k:Nat}{ac:Ac}:nb<=(w6 k nb B ac).2.n:=by
 rcases ac with _|⟨m,cs⟩
 . exact Nat.le_refl _
 . exact Nat.le_succ _
def s7(o:aB)(F:Int->Nat->fg->Bool->Bool->Tr VQ):Option (Tr VQ):=match o with
 | ⟨1,[.a (.a .u8 k1::.b false::.b false::.e []::.a .i64 0::.a .i64 0::.e []::.e []::.a .u8 0::.a .u8 0::.a .u8 0::.a .u8 0::.b false::.b false::.e []::.a .i64 0::.a .i64 0::.e []::.e []::.a .u8 0::.a .u8 0::.a .u8 0::.a .u8 0::.b false::.b false::.e []::.a .i64 0::.a .i64 0::.e []::.e []::.a .u8 0::.a .u8 0::.a .u8 0::.c 14 0 m K1::.b ea1::.b la1::[]) true none],[]⟩=>some (F k1 m K1 ea1 la1)
 | _=>none
def ie(k:Int)(n:Nat)(K:fg)(ea la:Bool):cD:=.a (fS k (.c 14 0 n K) ea la) true none
theorem aec{o:aB}{F:Int->Nat->fg->Bool->Bool->Tr VQ}{t:Tr VQ}(h:s7 o F=some t):∃k m K ea la,o=⟨1,[ie k m K ea la],[]⟩/\F k m K ea la=t:=by
 unfold s7 at h;split at h
 . exact⟨_,_,_,_,_,rfl,Option.some.inj h⟩
 . cases h
theorem WK(hS:ak Tryz.prog cfg S){tn xk:Nat}(htn:aS tn 1000000)(hrel:nP tn rel)(hE:cR 16 E){P:List AV}{T:AV->List AV}(hP:∀ρ,yw (kG 16 ρ 20) P=some P)(hT:∀ρ e,yw (kG 16 ρ 20) (T (.a .i64 e))=some (T (.a .i64 e)))
 (hr:∀i,i<=L.length->∀J (Q:VQ->Prop),(i<L.length->∀B,Q (.a,P++(ij 4 (rC (W2 ea la L i)) B (w6 4 1 [E] (fF (km ea la L i)))).1::T (iX i),(ij 4 (rC (W2 ea la L i)) B (w6 4 1 [E] (fF (km ea la L i)))).2))->(i=L.length->Q (.b xk,P++(w6 4 1 [E] (fF (km ea la L i))).1::T (iV i),(w6 4 1 [E] (fF (km ea la L i))).2))->(rT S jE [.a (dp L) false none] f 0 tn rel (P++(w6 4 1 [E] (fF (km ea la L i))).1::T (iV i)) J (w6 4 1 [E] (fF (km ea la L i))).2).wp Q)
 {Q:VQ->Prop} (hq:Q (.b xk,P++(w6 4 1 [E] (fF (km ea la L L.length))).1::T (iV L.length),(w6 4 1 [E] (fF (km ea la L L.length))).2)) (J:Nat->Value):bN Tryz.prog (cH cfg S) (Cw cfg [.a (dp L) false none]) (.loop (lb f 0)) (tr tn rel (P++.f::T (.a .i64 0)) J ⟨1,[E],[]⟩) λr=>∃ax vs' o' J',Q (ax,vs',o')/\r=(ax,tr tn rel vs' J' o'):=by
 refine ia hS htn hrel ai (ι:={i:Nat // i<=L.length}) (λx=>P++(w6 4 1 [E] (fF (km ea la L x.1))).1::T (iV x.1)) (λx=>(w6 4 1 [E] (fF (km ea la L x.1))).2) (λx=>L.length-x.1) 1 (λx=>afz) (λx J=>?_) (Nat.le_refl _) (λJ=>Wk.a0 ⟨⟨0,Nat.zero_le _⟩,J,rfl⟩) J;obtain⟨i,hi⟩:=x;refine eD λQ' hQ=>hr i hi J Q' (λhl B=>hQ _ ⟨⟨i+1,hl⟩,by dsimp only;omega,?_⟩) λh=>?_
 . dsimp only;rw[agv];exact aeW (nb:=1) aeH dT rfl (by simpa using hE) hP λ ρ=>hT ρ _
 . subst h;exact hQ _ ⟨_,_,VW.a0,hq⟩
def sh(la:Bool)(n:Nat)(X:Prop):Prop:=yT la (af .i64 (Int.sub (ν n) 1)) X
theorem aeY{la:Bool}{n:Nat}{X:Prop}(h:n<=1000)(hX:X):sh la n X:=by
 cases la
 . exact hX
 . exact⟨by grind [aE,eH,eE],hX⟩
theorem rA(w:List AV)(n i:Nat)(K K1:fg)(J:Nat->Value){Q:VQ->Prop}:∀(ac:Ac) (ea la:Bool),∃D,gG Q (rT TA jE [.a w false none] 7 0 103 [1,2,3,5,6,34,35,36] [.g 15 0,.f,.a .i64 0,.f,(w6 4 1 [ie 4 n K1 ea la] ac).1,.c 14 0 n K,iV n,iV i] J (w6 4 1 [ie 4 n K1 ea la] ac).2) D=ba n i (aS i n/\nE (tg (wF w i)) (sh la n (nE [nD (jQ (wF w i))] (nk 4 ac (nR i (Q (.a,[.g 15 0,.f,.a .i64 0,.f,(ij 4 (rC (kW (ea&&aa (ν i) 0) (la&&aa (ν i) (Int.sub (ν n) 1)) (jQ (wF w i)))) [.a (dp [jQ (wF w i)]) true none] (w6 4 1 [ie 4 n K1 ea la] ac)).1,.c 14 0 n K,iV n,iX i],(ij 4 (rC (kW (ea&&aa (ν i) 0) (la&&aa (ν i) (Int.sub (ν n) 1)) (jQ (wF w i)))) [.a (dp [jQ (wF w i)]) true none] (w6 4 1 [ie 4 n K1 ea la] ac)).2))))))) (Q (.b 1,[.g 15 0,.f,.a .i64 0,.f,(w6 4 1 [ie 4 n K1 ea la] ac).1,.c 14 0 n K,iV n,iV i],(w6 4 1 [ie 4 n K1 ea la] ac).2))
 | none,true,true=>⟨bE 11205255662000666662777777704,by kernel_rfl⟩
 | none,true,false=>⟨bE 1120520666666662777777704,by kernel_rfl⟩
 | none,false,true=>⟨bE 11205255662000666662777777704,by kernel_rfl⟩
 | none,false,false=>⟨bE 1120520666666662777777704,by kernel_rfl⟩
 | some (m,cs),true,true=>⟨bE 1122520255662000666662777777704,by kernel_rfl⟩
 | some (m,cs),true,false=>⟨bE 112252020666666662777777704,by kernel_rfl⟩
 | some (m,cs),false,true=>⟨bE 1122520255662000666662777777704,by kernel_rfl⟩
 | some (m,cs),false,false=>⟨bE 112252020666666662777777704,by kernel_rfl⟩
theorem afR:(bz (aL 7)).map (·.1)=[1]:=by rfl
theorem aj6:ak Tryz.prog cfg TA:=ajS aW
def Do(L:List It)(ea la:Bool):dW:=λvs o=>match vs with
 | [.g 15 0,.f,.a .i64 z,.f,.f,.c 14 0 n K,.a .i64 n',.a .i64 i]=>s7 o λk1 m K1 ea1 la1=>aH [Nat.beq L.length n,Nat.beq m n,aa n' (ν n),aa i 0,aa z 0,aa k1 4,bQ ea1 ea,bQ la1 la] (.a0 (.b 1,[.g 15 0,.f,.a .i64 0,.f,.c 16 0 n (.a 0),.c 14 0 n K,.a .i64 n',.a .i64 (ν n)],⟨2,[.a (bh (km ea la L n)) true (some 4),.a (fS 4 (.c 14 0 n K1) ea la) true none],[]⟩))
 | _=>none
theorem af7(h:1<=L.length):w6 4 1 [E] (fF (km ea la L L.length))=(.c 16 0 L.length (.a 0),⟨2,[.a (bh (km ea la L L.length)) true (some 4),E],[]⟩):=by
 have hl:=@N2 ea la L L.length;cases hR:km ea la L L.length<;>rw[hR]at hl
 . rw[<-hl]at h;cases h
 . rw[<-hl];rfl
theorem ao2(h:nI 4 ea la L):cu Tryz.prog (cH cfg TA) (Cw cfg [.a (dp L) false none]) (lb 7 0) 103 [1,2,3,5,6,34,35,36] (Do L ea la):=by
 intro vs o t Q hv hq J;unfold Do at hv;split at hv
 . obtain⟨k1,m,K1,ea1,la1,rfl,rfl⟩:=aec hv;replace hq:=cO hq;obtain⟨⟨h1,h2,h3,h4,h5,h6,h7,h8,-⟩,hq⟩:=hq;rw[aJ]at h1 h2;rw[ao]at h3 h4 h5 h6;replace h7:=yl h7;replace h8:=yl h8;subst h1 h2 h3 h4 h5 h6 h7 h8;refine WK aj6 rfl rfl (abX (by decide)) (ea:=ea1) (la:=la1) (P:=[_,_,_,_]) (T:=λe=>[_,_,e]) (λ_=>rfl) (λ_ _=>rfl) (λi hi J Q hX hE=>?_) (by rw[af7 h.n1];exact hq) J;obtain⟨D,hD⟩:=@rA (dp L) L.length i _ K1 J Q (fF (km ea1 la1 L i)) ea1 la1;refine cg (hD.mpr (abi hi (λhl=>?_) hE));obtain⟨k1,k2⟩:=afB hl;have n2:=h.n2;rw[k2,show aa (ν i) (Int.sub (ν L.length) 1)=Nat.beq (i+1) L.length by grind [aJ,ao]];exact⟨aU.2 hl,mz (aeY (by omega) (mz (abE (by rw[N2];omega) (aaH hl (by omega) (hX hl _))) (bs:=[_]) ⟨ahr (h.it i hl),trivial⟩)) k1⟩
 . cases hv
def ft(k:Int)(days:AV)(x:Da)(p a b c d:Int):List AV:=.a .u8 k::days::.b x.ng::.b x.lg::.e x.s::.a .i64 x.e::.a .i64 x.g::.e x.mo::.e x.da::.a .u8 x.a::.a .u8 x.b::.a .u8 x.c::.a .u8 p::.a .i8 a::.a .i64 b::.a .i8 c::.a .i64 d::[]
def aab(a b c d:Int):List AV:=[.a .i8 a,.a .i64 b,.a .i8 c,.a .i64 d]
theorem abj(hS:ak Tryz.prog cfg S){L:cx}{args:List AV}{v:AV}{news:List cD}{R:(EQ->Prop)->Prop}(hb:ec tab f=some (dH f,aL f))(hlen:args.length<=1000)(hL:qI Tryz.prog (cH cfg S) (Cw cfg ws) L (aL f))(hw:∀Q:EQ->Prop,gG Q (bT S L ws f args) D=R Q)(h:∀Q:EQ->Prop,(∀q,dL ws v news q->Q q)->R Q):bu Tryz.prog cfg f args ws v news:=
 Bu hS (L:=L) hb hlen hL (eD λQ' hQ=>cg ((hw Q').mpr (h Q' hQ)))
def CH:dP:=λ
 | [.h [.b ng,.b lg,.e s,.a .i64 e,.a .i64 g,.e mo,.e da,.a .u8 a,.a .u8 b,.a .u8 c]]=>some (aH [fL ng lg s e g mo da a b c,aa (aR mo) 0] (.a0 (.d [.a .u8 (dq mo da),.a .i64 0])))
 | _=>none
def TP:aQ:=d5 (d5 (d5 gZ 42 wD) 80 Wa) 81 aiQ
theorem anV:ak Tryz.prog cfg TP:=ahQ (bm (aib aW) (Uy 80 _ rfl))
theorem al4(hS:ak Tryz.prog cfg S):ak Tryz.prog cfg (d5 S 30 CH):=by
 refine au hS λargs t v he hv=>?_;unfold CH at he;split at he
 . rename_i ng lg s e g mo da a b c;cases he;replace hv:=aF hv;obtain⟨⟨h1,h2,-⟩,hv⟩:=hv;cases hv;obtain⟨h6,i1,i2,i3,i4,h0,hx,rfl⟩:=ye.1 h1;obtain⟨lm,ld,hds⟩:=aaX h0;obtain⟨p1,p2,p3,p4,p5,p6,p7⟩:=aaj h0 hx h6;have hv:wa ng lg s e 0 mo da a b c=true:=yn.2 ⟨h6,i1,by rfl,i2,i3,i4,h0⟩;have hxm:eA mo=false:=by
    grind [eA,aJ,Dj]
   have hnu:ae mo []=false->ab (XR mo) 12=true:=λhb=>by
    rw[ao]at h2;rw[aq];exact(aaU h0 hx hb h2).2
   refine jD anV ai (bE 1147020700014014002006) (R:=λQ=>wa ng lg s e 0 mo da a b c/\(not (ae da [])->Q (.d [.a .u8 3,.a .i64 0]))/\(not (ae da [])=false->(ae mo []->Q (.d [.a .u8 1,.a .i64 0]))/\(ae mo []=false->ξ mo.length 1000000/\not (eA mo)/\not (eA mo)/\not (eA mo)/\H4 mo/\not (eA mo)/\not (eA mo)/\(not (ab (XR mo) 12)->Q (.d [.a .u8 0,.a .i64 0]))/\(not (ab (XR mo) 12)=false->Q (.d [.a .u8 2,.a .i64 0]))))) (λ_=>by rfl) λQ' hQ=>?_;try dsimp only
   have hQ:=hQ _ rfl;unfold dq at hQ;have n1:ξ mo.length 1000000=true:=al.mpr (by omega);grind
 grind
def rE:aav:=λ
 | [.h [.b ng,.b lg,.e s,.a .i64 e,.a .i64 g,.e mo,.e da,.a .u8 a,.a .u8 b,.a .u8 c]],[]=>some (aH [wa ng lg s e g mo da a b c] (.d0 (ab 1 g) λp=>bif p then .a0 (.h (ft 3 .f gL 1 0 (bf (jI ng s e g)) 0 (bf (jL ng s e g+1)-1)),[])else .d0 (cK s g mo da) λq=>bif q then .a0 (.h (ft 1 (.c 14 0 1 (.b 1)) gL 0 0 0 0 0),[.a (aab 0 (aP ng s e mo da) 0 (bq ng s e mo da)) true none])else .a0 (.h (ft 2 .f ⟨ng,lg,s,e,0,mo,da,0,0,0⟩ 0 0 0 0 0),[])))
 | _,_=>none
def Gz:aQ:=d5 (d5 (d5 (d5 gZ 43 XZ) 73 B8) 74 B_) 75 tZ
def OC(x:Da){Q:EQ->Prop}:gG Q (bT Gz jE [] 26 [.h x.cs]) (bE 10062006100064700610005200020700540)=fk (not (ab x.g 0)) (nE [ξ x.s.length 1000,aV x.ng x.lg x.s x.e x.g,ab 1 x.g,eO (jI x.ng x.s x.e x.g),eO (jL x.ng x.s x.e x.g)] (Q (.h (ft 3 .f gL 1 0 (bf (jI x.ng x.s x.e x.g)) 0 (bf (jL x.ng x.s x.e x.g+1)-1)),⟨4,[.a (aab 0 (bf (jL x.ng x.s x.e x.g)) 0 (bf (jL x.ng x.s x.e x.g+1)-1)) true none,.a (aab 0 (bf (jI x.ng x.s x.e x.g)) 0 (bf (jI x.ng x.s x.e x.g+1)-1)) true none,.a (ft 3 .f gL 1 0 (bf (jI x.ng x.s x.e x.g)) 0 (bf (jL x.ng x.s x.e x.g+1)-1)) true none,.a x.cs true none],[]⟩))) (nE [ξ x.s.length 1000,ξ x.mo.length 1000,ξ x.da.length 1000] (fk (eA (x.s++x.mo++x.da)) (Q (.h (ft 2 .f ⟨x.ng,x.lg,x.s,x.e,x.g,x.mo,x.da,0,0,0⟩ 0 0 0 0 0),⟨2,[.a (ft 2 .f ⟨x.ng,x.lg,x.s,x.e,x.g,x.mo,x.da,0,0,0⟩ 0 0 0 0 0) true none,.a (Da.cs ⟨x.ng,x.lg,x.s,x.e,x.g,x.mo,x.da,0,0,0⟩) true none],[]⟩)) (gN x/\Q (.h (ft 1 (.c 19 0 1 (.b 1)) gL 0 0 0 0 0),⟨6,[.a (aab 0 (aP x.ng x.s x.e x.mo x.da) 0 (bq x.ng x.s x.e x.mo x.da)) true none,.a (ft 1 (.c 19 0 1 (.b 1)) gL 0 0 0 0 0) true none,.a (aab 0 (aP x.ng x.s x.e x.mo x.da) 0 (bq x.ng x.s x.e x.mo x.da)) true none,.a (aab 0 (aP x.ng x.s x.e x.mo x.da) 0 (bq x.ng x.s x.e x.mo x.da)) true none,.a (ft 1 (.c 19 0 1 (.b 1)) gL 0 0 0 0 0) true none,.a x.cs true none],[]⟩)))):=by kernel_rfl
theorem aej{x:Da}(h:dF x):ξ x.s.length 1000/\ξ x.mo.length 1000/\ξ x.da.length 1000=true:=by
 obtain⟨h6,_,_,_,_,_,h0⟩:=yn.1 h;grind [aaX,abT]
theorem alO:ec tab 26=some (dH 26,aL 26):=by rfl
theorem akz:ak Tryz.prog cfg Gz:=afy (anW (ane (TX aW)))
theorem ajL(hS:ak Tryz.prog cfg S):ak Tryz.prog cfg (eQ S 26 (fl 14 [] rE)):=by
 refine bm hS (fW eb.lv Az λargs ws t r he hr=>?_);unfold rE at he;split at he
 . rename_i ng lg s e g mo da a b c;cases he;replace hr:=aF hr;obtain⟨⟨h1,-⟩,hr⟩:=hr;obtain⟨n1,n2,n3⟩:=aej (x:=⟨ng,lg,s,e,g,mo,da,a,b,c⟩) h1;obtain⟨_,_,_,_,_,_,h0⟩:=yn.1 h1;have hY:=(dC (Cc h0) dE).1;have hg0:=agN h0;change (Tr.b0 (bif ab 1 g then _ else _))=_ at hr;have W:∀{v news},(∀Q:EQ->Prop,(∀q,dL [] v news q->Q q)->_)->(∀x∈news,cR 14 x)->bu Tryz.prog cfg 26 [.h (Da.cs ⟨ng,lg,s,e,g,mo,da,a,b,c⟩)] [] v news/\∀x∈news,cR 14 x:=λh hl=>⟨abj akz (L:=jE) alO (by simp) ai (λ_=>OC ⟨ng,lg,s,e,g,mo,da,a,b,c⟩) h,hl⟩;cases hg:ab 1 g with
   | true=>
     rw[hg]at hr;cases hr;obtain⟨s1,s2,-⟩:=ahZ hY (aq.mp hg);refine W (λQ' hQ=>⟨λ_=>mz (hQ _ (dL.a0 rfl rfl rfl rfl)) ⟨n1,hY,hg,bX.2 s1,bX.2 s2,trivial⟩,λh=>?_⟩) λx hx=>by cases hx
     grind [aq]
   | false=>
     rw[hg]at hr;have hz:g=0:=by grind [bF]
     subst hz;change (Tr.b0 (bif cK s 0 mo da then _ else _))=_ at hr;cases hn:cK s 0 mo da<;>rw[hn]at hr<;>cases hr
     . refine W (λQ' hQ=>⟨λh=>(by cases h),λ_=>mz ⟨λ_=>hQ _ (dL.a0 rfl rfl rfl rfl),λh=>?_⟩ ⟨n1,n2,n3,trivial⟩⟩) λx hx=>by cases hx
       dsimp only at h;rw[cK,h]at hn;cases hn
     . have hl:cR 14 (.a (aab 0 (aP ng s e mo da) 0 (bq ng s e mo da)) true none):=⟨rfl,λi hi=>by grind [aab,HL,bw,aC]⟩;refine W (λQ' hQ=>⟨λh=>(by cases h),λ_=>mz ⟨λh=>?_,λ_=>⟨qd h1 hn,hQ _ (dL.c0 (k:=5) rfl rfl hl rfl)⟩⟩ ⟨n1,n2,n3,trivial⟩⟩) λx hx=>by rw[List.mem_singleton.1 hx];exact hl
       dsimp only at h;rw[cK,h]at hn;cases hn
 . cases he
def TQ:aQ:=d5 (d5 (eQ gZ 26 (fl 14 [] rE)) 29 yh) 30 CH
theorem aj0:ak Tryz.prog cfg TQ:=al4 (ajS (ajL aW))
def Un(z:Bool)(c:Nat):AV:=bif z then .c 14 0 0 (.b c)else .f
def S0(z:Bool):List cD:=bif z then[.a [] false none]else[]
theorem jb{z:Bool}:∀x∈S0 z,cR 14 x:=by
 cases z
 . exact λx hx=>by cases hx
 . exact λx hx=>by rw[List.mem_singleton.1 hx];exact⟨rfl,λi hi=>by cases hi⟩
def acB(x:Da)(sl:AV):List AV:=.a .u8 1::.b x.ng::.b x.lg::.e x.s::.a .i64 x.e::.a .i64 x.g::.e x.mo::.e x.da::.a .u8 x.a::.a .u8 x.b::.a .u8 x.c::.a .u8 0::.b false::.b false::.e []::.a .i64 0::.a .i64 0::.e []::.e []::.a .u8 0::.a .u8 0::.a .u8 0::.a .u8 0::.b false::.b false::.e []::.a .i64 0::.a .i64 0::.e []::.e []::.a .u8 0::.a .u8 0::.a .u8 0::sl::.b false::.b false::[]
def sZ(k:Int)(x:Da):List AV:=.a .u8 k::.b x.ng::.b x.lg::.e x.s::.a .i64 x.e::.a .i64 x.g::.e x.mo::.e x.da::.a .u8 x.a::.a .u8 x.b::.a .u8 x.c::[]
def ra(f t:List AV)(sl:AV):List AV:=.a .u8 2::.b false::.b false::.e []::.a .i64 0::.a .i64 0::.e []::.e []::.a .u8 0::.a .u8 0::.a .u8 0::(f++(t++[sl,.b false,.b false]))
abbrev FQ:Type:=AV×List cD
def ags(b:Nat)(v:AV)(o:aB):List Nat:=match v with
 | .d (.c i _ _ _::_)=>(match o.at (i-b)with
   | .a (_::.c j _ _ _::_) _ _=>[j-b,i-b]
   | _=>[i-b])
 | _=>[]
def ai9(b:Nat)(ρ:List (Nat×Nat)):List cD->Option (List cD)
 | []=>some []
 | .a cs rw g::xs=>ob (yw (kG b ρ 20) cs) λcs'=>ob (ai9 b ρ xs) λys=>some (.a cs' rw g::ys)
 | _=>none
def aja(b:Nat)(r:AV×aB):Tr FQ:=bif Td r.2.le&&decide ((∀s∈ags b r.1 r.2,s<r.2.n)/\(ags b r.1 r.2).Nodup)then(match kG b (eM b 0 (ags b r.1 r.2)) 20 r.1,ai9 b (eM b 0 (ags b r.1 r.2)) ((ags b r.1 r.2).map r.2.at)with
 | some v,some bs=>.a0 (v,bs.reverse)
 | _,_=>.c0)else .c0
theorem af5{b:Nat}{ρ:List (Nat×Nat)}:∀{xs ys:List cD},ai9 b ρ xs=some ys->ys.length=xs.length/\∀t,t<xs.length->WD b ρ (xs.getD t .b) (ys.getD t .b)
 | [],ys,h=>by cases h;exact⟨rfl,nofun⟩
 | .a cs rw g::xs,ys,h=>by
   simp only[ai9,ag,zAb]at h;obtain⟨cs',h1,zs,h2,rfl⟩:=h;obtain⟨e1,e2⟩:=af5 h2;refine⟨congrArg (·+1) e1,λt ht=>?_⟩;cases t with
   | zero=>exact .inr ⟨_,_,_,_,rfl,h1,rfl⟩
   | succ t=>exact e2 t (Nat.lt_of_succ_lt_succ ht)
 | .b::_,_,h=>by cases h
theorem ajo(hw:∀x∈ws,cR 14 x){r:AV×aB}{q:FQ}(h:(aja (14+ws.length) r).wp (·=q)):dL ws q.1 q.2 r:=by
 obtain⟨v,n,os,le⟩:=r;unfold aja at h;dsimp only at h;generalize ags (14+ws.length) v ⟨n,os,le⟩=sel at h;cases hb:Td le&&decide ((∀s∈sel,s<n)/\sel.Nodup)<;>rw[hb]at h
 . exact h.elim
 rw[zAa,zAc]at hb;obtain⟨hl,hs,hn⟩:=hb;cases le with
 | cons _ _=>cases hl
 | nil=>
   rw[cond_true]at h;split at h
   . rename_i v' bs e1 e2;obtain rfl:(v',bs.reverse)=q:=h;obtain⟨l1,l2⟩:=af5 e2;rw[List.length_map]at l1 l2;refine(oX eb.lv (C:=Cw cfg ws) (st:=⟨.c0 v .b0 .b0,1,⟨n,os,[]⟩,[],none⟩) (kb:=0) (sel:=sel) (ts':=.c0 v' .b0 .b0) (o':=⟨bs.reverse.length,bs.reverse,[]⟩) (B6 hw) (Nat.zero_le _) (λs h=>⟨Nat.zero_le _,hs s h⟩) hn (λp hp=>by grind) rfl (by rw[List.length_reverse,l1,Nat.zero_add]) rfl (λi hi=>absurd hi (Nat.not_lt_zero i)) (λt ht=>?_) (by show xB (kG (14+ws.length) (eM (14+ws.length) 0 sel) 20) _=_;simp only[xB,e1,ob]) (λd hd=>by grind) (λi hi=>by grind)).b0 λs hs=>by rw[hs];exact⟨rfl,rfl⟩
     have:=l2 t ht;rw[show(sel.map (⟨n,os,[]⟩:aB).at).getD t .b=(⟨n,os,[]⟩:aB).at (sel.getD t 0)by grind]at this;rw[show(⟨bs.reverse.length,bs.reverse,[]⟩:aB).at (0+t)=bs.getD t .b by show bs.reverse.getD _ _=_;grind];exact this
   . exact h.elim
noncomputable def fT(S:aQ)(ws:List cD)(f:Nat)(args:List AV):Tr FQ:=xz tab (cH cfg S) (tK S) jE 1000 (Cw cfg ws) (aL f) (jS (dH f) args dO) λx=>aT (wj tab (Cw cfg ws) (dH f) x) (aja (14+ws.length))
theorem zd(hS:ak Tryz.prog cfg S)(hws:∀x∈ws,cR 14 x){args:List AV}{q:FQ}{R:(FQ->Prop)->Prop}(hb:ec tab f=some (dH f,aL f))(hlen:args.length<=1000)(hw:∀Q:FQ->Prop,gG Q (fT S ws f args) D=R Q)(h:∀Q:FQ->Prop,Q q->R Q):bu Tryz.prog cfg f args ws q.1 q.2:=by
 have h0:(fT S ws f args).wp (·=q):=cg ((hw _).mpr (h _ rfl));refine cC.c0 hS hb hlen ((wE (cC.a0 hS) (nj cfg S) ai h0).a0 λy hy=>?_);have hy:(aT (wj tab (Cw cfg ws) (dH f) y) (aja (14+ws.length))).wp (·=q):=hy;cases he:wj tab (Cw cfg ws) (dH f) y with
 | none=>rw[he]at hy;exact hy.elim
 | some r=>
   rw[he]at hy;exact⟨r,rfl,ajo hws hy⟩
def TY:aQ:=pX (d5 (d5 (d5 (d5 (eQ gZ 26 (fl 14 [] rE)) 42 wD) 75 tZ) 205 xY) 257 tz) 92 FB
theorem abc:ec tab 7=some (dH 7,aL 7):=by rfl
theorem ame(hS:ak Tryz.prog cfg S):ak Tryz.prog cfg (d5 S 257 tz):=by
 refine au hS λargs t v he hv=>?_;unfold tz at he;split at he
 . rename_i ng lg s e g mo da a b c;cases he;replace hv:=aF hv;obtain⟨⟨h1,-⟩,hv⟩:=hv;cases hv;obtain⟨h6,i1,i2,i3,i4,i5,h0⟩:=yn.1 h1;obtain⟨lm,ld,-⟩:=aaX h0;obtain⟨-,-,-,n4,n5,n6⟩:=abT h6 lm ld;refine nF aga ai (bE 13812202242002020006) (R:=λQ=>(λ(C:List UInt8)=>(λ(E:List UInt8)=>(λ(A:Bool)=>(λ(B:Prop)=>ξ (HAdd.hAdd s.length mo.length) 1000000/\ξ (HAdd.hAdd C.length da.length) 1000000/\ξ E.length 1000000/\(A->A/\A/\A/\A/\Q (.b (aa g 0)))/\(B->B/\B/\B/\B/\Q (.b false))) (A=false)) (not (eA E))) (C++da)) (s++mo)) (λ_=>by kernel_rfl) λQ' hQ=>?_;unfold cK at hQ;try dsimp only
   rw[n4,n5,n6];cases hx:eA (s++mo++da)<;>rw[hx]at hQ<;>simp only[Bool.not_true,Bool.not_false,Bool.true_and,Bool.false_and]at hQ<;>simp[hQ]
 . cases he
theorem adR:ak Tryz.prog cfg TY:=eG (ame (ajG (afy (aib (ajL aW))))) NE
def b0(z:Bool):Nat:=bif z then 15 else 14
abbrev nw(z:Bool)(k:Int)(x:Da)(p a b c d:Int):FQ:=(.d [.c (b0 z) 0 1 (.b 1),.a .i64 0],[.a (ft k .f x p a b c d) true none])
abbrev j7(z:Bool)(a b c d:Int):FQ:=(.d [.c (b0 z+1) 0 1 (.b 1),.a .i64 0],[.a (ft 1 (.c (b0 z) 0 1 (.b 1)) gL 0 0 0 0 0) true none,.a (aab a b c d) true none])
abbrev jc(x:Da):Int:=aP x.ng x.s x.e x.mo x.da
abbrev iQ(x:Da):Int:=bq x.ng x.s x.e x.mo x.da
def CP(z:Bool)(x:Da):FQ:=nw z 3 gL 1 0 (bf (jI x.ng x.s x.e x.g)) 0 (bf (jL x.ng x.s x.e x.g+1)-1)
def CR(z:Bool)(x:Da):FQ:=nw z 2 ⟨x.ng,x.lg,x.s,x.e,0,x.mo,x.da,0,0,0⟩ 0 0 0 0 0
def tS(z:Bool)(x:Da)(Q:FQ->Prop):Prop:=dF x/\dF x/\fk (ab 1 x.g) (Q (CP z x)) (fk (fy x) (Q (j7 z 0 (jc x) 0 (iQ x))) (Q (CR z x)))
theorem ajA(hS:ak Tryz.prog cfg S){z:Bool}{c:Nat}(hb:ec tab f=some (dH f,aL f))(hw:∀x Q,gG Q (fT S (S0 z) f [.h (acB x (Un z c))]) D=tS z x Q){x:Da}(h:dF x):(1<=x.g->bu Tryz.prog cfg f [.h (acB x (Un z c))] (S0 z) (CP z x).1 (CP z x).2)/\(x.g=0->eA (x.s++x.mo++x.da)->bu Tryz.prog cfg f [.h (acB x (Un z c))] (S0 z) (CR z x).1 (CR z x).2)/\(fy x->bu Tryz.prog cfg f [.h (acB x (Un z c))] (S0 z) (j7 z 0 (jc x) 0 (iQ x)).1 (j7 z 0 (jc x) 0 (iQ x)).2):=by
 refine⟨λh1=>zd hS jb hb (by simp) (hw x) λQ hQ=>⟨h,h,λ_=>hQ,λe=>?_⟩,λh1 h2=>zd hS jb hb (by simp) (hw x) λQ hQ=>⟨h,h,λe=>?_,λ_=>⟨λe=>?_,λ_=>hQ⟩⟩,λh1=>zd hS jb hb (by simp) (hw x) λQ hQ=>⟨h,h,λe=>?_,λ_=>⟨λ_=>hQ,λe=>?_⟩⟩⟩
 . grind [bF]
 . grind [aq]
 . grind [fy,cK]
 . grind [fy,cK,ao,aq]
 . rw[h1]at e;cases e
section
variable(x y:Da)(c:Nat){Q:FQ->Prop}
theorem Pz(z:Bool):gG Q (fT TY (S0 z) 7 [.h (acB x (Un z c))]) (bE 114142056256666666666666666666666)=tS z x Q:=by cases z<;>kernel_rfl
theorem apQ(z:Bool):gG Q (fT TY (S0 z) 7 [.h (ra (sZ 1 x) (sZ 1 y) (Un z c))]) (bE 100056205666200056666666305200062666320006205666632000620066666666666666666666666666666)=(dF x/\dF x/\(not (fy x))=false/\dF y/\dF y/\(not (fy y))=false/\gN x/\gN y/\not (ab (gc 0 (jc x) 0 (iQ y)) 0)=false/\gN x/\gN y/\Q (j7 z 0 (jc x) 0 (iQ y))):=by cases z<;>kernel_rfl
theorem ap6(z:Bool):gG Q (fT TY (S0 z) 7 [.h (ra (sZ 1 x) (sZ 2 gL) (Un z c))]) (bE 10566620006666666666666632000620066666666666666666666666666666)=(dF x/\dF x/\(not (fy x))=false/\gN x/\Q (j7 z 0 (jc x) 1 0)):=by cases z<;>kernel_rfl
theorem apn(z:Bool):gG Q (fT TY (S0 z) 7 [.h (ra (sZ 1 x) (sZ 3 gL) (Un z c))]) (bE 1066620006666666666666632000620066666666666666666666666666666)=(dF x/\dF x/\(not (fy x))=false/\gN x/\Q (nw z 5 gL 0 0 (jc x) 1 0)):=by cases z<;>kernel_rfl
theorem aor(z:Bool):gG Q (fT TY (S0 z) 7 [.h (ra (sZ 2 gL) (sZ 1 x) (Un z c))]) (bE 10005620006666666666632000626666666666666666666666666666666666)=(dF x/\dF x/\(not (fy x))=false/\gN x/\Q (j7 z (-1) 0 0 (iQ x))):=by cases z<;>kernel_rfl
theorem apg(z:Bool):gG Q (fT TY (S0 z) 7 [.h (ra (sZ 3 gL) (sZ 1 x) (Un z c))]) (bE 1006256666666666632000626666666666666666666666666666666666)=(dF x/\dF x/\(not (fy x))=false/\gN x/\Q (nw z 4 gL 0 (-1) 0 0 (iQ x))):=by cases z<;>kernel_rfl
end
section
variable{x y:Da}{z:Bool}{c:Nat}(h:dF x)
def zS(h:dF x):=ajA (z:=z) (c:=c) adR abc (λx Q=>Pz x c z) h
include h
variable(hn:fy x)
include hn
theorem aaF:(not (fy x))=false/\gN x=true:=⟨by rw[hn];rfl,qd h hn⟩
theorem Qy(h':dF y)(hn':fy y)(hle:jc x<=iQ y):bu Tryz.prog cfg 7 [.h (ra (sZ 1 x) (sZ 1 y) (Un z c))] (S0 z) (j7 z 0 (jc x) 0 (iQ y)).1 (j7 z 0 (jc x) 0 (iQ y)).2:=zd adR jb abc (by simp) (λQ=>apQ x y c z) λQ hQ=>by
 obtain⟨n1,n2⟩:=aaF h hn;obtain⟨n3,n4⟩:=aaF h' hn';have:=xF 0 (jc x) 0 (iQ y);exact⟨h,h,n1,h',h',n3,n2,n4,by grind [aq],n2,n4,hQ⟩
theorem QC:bu Tryz.prog cfg 7 [.h (ra (sZ 1 x) (sZ 2 gL) (Un z c))] (S0 z) (j7 z 0 (jc x) 1 0).1 (j7 z 0 (jc x) 1 0).2:=zd adR jb abc (by simp) (λQ=>ap6 x c z) λQ hQ=>⟨h,h,(aaF h hn).1,(aaF h hn).2,hQ⟩
theorem QD:bu Tryz.prog cfg 7 [.h (ra (sZ 1 x) (sZ 3 gL) (Un z c))] (S0 z) (nw z 5 gL 0 0 (jc x) 1 0).1 (nw z 5 gL 0 0 (jc x) 1 0).2:=zd adR jb abc (by simp) (λQ=>apn x c z) λQ hQ=>⟨h,h,(aaF h hn).1,(aaF h hn).2,hQ⟩
theorem QE:bu Tryz.prog cfg 7 [.h (ra (sZ 2 gL) (sZ 1 x) (Un z c))] (S0 z) (j7 z (-1) 0 0 (iQ x)).1 (j7 z (-1) 0 0 (iQ x)).2:=zd adR jb abc (by simp) (λQ=>aor x c z) λQ hQ=>⟨h,h,(aaF h hn).1,(aaF h hn).2,hQ⟩
theorem QK:bu Tryz.prog cfg 7 [.h (ra (sZ 3 gL) (sZ 1 x) (Un z c))] (S0 z) (nw z 4 gL 0 (-1) 0 0 (iQ x)).1 (nw z 4 gL 0 (-1) 0 0 (iQ x)).2:=zd adR jb abc (by simp) (λQ=>apg x c z) λQ hQ=>⟨h,h,(aaF h hn).1,(aaF h hn).2,hQ⟩
end
end Go.Ev
