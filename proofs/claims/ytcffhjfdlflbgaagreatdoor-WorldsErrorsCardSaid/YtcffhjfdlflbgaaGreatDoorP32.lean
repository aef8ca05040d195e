import Derived.Test.YtcffhjfdlflbgaaGreatDoorP31
set_option linter.all false
open Int renaming ofNat->ν
open List renaming mem_cons_self->ξ,mem_cons_of_mem->ς,getElem_mem->σ
open Nat renaming ble->ο,beq->π
open HAdd renaming hAdd->τ
set_option linter.all false
set_option maxRecDepth 100000
set_option maxHeartbeats 4000000
namespace Go.Ev
open Go Go.Proofs
variable{S:aQ}{L:List It}{i n nb f:Nat}{ws B:List cD}{rel:List Nat}{ea la:Bool}{x:It}{X:Prop}{E:cD}{D:DT}
def oB(x:It):Int:=aP x.f.ng x.f.s x.f.e x.f.mo x.f.da
def mw(x:It):Int:=bif x.r then bq x.t.ng x.t.s x.t.e x.t.mo x.t.da else bq x.f.ng x.f.s x.f.e x.f.mo x.f.da
def kW(ea la:Bool)(x:It):Rn:=⟨bif ea then -1 else 0,bif ea then 0 else oB x,bif la then 1 else 0,bif la then 0 else mw x⟩
def W2(ea la:Bool)(L:List It)(i:Nat):Rn:=kW (ea&&π i 0) (la&&π (i+1) L.length) (L.getD i fP)
def pB(ea la:Bool)(L:List It)(n:Nat):List Rn:=(List.range n).map (W2 ea la L)
def gN(x:Da):Bool:=fL x.ng x.lg x.s x.e x.g x.mo x.da x.a x.b x.c
def exI(x:It):Bool:=gN x.f&&(!x.r || gN x.t)
def vS(x:Rn):AV:=.g [.a .i8 x.a,.a .i64 x.b,.a .i8 x.c,.a .i64 x.d]
def yh:dP:=λ
 | [.g [.b ng,.b lg,.e s,.a .i64 e,.a .i64 g,.e mo,.e da,.a .u8 a,.a .u8 b,.a .u8 c,.b r,.b ng',.b lg',.e s',.a .i64 e',.a .i64 g',.e mo',.e da',.a .u8 a',.a .u8 b',.a .u8 c'],.b ea,.b la]=>some (aH [exI ⟨⟨ng,lg,s,e,g,mo,da,a,b,c⟩,r,⟨ng',lg',s',e',g',mo',da',a',b',c'⟩⟩] (.a0 (vS (kW ea la ⟨⟨ng,lg,s,e,g,mo,da,a,b,c⟩,r,⟨ng',lg',s',e',g',mo',da',a',b',c'⟩⟩))))
 | _=>none
def TM:aQ:=aK gZ 75 tZ
def TA:aQ:=aK gZ 29 yh
def yT:Bool->Bool->Prop->Prop
 | true,b,X=>b/\X
 | false,_,X=>X
theorem PA(x y:Da)(r ea la:Bool){Q:AV->Prop}:gG Q (pT TM jE 29 [.g (x.cs++.b r::y.cs),.b ea,.b la]) (bE 1005620562006)=(gN x/\yT r (gN y) (Q (vS (kW ea la ⟨x,r,y⟩)))):=by
 cases r<;>cases ea<;>cases la<;>kernel_rfl
theorem akb:aY tab 29=some (dH 29,aL 29):=κ
theorem ajS(hS:ak Tryz.prog cfg S):ak Tryz.prog cfg (aK S 29 yh):=au hS λargs t v he hv=>by
 unfold yh at he;split at he
 . cases he;obtain⟨⟨h1,-⟩,hv⟩:=aF hv;cases hv;refine kA (afy aW) (L:=jE) akb θ ai (bb λQ' hQ=>cg ((PA ⟨_,_,_,_,_,_,_,_,_,_⟩ ⟨_,_,_,_,_,_,_,_,_,_⟩ _ _ _).mpr ?_)) κ;unfold exI at h1;rw[zAa]at h1;refine⟨h1.1,?_⟩;rename_i r _ _ _ _ _ _ _ _ _ _ _ _;cases r
   . exact hQ _ rfl
   . exact⟨h1.2,hQ _ rfl⟩
 . cases he
def z8(a:Nat->AV):List Bool:=[Sn (a 0),Sn (a 1),Iq (a 2),eB .i64 (a 3),eB .i64 (a 4),Iq (a 5),Iq (a 6),eB .u8 (a 7),eB .u8 (a 8),eB .u8 (a 9)]
def Be(a:Nat->AV):Da:=⟨KK (a 0),KK (a 1),C9 (a 2),dx (a 3),dx (a 4),C9 (a 5),C9 (a 6),dx (a 7),dx (a 8),dx (a 9)⟩
def tg(a:Nat->AV):List Bool:=z8 a++Sn (a 10)::z8 λk=>a (k+11)
def jQ(a:Nat->AV):It:=⟨Be a,KK (a 10),Be λk=>a (k+11)⟩
def wF(w:List AV)(i k:Nat):AV:=w.getD (0+i*21+k) bt
theorem afB(h:i<L.length):Tk (tg (wF (dp L) i))/\jQ (wF (dp L) i)=L.getD i fP:=by
 have e:∀k,k<21->wF (dp L) i k=(dp [L.getD i fP]).getD k bt:=λk hk=>by
  unfold wF;rw[Nat.zero_add];exact adN h k hk
 simp only[tg,jQ,z8,Be,e,Nat.reduceAdd,Nat.reduceLT];exact⟨⟨rfl,rfl,rfl,rfl,rfl,rfl,rfl,rfl,rfl,rfl,rfl,rfl,rfl,rfl,rfl,rfl,rfl,rfl,rfl,rfl,rfl,trivial⟩,rfl⟩
theorem af8(hw:∀x∈ws,cR 14 x){tn:Nat}{vs vs':List AV}{x:cD}{top:List cD}{kb k:Nat}(hB:B.length=kb)(hn:n=kb+top.length)(hk:kb<=k)(hkn:k<n)(h1:(top++B).getD (n-1-k) .b=x)(hlow:∀b∈B,cR (14+ws.length+kb) b)(hx:cR (14+ws.length+kb) x)(hvs:yw (kG (14+ws.length+kb) [(14+ws.length+k,14+ws.length+kb)] 20) vs=some vs'):VW cfg (Cw cfg ws) kb tn rel vs ⟨n,top++B,[]⟩ vs' ⟨kb+1,x::B,[]⟩:=by
 subst hn;have at0:∀(os:List cD) (n i:Nat),(⟨n,os,[]⟩:aB).at i=os.getD (n-1-i) .b:=λos n i=>rfl;refine VW.d0 gR.lv (C:=Cw cfg ws) (kb:=kb) (sel:=[k]) (B6 hw) (Nat.le_add_right _ _) (λs hs=>?_) θ (λp hp=>by grind) rfl rfl η (λi hi=>?_) (λt ht=>?_) hvs
 . grind
 . have e1:(⟨kb+1,x::B,[]⟩:aB).at i=B.getD (kb-1-i) .b:=by
    grind
   have e2:(⟨kb+top.length,top++B,[]⟩:aB).at i=B.getD (kb-1-i) .b:=by
    grind
   rw[e1,e2];refine⟨rfl,?_⟩;have hlt:kb-1-i<B.length:=δ
   rw[zAf,List.getElem?_eq_getElem hlt];exact hlow _ (σ hlt)
 . have:t=0:=η
   subst this;refine .inl ⟨?_,?_⟩
   . grind
   . show cR (14+ws.length+kb) ((⟨kb+top.length,top++B,[]⟩:aB).at k);grind
theorem agv:pB ea la L (n+1)=pB ea la L n++[W2 ea la L n]:=by
 grind [pB,List.range_succ]
theorem Vl{ea la:Bool}{L:List It}{n:Nat}:(pB ea la L n).length=n:=by simp[pB]
theorem abX{k:Int}{K:fg}{b:Nat}(hb:14<b):cR b (.a (fS k (.c 14 0 n K) ea la) true none):=⟨rfl,λi hi=>by simp_all [fS,HL,bw,aC]⟩
theorem ajr(h:aap 4 x):fL x.f.ng x.f.lg x.f.s x.f.e x.f.g x.f.mo x.f.da x.f.a x.f.b x.f.c/\(x.r->fL x.t.ng x.t.lg x.t.s x.t.e x.t.g x.t.mo x.t.da x.t.a x.t.b x.t.c=true):=by
 unfold aap mB at h;simp only[zAa,show aa (4:Int) 4=true from rfl,Bool.not_true,Bool.false_or]at h;obtain⟨v1,v2,v3⟩:=h;refine⟨qd v1 v3,λhr=>?_⟩;rw[hr,cond_true,zAa]at v2;have ho:=v2.2;unfold mV at ho;simp only[zAa]at ho;exact qd v2.1 (qc.1 ho.2.1).1
theorem ahr(h:aap 4 x):exI x=true:=by
 grind [ajr,exI,gN]
theorem rB{f:AV->Option AV}:∀{a a' b b':List AV},yw f a=some a'->yw f b=some b'->yw f (a++b)=some (a'++b')
 | [],a',b,b',h1,h2=>by cases h1;grind
 | x::a,a',b,b',h1,h2=>by
   simp only[yw,ag,zAb]at h1;obtain⟨v,hv,vs,hvs,rfl⟩:=h1;have:=rB hvs h2;grind [yw,ob]
def ij(k:Nat)(x:List AV)(E:List cD):AV×aB->AV×aB
 | (.c _ _ m _,⟨n,.a cs _ _::os,_⟩)=>(.c (16+(n+E.length)) 0 (m+1) (.b 0),⟨n+E.length+2,.a (cs++x) true (some k)::.a x true none::(E++.b::os),[]⟩)
 | (_,o)=>(.c (16+(o.n+E.length)) 0 1 (.b 0),⟨o.n+E.length+2,.a x true (some k)::.a x true none::(E++o.os),[]⟩)
abbrev Ac:=Option (Nat×List AV)
def fF:List Rn->Ac
 | []=>none
 | r::R=>some (R.length+1,bh (r::R))
def nk(k:Nat):Ac->Prop->Prop
 | none,X=>X
 | some (m,cs),X=>(ο (m+1) 1000000&&true&&true)/\(true&&π cs.length (m*k))/\X
def w6(k nb:Nat)(B:List cD):Ac->AV×aB
 | none=>(.f,⟨nb,B,[]⟩)
 | some (m,cs)=>(.c (15+nb) 0 m (.b 0),⟨nb+1,.a cs true (some k)::B,[]⟩)
def rC(r:Rn):List AV:=[.a .i8 r.a,.a .i64 r.b,.a .i8 r.c,.a .i64 r.d]
def ba(n i:Nat)(X E:Prop):Prop:=(not (ab (ν n) (ν i))->X)/\(not (ab (ν n) (ν i))=false->E)
def nR(i:Nat)(X:Prop):Prop:=af .i64 (Int.add (ν i) 1)/\X
abbrev iV(i:Nat):AV:=.a .i64 (ν i)
abbrev iX(i:Nat):AV:=.a .i64 (Int.add (ν i) 1)
def vI(nb:Nat)(B:List cD)(M:List Rn)(st:AV×aB):Prop:=∃t:List cD,M≠[]/\st=(.c (15+nb+t.length) 0 M.length (.b 0),⟨nb+t.length+1,(.a (bh M) true (some 4)::t)++B,[]⟩)
theorem aj4{E:List cD}{M:List Rn}{st:AV×aB}{x:Rn}(h:vI nb B M st):vI nb B (M++[x]) (ij 4 (rC x) E st):=by
 obtain⟨t,hM,rfl⟩:=h;refine⟨.a (rC x) true none::(E++.b::t),by simp,?_⟩;simp only[ij,List.cons_append,List.append_assoc,zAd,zAe,List.length_nil,UA];rw[show 16+(nb+t.length+1+E.length)=15+nb+(E.length+(t.length+1)+1)by omega,show nb+t.length+1+E.length+2=nb+(E.length+(t.length+1)+1)+1 by omega];rfl
theorem aeH{E:List cD}{L:List Rn}{x:Rn}:vI nb B (L++[x]) (ij 4 (rC x) E (w6 4 nb B (fF L))):=by
 cases L with
 | nil=>
   refine⟨.a (rC x) true none::E,by simp,?_⟩;simp only[ij,w6,fF];rw[show 16+(nb+E.length)=15+nb+(E.length+1)by omega];rfl
 | cons y L=>exact aj4 ⟨[],by simp,rfl⟩
theorem aeW{M:List Rn}{st:AV×aB}{w:List AV}{tn:Nat}(h:vI nb B M st)(hw:∀x∈[cD.a w false none],cR 14 x)(hB:B.length=nb)(hlow:∀b∈B,cR (15+nb) b){P T:List AV}(hP:∀ρ,yw (kG (15+nb) ρ 20) P=some P)(hT:∀ρ,yw (kG (15+nb) ρ 20) T=some T):VW cfg (Cw cfg [.a w false none]) nb tn rel (P++st.1::T) st.2 (P++(w6 4 nb B (fF M)).1::T) (w6 4 nb B (fF M)).2:=by
 obtain⟨t,hM,rfl⟩:=h;obtain⟨y,L,rfl⟩:=List.exists_cons_of_ne_nil hM;refine af8 (top:=.a (bh (y::L)) true (some 4)::t) (k:=nb+t.length) hw hB (by simp only[zAd];omega) (Nat.le_add_right _ _) δ ?_ hlow tm ?_
 . rw[show nb+t.length+1-1-(nb+t.length)=0 by omega];rfl
 . rw[show 14+[cD.a w false none].length=15 from rfl];refine rB (hP _) ?_;rw[yw,hT];have e1:To (15+nb) [(15+(nb+t.length),15+nb)] (15+nb+t.length)=some (15+nb):=by
    rw[To,show aS (15+nb+t.length) (15+nb)=false from by cases h:aS (15+nb+t.length) (15+nb)<;>first|rfl|(rw[aU]at h;omega),Nat.add_assoc];simp[xx]
   simp only[kG,e1,ob,w6,fF];rfl
theorem abi{E:Prop}(hi:i<=n)(hX:i<n->X)(hE:i=n->E):ba n i X E:=by
 constructor
 . intro h;refine hX ?_;simp[bF]at h;omega
 . intro h;refine hE ?_;simp[aq]at h;omega
theorem aaH(h:i<n)(hn:n<=1000)(hX:X):nR i X:=⟨by rw[aE];simp[eH,eE];omega,hX⟩
theorem abE{L:List Rn}(h:L.length<=3000)(hX:X):nk 4 (fF L) X:=by
 cases L with
 | nil=>exact hX
 | cons y L=>
   rw[zAd]at h;exact⟨by simp[al];omega,aJ.mpr kC,hX⟩
theorem afz{k:Nat}{ac:Ac}:nb<=(w6 k nb B ac).2.n:=by
 rcases ac with _|⟨m,cs⟩
 . exact Nat.le_refl _
 . exact Nat.le_succ _
def s7(o:aB)(F:Int->Nat->fg->Bool->Bool->Tr VQ):Option (Tr VQ):=match o with
 | ⟨1,[.a (.a .u8 k1::.b false::.b false::.e []::.a .i64 0::.a .i64 0::.e []::.e []::.a .u8 0::.a .u8 0::.a .u8 0::.a .u8 0::.b false::.b false::.e []::.a .i64 0::.a .i64 0::.e []::.e []::.a .u8 0::.a .u8 0::.a .u8 0::.a .u8 0::.b false::.b false::.e []::.a .i64 0::.a .i64 0::.e []::.e []::.a .u8 0::.a .u8 0::.a .u8 0::.c 14 0 m K1::.b ea1::.b la1::[]) true none],[]⟩=>some (F k1 m K1 ea1 la1)
 | _=>none
def ie(k:Int)(n:Nat)(K:fg)(ea la:Bool):cD:=.a (fS k (.c 14 0 n K) ea la) true none
theorem aec{o:aB}{F:Int->Nat->fg->Bool->Bool->Tr VQ}{t:Tr VQ}(h:s7 o F=some t):∃k m K ea la,o=⟨1,[ie k m K ea la],[]⟩/\F k m K ea la=t:=by
 unfold s7 at h;split at h
 . exact⟨_,_,_,_,_,rfl,Option.some.inj h⟩
 . cases h
theorem WK(hS:ak Tryz.prog cfg S){tn xk:Nat}(htn:aS tn 1000000)(hrel:nP tn rel)(hE:cR 16 E){P:List AV}{T:AV->List AV}(hP:∀ρ,yw (kG 16 ρ 20) P=some P)(hT:∀ρ e,yw (kG 16 ρ 20) (T (.a .i64 e))=some (T (.a .i64 e)))
 (hr:∀i,i<=L.length->∀J (Q:VQ->Prop),(i<L.length->∀B,Q (.a,P++(ij 4 (rC (W2 ea la L i)) B (w6 4 1 [E] (fF (pB ea la L i)))).1::T (iX i),(ij 4 (rC (W2 ea la L i)) B (w6 4 1 [E] (fF (pB ea la L i)))).2))->(i=L.length->Q (.b xk,P++(w6 4 1 [E] (fF (pB ea la L i))).1::T (iV i),(w6 4 1 [E] (fF (pB ea la L i))).2))->(rT S jE [.a (dp L) false none] f 0 tn rel (P++(w6 4 1 [E] (fF (pB ea la L i))).1::T (iV i)) J (w6 4 1 [E] (fF (pB ea la L i))).2).wp Q)
 {Q:VQ->Prop} (hq:Q (.b xk,P++(w6 4 1 [E] (fF (pB ea la L L.length))).1::T (iV L.length),(w6 4 1 [E] (fF (pB ea la L L.length))).2)) (J:Nat->Value):bN Tryz.prog (cH cfg S) (Cw cfg [.a (dp L) false none]) (.loop (lb f 0)) (tr tn rel (P++.f::T (.a .i64 0)) J ⟨1,[E],[]⟩) λr=>∃ax vs' o' J',Q (ax,vs',o')/\r=(ax,tr tn rel vs' J' o'):=by
 refine ia hS htn hrel ai (ι:={i:Nat // i<=L.length}) (λx=>P++(w6 4 1 [E] (fF (pB ea la L x.1))).1::T (iV x.1)) (λx=>(w6 4 1 [E] (fF (pB ea la L x.1))).2) (λx=>L.length-x.1) 1 (λx=>afz) (λx J=>?_) (Nat.le_refl _) (λJ=>Wk.a0 ⟨⟨0,Nat.zero_le _⟩,J,rfl⟩) J;obtain⟨i,hi⟩:=x;refine bb λQ' hQ=>hr i hi J Q' (λhl B=>hQ _ ⟨⟨i+1,hl⟩,by dsimp only;omega,?_⟩) λh=>?_
 . dsimp only;rw[agv];exact aeW (nb:=1) aeH i7 rfl (by simpa using hE) hP λ ρ=>hT ρ _
 . subst h;exact hQ _ ⟨_,_,VW.a0,hq⟩
def sh(la:Bool)(n:Nat)(X:Prop):Prop:=yT la (af .i64 (Int.sub (ν n) 1)) X
theorem aeY(h:n<=1000)(hX:X):sh la n X:=by
 cases la
 . exact hX
 . exact⟨by grind [aE,eH,eE],hX⟩
theorem rA(w:List AV)(n i:Nat)(K K1:fg)(J:Nat->Value){Q:VQ->Prop}:∀(ac:Ac) (ea la:Bool),∃D,gG Q (rT TA jE [.a w false none] 7 0 103 [1,2,3,5,6,34,35,36] [.h 15 0,.f,.a .i64 0,.f,(w6 4 1 [ie 4 n K1 ea la] ac).1,.c 14 0 n K,iV n,iV i] J (w6 4 1 [ie 4 n K1 ea la] ac).2) D=ba n i (aS i n/\XK (tg (wF w i)) (sh la n (XK [exI (jQ (wF w i))] (nk 4 ac (nR i (Q (.a,[.h 15 0,.f,.a .i64 0,.f,(ij 4 (rC (kW (ea&&aa (ν i) 0) (la&&aa (ν i) (Int.sub (ν n) 1)) (jQ (wF w i)))) [.a (dp [jQ (wF w i)]) true none] (w6 4 1 [ie 4 n K1 ea la] ac)).1,.c 14 0 n K,iV n,iX i],(ij 4 (rC (kW (ea&&aa (ν i) 0) (la&&aa (ν i) (Int.sub (ν n) 1)) (jQ (wF w i)))) [.a (dp [jQ (wF w i)]) true none] (w6 4 1 [ie 4 n K1 ea la] ac)).2))))))) (Q (.b 1,[.h 15 0,.f,.a .i64 0,.f,(w6 4 1 [ie 4 n K1 ea la] ac).1,.c 14 0 n K,iV n,iV i],(w6 4 1 [ie 4 n K1 ea la] ac).2))
 | none,true,true=>⟨bE 11205255662000666662777777704,by kernel_rfl⟩
 | none,true,false=>⟨bE 1120520666666662777777704,by kernel_rfl⟩
 | none,false,true=>⟨bE 11205255662000666662777777704,by kernel_rfl⟩
 | none,false,false=>⟨bE 1120520666666662777777704,by kernel_rfl⟩
 | some (m,cs),true,true=>⟨bE 1122520255662000666662777777704,by kernel_rfl⟩
 | some (m,cs),true,false=>⟨bE 112252020666666662777777704,by kernel_rfl⟩
 | some (m,cs),false,true=>⟨bE 1122520255662000666662777777704,by kernel_rfl⟩
 | some (m,cs),false,false=>⟨bE 112252020666666662777777704,by kernel_rfl⟩
theorem afR:(bz (aL 7)).map (·.1)=[1]:=κ
theorem aj6:ak Tryz.prog cfg TA:=ajS aW
def Do(L:List It)(ea la:Bool):dW:=λvs o=>match vs with
 | [.h 15 0,.f,.a .i64 z,.f,.f,.c 14 0 n K,.a .i64 n',.a .i64 i]=>s7 o λk1 m K1 ea1 la1=>aH [π L.length n,π m n,aa n' (ν n),aa i 0,aa z 0,aa k1 4,bQ ea1 ea,bQ la1 la] (.a0 (.b 1,[.h 15 0,.f,.a .i64 0,.f,.c 16 0 n (.b 0),.c 14 0 n K,.a .i64 n',.a .i64 (ν n)],⟨2,[.a (bh (pB ea la L n)) true (some 4),.a (fS 4 (.c 14 0 n K1) ea la) true none],[]⟩))
 | _=>none
theorem af7(h:1<=L.length):w6 4 1 [E] (fF (pB ea la L L.length))=(.c 16 0 L.length (.b 0),⟨2,[.a (bh (pB ea la L L.length)) true (some 4),E],[]⟩):=by
 have hl:=@Vl ea la L L.length;cases hR:pB ea la L L.length<;>rw[hR]at hl
 . rw[<-hl]at h;cases h
 . rw[<-hl];rfl
theorem ao2(h:nI 4 ea la L):cu Tryz.prog (cH cfg TA) (Cw cfg [.a (dp L) false none]) (lb 7 0) 103 [1,2,3,5,6,34,35,36] (Do L ea la):=by
 intro vs o t Q hv hq J;unfold Do at hv;split at hv
 . obtain⟨k1,m,K1,ea1,la1,rfl,rfl⟩:=aec hv;replace hq:=cO hq;obtain⟨⟨h1,h2,h3,h4,h5,h6,h7,h8,-⟩,hq⟩:=hq;rw[aJ]at h1 h2;rw[ao]at h3 h4 h5 h6;replace h7:=yl h7;replace h8:=yl h8;subst h1 h2 h3 h4 h5 h6 h7 h8;refine WK aj6 rfl rfl (abX ζ) (ea:=ea1) (la:=la1) (P:=[_,_,_,_]) (T:=λe=>[_,_,e]) (λ_=>rfl) (λ_ _=>rfl) (λi hi J Q hX hE=>?_) (by rw[af7 h.n1];exact hq) J;obtain⟨D,hD⟩:=@rA (dp L) L.length i _ K1 J Q (fF (pB ea1 la1 L i)) ea1 la1;refine cg (hD.mpr (abi hi (λhl=>?_) hE));obtain⟨k1,k2⟩:=afB hl;have n2:=h.n2;rw[k2,show aa (ν i) (Int.sub (ν L.length) 1)=π (i+1) L.length by grind [aJ,ao]];exact⟨aU.2 hl,rR (aeY δ (rR (abE (by rw[Vl];omega) (aaH hl δ (hX hl _))) (bs:=[_]) ⟨ahr (h.it i hl),trivial⟩)) k1⟩
 . cases hv
def eb(k:Int)(days:AV)(x:Da)(p a b c d:Int):List AV:=.a .u8 k::days::.b x.ng::.b x.lg::.e x.s::.a .i64 x.e::.a .i64 x.g::.e x.mo::.e x.da::.a .u8 x.a::.a .u8 x.b::.a .u8 x.c::.a .u8 p::.a .i8 a::.a .i64 b::.a .i8 c::.a .i64 d::[]
def aab(a b c d:Int):List AV:=[.a .i8 a,.a .i64 b,.a .i8 c,.a .i64 d]
theorem abj(hS:ak Tryz.prog cfg S){L:cx}{args:List AV}{v:AV}{news:List cD}{R:(EQ->Prop)->Prop}(hb:aY tab f=some (dH f,aL f))(hlen:args.length<=1000)(hL:qI Tryz.prog (cH cfg S) (Cw cfg ws) L (aL f))(hw:∀Q:EQ->Prop,gG Q (bT S L ws f args) D=R Q)(h:∀Q:EQ->Prop,(∀q,dL ws v news q->Q q)->R Q):bu Tryz.prog cfg f args ws v news:=
 Bu hS (L:=L) hb hlen hL (bb λQ' hQ=>cg ((hw Q').mpr (h Q' hQ)))
def CH:dP:=λ
 | [.g [.b ng,.b lg,.e s,.a .i64 e,.a .i64 g,.e mo,.e da,.a .u8 a,.a .u8 b,.a .u8 c]]=>some (aH [fL ng lg s e g mo da a b c,aa (aR mo) 0] (.a0 (.d [.a .u8 (dq mo da),.a .i64 0])))
 | _=>none
def TP:aQ:=aK (aK (aK gZ 42 sFv) 80 Wa) 81 aiQ
theorem anV:ak Tryz.prog cfg TP:=ahQ (bm (aib aW) (Uy 80 _ rfl))
theorem al4(hS:ak Tryz.prog cfg S):ak Tryz.prog cfg (aK S 30 CH):=by
 refine au hS λargs t v he hv=>?_;unfold CH at he;split at he
 . rename_i ng lg s e g mo da a b c;cases he;replace hv:=aF hv;obtain⟨⟨h1,h2,-⟩,hv⟩:=hv;cases hv;obtain⟨h6,i1,i2,i3,i4,h0,hx,rfl⟩:=U9.1 h1;obtain⟨lm,ld,hds⟩:=aaX h0;obtain⟨p1,p2,p3,p4,p5,p6,p7⟩:=aaj h0 hx h6;have hv:wa ng lg s e 0 mo da a b c=true:=yn.2 ⟨h6,i1,by rfl,i2,i3,i4,h0⟩;have hxm:eA mo=false:=by
    grind [eA,aJ,Dj]
   have hnu:ae mo []=false->ab (XR mo) 12=true:=λhb=>by
    rw[ao]at h2;rw[aq];exact(aaU h0 hx hb h2).2
   refine jD anV ai (bE 1147020700014014002006) (R:=λQ=>wa ng lg s e 0 mo da a b c/\(not (ae da [])->Q (.d [.a .u8 3,.a .i64 0]))/\(not (ae da [])=false->(ae mo []->Q (.d [.a .u8 1,.a .i64 0]))/\(ae mo []=false->ο mo.length 1000000/\not (eA mo)/\not (eA mo)/\not (eA mo)/\H4 mo/\not (eA mo)/\not (eA mo)/\(not (ab (XR mo) 12)->Q (.d [.a .u8 0,.a .i64 0]))/\(not (ab (XR mo) 12)=false->Q (.d [.a .u8 2,.a .i64 0]))))) (λ_=>by rfl) λQ' hQ=>?_;try dsimp only
   have hQ:=hQ _ rfl;unfold dq at hQ;have n1:ο mo.length 1000000=true:=al.mpr δ;grind
 grind
def rE:aav:=λ
 | [.g [.b ng,.b lg,.e s,.a .i64 e,.a .i64 g,.e mo,.e da,.a .u8 a,.a .u8 b,.a .u8 c]],[]=>some (aH [wa ng lg s e g mo da a b c] (.d0 (ab 1 g) λp=>bif p then .a0 (.g (eb 3 .f rb 1 0 (bf (jI ng s e g)) 0 (bf (jL ng s e g+1)-1)),[])else .d0 (cK s g mo da) λq=>bif q then .a0 (.g (eb 1 (.c 14 0 1 (.a 1)) rb 0 0 0 0 0),[.a (aab 0 (aP ng s e mo da) 0 (bq ng s e mo da)) true none])else .a0 (.g (eb 2 .f ⟨ng,lg,s,e,0,mo,da,0,0,0⟩ 0 0 0 0 0),[])))
 | _,_=>none
def Gz:aQ:=aK (aK (aK (aK gZ 43 XZ) 73 B8) 74 B_) 75 tZ
def OC(x:Da){Q:EQ->Prop}:gG Q (bT Gz jE [] 26 [.g x.cs]) (bE 10062006100064700610005200020700540)=fk (not (ab x.g 0)) (XK [ο x.s.length 1000,aV x.ng x.lg x.s x.e x.g,ab 1 x.g,eO (jI x.ng x.s x.e x.g),eO (jL x.ng x.s x.e x.g)] (Q (.g (eb 3 .f rb 1 0 (bf (jI x.ng x.s x.e x.g)) 0 (bf (jL x.ng x.s x.e x.g+1)-1)),⟨4,[.a (aab 0 (bf (jL x.ng x.s x.e x.g)) 0 (bf (jL x.ng x.s x.e x.g+1)-1)) true none,.a (aab 0 (bf (jI x.ng x.s x.e x.g)) 0 (bf (jI x.ng x.s x.e x.g+1)-1)) true none,.a (eb 3 .f rb 1 0 (bf (jI x.ng x.s x.e x.g)) 0 (bf (jL x.ng x.s x.e x.g+1)-1)) true none,.a x.cs true none],[]⟩))) (XK [ο x.s.length 1000,ο x.mo.length 1000,ο x.da.length 1000] (fk (eA (x.s++x.mo++x.da)) (Q (.g (eb 2 .f ⟨x.ng,x.lg,x.s,x.e,x.g,x.mo,x.da,0,0,0⟩ 0 0 0 0 0),⟨2,[.a (eb 2 .f ⟨x.ng,x.lg,x.s,x.e,x.g,x.mo,x.da,0,0,0⟩ 0 0 0 0 0) true none,.a (Da.cs ⟨x.ng,x.lg,x.s,x.e,x.g,x.mo,x.da,0,0,0⟩) true none],[]⟩)) (gN x/\Q (.g (eb 1 (.c 19 0 1 (.a 1)) rb 0 0 0 0 0),⟨6,[.a (aab 0 (aP x.ng x.s x.e x.mo x.da) 0 (bq x.ng x.s x.e x.mo x.da)) true none,.a (eb 1 (.c 19 0 1 (.a 1)) rb 0 0 0 0 0) true none,.a (aab 0 (aP x.ng x.s x.e x.mo x.da) 0 (bq x.ng x.s x.e x.mo x.da)) true none,.a (aab 0 (aP x.ng x.s x.e x.mo x.da) 0 (bq x.ng x.s x.e x.mo x.da)) true none,.a (eb 1 (.c 19 0 1 (.a 1)) rb 0 0 0 0 0) true none,.a x.cs true none],[]⟩)))):=ε
theorem aej{x:Da}(h:dF x):ο x.s.length 1000/\ο x.mo.length 1000/\ο x.da.length 1000=true:=by
 obtain⟨h6,_,_,_,_,_,h0⟩:=yn.1 h;grind [aaX,abT]
theorem alO:aY tab 26=some (dH 26,aL 26):=κ
theorem akz:ak Tryz.prog cfg Gz:=afy (anW (ane (TX aW)))
theorem ajL(hS:ak Tryz.prog cfg S):ak Tryz.prog cfg (eQ S 26 (fl 14 [] rE)):=by
 refine bm hS (fW gR.lv Az λargs ws t r he hr=>?_);unfold rE at he;split at he
 . rename_i ng lg s e g mo da a b c;cases he;replace hr:=aF hr;obtain⟨⟨h1,-⟩,hr⟩:=hr;obtain⟨n1,n2,n3⟩:=aej (x:=⟨ng,lg,s,e,g,mo,da,a,b,c⟩) h1;obtain⟨_,_,_,_,_,_,h0⟩:=yn.1 h1;have hY:=(dC (Cc h0) dE).1;have hg0:=agN h0;change (Tr.b0 (bif ab 1 g then _ else _))=_ at hr;have W:∀{v news},(∀Q:EQ->Prop,(∀q,dL [] v news q->Q q)->_)->(∀x∈news,cR 14 x)->bu Tryz.prog cfg 26 [.g (Da.cs ⟨ng,lg,s,e,g,mo,da,a,b,c⟩)] [] v news/\∀x∈news,cR 14 x:=λh hl=>⟨abj akz (L:=jE) alO θ ai (λ_=>OC ⟨ng,lg,s,e,g,mo,da,a,b,c⟩) h,hl⟩;cases hg:ab 1 g with
   | true=>
     rw[hg]at hr;cases hr;obtain⟨s1,s2,-⟩:=ahZ hY (aq.mp hg);refine W (λQ' hQ=>⟨λ_=>rR (hQ _ (dL.b0 rfl rfl rfl rfl)) ⟨n1,hY,hg,bX.2 s1,bX.2 s2,trivial⟩,λh=>?_⟩) λx hx=>by cases hx
     grind [aq]
   | false=>
     rw[hg]at hr;have hz:g=0:=by grind [bF]
     subst hz;change (Tr.b0 (bif cK s 0 mo da then _ else _))=_ at hr;cases hn:cK s 0 mo da<;>rw[hn]at hr<;>cases hr
     . refine W (λQ' hQ=>⟨λh=>(by cases h),λ_=>rR ⟨λ_=>hQ _ (dL.b0 rfl rfl rfl rfl),λh=>?_⟩ ⟨n1,n2,n3,trivial⟩⟩) λx hx=>by cases hx
       dsimp only at h;rw[cK,h]at hn;cases hn
     . have hl:cR 14 (.a (aab 0 (aP ng s e mo da) 0 (bq ng s e mo da)) true none):=⟨rfl,λi hi=>by grind [aab,HL,bw,aC]⟩;refine W (λQ' hQ=>⟨λh=>(by cases h),λ_=>rR ⟨λh=>?_,λ_=>⟨qd h1 hn,hQ _ (dL.d0 (k:=5) rfl rfl hl rfl)⟩⟩ ⟨n1,n2,n3,trivial⟩⟩) λx hx=>by rw[List.mem_singleton.1 hx];exact hl
       dsimp only at h;rw[cK,h]at hn;cases hn
 . cases he
def TQ:aQ:=aK (aK (eQ gZ 26 (fl 14 [] rE)) 29 yh) 30 CH
theorem aj0:ak Tryz.prog cfg TQ:=al4 (ajS (ajL aW))
def sl0(z:Bool)(c:Nat):AV:=bif z then .c 14 0 0 (.a c)else .f
def ZT(z:Bool):List cD:=bif z then[.a [] false none]else[]
theorem TU{z:Bool}:∀x∈ZT z,cR 14 x:=by
 cases z
 . exact λx hx=>by cases hx
 . exact λx hx=>by rw[List.mem_singleton.1 hx];exact⟨rfl,λi hi=>by cases hi⟩
def acB(x:Da)(sl:AV):List AV:=.a .u8 1::.b x.ng::.b x.lg::.e x.s::.a .i64 x.e::.a .i64 x.g::.e x.mo::.e x.da::.a .u8 x.a::.a .u8 x.b::.a .u8 x.c::.a .u8 0::.b false::.b false::.e []::.a .i64 0::.a .i64 0::.e []::.e []::.a .u8 0::.a .u8 0::.a .u8 0::.a .u8 0::.b false::.b false::.e []::.a .i64 0::.a .i64 0::.e []::.e []::.a .u8 0::.a .u8 0::.a .u8 0::sl::.b false::.b false::[]
def WH(k:Int)(x:Da):List AV:=.a .u8 k::.b x.ng::.b x.lg::.e x.s::.a .i64 x.e::.a .i64 x.g::.e x.mo::.e x.da::.a .u8 x.a::.a .u8 x.b::.a .u8 x.c::[]
def ra(f t:List AV)(sl:AV):List AV:=.a .u8 2::.b false::.b false::.e []::.a .i64 0::.a .i64 0::.e []::.e []::.a .u8 0::.a .u8 0::.a .u8 0::(f++(t++[sl,.b false,.b false]))
abbrev FQ:Type:=AV×List cD
def ags(b:Nat)(v:AV)(o:aB):List Nat:=match v with
 | .d (.c i _ _ _::_)=>(match o.at (i-b)with
   | .a (_::.c j _ _ _::_) _ _=>[j-b,i-b]
   | _=>[i-b])
 | _=>[]
def ai9(b:Nat)(ρ:List (Nat×Nat)):List cD->Option (List cD)
 | []=>some []
 | .a cs rw g::xs=>ob (yw (kG b ρ 20) cs) λcs'=>ob (ai9 b ρ xs) λys=>some (.a cs' rw g::ys)
 | _=>none
def aja(b:Nat)(r:AV×aB):Tr FQ:=bif Wx r.2.le&&decide ((∀s∈ags b r.1 r.2,s<r.2.n)/\(ags b r.1 r.2).Nodup)then(match kG b (fY b 0 (ags b r.1 r.2)) 20 r.1,ai9 b (fY b 0 (ags b r.1 r.2)) ((ags b r.1 r.2).map r.2.at)with
 | some v,some bs=>.a0 (v,bs.reverse)
 | _,_=>.c0)else .c0
theorem af5{b:Nat}{ρ:List (Nat×Nat)}:∀{xs ys:List cD},ai9 b ρ xs=some ys->ys.length=xs.length/\∀t,t<xs.length->WD b ρ (xs.getD t .b) (ys.getD t .b)
 | [],ys,h=>by cases h;exact⟨rfl,nofun⟩
 | .a cs rw g::xs,ys,h=>by
   simp only[ai9,ag,zAb]at h;obtain⟨cs',h1,zs,h2,rfl⟩:=h;obtain⟨e1,e2⟩:=af5 h2;refine⟨congrArg (·+1) e1,λt ht=>?_⟩;cases t with
   | zero=>exact .inr ⟨_,_,_,_,rfl,h1,rfl⟩
   | succ t=>exact e2 t (Nat.lt_of_succ_lt_succ ht)
 | .b::_,_,h=>by cases h
theorem ajo(hw:∀x∈ws,cR 14 x){r:AV×aB}{q:FQ}(h:(aja (14+ws.length) r).wp (·=q)):dL ws q.1 q.2 r:=by
 obtain⟨v,n,os,le⟩:=r;unfold aja at h;dsimp only at h;generalize ags (14+ws.length) v ⟨n,os,le⟩=sel at h;cases hb:Wx le&&decide ((∀s∈sel,s<n)/\sel.Nodup)<;>rw[hb]at h
 . exact h.elim
 rw[zAa,zAc]at hb;obtain⟨hl,hs,hn⟩:=hb;cases le with
 | cons _ _=>cases hl
 | nil=>
   rw[cond_true]at h;split at h
   . rename_i v' bs e1 e2;obtain rfl:(v',bs.reverse)=q:=h;obtain⟨l1,l2⟩:=af5 e2;rw[List.length_map]at l1 l2;refine(oX gR.lv (C:=Cw cfg ws) (st:=⟨.c0 v .a0 .a0,1,⟨n,os,[]⟩,[],none⟩) (kb:=0) (sel:=sel) (ts':=.c0 v' .a0 .a0) (o':=⟨bs.reverse.length,bs.reverse,[]⟩) (B6 hw) (Nat.zero_le _) (λs h=>⟨Nat.zero_le _,hs s h⟩) hn (λp hp=>by grind) rfl (by rw[List.length_reverse,l1,Nat.zero_add]) rfl (λi hi=>absurd hi (Nat.not_lt_zero i)) (λt ht=>?_) (by show xB (kG (14+ws.length) (fY (14+ws.length) 0 sel) 20) _=_;simp only[xB,e1,ob]) (λd hd=>by grind) (λi hi=>by grind)).b0 λs hs=>by rw[hs];exact⟨rfl,rfl⟩
     have:=l2 t ht;rw[show(sel.map (⟨n,os,[]⟩:aB).at).getD t .b=(⟨n,os,[]⟩:aB).at (sel.getD t 0)by grind]at this;rw[show(⟨bs.reverse.length,bs.reverse,[]⟩:aB).at (0+t)=bs.getD t .b by show bs.reverse.getD _ _=_;grind];exact this
   . exact h.elim
noncomputable def fT(S:aQ)(ws:List cD)(f:Nat)(args:List AV):Tr FQ:=xz tab (cH cfg S) (tK S) jE 1000 (Cw cfg ws) (aL f) (jS (dH f) args dO) λx=>aT (wj tab (Cw cfg ws) (dH f) x) (aja (14+ws.length))
theorem zd(hS:ak Tryz.prog cfg S)(hws:∀x∈ws,cR 14 x){args:List AV}{q:FQ}{R:(FQ->Prop)->Prop}(hb:aY tab f=some (dH f,aL f))(hlen:args.length<=1000)(hw:∀Q:FQ->Prop,gG Q (fT S ws f args) D=R Q)(h:∀Q:FQ->Prop,Q q->R Q):bu Tryz.prog cfg f args ws q.1 q.2:=by
 have h0:(fT S ws f args).wp (·=q):=cg ((hw _).mpr (h _ rfl));refine cC.c0 hS hb hlen ((wE (cC.a0 hS) (nj cfg S) ai h0).a0 λy hy=>?_);have hy:(aT (wj tab (Cw cfg ws) (dH f) y) (aja (14+ws.length))).wp (·=q):=hy;cases he:wj tab (Cw cfg ws) (dH f) y with
 | none=>rw[he]at hy;exact hy.elim
 | some r=>
   rw[he]at hy;exact⟨r,rfl,ajo hws hy⟩
def TY:aQ:=pX (aK (aK (aK (aK (eQ gZ 26 (fl 14 [] rE)) 42 sFv) 75 tZ) 205 xY) 257 tz) 92 FB
theorem abc:aY tab 7=some (dH 7,aL 7):=κ
theorem ame(hS:ak Tryz.prog cfg S):ak Tryz.prog cfg (aK S 257 tz):=by
 refine au hS λargs t v he hv=>?_;unfold tz at he;split at he
 . rename_i ng lg s e g mo da a b c;cases he;replace hv:=aF hv;obtain⟨⟨h1,-⟩,hv⟩:=hv;cases hv;obtain⟨h6,i1,i2,i3,i4,i5,h0⟩:=yn.1 h1;obtain⟨lm,ld,-⟩:=aaX h0;obtain⟨-,-,-,n4,n5,n6⟩:=abT h6 lm ld;refine nF aga ai (bE 13812202242002020006) (R:=λQ=>(λ(C:List UInt8)=>(λ(E:List UInt8)=>(λ(A:Bool)=>(λ(B:Prop)=>ο (τ s.length mo.length) 1000000/\ο (τ C.length da.length) 1000000/\ο E.length 1000000/\(A->A/\A/\A/\A/\Q (.b (aa g 0)))/\(B->B/\B/\B/\B/\Q (.b false))) (A=false)) (not (eA E))) (C++da)) (s++mo)) (λ_=>by kernel_rfl) λQ' hQ=>?_;unfold cK at hQ;try dsimp only
   rw[n4,n5,n6];cases hx:eA (s++mo++da)<;>rw[hx]at hQ<;>simp only[Bool.not_true,Bool.not_false,Bool.true_and,Bool.false_and]at hQ<;>simp[hQ]
 . cases he
theorem adR:ak Tryz.prog cfg TY:=eG (ame (ajG (afy (aib (ajL aW))))) NE
def b0(z:Bool):Nat:=bif z then 15 else 14
abbrev nw(z:Bool)(k:Int)(x:Da)(p a b c d:Int):FQ:=(.d [.c (b0 z) 0 1 (.a 1),.a .i64 0],[.a (eb k .f x p a b c d) true none])
abbrev j7(z:Bool)(a b c d:Int):FQ:=(.d [.c (b0 z+1) 0 1 (.a 1),.a .i64 0],[.a (eb 1 (.c (b0 z) 0 1 (.a 1)) rb 0 0 0 0 0) true none,.a (aab a b c d) true none])
abbrev jc(x:Da):Int:=aP x.ng x.s x.e x.mo x.da
abbrev iQ(x:Da):Int:=bq x.ng x.s x.e x.mo x.da
def CP(z:Bool)(x:Da):FQ:=nw z 3 rb 1 0 (bf (jI x.ng x.s x.e x.g)) 0 (bf (jL x.ng x.s x.e x.g+1)-1)
def CR(z:Bool)(x:Da):FQ:=nw z 2 ⟨x.ng,x.lg,x.s,x.e,0,x.mo,x.da,0,0,0⟩ 0 0 0 0 0
def tS(z:Bool)(x:Da)(Q:FQ->Prop):Prop:=dF x/\dF x/\fk (ab 1 x.g) (Q (CP z x)) (fk (fy x) (Q (j7 z 0 (jc x) 0 (iQ x))) (Q (CR z x)))
theorem ajA(hS:ak Tryz.prog cfg S){z:Bool}{c:Nat}(hb:aY tab f=some (dH f,aL f))(hw:∀x Q,gG Q (fT S (ZT z) f [.g (acB x (sl0 z c))]) D=tS z x Q){x:Da}(h:dF x):(1<=x.g->bu Tryz.prog cfg f [.g (acB x (sl0 z c))] (ZT z) (CP z x).1 (CP z x).2)/\(x.g=0->eA (x.s++x.mo++x.da)->bu Tryz.prog cfg f [.g (acB x (sl0 z c))] (ZT z) (CR z x).1 (CR z x).2)/\(fy x->bu Tryz.prog cfg f [.g (acB x (sl0 z c))] (ZT z) (j7 z 0 (jc x) 0 (iQ x)).1 (j7 z 0 (jc x) 0 (iQ x)).2):=by
 refine⟨λh1=>zd hS TU hb θ (hw x) λQ hQ=>⟨h,h,λ_=>hQ,λe=>?_⟩,λh1 h2=>zd hS TU hb θ (hw x) λQ hQ=>⟨h,h,λe=>?_,λ_=>⟨λe=>?_,λ_=>hQ⟩⟩,λh1=>zd hS TU hb θ (hw x) λQ hQ=>⟨h,h,λe=>?_,λ_=>⟨λ_=>hQ,λe=>?_⟩⟩⟩
 . grind [bF]
 . grind [aq]
 . grind [fy,cK]
 . grind [fy,cK,ao,aq]
 . rw[h1]at e;cases e
section
variable(x y:Da)(c:Nat){Q:FQ->Prop}
theorem Pz(z:Bool):gG Q (fT TY (ZT z) 7 [.g (acB x (sl0 z c))]) (bE 114142056256666666666666666666666)=tS z x Q:=by cases z<;>kernel_rfl
theorem apQ(z:Bool):gG Q (fT TY (ZT z) 7 [.g (ra (WH 1 x) (WH 1 y) (sl0 z c))]) (bE 100056205666200056666666305200062666320006205666632000620066666666666666666666666666666)=(dF x/\dF x/\(not (fy x))=false/\dF y/\dF y/\(not (fy y))=false/\gN x/\gN y/\not (ab (gc 0 (jc x) 0 (iQ y)) 0)=false/\gN x/\gN y/\Q (j7 z 0 (jc x) 0 (iQ y))):=by cases z<;>kernel_rfl
theorem ap6(z:Bool):gG Q (fT TY (ZT z) 7 [.g (ra (WH 1 x) (WH 2 rb) (sl0 z c))]) (bE 10566620006666666666666632000620066666666666666666666666666666)=(dF x/\dF x/\(not (fy x))=false/\gN x/\Q (j7 z 0 (jc x) 1 0)):=by cases z<;>kernel_rfl
theorem apn(z:Bool):gG Q (fT TY (ZT z) 7 [.g (ra (WH 1 x) (WH 3 rb) (sl0 z c))]) (bE 1066620006666666666666632000620066666666666666666666666666666)=(dF x/\dF x/\(not (fy x))=false/\gN x/\Q (nw z 5 rb 0 0 (jc x) 1 0)):=by cases z<;>kernel_rfl
theorem aor(z:Bool):gG Q (fT TY (ZT z) 7 [.g (ra (WH 2 rb) (WH 1 x) (sl0 z c))]) (bE 10005620006666666666632000626666666666666666666666666666666666)=(dF x/\dF x/\(not (fy x))=false/\gN x/\Q (j7 z (-1) 0 0 (iQ x))):=by cases z<;>kernel_rfl
theorem apg(z:Bool):gG Q (fT TY (ZT z) 7 [.g (ra (WH 3 rb) (WH 1 x) (sl0 z c))]) (bE 1006256666666666632000626666666666666666666666666666666666)=(dF x/\dF x/\(not (fy x))=false/\gN x/\Q (nw z 4 rb 0 (-1) 0 0 (iQ x))):=by cases z<;>kernel_rfl
end
section
variable{x y:Da}{z:Bool}{c:Nat}(h:dF x)
def zS(h:dF x):=ajA (z:=z) (c:=c) adR abc (λx Q=>Pz x c z) h
include h
variable(hn:fy x)
include hn
theorem aaF:(not (fy x))=false/\gN x=true:=⟨by rw[hn];rfl,qd h hn⟩
theorem Qy(h':dF y)(hn':fy y)(hle:jc x<=iQ y):bu Tryz.prog cfg 7 [.g (ra (WH 1 x) (WH 1 y) (sl0 z c))] (ZT z) (j7 z 0 (jc x) 0 (iQ y)).1 (j7 z 0 (jc x) 0 (iQ y)).2:=zd adR TU abc θ (λQ=>apQ x y c z) λQ hQ=>by
 obtain⟨n1,n2⟩:=aaF h hn;obtain⟨n3,n4⟩:=aaF h' hn';have:=xF 0 (jc x) 0 (iQ y);exact⟨h,h,n1,h',h',n3,n2,n4,by grind [aq],n2,n4,hQ⟩
theorem QC:bu Tryz.prog cfg 7 [.g (ra (WH 1 x) (WH 2 rb) (sl0 z c))] (ZT z) (j7 z 0 (jc x) 1 0).1 (j7 z 0 (jc x) 1 0).2:=zd adR TU abc θ (λQ=>ap6 x c z) λQ hQ=>⟨h,h,(aaF h hn).1,(aaF h hn).2,hQ⟩
theorem QD:bu Tryz.prog cfg 7 [.g (ra (WH 1 x) (WH 3 rb) (sl0 z c))] (ZT z) (nw z 5 rb 0 0 (jc x) 1 0).1 (nw z 5 rb 0 0 (jc x) 1 0).2:=zd adR TU abc θ (λQ=>apn x c z) λQ hQ=>⟨h,h,(aaF h hn).1,(aaF h hn).2,hQ⟩
theorem QE:bu Tryz.prog cfg 7 [.g (ra (WH 2 rb) (WH 1 x) (sl0 z c))] (ZT z) (j7 z (-1) 0 0 (iQ x)).1 (j7 z (-1) 0 0 (iQ x)).2:=zd adR TU abc θ (λQ=>aor x c z) λQ hQ=>⟨h,h,(aaF h hn).1,(aaF h hn).2,hQ⟩
theorem QK:bu Tryz.prog cfg 7 [.g (ra (WH 3 rb) (WH 1 x) (sl0 z c))] (ZT z) (nw z 4 rb 0 (-1) 0 0 (iQ x)).1 (nw z 4 rb 0 (-1) 0 0 (iQ x)).2:=zd adR TU abc θ (λQ=>apg x c z) λQ hQ=>⟨h,h,(aaF h hn).1,(aaF h hn).2,hQ⟩
end
end Go.Ev
set_option linter.all false
set_option maxRecDepth 100000
set_option maxHeartbeats 4000000
namespace Go.Ev
open Go Go.Proofs
variable{n k b i j:Nat}{S:aQ}{x y:Rn}{a c:Int}{C:fg}{st:St}{ea la:Bool}{L:List It}{E:cD}{top:List cD}
noncomputable def wA(P:List Rn->Prop)(w:List AV)(n:Nat):Bool:=@decide (∃R:List Rn,bh R=w/\R.length=n/\P R) (Classical.propDecidable _)
noncomputable def FO(P:List Rn->Prop)(F:List Rn->List Rn):aav:=λ
 | [.c 14 0 n K],[.a w false none]=>some (aH [wA P w n] (.a0 (.d [.c 15 0 (F (Xw w)).length (.a (F (Xw w)).length),.a .i64 0],[.a (bh (F (Xw w))) true (some 4)])))
 | _,_=>none
noncomputable def TN(P:List Rn->Prop)(F:List Rn->List Rn):aQ:=eQ (eQ (aK gZ 75 tZ) 25 (fl 14 [21] sI)) 31 (fl 14 [4] (FO P F))
def F6(L:List It)(ea la:Bool):cx:=iz jE 1 (d9 103 [1,2,3,5,6,34,35,36] (Do L ea la))
theorem OB(P:List Rn->Prop)(F:List Rn->List Rn)(w:List AV)(L:List It)(ea la:Bool)(n:Nat)(K:fg){Q:EQ->Prop}:gG Q (bT (TN P F) (F6 L ea la) [.a w false none] 7 [.g (fS 4 (.c 14 0 n K) ea la)]) (bE 106220022000705226666)=((λ(A B C E T:AV)(N:Int)(G:List AV)(I O:Nat)=>(λ(H U:List AV)=>(λ(V:Nat)=>(λ(W:cD)=>and true (and (ο (τ 0 I) w.length) (bc 14 U))/\abk U n 4 ea la/\π L.length n/\π n n/\aa N N/\bQ ea ea/\bQ la la/\(∀J1:Nat->Value,and true (and (ο (τ 0 O) G.length) (bc 14 H))/\wA P H n/\Q (.d [.c 19 0 1 (fg.a 1),C],⟨5,[W,W,.a (bh (F (Xw H))) true (some 4),.a G true (some 4),.a [.a .u8 4,E,E,B,C,C,B,B,A,A,A,A,E,E,B,C,C,B,B,A,A,A,A,E,E,B,C,C,B,B,A,A,A,.c 14 0 n K,.b ea,.b la] true none],[]⟩))) (.a [.a .u8 1,.c 17 0 V (fg.a V),E,E,B,C,C,B,B,A,A,A,A,T,C,T,C] true none)) (List.length (F (Xw H)))) (b_ G 0 O) (b_ w 0 I)) (.a .u8 0) (.e []) (.a .i64 0) (.b false) (.a .i8 0) (ν n) (bh (pB ea la L n)) (HMul.hMul n 21) (HMul.hMul n 4)):=κ
theorem afZ{P:List Rn->Prop}{w:List AV}:wA P w n=true↔∃R:List Rn,bh R=w/\R.length=n/\P R:=by
 grind [wA]
theorem X5:∀{L:List Rn},Xw (bh L)=L
 | []=>rfl
 | r::L=>by simp only[bh,Xw,X5]
def wS(P:List Rn->Prop)(F:List Rn->List Rn):Prop:=∀R K,P R->bu Tryz.prog cfg 31 [.c 14 0 R.length K] [.a (bh R) false none] (.d [.c 15 0 (F R).length (.a (F R).length),.a .i64 0]) [.a (bh (F R)) true (some 4)]
theorem anG{P:List Rn->Prop}{F:List Rn->List Rn}(h:wS P F)(hS:ak Tryz.prog cfg S):ak Tryz.prog cfg (eQ S 31 (fl 14 [4] (FO P F))):=by
 refine bm hS (fW gR.lv Az λargs ws t r he hr=>?_);unfold FO at he;split at he
 . rename_i n K w;cases he;replace hr:=aF hr;obtain⟨⟨h1,-⟩,hr⟩:=hr;obtain⟨R,rfl,rfl,hp⟩:=afZ.1 h1;cases hr;rw[X5];exact⟨h R K hp,λx hx=>by grind [tm]⟩
 grind
theorem amh{P:List Rn->Prop}{F:List Rn->List Rn}(h:wS P F):ak Tryz.prog cfg (TN P F):=anG h (ajV (afy aW))
theorem dL.fw{ws:List cD}(hw:∀x∈ws,cR 14 x){k:Int}{x:Da}{p b d:Int}{days:List AV}{rw:Bool}{g:Option Nat}{os:List cD}{kd kf l:Nat}(hd:kd<n)(hf:kf<n)(hne:kd≠kf)(h1:os.getD (n-1-kd) .b=.a days rw g)(h2:os.getD (n-1-kf) .b=.a (eb k (.c (14+ws.length+kd) 0 l C) x p a b c d) true none)(hlow:bw days=[]):dL ws (.d [.c (14+ws.length+1) 0 1 (.a 1),.a .i64 0]) [.a (eb k (.c (14+ws.length) 0 l C) x p a b c d) true none,.a days rw g] (.d [.c (14+ws.length+kf) 0 1 (.a 1),.a .i64 0],⟨n,os,[]⟩):=by
 have a1:(⟨n,os,[]⟩:aB).at kd=.a days rw g:=h1;have a2:(⟨n,os,[]⟩:aB).at kf=.a (eb k (.c (14+ws.length+kd) 0 l C) x p a b c d) true none:=h2;have nl:∀j,aS (14+ws.length+j) (14+ws.length)=false:=λj=>by grind [aU]
 have l1:To (14+ws.length) [(14+ws.length+kd,14+ws.length),(14+ws.length+kf,14+ws.length+1)] (14+ws.length+kd)=some (14+ws.length):=by
  grind [To,xx,rY]
 have l2:To (14+ws.length) [(14+ws.length+kd,14+ws.length),(14+ws.length+kf,14+ws.length+1)] (14+ws.length+kf)=some (14+ws.length+1):=by
  grind [To,xx,ic,rY]
 have hv':kG ((Cw cfg ws).lo+0) (fY (Cw cfg ws).lo 0 [kd,kf]) 20 (.d [.c (14+ws.length+kf) 0 1 (.a 1),.a .i64 0])=some (.d [.c (14+ws.length+1) 0 1 (.a 1),.a .i64 0]):=by
  show kG (14+ws.length) [(14+ws.length+kd,14+ws.length),(14+ws.length+kf,14+ws.length+1)] 20 _=_;simp_all [kG,yw,ob]
 refine(oX gR.lv (C:=Cw cfg ws) (st:=⟨.c0 (.d [.c (14+ws.length+kf) 0 1 (.a 1),.a .i64 0]) .a0 .a0,1,⟨n,os,[]⟩,[],none⟩) (kb:=0) (sel:=[kd,kf]) (ts':=.c0 (.d [.c (14+ws.length+1) 0 1 (.a 1),.a .i64 0]) .a0 .a0) (o':=⟨2,[.a (eb k (.c (14+ws.length) 0 l C) x p a b c d) true none,.a days rw g],[]⟩) (B6 hw) (Nat.zero_le _) (λs hs=>?_) η (λp hp=>by grind) rfl rfl rfl (λi hi=>absurd hi (Nat.not_lt_zero i)) (λt ht=>?_) ?_ (λd hd=>by grind) (λi hi=>by grind)).b0 λs hs=>?_
 . grind
 . have:t=0\/t=1:=η
   rcases this with rfl|rfl
   . refine .inl ⟨?_,?_⟩
     . grind [aB.at]
     . show cR (14+ws.length) (aB.at _ kd);rw[a1];exact⟨rfl,λi hi=>by grind [HL]⟩
   . refine .inr ⟨_,_,_,_,a2,?_,rfl⟩;show yw (kG (14+ws.length) [(14+ws.length+kd,14+ws.length),(14+ws.length+kf,14+ws.length+1)] 20) _=_;simp only[eb,yw,kG,l1,ob]
 . simp only[xB,hv',ob]
 . rw[hs];exact⟨rfl,rfl⟩
theorem adh{S':aQ}{C:bg}{c:Code}{Q:AX×St->Prop}(h:bN Tryz.prog (cH cfg S) C c st Q):bN Tryz.prog (cH cfg S') C c st Q:=λD m a w hi ht K hK=>
 h D m a w (dX.to (cfg:=cH cfg S') (cfg':=cH cfg S) rfl rfl hi) ht K λr hr hro D' m' a' w' ht' he=>hK r hr hro D' m' a' w' ht' (dw.to (cfg:=cH cfg S) (cfg':=cH cfg S') rfl rfl he)
theorem ma:∀{R:List Rn},bc 14 (bh R)=true
 | []=>rfl
 | _::R=>ma (R:=R)
theorem Qt{P:List Rn->Prop}{F:List Rn->List Rn}(hR:wS P F){K:fg}(h:nI 4 ea la L)(hP:P (pB ea la L L.length)):bu Tryz.prog cfg 7 [.g (fS 4 (.c 14 0 L.length K) ea la)] [.a (dp L) false none] (.d [.c 16 0 1 (.a 1),.a .i64 0]) [.a (eb 1 (.c 15 0 (F (pB ea la L L.length)).length (.a (F (pB ea la L L.length)).length)) rb 0 0 0 0 0) true none,.a (bh (F (pB ea la L L.length))) true (some 4)]:=by
 refine abj (amh hR) (L:=F6 L ea la) abc θ (dv afR λi hi e he st Q hw=>?_) (λ_=>OB P F (dp L) L ea la L.length K) λQ' hQ=>?_
 . have hi:i=0:=η
   subst hi;cases he;exact adh (bR (cC.a0 aj6) ζ rfl (ao2 h) hw)
 . try dsimp only
   have n1:=h.n1;have n2:=h.n2;have hB:abk (dp L) L.length 4 ea la=true:=rd.2 ⟨L,rfl,rfl,h⟩;have hl:(pB ea la L L.length).length=L.length:=Vl;have hRB:wA P (bh (pB ea la L L.length)) L.length=true:=afZ.2 ⟨_,rfl,hl,hP⟩;have hw4:b_ (bh (pB ea la L L.length)) 0 (L.length*4)=bh (pB ea la L L.length):=by
    grind [b_,kC]
   have l1:ο (0+L.length*21) (dp L).length=true:=by rw[al,S0];omega
   have l2:ο (0+L.length*4) (bh (pB ea la L L.length)).length=true:=by grind [al,kC]
   have l3:π L.length L.length=true:=aJ.mpr rfl;have l4:∀b:Bool,bQ b b=true:=λb=>by cases b<;>rfl
   rw[qi,lU,hw4,ma,X5,hB,l1,l2,l3];simp only[l4,hRB,Bool.and_true,true_and,and_true,true_imp_iff,reduceCtorEq,false_imp_iff];refine⟨aa0 _,λ_=>hQ _ ?_⟩;exact dL.fw i7 (k:=1) (x:=rb) (p:=0) (a:=0) (b:=0) (c:=0) (d:=0) (kd:=2) (kf:=4) ζ ζ ζ rfl rfl sR
def rF(R:List Rn):List Rn:=aaO (aa8 R)
def rP(R:List Rn):Prop:=1<=R.length/\R.length<=6/\(∀x∈R,bA x.a x.b x.c x.d=0)/\∀x∈R,IJ x.b/\IJ x.d
theorem SP:wS rP rF:=λ_ _ ⟨h1,h2,hc,hi⟩=>fO h1 h2 hc hi
theorem abC{ng lg:Bool}{s:List UInt8}{e g:Int}{mo da:List UInt8}{b:Int}(h:fL ng lg s e g mo da a b c) : -3652425000000000002<=aP ng s e mo da/\aP ng s e mo da<=bq ng s e mo da/\bq ng s e mo da<=3652425000000002000:=by
 obtain⟨h6,_,_,_,_,h0,hx,_⟩:=U9.1 h;exact Gx (aaj h0 hx h6).2.2.2.2.1
theorem ahL{x:It}(h:aap 4 x) : -3652425000000000002<=oB x/\oB x<=mw x/\mw x<=3652425000000002000:=by
 obtain⟨x1,x2⟩:=ajr h;have b1:=abC x1;unfold oB mw;cases hr:x.r with
 | false=>grind
 | true=>
   rw[cond_true];have b2:=abC (x2 hr);grind [aap,mB,mV,aq]
theorem akS{x:It}(h:aap 4 x):bA (kW ea la x).a (kW ea la x).b (kW ea la x).c (kW ea la x).d=0/\IJ (kW ea la x).b/\IJ (kW ea la x).d:=by
 have hb:=ahL h;grind [gA,kW,IJ]
theorem aef(h:nI 4 ea la L)(h5:L.length<=6):rP (pB ea la L L.length):=by
 have key:∀x∈pB ea la L L.length,bA x.a x.b x.c x.d=0/\IJ x.b/\IJ x.d:=λx hx=>by
  obtain⟨i,hi,rfl⟩:=List.mem_map.1 hx;exact akS (h.it i (List.mem_range.1 hi))
 exact⟨by rw[Vl];exact h.n1,by rw[Vl];omega,λx hx=>(key x hx).1,λx hx=>(key x hx).2⟩
theorem aqh{ea la:Bool}{L:List It}{K:fg}(h:nI 4 ea la L)(h5:L.length<=6):bu Tryz.prog cfg 7 [.g (fS 4 (.c 14 0 L.length K) ea la)] [.a (dp L) false none] (.d [.c 16 0 1 (.a 1),.a .i64 0]) [.a (eb 1 (.c 15 0 (rF (pB ea la L L.length)).length (.a (rF (pB ea la L L.length)).length)) rb 0 0 0 0 0) true none,.a (bh (rF (pB ea la L L.length))) true (some 4)]:=Qt SP h (aef h h5)
structure Ye(x:Rn):Prop where
 c:bA x.a x.b x.c x.d=0
 b1 : -4000000000000000000<=x.b
 b2:x.b<=4000000000000000000
 d1 : -4000000000000000000<=x.d
 d2:x.d<=4000000000000000000
def Ud(x:Rn):Int:=if x.a = -1 then -5000000000000000000 else x.b
def fU(x:Rn):Int:=if x.c=1 then 5000000000000000000 else x.d
theorem Ye.a0(h:Ye x):(x.a=0/\Ud x=x.b\/x.a = -1/\x.b=0/\Ud x = -5000000000000000000)/\(x.c=0/\fU x=x.d\/x.c=1/\x.d=0/\fU x=5000000000000000000)/\Ud x<=fU x:=by
 obtain⟨h0,h1,h2,h3,h4⟩:=h;grind [gA,Ud,fU]
theorem adq(hx:Ye x)(hy:Ye y):iM x y=true↔Ud x<Ud y\/Ud x=Ud y/\fU x<fU y:=by
 have k1:=hx.a0;have k2:=hy.a0;obtain⟨-,b1,b2,d1,d2⟩:=hx;obtain⟨-,b3,b4,d3,d4⟩:=hy;have c1:=xF x.a x.b y.a y.b;have c2:=xF x.c x.d y.c y.d;simp[iM,In,bF];omega
theorem afS(hx:Ye x)(hy:Ye y):acE x y=true↔Ud x<=fU y+1/\Ud y<=fU x+1:=by
 have k1:=hx.a0;have k2:=hy.a0;obtain⟨q1,b1,b2,d1,d2⟩:=hx;obtain⟨q2,b3,b4,d3,d4⟩:=hy;have c1:=xF y.a y.b x.a x.b;have c2:=xF x.a x.b y.c y.d;have c3:=xF y.a y.b x.c x.d;have e1:=@Hr x.c x.d;have e2:=@Hr y.c y.d;unfold acE vz s6;rw[zAc];simp only[q1,q2,true_and];obtain⟨ka,kb,kc⟩:=k1;obtain⟨la,lb,lc⟩:=k2;rcases ka with⟨ka1,ka2⟩|⟨ka1,ka3,ka2⟩<;>rcases kb with⟨kb1,kb2⟩|⟨kb1,kb3,kb2⟩<;>rcases la with⟨la1,la2⟩|⟨la1,la3,la2⟩<;>rcases lb with⟨lb1,lb2⟩|⟨lb1,lb3,lb2⟩<;>omega
theorem afF(hx:Ye x)(hy:Ye y):Ye (fD x y)/\Ud (fD x y)=min (Ud x) (Ud y)/\fU (fD x y)=max (fU x) (fU y):=by
 have k1:=hx.a0;have k2:=hy.a0;obtain⟨q1,b1,b2,d1,d2⟩:=hx;obtain⟨q2,b3,b4,d3,d4⟩:=hy;have c1:=xF y.a y.b x.a x.b;have c2:=xF y.c y.d x.c x.d;rw[gA]at q1 q2;have hA:(0<=gc y.a y.b x.a x.b/\(fD x y).a=x.a/\(fD x y).b=x.b)\/(¬0<=gc y.a y.b x.a x.b/\(fD x y).a=y.a/\(fD x y).b=y.b):=by
  unfold fD;grind [bF]
 have hB:(gc y.c y.d x.c x.d<=0/\(fD x y).c=x.c/\(fD x y).d=x.d)\/(¬gc y.c y.d x.c x.d<=0/\(fD x y).c=y.c/\(fD x y).d=y.d):=by
  unfold fD;grind [bF]
 generalize fD x y=r at *;have hO:Ye r:=⟨by rw[gA];omega,by omega,by omega,by omega,by omega⟩;have k3:=hO.a0;clear q1 q2;exact⟨hO,by omega,by omega⟩
def adA(x:Rn)(n:Int):Prop:=Ud x<=n/\n<=fU x
def Xb(L:List Rn)(n:Int):Prop:=∃x,x∈L/\adA x n
structure aaw(L:List Rn):Prop where
 o:∀x∈L,Ye x
 p:L.Pairwise λx y=>fU x+1<Ud y
theorem aaw.a0{L:List Rn}(h:aaw (x::L)):∀y∈L,fU x+1<Ud y:=(List.pairwise_cons.1 h.p).1
theorem aaw.lo{L:List Rn}(h:aaw (x::L)){n:Int}(hn:Xb (x::L) n):Ud x<=n:=by
 obtain⟨y,hy,h1,h2⟩:=hn;rcases List.mem_cons.1 hy with rfl|hy
 . omega
 . have:=h.a0 y hy;have:=(h.o x ξ).a0.2.2;omega
theorem aca{x y:Rn}:∀{L:List Rn},y∈aaI x L↔y=x\/y∈L
 | []=>by simp[aaI]
 | z::zs=>by
   unfold aaI;cases iM x z with
   | true=>rw[cond_true,List.mem_cons,aca,List.mem_cons];grind
   | false=>simp
theorem adS{x:Rn}(hx:Ye x):∀{L:List Rn},(∀y∈L,Ye y)->L.Pairwise (λa b=>Ud b<=Ud a)->(aaI x L).Pairwise (λa b=>Ud b<=Ud a)
 | [],_,_=>List.pairwise_singleton _ _
 | z::zs,ho,hp=>by
   obtain⟨h1,h2⟩:=List.pairwise_cons.1 hp;have hz:=ho z ξ;unfold aaI;cases hl:iM x z with
   | true=>
     rw[cond_true];have hl:=(adq hx hz).1 hl;refine List.pairwise_cons.2 ⟨λb hb=>?_,adS hx (λy hy=>ho y (ς _ hy)) h2⟩;grind [aca]
   | false=>
     grind [adq,List.pairwise_cons]
theorem ac5:∀{L acc:List Rn},(∀y∈L,Ye y)->(∀y∈acc,Ye y)->acc.Pairwise (λa b=>Ud b<=Ud a)->(L.foldl (λacc x=>aaI x acc) acc).Pairwise (λa b=>Ud b<=Ud a)/\∀y,y∈L.foldl (λacc x=>aaI x acc) acc↔y∈acc\/y∈L
 | [],acc,_,_,hp=>⟨hp,λy=>by simp⟩
 | x::L,acc,hL,ha,hp=>by
   have hx:=hL x ξ;obtain⟨h1,h2⟩:=ac5 (L:=L) (acc:=aaI x acc) (λy hy=>hL y (ς _ hy)) (λy hy=>by grind [aca]) (adS hx ha hp);grind [aca]
theorem ae8{L:List Rn}(hL:∀y∈L,Ye y):(aa8 L).Pairwise (λa b=>Ud a<=Ud b)/\∀y,y∈aa8 L↔y∈L:=by
 simp_all [ac5,List.pairwise_reverse,aa8,aeI]
structure agu(acc:List Rn):Prop where
 o:∀x∈acc,Ye x
 p:acc.Pairwise λy x=>fU x+1<Ud y
theorem agu.a0{acc:List Rn}{r:Rn}(h:agu acc)(hr:Ye r)(hl:∀x∈acc,Ud x<=Ud r):agu (q8 acc r)/\(∀n,Xb (q8 acc r) n↔Xb acc n\/adA r n)/\∀s,Ud r<=s->∀x∈q8 acc r,Ud x<=s:=by
 cases acc with
 | nil=>
   refine⟨⟨λx hx=>by rw[List.mem_singleton.1 hx];omega,List.pairwise_singleton _ _⟩,λn=>?_,λs hs x hx=>by rw[List.mem_singleton.1 hx];omega⟩;unfold Xb;constructor
   . rintro⟨x,hx,hd⟩;rw[List.mem_singleton.1 hx]at hd;grind
   . rintro(⟨x,hx,_⟩|hd)
     . grind
     . exact⟨r,List.mem_singleton.2 rfl,hd⟩
 | cons q p=>
   have hq:=h.o q ξ;have hp:∀x∈p,Ye x:=λx hx=>h.o x (ς _ hx);obtain⟨p1,p2⟩:=List.pairwise_cons.1 h.p;have lq:=hl q ξ;have cq:=hq.a0.2.2;have cr:=hr.a0.2.2;have ht:=afS hq hr;show agu (bif acE q r then fD q r::p else r::q::p)/\(∀n,Xb (bif acE q r then fD q r::p else r::q::p) n↔_)/\∀s,Ud r<=s->∀x∈(bif acE q r then fD q r::p else r::q::p),Ud x<=s;cases hb:acE q r with
   | true=>
     rw[cond_true];have ht:=ht.1 hb;obtain⟨j1,j2,j3⟩:=afF hq hr;have j2:Ud (fD q r)=Ud q:=δ
     refine⟨⟨λx hx=>?_,List.pairwise_cons.2 ⟨λx hx=>?_,p2⟩⟩,λn=>?_,λs hs x hx=>?_⟩<;>grind [Xb,adA,ξ]
   | false=>
     rw[cond_false];have ht:¬(Ud q<=fU r+1/\Ud r<=fU q+1):=λk=>by grind
     refine⟨⟨λx hx=>?_,List.pairwise_cons.2 ⟨λx hx=>?_,h.p⟩⟩,λn=>?_,λs hs x hx=>?_⟩<;>grind [Xb]
theorem ac7:∀{R acc:List Rn},agu acc->(∀x∈R,Ye x)->R.Pairwise (λa b=>Ud a<=Ud b)->(∀r∈R,∀x∈acc,Ud x<=Ud r)->agu (R.foldl q8 acc)/\∀n,Xb (R.foldl q8 acc) n↔Xb acc n\/Xb R n
 | [],acc,ha,_,_,_=>⟨ha,λn=>by
   refine⟨.inl,?_⟩;rintro(h|⟨x,hx,_⟩)<;>grind⟩
 | r::R,acc,ha,hR,hp,hl=>by
   obtain⟨p1,p2⟩:=List.pairwise_cons.1 hp;obtain⟨s1,s2,s3⟩:=ha.a0 (hR r ξ) (hl r ξ);obtain⟨t1,t2⟩:=ac7 (R:=R) (acc:=q8 acc r) s1 (λx hx=>hR x (ς _ hx)) p2 λu hu x hx=>s3 _ (p1 u hu) x hx;grind [Xb]
theorem afK{L:List Rn}(hL:∀y∈L,Ye y):aaw (aaO (aa8 L))/\∀n,Xb (aaO (aa8 L)) n↔Xb L n:=by
 obtain⟨h1,h2⟩:=ae8 hL;obtain⟨t1,t2⟩:=ac7 (R:=aa8 L) (acc:=[]) ⟨(λx hx=>η),List.Pairwise.nil⟩ (λx hx=>hL x ((h2 x).1 hx)) h1 (λr _ x hx=>η);unfold aaO abL;refine⟨⟨λx hx=>t1.o x (List.mem_reverse.1 hx),List.pairwise_reverse.2 t1.p⟩,λn=>?_⟩;simp_all [Xb]
theorem ai7{L:List Rn}(h:aaw L):jo L=0:=by
 unfold jo;refine xm λj _ hj=>?_;have hj:j<L.length:=δ
 have e:L.getD j x9=L[j]:=η
 unfold qn LO;rw[e,if_pos (h.o _ (σ hj)).c,if_neg];rintro⟨h0,hc⟩;have hk:j-1<L.length:=δ
 have e2:L.getD (j-1) x9=L[j-1]:=η
 rw[e2]at hc;have ho:=h.o _ (σ hj);have hp:=h.o _ (σ hk);have hlt:fU L[j-1]+1<Ud L[j]:=List.pairwise_iff_getElem.1 h.p (j-1) j hk hj δ;have c1:=ho.a0.2.2;have c2:=hp.a0.2.2;rcases hc with hc|hc
 . have:=(adq hp ho).2 δ;grind [iM,bF]
 . have:=(afS hp ho).1 hc;omega
def mf(ea la:Bool)(L:List It)(i:Nat):Bool:=!(L.getD i fP).r&&(!(ea&&π i 0)&&!(la&&π (i+1) L.length))
def aba(ea la:Bool)(L:List It)(i:Nat):Bool:=mf ea la L i&&fy (L.getD i fP).f
def qb(ea la:Bool)(L:List It)(n i:Nat):cD:=bif aS i n&&aba ea la L i then .a (aab 0 (oB (L.getD i fP)) 0 (mw (L.getD i fP))) true none else .b
def abl(ea la:Bool)(L:List It)(i:Nat):List AV:=
 bif mf ea la L i then(bif ab 1 (L.getD i fP).f.g then eb 3 .f rb 1 0 (bf (jI (L.getD i fP).f.ng (L.getD i fP).f.s (L.getD i fP).f.e (L.getD i fP).f.g)) 0 (bf (jL (L.getD i fP).f.ng (L.getD i fP).f.s (L.getD i fP).f.e (L.getD i fP).f.g+1)-1)
  else bif fy (L.getD i fP).f then eb 1 (.c (16+i) 0 1 (.a 1)) rb 0 0 0 0 0
  else eb 2 .f ⟨(L.getD i fP).f.ng,(L.getD i fP).f.lg,(L.getD i fP).f.s,(L.getD i fP).f.e,0,(L.getD i fP).f.mo,(L.getD i fP).f.da,0,0,0⟩ 0 0 0 0 0)
 else eb 3 .f rb (dq (L.getD i fP).f.mo (L.getD i fP).f.da) (W2 ea la L i).a (W2 ea la L i).b (W2 ea la L i).c (W2 ea la L i).d
def aaf(ea la:Bool)(L:List It):Nat->List AV
 | 0=>[]
 | n+1=>aaf ea la L n++abl ea la L n
def D9(L:List It)(ea la:Bool):dW:=λvs o=>match vs with
 | [.h 15 0,.f,.a .i64 z,.f,.f,.c 14 0 n K,.a .i64 n',.a .i64 i]=>s7 o λk1 m K1 ea1 la1=>aH [π L.length n,π m n,aa n' (ν n),aa i 0,aa z 0,aa k1 3,bQ ea1 ea,bQ la1 la] (.a0 (.b 1,[.h 15 0,.f,.a .i64 0,.c 22 0 n (.b 0),.f,.c 14 0 n K,.a .i64 n',.a .i64 (ν n)],⟨8,[.a (aaf ea la L n) true (some 17),qb ea la L n 5,qb ea la L n 4,qb ea la L n 3,qb ea la L n 2,qb ea la L n 1,qb ea la L n 0,.a (fS 3 (.c 14 0 n K1) ea la) true none],[]⟩))
 | _=>none
def Gf(L:List It)(ea la:Bool):cx:=iz jE 1 (d9 103 [1,2,3,5,6,34,35,36] (D9 L ea la))
noncomputable def Hc:aQ:=eQ gZ 25 (fl 14 [21] sI)
theorem Pn(w:List AV)(L:List It)(ea la:Bool)(n:Nat)(K:fg){Q:EQ->Prop}:gG Q (bT Hc (Gf L ea la) [.a w false none] 7 [.g (fS 3 (.c 14 0 n K) ea la)]) (bE 17702030022000705226666)=((λ(A B C E N:AV)(G:Bool)(F:Int)(H I:Nat)=>(λ(O P:List AV)=>and true (and (ο (τ 0 H) w.length) (bc 14 O))/\abk O n 3 ea la/\π L.length n/\π n n/\aa F F/\bQ ea ea/\bQ la la/\(∀J1:Nat->Value,aa F 0=false/\ο n 10000/\G/\G/\G/\ο (τ 0 I) (List.length (aaf ea la L n))/\dM (List.take I (List.drop 0 (aaf ea la L n)))/\ο (τ 0 (List.length (List.take I (List.drop 0 (aaf ea la L n))))) P.length/\Q (.d [.c 23 0 n (fg.a n),C],⟨9,[.a (JL P 0 (List.take I (List.drop 0 (aaf ea la L n)))) true none,.a (aaf ea la L n) true (some 17),qb ea la L n 5,qb ea la L n 4,qb ea la L n 3,qb ea la L n 2,qb ea la L n 1,qb ea la L n 0,.a [.a .u8 3,E,E,B,C,C,B,B,A,A,A,A,E,E,B,C,C,B,B,A,A,A,A,E,E,B,C,C,B,B,A,A,A,.c 14 0 n K,.b ea,.b la] true none],[]⟩))) (b_ w 0 H) (mX [A,.f,E,E,B,C,C,B,B,A,A,A,A,N,C,N,C] n)) (.a .u8 0) (.e []) (.a .i64 0) (.b false) (.a .i8 0) (ο n n) (ν n) (HMul.hMul n 21) (HMul.hMul n 17)):=κ
theorem aed{cfg:cL}{C:bg}{kb:Nat}{o':aB}(hn:st.o.n<=o'.n)(hlen:o'.os.length=o'.n)(hle:o'.le=st.o.le)(hat:∀i,i<st.o.n->o'.at i=st.o.at i):Wk cfg C kb st λs=>s=⟨st.ts,st.tn,o',st.ds,st.ro⟩:=by
 intro D m a w hi ht;have g:∀id,D id->get C o' id=get C st.o id:=λid hd=>by
  have hlt:=hi.lt id hd;grind [get,gB,jT]
 have inv:dX cfg D m C o' w:=by
  refine⟨λid hd=>by rw[g id hd];exact hi.a0 id hd,λi j h1 h2 h3 h4 h5=>hi.inj i j h1 h2 h3 η η,λid hd=>by have:=hi.lt id hd;omega,hi.c0,λid h=>by rw[g id (hi.b0 id h).1];exact hi.b0 id h,λid h=>hi.le id η,hi.lo,hlen⟩
 exact⟨_,D,m,rfl,⟨ht.b0,ht.c0,ht.d0,ht.a0,ht.e0,ht.f0⟩,rfl,rfl,inv,λD0 m0 o0 w0 ho hl he=>⟨inv,he.g0,he.a0,he.l0,Nat.le_trans he.o0 hn,he.os,he.j0,he.c0,he.i0,he.f0,by simp only[hle];exact he.m0,he.e0⟩⟩
theorem aa2{ρ:List (Nat×Nat)}{k:Int}{x:Da}{p d e:Int}{l:Nat}(h:To b ρ i=some j):yw (kG b ρ 20) (eb k (.c i 0 l C) x p a c d e)=some (eb k (.c j 0 l C) x p a c d e):=by
 simp only[eb,yw,kG,h,ob]
theorem acY{ρ:List (Nat×Nat)}{k:Int}{x:Da}{p d e:Int}:yw (kG b ρ 20) (eb k .f x p a c d e)=some (eb k .f x p a c d e):=by
 rfl
theorem agb{ρ:List (Nat×Nat)}(h:To b ρ (16+i)=some (16+i)):yw (kG b ρ 20) (abl ea la L i)=some (abl ea la L i):=by
 grind [abl,acY,aa2]
theorem aa1{b:Nat}{ρ:List (Nat×Nat)}{ea la:Bool}{L:List It}:∀{n:Nat},(∀i,i<n->To b ρ (16+i)=some (16+i))->yw (kG b ρ 20) (aaf ea la L n)=some (aaf ea la L n)
 | 0,_=>rfl
 | n+1,h=>rB (aa1 λi hi=>h i δ) (agb (h n δ))
def Y5(i j q:Nat):Nat:=bif π q i then j else q+1
abbrev WE(a:Nat->Nat)(k:Nat):List Nat:=[a 0,a 1,a 2,a 3,a 4,a 5,k]
theorem acD{W:cD}(hw:∀x∈[W],cR 14 x){tn:Nat}{rel:List Nat}{vs vs':List AV}{a:Nat->Nat}{os:List cD}{t:Nat->cD}{cs cs':List AV}(hsel:∀s∈WE a k,1<=s/\s<n)(hnd:(WE a k).Nodup)(hE:os.getD (n-1) .b=E)(lE:cR 16 E)(ht:∀q,q<6->os.getD (n-1-a q) .b=t q)(lt:∀q,cR 16 (t q))
 (hk:os.getD (n-1-k) .b=.a cs true (some 17)) (hc:yw (kG 16 (fY 15 1 (WE a k)) 20) cs=some cs') (hvs:yw (kG 16 (fY 15 1 (WE a k)) 20) vs=some vs'):VW cfg (Cw cfg [W]) 1 tn rel vs ⟨n,os,[]⟩ vs' ⟨8,[.a cs' true (some 17),t 5,t 4,t 3,t 2,t 1,t 0,E],[]⟩:=by
 have hn:=hsel k (by simp[WE]);have at0:∀(os:List cD) (n i:Nat),(⟨n,os,[]⟩:aB).at i=os.getD (n-1-i) .b:=λos n i=>rfl;have sl:∀q,q<6->t q=os.getD (n-1-a q) .b/\cR 16 (os.getD (n-1-a q) .b):=λq hq=>⟨(ht q hq).symm,by rw[ht q hq];exact lt q⟩;refine VW.d0 gR.lv (C:=Cw cfg [W]) (kb:=1) (sel:=WE a k) (B6 hw) η hsel hnd (λp hp=>by grind) rfl rfl rfl (λi hi=>?_) (λq hq=>?_) hvs
 . have:i=0:=δ
   subst this;rw[at0,at0];refine⟨?_,?_⟩
   . simp_all
   . show cR 16 (os.getD (n-1) .b);grind
 . have:q=0\/q=1\/q=2\/q=3\/q=4\/q=5\/q=6:=by
    simp[WE]at hq;omega
   rw[at0,at0];rcases this with rfl|rfl|rfl|rfl|rfl|rfl|rfl
   . exact .inl (sl 0 ζ)
   . exact .inl (sl 1 ζ)
   . exact .inl (sl 2 ζ)
   . exact .inl (sl 3 ζ)
   . exact .inl (sl 4 ζ)
   . exact .inl (sl 5 ζ)
   . exact .inr ⟨_,_,_,_,hk,hc,rfl⟩
def ahJ(ea la:Bool)(L:List It)(E:cD):Nat->aB
 | 0=>⟨7,[.b,.b,.b,.b,.b,.b,E],[]⟩
 | i+1=>⟨8,[.a (aaf ea la L (i+1)) true (some 17),qb ea la L (i+1) 5,qb ea la L (i+1) 4,qb ea la L (i+1) 3,qb ea la L (i+1) 2,qb ea la L (i+1) 1,qb ea la L (i+1) 0,E],[]⟩
def nv(ea la:Bool)(L:List It)(E:cD)(i:Nat):List cD:=[qb ea la L i 5,qb ea la L i 4,qb ea la L i 3,qb ea la L i 2,qb ea la L i 1,qb ea la L i 0,E]
theorem aeX:ahJ ea la L E (i+1)=⟨8,[.a (aaf ea la L (i+1)) true (some 17),qb ea la L (i+1) 5,qb ea la L (i+1) 4,qb ea la L (i+1) 3,qb ea la L (i+1) 2,qb ea la L (i+1) 1,qb ea la L (i+1) 0,E],[]⟩:=rfl
theorem fK:cR b (qb ea la L n i):=by
 unfold qb;cases(aS i n&&aba ea la L i)
 . exact⟨rfl,λi hi=>by cases hi⟩
 . exact⟨rfl,λi hi=>by grind [aab,HL,bw,aC]⟩
theorem kH(h:i≠n):qb ea la L (n+1) i=qb ea la L n i:=by
 grind [qb,aU]
theorem abS(h:aba ea la L n=false):qb ea la L (n+1) i=qb ea la L n i:=by
 grind [qb,kH]
theorem ab8(h:aba ea la L n):qb ea la L (n+1) n=.a (aab 0 (oB (L.getD n fP)) 0 (mw (L.getD n fP))) true none:=by
 grind [qb,aU]
theorem aa5:cR b .b:=⟨rfl,λi hi=>by cases hi⟩
theorem aac{b d:Int}:cR k (.a (aab a b c d) true none):=⟨rfl,λi hi=>by grind [aab,HL,bw,aC]⟩
theorem ahm(h:aba ea la L i):abl ea la L i=eb 1 (.c (16+i) 0 1 (.a 1)) rb 0 0 0 0 0:=by
 grind [aba,fy,cK,ao,bF,abl]
theorem rc{B:List cD}(h:n-1-k=top.length+j):(top++B).getD (n-1-k) .b=B.getD j .b:=by
 grind
theorem arU(hn:n=7+top.length):(top++nv ea la L E i).getD (n-1) .b=E:=by
 show(top++nv ea la L E i).getD (n-1-0) .b=E;rw[rc (j:=6) δ];rfl
theorem aov{q:Nat}(hn:n=7+top.length)(hq:q<6):(top++nv ea la L E i).getD (n-1-(q+1)) .b=qb ea la L i q:=by
 rw[rc (j:=5-q) δ];rcases(by omega:q=0\/q=1\/q=2\/q=3\/q=4\/q=5)with rfl|rfl|rfl|rfl|rfl|rfl<;>rfl
section
variable{W:cD}(hw:∀x∈[W],cR 14 x){ea la:Bool}{L:List It}{E:cD}(lE:cR 16 E){i n:Nat}{top:List cD}{tn:Nat}{rel:List Nat}{vs vs':List AV}
include hw lE
theorem amD(hn:n=7+top.length)(hk:7<=k)(hkn:k<n)(h5:i<6)(h:aba ea la L i=false)(hc:(top++nv ea la L E i).getD (n-1-k) .b=.a (aaf ea la L i++abl ea la L i) true (some 17))(hvs:yw (kG 16 (fY 15 1 [1,2,3,4,5,6,k]) 20) vs=some vs'):VW cfg (Cw cfg [W]) 1 tn rel vs ⟨n,top++nv ea la L E i,[]⟩ vs' (ahJ ea la L E (i+1)):=by
 rw[aeX];refine acD hw (a:=λq=>q+1) (t:=qb ea la L (i+1)) (k:=k) (λs hs=>?_) ?_ (arU hn) lE (λq hq=>?_) (λ_=>fK) hc ?_ hvs
 . simp[WE]at hs;omega
 . simp[WE];omega
 . rw[abS h];exact aov hn hq
 . have m:∀q,q<6->To 16 (fY 15 1 [1,2,3,4,5,6,k]) (16+q)=some (16+q):=λq hq=>by
    rcases(by omega:q=0\/q=1\/q=2\/q=3\/q=4\/q=5)with rfl|rfl|rfl|rfl|rfl|rfl<;>rfl
   exact rB (aa1 λq hq=>m q δ) (agb (m i h5))
theorem anr(hn:n=7+top.length)(hk:7<=k)(hkn:k<n)(hj:7<=j)(hjn:j<n)(hjk:j≠k)(h5:i<6)(h:aba ea la L i)(hd:(top++nv ea la L E i).getD (n-1-j) .b=.a (aab 0 (oB (L.getD i fP)) 0 (mw (L.getD i fP))) true none)(hc:(top++nv ea la L E i).getD (n-1-k) .b=.a (aaf ea la L i++eb 1 (.c (15+j) 0 1 (.a 1)) rb 0 0 0 0 0) true (some 17))(hvs:yw (kG 16 (fY 15 1 (WE (Y5 i j) k)) 20) vs=some vs'):VW cfg (Cw cfg [W]) 1 tn rel vs ⟨n,top++nv ea la L E i,[]⟩ vs' (ahJ ea la L E (i+1)):=by
 have nl:aS (15+j) 16=false:=by grind [aU]
 have bj:∀q,q<=6->π (15+q) (15+j)=false:=λq hq=>b9.mpr δ;have b1:=bj 1 δ;have b2:=bj 2 δ;have b3:=bj 3 δ;have b4:=bj 4 δ;have b5:=bj 5 δ;have b6:=bj 6 δ;have jj:π (15+j) (15+j)=true:=aJ.mpr rfl;have six:i=0\/i=1\/i=2\/i=3\/i=4\/i=5:=δ
 have mj:To 16 (fY 15 1 (WE (Y5 i j) k)) (15+j)=some (16+i):=by
  rcases six with rfl|rfl|rfl|rfl|rfl|rfl<;>simp only[WE,Y5,π,To,fY,xx,nl,b1,b2,b3,b4,b5,b6,jj,zAj,Nat.reduceAdd]
 have m:∀q,q<i->To 16 (fY 15 1 (WE (Y5 i j) k)) (16+q)=some (16+q):=λq hq=>by
  rcases six with rfl|rfl|rfl|rfl|rfl|rfl<;>rcases(by omega:q=0\/q=1\/q=2\/q=3\/q=4)with rfl|rfl|rfl|rfl|rfl<;>first|omega|rfl
 have sA:∀q,(q=i/\Y5 i j q=j)\/(q≠i/\Y5 i j q=q+1):=λq=>by
  unfold Y5;cases e:π q i
  . exact .inr ⟨b9.mp e,rfl⟩
  . exact .inl ⟨aJ.mp e,rfl⟩
 rw[aeX];refine acD hw (a:=Y5 i j) (t:=qb ea la L (i+1)) (k:=k) (λs hs=>?_) ?_ (arU hn) lE (λq hq=>?_) (λ_=>fK) hc (rB (aa1 m) (by rw[ahm h];exact aa2 mj)) hvs
 . have:=sA 0;have:=sA 1;have:=sA 2;have:=sA 3;have:=sA 4;have:=sA 5;simp only[WE,List.mem_cons,List.not_mem_nil,or_false]at hs;omega
 . have:=sA 0;have:=sA 1;have:=sA 2;have:=sA 3;have:=sA 4;have:=sA 5;simp[WE];omega
 . by_cases e:q=i
   . subst e;rw[ab8 h,<-hd];simp[Y5]
   . rw[kH e,<-aov (top:=top) (E:=E) hn hq,show Y5 i j q=q+1 by simp[Y5,b9.mpr e]]
end
end Go.Ev
