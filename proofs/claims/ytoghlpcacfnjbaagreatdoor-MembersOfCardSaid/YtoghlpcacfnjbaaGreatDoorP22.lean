import Derived.Test.YtoghlpcacfnjbaaGreatDoorP21
set_option linter.all false
set_option maxRecDepth 100000
set_option maxHeartbeats 4000000
section
namespace Go.Ev
open Go Go.Proofs
def WR:dJ:=λargs=>match args with
 | [.str [c0,c1],.int .i64 n]=>some (aH [cg c0,cg c1,ab 0 n,ab n 99] (.ret (.bool (agr [c0,c1] n))))
 | _=>none
def U5:aR:=aY U4 176 WR
def aw(c0 c1:UInt8):Nat->List Int
 | 0=>[]
 | g+1=>aw c0 c1 g++(bif agr [c0,c1] ((g:Int)+1)then[(g:Int)+1]else[])
def il(b:Nat):List Int->AV
 | []=>.nilslice
 | x::xs=>.slice b 0 (xs.length+1) (.rest 0)
def y7:List Int->aC
 | []=>⟨0,[],[]⟩
 | x::xs=>⟨1,[.cells ((x::xs).map (AV.int .i64)) true (some 1)],[]⟩
theorem Fy{tn:Nat}{rel:List Nat}{vs vs':List AV}{x:aE}{k:Nat}{os:List aE}(hlen:os.length=k)(hx:cR 14 x)(hvs:xE (kr 14 [(14+k,14)] 20) vs=some vs') :
 VW cfg (Cw cfg []) 0 tn rel vs ⟨k+1,x::os,[]⟩ vs' ⟨1,[x],[]⟩:=by
 refine VW.move dG.lv (C:=Cw cfg []) (kb:=0) (sel:=[k]) Aa (Nat.zero_le _) (λs hs=>?_) (by simp) (λp hp=>by cases hp) rfl rfl rfl (λi hi=>absurd hi (Nat.not_lt_zero i)) (λt ht=>?_) hvs
 . simp only[zAf]at hs;subst hs;exact⟨Nat.zero_le _,Nat.lt_succ_self _⟩
 . have:t=0:=by simp at ht;omega
   subst this;refine .inl ⟨?_,?_⟩
   . show(⟨1,[x],[]⟩:aC).at 0=(⟨k+1,x::os,[]⟩:aC).at k;unfold aC.at;simp
   . show cR 14 ((⟨k+1,x::os,[]⟩:aC).at k);unfold aC.at;simpa using hx
theorem mf{L:List Int}{rw:Bool}{g:Option Nat}{b:Nat}:cR b (.cells (L.map (AV.int .i64)) rw g):=by
 refine⟨rfl,λi hi=>?_⟩;exfalso;obtain⟨v,hv,hi⟩:=fO.1 hi;obtain⟨n,_,rfl⟩:=List.mem_map.1 hv;simp[aD]at hi
def QC:d9:=λvs o=>match vs,o with
 | [.str [c0,c1],.int .i64 g,.int .i64 i,.nilslice],⟨0,[],[]⟩=>some (aH [cg c0,cg c1,ab 0 g,ab g 99,aa i 0] (.ret (.exit 0,[.str [c0,c1],.int .i64 g,.int .i64 g,il 14 (aw c0 c1 g.toNat)],y7 (aw c0 c1 g.toNat))))
 | _,_=>none
def Yq:cz:=iz io 0 (eb 22 [0,7,8,5] QC)
def g9(L:List Int):Bool:=L.isEmpty
def dy(L:List Int):Nat:=L.length
def aQ(L:List Int):List AV:=L.map (AV.int .i64)
def Qa:lB:=λargs ws=>match args,ws with
 | [.str [c0,c1],.int .i64 g],[]=>some (aH [cg c0,cg c1,ab 0 g,ab g 99] (.test (g9 (aw c0 c1 g.toNat)) λb=>bif b then .ret (.nilslice,[])else .ret (.slice 14 0 (dy (aw c0 c1 g.toNat)) (.rest 0),[.cells (aQ (aw c0 c1 g.toNat)) true (some 1)])))
 | _,_=>none
def U6:aR:=fw U5 129 (fy 14 [] Qa)
def NP:bh tab 129=some (dC 129,aN 129):=by kernel_rfl
def I9:(bj (aN 129)).map (·.1)=[0]:=by kernel_rfl
theorem Ga{c0 c1:UInt8}{n:Int}:agr [c0,c1] n=true↔(c0.toNat=88\/(c0.toNat:Int)=48+n/10)/\(c1.toNat=88\/(c1.toNat:Int)=48+n%10):=by
 unfold agr;rw[zAa,zAa,zAb,pc,pc];exact⟨λh=>h.2,λh=>⟨rfl,h⟩⟩
theorem FJ:ak Tryz.prog cfg U5:=by
 refine au OZ λargs t v he hv=>?_;unfold WR at he;split at he
 . rename_i c0 c1 n;cases he;obtain⟨⟨h0,h1,h2,h3,-⟩,hv⟩:=aF hv;rw[ao]at h2 h3;rw[dp]at h0 h1;cases hv;refine iI OZ ag (bA 102088103020770024005288133000581788123220770024220024322077002400) (R:=λQ=>(λ(P T U:Int)(V:Prop)=>(λ(H I:Bool)(N O:Int)=>(λ(A C E W:Bool)(Y Z:Prop)=>(λ(B F G:Prop)=>(λ(u0:Prop->Prop)=>(E->E/\E/\ae .u8 N/\E/\ae .i64 N/\E/\E/\ae .i64 T/\E/\I=false/\(C->C/\C/\C/\(A->u0 (C/\Y/\C/\Z))/\(B->B/\B/\B/\B/\B/\B/\C/\H/\C/\V))/\(G->G/\G/\G/\G/\G/\Q (.bool false)))/\(F->F/\F/\F/\F/\F/\F/\I/\(A->u0 (Y/\Z))/\(B->B/\B/\B/\B/\B/\B/\H/\V))) (λu1=>A/\A/\ae .u8 O/\A/\W/\A/\A/\A/\u1)) (A=false) (E=false) (C=false)) (not H) (aa N T) (not I) (ae .i64 O) (H=false) (Q (.bool (aa O (Int.tmod n 10))))) (aa U 88) (aa P 88) (Int.sub P 48) (Int.sub U 48)) (Int.ofNat c0.toNat) (Int.tdiv n 10) (Int.ofNat c1.toNat) (Q (.bool true))) (λ_=>by kernel_rfl) λQ' hQ=>?_;try dsimp only
   have e1:n.tdiv 10=n/10:=Int.tdiv_eq_ediv_of_nonneg h2;have m1:n.tmod 10=n%10:=Int.tmod_eq_emod_of_nonneg h2;rw[e1,m1];have iff:=@Ga c0 c1 n;have yes:agr [c0,c1] n->Q' (.bool true):=λh=>hQ _ (by rw[h]);have no:¬agr [c0,c1] n->Q' (.bool false):=λh=>hQ _ (by rw[Bool.not_eq_true]at h;rw[h]);have eq:∀b:Bool,(b=true↔agr [c0,c1] n=true)->Q' (.bool b):=λb h=>hQ _ (by rw[Bool.eq_iff_iff.2 h]);simp only[az,reduceCtorEq]
   (repeat' first|exact trivial|refine⟨?_,?_⟩|intro)<;>first|omega|(refine yes (iff.2 ?_);omega)|(refine no λh=>?_;have:=iff.1 h;omega)|(refine eq _ ?_;rw[iff,al];omega)
 . cases he
theorem fW(c0 c1:UInt8)(g:Nat):aw c0 c1 (g+1)=aw c0 c1 g++(bif agr [c0,c1] ((g:Int)+1)then[(g:Int)+1]else[]):=rfl
theorem eU(c0 c1:UInt8):∀g,(aw c0 c1 g).length<=g
 | 0=>Nat.le_refl _
 | g+1=>by
   have:=eU c0 c1 g;rw[fW,zAg];cases agr [c0,c1] ((g:Int)+1)<;>simp<;>omega
theorem jC{b:Nat}{L:List Int}(h:L≠[]):il b L=.slice b 0 L.length (.rest 0):=by cases L with|nil=>exact absurd rfl h|cons x xs=>rfl
theorem q9{L:List Int}(h:L≠[]):y7 L=⟨1,[.cells (L.map (AV.int .i64)) true (some 1)],[]⟩:=by cases L with|nil=>exact absurd rfl h|cons x xs=>rfl
theorem Wm:cx Tryz.prog (cH cfg U5) (Cw cfg []) (lb 129 0) 22 [0,7,8,5] QC:=by
 intro vs o t Q hv hq J;unfold QC at hv;split at hv
 . rename_i c0 c1 g i;cases hv;replace hq:=cL hq;obtain⟨⟨h1,h2,h3,h4,h5,-⟩,hq⟩:=hq;rw[ao]at h3 h4;rw[al]at h5;subst h5;have hq:Q (.exit 0,[.str [c0,c1],.int .i64 g,.int .i64 g,il 14 (aw c0 c1 g.toNat)],y7 (aw c0 c1 g.toNat)):=hq;refine im FJ rfl rfl ag (ι:={i:Nat // i<=g.toNat}) (λx=>[.str [c0,c1],.int .i64 g,.int .i64 (x.1:Int),il 14 (aw c0 c1 x.1)]) (λx=>y7 (aw c0 c1 x.1)) (λx=>g.toNat-x.1) 0 (λ_=>Nat.zero_le _) (λx J=>?_) (Nat.le_refl _) (λJ=>Wk.refl ⟨⟨0,Nat.zero_le _⟩,J,rfl⟩) J;obtain⟨i,hi⟩:=x;dsimp only;have hlen:=eU c0 c1 i;have hs:=fW c0 c1 i;have fin:i=g.toNat->∃vs2 o2,VW cfg (Cw cfg []) 0 22 [0,7,8,5] [.str [c0,c1],.int .i64 g,.int .i64 (i:Int),il 14 (aw c0 c1 i)] (y7 (aw c0 c1 i)) vs2 o2/\Q (.exit 0,vs2,o2):=λh=>by
    subst h;exact⟨_,_,VW.of_eq (by rw[Int.toNat_of_nonneg h3]) rfl,hq⟩
   by_cases hL:aw c0 c1 i=[]
   . rw[hL]at hs fin ⊢;refine jT (bA 11212052427024) (R:=λQ=>(λ(C E:AV)(G:Bool)(A:Int)=>(λ(F:AV)(B H:Bool)=>(G->B/\cg c0/\cg c1/\ab 0 A/\ab A 99/\(H->B/\B/\Q (.normal,[C,E,F,.slice 15 0 1 (eZ.rest 0)],⟨2,[.cells [F] true (some 1),.cells [F] true none],[]⟩))/\(H=false->B/\Q (.normal,[C,E,F,.nilslice],⟨0,[],[]⟩)))/\(G=false->Q (.exit 0,[C,E,.int .i64 i,.nilslice],⟨0,[],[]⟩))) (.int .i64 A) (ae .i64 A) (agr [c0,c1] A)) (.str [c0,c1]) (.int .i64 g) (not (ab g i)) (Int.add i 1)) (λ_=>by kernel_rfl) λQ' hQ=>?_;simp only[az,reduceCtorEq]
     (repeat' first|exact trivial|refine⟨?_,?_⟩|intro)<;>first|omega|assumption|refine hQ _ ?_
     . rename_i ha;refine⟨⟨i+1,by omega⟩,by dsimp only;omega,?_⟩;dsimp only;rw[hs,ha];exact Fy (x:=.cells [.int .i64 ((i:Int)+1)] true (some 1)) rfl (mf (L:=[(i:Int)+1])) rfl
     . rename_i ha;refine⟨⟨i+1,by omega⟩,by dsimp only;omega,?_⟩;dsimp only;rw[hs,ha];exact VW.refl
     . exact fin (by omega)
   . rw[jC hL,q9 hL]at fin ⊢;refine jT (bA 11211245202427024) (R:=λQ=>(λ(C E N:AV)(G I:Bool)(A:Int)(H:Nat)=>(λ(F:AV)(B O:Bool)=>(G->B/\cg c0/\cg c1/\ab 0 A/\ab A 99/\(O->B/\and (and (Nat.ble H 1000000) true) true/\(I->B/\Q (.normal,[C,E,F,.slice 16 0 H (eZ.rest 0)],⟨3,[.cells (((aw c0 c1 i).map (AV.int .i64))++[F]) true (some 1),.cells [F] true none,aE.dead],[]⟩))/\(I=false->False))/\(O=false->B/\Q (.normal,[C,E,F,N],⟨1,[.cells ((aw c0 c1 i).map (AV.int .i64)) true (some 1)],[]⟩)))/\(G=false->Q (.exit 0,[C,E,.int .i64 i,N],⟨1,[.cells ((aw c0 c1 i).map (AV.int .i64)) true (some 1)],[]⟩))) (.int .i64 A) (ae .i64 A) (agr [c0,c1] A)) (.str [c0,c1]) (.int .i64 g) (.slice 14 0 (aw c0 c1 i).length (eZ.rest 0)) (not (ab g i)) (and true (Nat.beq ((aw c0 c1 i).map (AV.int .i64)).length (HMul.hMul (aw c0 c1 i).length 1))) (Int.add i 1) (HAdd.hAdd (aw c0 c1 i).length 1)) (λ_=>by kernel_rfl) λQ' hQ=>?_;simp only[az,reduceCtorEq];simp only[Bool.and_true,Bool.true_and,aK,cr,aq,List.length_map,Nat.mul_one]
     (repeat' first|exact trivial|refine⟨?_,?_⟩|intro)<;>first|omega|assumption|(exfalso;simp_all;done)|(exfalso;simp_all;omega)|refine hQ _ ?_
     . rename_i ha _;refine⟨⟨i+1,by omega⟩,by dsimp only;omega,?_⟩;dsimp only;have hne:aw c0 c1 (i+1)≠[]:=by rw[hs];simp[hL]
       have he:aw c0 c1 (i+1)=aw c0 c1 i++[(i:Int)+1]:=by rw[hs,ha];rfl
       rw[jC hne,q9 hne,he,List.map_append,zAg];refine Fy (k:=2) (x:=.cells ((aw c0 c1 i).map (AV.int .i64)++[.int .i64 ((i:Int)+1)]) true (some 1)) (os:=[.cells [.int .i64 ((i:Int)+1)] true none,.dead]) rfl ?_ ?_
       . have:=@mf (aw c0 c1 i++[(i:Int)+1]) true (some 1) 14
         rwa [List.map_append]at this
       . rfl
     . rename_i ha;refine⟨⟨i+1,by omega⟩,by dsimp only;omega,?_⟩;dsimp only;have he:aw c0 c1 (i+1)=aw c0 c1 i:=by rw[hs,ha];simp
       rw[he,jC hL,q9 hL];exact VW.refl
     . exact fin (by omega)
 . cases hv
theorem O9:ak Tryz.prog cfg U6:=by
 refine bm FJ (ga dG.lv AD λargs ws t r he hr=>?_);unfold Qa at he;split at he
 . rename_i c0 c1 g;cases he;obtain⟨⟨h1,h2,h3,h4,-⟩,hr⟩:=aF hr;rw[ao]at h3 h4;have key:∀(v:AV) (news:List aE),il 14 (aw c0 c1 g.toNat)=v->y7 (aw c0 c1 g.toNat)=⟨news.length,news,[]⟩->bt Tryz.prog cfg 129 [.str [c0,c1],.int .i64 g] [] v news:=λv news e1 e2=>by
    refine Bp FJ (L:=Yq) NP (by simp) (dv I9 λi hi e he st Q hw=>?_) (jT (bA 1027) (R:=λQ=>(λ(B:AV)(A:List Int)=>cg c0/\cg c1/\ab 0 g/\ab g 99/\(∀J1:Nat->Value,Q (Prod.fst (Prod.fst (il 14 A,Prod.snd ([.str [c0,c1],B,B,il 14 A],y7 A)),Prod.snd (il 14 A,Prod.snd ([.str [c0,c1],B,B,il 14 A],y7 A))),Prod.snd (Prod.fst (il 14 A,Prod.snd ([.str [c0,c1],B,B,il 14 A],y7 A)),Prod.snd (il 14 A,Prod.snd ([.str [c0,c1],B,B,il 14 A],y7 A)))))) (.int .i64 g) (aw c0 c1 g.toNat)) (λ_=>by kernel_rfl) λQ' hQ=>?_)
    . have hi:i=0:=by simp at hi;omega
      subst hi;cases he;exact b7 (cF.good FJ) (by decide) rfl Wm hw
    . simp only[az,reduceCtorEq]
      (repeat' first|exact trivial|refine⟨?_,?_⟩|intro)<;>first|omega|assumption|exact hQ _ (dL.of e1 e2)
   have hr:Tr.run (bif g9 (aw c0 c1 g.toNat)then .ret (.nilslice,[])else .ret (.slice 14 0 (dy (aw c0 c1 g.toNat)) (.rest 0),[.cells (aQ (aw c0 c1 g.toNat)) true (some 1)]))=some r:=hr;by_cases hL:aw c0 c1 g.toNat=[]
   . rw[hL]at hr key;cases hr;exact⟨key _ _ rfl rfl,λx hx=>by cases hx⟩
   . have:g9 (aw c0 c1 g.toNat)=false:=by unfold g9;cases h:aw c0 c1 g.toNat with|nil=>exact absurd h hL|cons x xs=>rfl
     rw[this]at hr;cases hr;refine⟨key _ _ (jC hL) (q9 hL),λx hx=>?_⟩;simp only[zAf]at hx;subst hx;exact mf
 . cases he
def OU:dJ:=λargs=>match args with
 | [.str [c0,c1,c2,c3],.int .i64 n,.bool b]=>some (aH [cg c0,cg c1,cg c2,cg c3,ab 0 n,ab n 9999] (.test b λb=>bif b then DQ (dr c0 c1 c2 c3 n)else DQ (dh c0 c1 c2 c3 n)))
 | _=>none
def U7:aR:=aY U6 243 OU
def Vj:dJ:=λargs=>match args with
 | [.str [c0,c1,c2,c3],.int .i64 n]=>some (aH [cg c0,cg c1,cg c2,cg c3] (DQ (dh c0 c1 c2 c3 n)))
 | _=>none
def U8:aR:=aY U7 201 Vj
theorem O6:ak Tryz.prog cfg U7:=by
 refine au O9 λargs t v he hv=>?_;unfold OU at he;split at he
 . rename_i c0 c1 c2 c3 n b;cases he;obtain⟨⟨h0,h1,h2,h3,h4,h5,-⟩,hv⟩:=aF hv;rw[ao]at h4 h5;cases b with
   | true=>exact O_ ⟨h4,h5⟩ (dp.1 h0) (dp.1 h1) (dp.1 h2) (dp.1 h3) hv
   | false=>exact Vk ⟨h4,h5⟩ (dp.1 h0) (dp.1 h1) (dp.1 h2) (dp.1 h3) hv
 . cases he
theorem Hd{c0 c1 c2 c3:UInt8}(h0:cg c0)(h1:cg c1)(h2:cg c2)(h3:cg c3){n:Int}(hn:9999<=n):dh c0 c1 c2 c3 n=some (gj c0 c1 c2 c3 57):=by
 rw[dp]at h0 h1 h2 h3;have ed:∀c:UInt8,(c.toNat=88\/48<=c.toNat/\c.toNat<=57)->0<=lu c 57/\lu c 57<=9/\mt c (lu c 57)/\∀k,mt c k->k<=9->k<=lu c 57:=λc h=>by
  unfold lu mt;by_cases hx:c.toNat=88
  . rw[gb hx,cond_true];exact⟨by decide,by decide,.inl hx,λk _ h=>by simpa using h⟩
  . rw[g7 hx,cond_false];exact⟨by omega,by omega,.inr (by omega),λk hk _=>by omega⟩
 obtain⟨a0,b0,m0,l0⟩:=ed c0 h0;obtain⟨a1,b1,m1,l1⟩:=ed c1 h1;obtain⟨a2,b2,m2,l2⟩:=ed c2 h2;obtain⟨a3,b3,m3,l3⟩:=ed c3 h3;rw[gw];unfold gj;refine⟨(oU ⟨a0,b0⟩ ⟨a1,b1⟩ ⟨a2,b2⟩ ⟨a3,b3⟩).2 ⟨m0,m1,m2,m3⟩,by omega,λk hk _=>?_⟩;obtain⟨k0,k1,k2,k3,x0,x1,x2,x3,rfl,y0,y1,y2,y3⟩:=ot hk;have:=l0 k0 y0 x0.2;have:=l1 k1 y1 x1.2;have:=l2 k2 y2 x2.2;have:=l3 k3 y3 x3.2;omega
theorem UA:ak Tryz.prog cfg U8:=by
 refine au O6 λargs t v he hv=>?_;unfold Vj at he;split at he
 . rename_i c0 c1 c2 c3 n;cases he;obtain⟨⟨h0,h1,h2,h3,-⟩,hv⟩:=aF hv;have hv':Tr.run (bif iK (dh c0 c1 c2 c3 n)then .ret (.tuple [.int .i64 (dE (dh c0 c1 c2 c3 n)),.int .i64 0])else .ret (.tuple [.int .i64 0,.int .i64 16]))=some v:=hv;have ids:aD v=[]:=by
    cases hb:iK (dh c0 c1 c2 c3 n)<;>rw[hb]at hv'<;>cases hv'<;>simp[aD,bz]
   have yes:∀u,dh c0 c1 c2 c3 n=some u->v=(.tuple [.int .i64 u,.int .i64 0]):=λu hu=>by
    rw[hu]at hv';cases hv';rfl
   have no:dh c0 c1 c2 c3 n=none->v=(.tuple [.int .i64 0,.int .i64 16]):=λhu=>by
    rw[hu]at hv';cases hv';rfl
   refine iI O6 ag (bA 1140770102700270422005627140270) (R:=λQ=>(λ(G:AV)(A B C E F H:Bool)(I:Option Int)=>(λ(N:Bool)(O:Prop)=>(λ(P:Prop->Prop)=>P ((N->O)/\(N=false->A/\A/\A/\A/\A/\A/\(H->P (P (Q (.tuple [.int .i64 (gj c0 c1 c2 c3 57),G]))))/\(H=false->P (A/\ab n 9999/\(iK I->Q (.tuple [.int .i64 (dE I),G]))/\(iK I=false->O)))))) (λu0=>B/\C/\E/\F/\u0)) (not A) (Q (.tuple [G,.int .i64 16]))) (.int .i64 0) (ab 0 n) (cg c0) (cg c1) (cg c2) (cg c3) (not (not (ab 10000 n))) (dh c0 c1 c2 c3 n)) (λ_=>by kernel_rfl) (hi:=ids) λQ' hQ=>?_;simp only[az,reduceCtorEq];have hle:∀k,nk c0 c1 c2 c3 k->0<=k:=λk hk=>hk.1
   (repeat' first|exact trivial|refine⟨?_,?_⟩|intro)<;>first|omega|assumption|refine hQ _ ?_
   . exact(no (qy.2 λk hk=>by have:=hle k hk;omega)).symm
   . exact(yes _ (Hd h0 h1 h2 h3 (by omega))).symm
   . rename_i hs;obtain⟨u,hu⟩:=Option.isSome_iff_exists.1 hs;rw[yes u hu,hu];rfl
   . rename_i hs;exact(no (by cases hx:dh c0 c1 c2 c3 n with
      | none=>rfl
      | some u=>rw[hx]at hs;cases hs)).symm
 . cases he
end Go.Ev
end
section
namespace Go.Ev
open Go Go.Proofs Go.Proofs.YtoghlpcacfnjbaaGreatDoor
def Bl(s:List UInt8):Bool:=Nat.beq (aT s 48 57+aT s 88 88) s.length
def CN(s:List UInt8):List UInt8:=Lib.trimB s 48
def Ox:dJ:=λargs=>match args with
 | [.str s,.str t]=>some (aH [af t [88]] (.ret (.bool (!(Nat.beq (aT s 88 88) 0)))))
 | _=>none
def TT:dJ:=λargs=>match args with
 | [.str s,.str t]=>some (bif af t [48,49,50,51,52,53,54,55,56,57]then .ret (.bool (dY s))else aH [af t [88,48,49,50,51,52,53,54,55,56,57]] (.ret (.bool (Bl s))))
 | _=>none
def UX:dJ:=λargs=>match args with
 | [.str s,.str t]=>some (aH [af t [48],Nat.ble s.length 1000000] (.ret (.str (CN s))))
 | _=>none
def UG:dJ:=λargs=>match args with
 | [.str s,.int .i64 a,.int .i64 b]=>some (aH [aa a 10,aa b 64,dY s,aW 0 s.length,Nat.ble s.length 18] (.ret (.tuple [.int .i64 (Int.ofNat (numL s)),.niliface])))
 | _=>none
def WY:dJ:=λargs=>match args with
 | [.int .i64 a,.int .i64 b]=>some (aH [ab 0 a,ab 0 b,ae .i64 a,ae .i64 b] (.test (ab (Int.mul a b) 9223372036854775807) λc=>bif c then .ret (.tuple [.int .i64 (Int.mul a b),.int .i64 0])else .ret (.tuple [.int .i64 0,.int .i64 15])))
 | _=>none
def Zj:aR:=aY (aY (aY (aY (aY gX 84 Ox) 212 TT) 213 UX) 240 UG) 241 WY
def IV:bh tab 84=some (dC 84,aN 84):=by kernel_rfl
def F6:bh tab 212=some (dC 212,aN 212):=by kernel_rfl
def ND:bh tab 213=some (dC 213,aN 213):=by kernel_rfl
def My:bh tab 240=some (dC 240,aN 240):=by kernel_rfl
def FT:bh tab 241=some (dC 241,aN 241):=by kernel_rfl
theorem NI(s:List UInt8):hasX s=!(Nat.beq (aT s 88 88) 0):=by
 rw[Bool.eq_iff_iff,Cl,Bool.not_eq_true',cr]
theorem NX(s:List UInt8):mskB s=Bl s:=by
 rw[Bool.eq_iff_iff,Ti];unfold Bl;rw[aK]
theorem AY:ak Tryz.prog cfg Zj:=by
 refine au (au (au (au (au aV λargs t v he hv=>?_) λargs t v he hv=>?_) λargs t v he hv=>?_) λargs t v he hv=>?_) λargs t v he hv=>?_
 . unfold Ox at he;split at he
   . rename_i s u;cases he;obtain⟨h1,hv⟩:=bK hv;rw[bX,beq_iff_eq]at h1;cases hv;subst h1;refine dq IV (by simp[aD]) λm w hG=>?_;refine((Contains_X ⟨⟨s⟩⟩ w).mono λe w' h=>?_);obtain⟨rfl,rfl⟩:=h;exact⟨by rw[show hasX (ByteArray.mk ⟨s⟩).data.toList=hasX s from rfl,NI];simp[aj],RowKit.Below.refl _ _⟩
   . cases he
 . unfold TT at he;split at he
   . rename_i s u;cases he;cases hb:af u [48,49,50,51,52,53,54,55,56,57]with
     | true=>
       rw[hb]at hv;rw[bX,beq_iff_eq]at hb;subst hb;cases hv;refine dq F6 (by simp[aD]) λm w hG=>?_;have:=only_d ⟨⟨s⟩⟩ w;rw[show digB (ByteArray.mk ⟨s⟩).data.toList=dY s from vO s]at this;simpa [ap,aj]using this
     | false=>
       rw[hb]at hv;obtain⟨h1,hv⟩:=bK hv;rw[bX,beq_iff_eq]at h1;cases hv;subst h1;refine dq F6 (by simp[aD]) λm w hG=>?_;have:=only_m ⟨⟨s⟩⟩ w;rw[show mskB (ByteArray.mk ⟨s⟩).data.toList=Bl s from NX s]at this;simpa [ap,aj]using this
   . cases he
 . unfold UX at he;split at he
   . rename_i s u;cases he;obtain⟨⟨h1,h2,-⟩,hv⟩:=aF hv;rw[bX,beq_iff_eq]at h1;rw[aq]at h2;cases hv;subst h1;refine dq ND (by simp[aD]) λm w hG=>?_;refine((Tryz.strings_Trim_one ⟨⟨s⟩⟩ 48 (by decide) w (by show s.length<=_;omega)).mono λe w' h=>?_);rcases h with⟨rfl,rfl|rfl⟩
     . exact⟨by simp[aj,CN],RowKit.Below.refl _ _⟩
     . exact⟨by simp[aj,CN],(RowKit.Below.refl _ _).drew⟩
   . cases he
 . unfold UG at he;split at he
   . rename_i s a b;cases he;obtain⟨⟨h1,h2,h3,h4,h5,-⟩,hv⟩:=aF hv;rw[al]at h1 h2;rw[AE]at h4;rw[aq]at h5;cases hv;subst h1 h2;refine dq My (by simp[aD,bz]) λm w hG=>?_;have:=ParseInt_dig ⟨⟨s⟩⟩ w (by rw[show digB (ByteArray.mk ⟨s⟩).data.toList=dY s from vO s];exact h3) (by show 1<=s.length;omega) (by show s.length<=18;omega);rw[show Go.Proofs.YtoghlpcacfnjbaaGreatDoor.numL (ByteArray.mk ⟨s⟩).data.toList=Go.Ev.numL s from A4 s]at this;simpa [ap,aj]using this
   . cases he
 . unfold WY at he;split at he
   . rename_i a b;cases he;obtain⟨⟨h1,h2,h3,h4,-⟩,hv⟩:=aF hv;rw[ao]at h1 h2;rw[aB]at h3 h4;simp only[dP,dR]at h3 h4;obtain⟨x,rfl⟩:=Int.eq_ofNat_of_zero_le h1;obtain⟨y,rfl⟩:=Int.eq_ofNat_of_zero_le h2;have e:Int.mul (x:Int) (y:Int)=((x*y:Nat):Int):=(Int.natCast_mul x y).symm;rw[e]at hv;have hv:Tr.run (bif ab ((x*y:Nat):Int) 9223372036854775807 then .ret (.tuple [.int .i64 ((x*y:Nat):Int),.int .i64 0])else .ret (.tuple [.int .i64 0,.int .i64 15]))=some v:=hv;cases hb:ab ((x*y:Nat):Int) 9223372036854775807 with
     | true=>
       rw[hb]at hv;cases hv;rw[ao]at hb;refine dq FT (by simp[aD,bz]) λm w hG=>?_;simpa [ap,aj]using Mul_ok x y w (by omega) (by omega) (by omega)
     | false=>
       rw[hb]at hv;cases hv;rw[bY]at hb;refine dq FT (by simp[aD,bz]) λm w hG=>?_;simpa [ap,aj]using Mul_no x y w (by omega) (by omega) (by omega)
   . cases he
def jJ(n:Int):Int:=((10^n.toNat:Nat):Int)
def Sr:d9:=λvs o=>match vs,o with
 | [.int .i64 p,.int .i64 n,.int .i64 i],⟨0,[],[]⟩=>some (aH [aa p 1,aa i 0,ab 0 n,ab n 18] (.ret (.exit 0,[.int .i64 (jJ n),.int .i64 n,.int .i64 n],dO)))
 | _,_=>none
def Zs:cz:=iz io 0 (eb 16 [4,9,10] Sr)
def P1:dJ:=λargs=>match args with
 | [.int .i64 n]=>some (aH [ab 0 n,ab n 18] (.ret (.tuple [.int .i64 (jJ n),.int .i64 0])))
 | _=>none
def ZW:aR:=aY Zj 196 P1
def UI:dJ:=λargs=>match args with
 | [.agg [.bool ng,.bool lg,.str s,.int .i64 e,.int .i64 g]]=>some (aH [dY s,aW 0 s.length,Nat.ble s.length 18,ab 0 e,ab e 16] (.test (magOk s e.toNat) λb=>bif b then .ret (.tuple [.int .i64 (Int.ofNat (cC s e.toNat)),.int .i64 0])else .ret (.tuple [.int .i64 0,.int .i64 6])))
 | _=>none
def YF:aR:=aY ZW 199 UI
def vz(s:List UInt8)(e:Int):Bool:=decide (1<=s.length/\s.length<=17/\dY s/\(s.getD 0 0).toNat≠48/\0<=e/\e<=16/\¬(e=0/\s.length<5)/\magOk s e.toNat=true)
def WG:dJ:=λargs=>match args with
 | [.agg [.bool ng,.bool lg,.str s,.int .i64 e,.int .i64 g]]=>some (.ret (.bool (vz s e)))
 | _=>none
def Pr:dJ:=λargs=>match args with
 | [.agg [.bool ng,.bool lg,.str s,.int .i64 e,.int .i64 g]]=>some (.ret (.bool (!(Nat.beq (aT s 88 88) 0))))
 | _=>none
def Z0:aR:=aY (aY YF 214 WG) 112 Pr
def Ug:dJ:=λargs=>match args with
 | [.agg [.bool ng,.bool lg,.str s,.int .i64 e,.int .i64 g]]=>some (aH [Nat.ble s.length 1000] (.ret (.int .i64 (bif aZ ng lg s e g then 0 else 6))))
 | _=>none
def ZA:aR:=aY Z0 173 Ug
def YH(ng lg:Bool)(s:List UInt8)(e g:Int){Q:AV->Prop}:fx Q (pT YF io 112 [.agg [.bool ng,.bool lg,.str s,.int .i64 e,.int .i64 g]]) (bA 1000)=(Q (.bool (not (Nat.beq (aT s 88 88) 0)))):=by kernel_rfl
def NE:bh tab 196=some (dC 196,aN 196):=by kernel_rfl
def NU:bh tab 112=some (dC 112,aN 112):=by kernel_rfl
def JC:(bj (aN 196)).map (·.1)=[0]:=by kernel_rfl
theorem Su(i:Nat):jJ ((i:Int)+1)=jJ (i:Int)*10:=by
 unfold jJ;rw[show((i:Int)+1).toNat=i+1 by omega,show((i:Int)).toNat=i by omega,Nat.pow_succ];omega
theorem A7{n:Int}(h:n<=18):1<=jJ n/\jJ n<=1000000000000000000:=by
 unfold jJ;have h1:10^n.toNat<=10^18:=Nat.pow_le_pow_right (by decide) (by omega);have h2:0<10^n.toNat:=Nat.pow_pos (by decide);have h3:(10:Nat)^18=1000000000000000000:=by decide
 omega
theorem Tc:cx Tryz.prog (cH cfg Zj) (Cw cfg []) (lb 196 0) 16 [4,9,10] Sr:=by
 intro vs o t Q hv hq J;unfold Sr at hv;split at hv
 . rename_i p n i;cases hv;obtain⟨h1,hq1⟩:=cY hq;obtain⟨h2,hq2⟩:=cY hq1;obtain⟨h3,hq3⟩:=cY hq2;obtain⟨h4,hq4⟩:=cY hq3;clear hq hq1 hq2 hq3;rw[al]at h1 h2;rw[ao]at h3 h4;subst h1 h2;have hq:Q (.exit 0,[.int .i64 (jJ n),.int .i64 n,.int .i64 n],dO):=hq4;refine im AY rfl rfl ag (ι:={i:Nat // (i:Int)<=n}) (λx=>[.int .i64 (jJ (x.1:Int)),.int .i64 n,.int .i64 (x.1:Int)]) (λ_=>dO) (λx=>n.toNat-x.1) 0 (λ_=>Nat.zero_le _) (λx J=>?_) (Nat.le_refl _) (λJ=>Wk.refl ⟨⟨0,h3⟩,J,rfl⟩) J;obtain⟨i,hi⟩:=x;dsimp only;refine jT (bA 1121244) (R:=λQ=>(λ(B:AV)(C:Bool)(A E:Int)=>(λ(H:AV)(F G:Bool)=>(C->(F->G/\Q (.normal,[.int .i64 A,B,H],⟨0,[],[]⟩))/\(F=false->G/\Q (.normal,[.int .i64 (IntKind.wrap .i64 A),B,H],⟨0,[],[]⟩)))/\(C=false->Q (.exit 0,[.int .i64 (jJ (i:Int)),B,.int .i64 i],⟨0,[],[]⟩))) (.int .i64 E) (ae .i64 A) (ae .i64 E)) (.int .i64 n) (not (ab n i)) (Int.mul (jJ (i:Int)) 10) (Int.add i 1)) (λ_=>by kernel_rfl) λQ' hQ=>?_;try dsimp only
   have e:=Su i;have go:(i:Int)<n->Q' (.normal,[.int .i64 (jJ (i:Int)*10),.int .i64 n,.int .i64 ((i:Int)+1)],dO):=λh=>
    hQ (.normal,_,_) ⟨⟨i+1,by omega⟩,by dsimp only;omega,VW.of_eq (by rw[<-e];rfl) rfl⟩
   have fin:¬(i:Int)<n->Q' (.exit 0,[.int .i64 (jJ (i:Int)),.int .i64 n,.int .i64 (i:Int)],dO):=λh=>by
    have e:(i:Int)=n:=by omega
    exact hQ (.exit 0,_,_) ⟨_,_,VW.of_eq (by rw[e]) rfl,hq⟩
   have b:(i:Int)<n->jJ (i:Int)*10<=1000000000000000000:=λh=>by
    have:=A7 (n:=(i:Int)+1) (by omega);omega
   have b0:=A7 (n:=(i:Int)) (by omega);clear hQ hq hq4 e;generalize jJ (i:Int)=p at *;simp only[az,reduceCtorEq]
   (repeat' first|exact trivial|refine⟨?_,?_⟩|intro)<;>first|omega|exact go (by omega)|exact fin (by omega)
 . cases hv
theorem DF:ak Tryz.prog cfg ZW:=by
 refine au AY λargs t v he hv=>?_;unfold P1 at he;split at he
 . rename_i n;cases he;obtain⟨⟨h1,h2,-⟩,hv⟩:=aF hv;rw[ao]at h1 h2;cases hv;refine kw AY (L:=Zs) NE (by simp) (dv JC λi hi e he st Q hw=>?_) (jT (bA 1220033) (R:=λQ=>not (ab 0 n)=false/\not (ab n 18)=false/\ab 0 n/\ab n 18/\(∀J1:Nat->Value,Q (.tuple [.int .i64 (jJ n),.int .i64 0]))) (λ_=>by kernel_rfl) λQ' hQ=>?_) (by simp[aD,bz])
   . have hi:i=0:=by simp at hi;omega
     subst hi;cases he;exact b7 (cF.good AY) (by decide) rfl Tc hw
   . simp only[az,reduceCtorEq]
     (repeat' first|exact trivial|refine⟨?_,?_⟩|intro)<;>first|omega|exact hQ _ rfl
 . cases he
theorem EU:ak Tryz.prog cfg YF:=by
 refine au DF λargs t v he hv=>?_;unfold UI at he;split at he
 . rename_i ng lg s e g;cases he;obtain⟨⟨h1,h2,h3,h4,h5,-⟩,hv⟩:=aF hv;rw[AE]at h2;rw[aq]at h3;rw[ao]at h4 h5;have hv':Tr.run (bif magOk s e.toNat then .ret (.tuple [.int .i64 (Int.ofNat (cC s e.toNat)),.int .i64 0])else .ret (.tuple [.int .i64 0,.int .i64 6]))=some v:=hv;have ids:aD v=[]:=by
    cases hb:magOk s e.toNat<;>rw[hb]at hv'<;>cases hv'<;>simp[aD,bz]
   refine iI DF ag (bA 151140004220005220075) (R:=λQ=>(λ(E:AV)(C:Int)(B:Nat)=>(λ(A:Int)(F:Prop)=>(λ(G H:Bool)=>dY s/\aW 0 B/\Nat.ble B 18/\ab 0 e/\ab e 18/\ae .i64 C/\ae .i64 (jJ e)/\(G->(H->F)/\(H=false->Q (.tuple [.int .i64 A,E])))/\(G=false->F)) (ab A 9223372036854775807) (not (ab A 10000000000000000))) (Int.mul C (jJ e)) (Q (.tuple [E,.int .i64 6]))) (.int .i64 0) (Int.ofNat (numL s)) s.length) (λ_=>by kernel_rfl) (hi:=ids) λQ' hQ=>?_;try dsimp only
   have nb:Go.Ev.numL s<10^s.length:=by
    have:=Go.Proofs.YtoghlpcacfnjbaaGreatDoor.numL_lt s (by rw[vO];exact h1)
    rwa [A4]at this
   have nb2:10^s.length<=10^18:=Nat.pow_le_pow_right (by decide) h3;have nb3:(10:Nat)^18=1000000000000000000:=by decide
   have pb:=A7 (n:=e) (by omega);have em:Int.mul (Int.ofNat (Go.Ev.numL s)) (jJ e)=Int.ofNat (cC s e.toNat):=by
    show((Go.Ev.numL s:Nat):Int)*((10^e.toNat:Nat):Int)=((Go.Ev.numL s*10^e.toNat:Nat):Int);exact(Int.natCast_mul _ _).symm
   have yes:cC s e.toNat<=10000000000000000->Q' (.tuple [.int .i64 (Int.ofNat (cC s e.toNat)),.int .i64 0]):=λh=>by
    have hb:magOk s e.toNat=true:=by unfold magOk;rw[aq];exact h
    rw[hb]at hv';cases hv';exact hQ _ rfl
   have no:¬cC s e.toNat<=10000000000000000->Q' (.tuple [.int .i64 0,.int .i64 6]):=λh=>by
    have hb:magOk s e.toNat=false:=by unfold magOk;rw[At];omega
    rw[hb]at hv';cases hv';exact hQ _ rfl
   rw[em];clear hQ hv hv' ids em;have yes:cC s e.toNat<=10000000000000000->Q' (.tuple [.int .i64 ((cC s e.toNat:Nat):Int),.int .i64 0]):=yes;generalize cC s e.toNat=mv at *;generalize jJ e=pe at *;generalize Go.Ev.numL s=nl at *;simp only[az,reduceCtorEq]
   (repeat' first|exact trivial|refine⟨?_,?_⟩|intro)<;>first|omega|assumption|exact yes (by omega)|exact no (by omega)
 . cases he
theorem zE{s:List UInt8}{e:Int}:vz s e=true↔1<=s.length/\s.length<=17/\dY s/\(s.getD 0 0).toNat≠48/\0<=e/\e<=16/\¬(e=0/\s.length<5)/\magOk s e.toNat=true:=by unfold vz;rw[zAb]
theorem Es:ak Tryz.prog cfg Z0:=by
 refine au (au EU λargs t v he hv=>?_) λargs t v he hv=>?_
 . unfold WG at he;split at he
   . rename_i ng lg s e g;cases he;cases hv;refine iI EU ag (bA 16662315662815562815623316233102300811422700053323114227005143742202432024320243220202432020243240) (R:=λQ=>(λ(G T U V W u5:Bool)(P:Nat)(A:Prop)=>(λ(B C H I:Bool)(Y:Int)(Z u6 u7:Prop)=>(λ(u0 u1 u8:Bool)(E N u2 u3:Prop)=>(λ(F u4:Bool)=>(λ(O u9:Prop)=>(u4->u4/\u0=false/\(F->F/\F/\F/\u1=false/\(C->C/\C/\aW 0 P/\C/\T=false/\(H->H/\H/\U=false/\(I->I/\I/\V=false/\(B->B/\B/\B/\(G->G/\B/\G/\u6/\(u8->A)/\(u8=false->u7))/\(Z->Z/\B/\Z/\u6/\u7))/\(E->E/\E/\E/\E/\W/\A))/\(u2->u2/\u2/\V/\A))/\(u3->u3/\u3/\U/\A))/\(N->N/\N/\N/\T/\A))/\(O->O/\O/\O/\u1/\A))/\(u9->u9/\u0/\A)) (F=false) (u4=false)) (not u1) (not u0)) (not (ab 1 Y)) (not (ab Y 17)) (not (ab 5 Y)) (B=false) (C=false) (I=false) (H=false)) (not W) (not T) (not U) (not V) (Int.ofNat P) (G=false) (W=false) (dY s/\aW 0 P/\Nat.ble P 18/\ab 0 e/\ab e 16/\(u5->Q (.bool true))/\(u5=false->A))) (aa e 0) (not (dY s)) (aa (Int.ofNat (UInt8.toNat (List.getD s 0 (UInt8.ofNat 0)))) 48) (not (ab 0 e)) (not (ab e 16)) (magOk s e.toNat) s.length (Q (.bool false))) (λ_=>by kernel_rfl) λQ' hQ=>?_;try dsimp only
     have li:=@zE s e;have yes:vz s e->Q' (.bool true):=λh=>hQ _ (by rw[h]);have no:¬vz s e->Q' (.bool false):=λh=>hQ _ (by rw[Bool.not_eq_true]at h;rw[h]);rw[li]at yes no;clear hQ li;simp only[az,reduceCtorEq]at yes no ⊢;generalize dY s=dg at *;generalize magOk s e.toNat=mk at *;generalize (s.getD 0 0).toNat=c0 at *;generalize s.length=n at *
     (repeat' first|exact trivial|refine⟨?_,?_⟩|intro)<;>first|omega|assumption|(apply yes;grind)|(apply no;grind)|grind
   . cases he
 . unfold Pr at he;split at he
   . rename_i ng lg s e g;cases he;cases hv;exact kw EU (L:=io) NU (by simp) ag (dD λQ' hQ=>bG ((YH ng lg s e g).mpr (hQ _ rfl))) (by simp[aD])
   . cases he
def d8(ng:Bool)(s:List UInt8)(e:Int):Int:=bif ng then -(cC s e.toNat:Int)else cC s e.toNat
def MQ:dJ:=λargs=>match args with
 | [.agg [.bool ng,.bool lg,.str s,.int .i64 e,.int .i64 g]]=>some (aH [Nat.ble s.length 1000] (.test (aZ ng lg s e g&&Nat.beq (aT s 88 88) 0) λb=>bif b then .ret (.tuple [.int .i64 (d8 ng s e),.int .i64 0])else .ret (.tuple [.int .i64 0,.int .i64 6])))
 | _=>none
theorem Sa{s:List UInt8}:(Bl s=true)=(aT s 48 57+aT s 88 88=s.length):=by unfold Bl;rw[aK]
theorem PF{s:List UInt8}:(Bl s=false)=(aT s 48 57+aT s 88 88≠s.length):=by unfold Bl;rw[cr]
theorem PJ{s:List UInt8}:af (CN s) []=Nat.beq (aT s 48 48) s.length:=by
 rw[bX,Bool.eq_iff_iff,beq_iff_eq,aK,<-ZB,<-trim_zer,List.isEmpty_iff];rfl
theorem NM(s:List UInt8):aT s 48 57+aT s 88 88<=s.length:=by
 induction s with
 | nil=>simp[aT]
 | cons c s ih=>rw[eR,eR,zAd];(repeat' split)<;>omega
theorem GP{s:List UInt8}{e:Int}:vz s e=true↔1<=s.length/\s.length<=17/\aT s 48 57=s.length/\(s.getD 0 0).toNat≠48/\0<=e/\e<=16/\¬(e=0/\s.length<5)/\magOk s e.toNat=true:=by rw[zE,YI]
theorem mj:ak Tryz.prog cfg ZA:=by
 refine au Es λargs t v he hv=>?_;unfold Ug at he;split at he
 . rename_i ng lg s e g;cases he;obtain⟨h1,hv⟩:=bK hv;rw[aq]at h1;cases hv;refine iI Es ag (bA 10056100623310233881143211432420702202432024005400566810056100623310233881143211432420702202432024005400668100561006233102338811432114324207022024320240054068533133707022022051006233133707022022320240054000303100623310233881143707022024320241006233102338811437070220243202400540002002054052232810056100623310233881143707022024320240054080081337070220220510062331337070220223202400540223231006233102338811437070220243202410062331023388114370702202432024005402702054220247700202420242202420020240) (R:=λQ=>(λ(B C G P u0 u1 u4:Bool)(uc:Nat)(I T u2 u3:Prop)=>(λ(A E V:Bool)(ud:Int)(H N O W u5 u6:Prop)=>(λ(U:Bool)(u7:Int)(F u8 u9:Prop)=>(λ(Y ue ug:Bool)(Z ua uf:Prop)=>(λ(uh:Prop)=>(λ(ui uj:Prop)=>(λ(ub uk ul:Prop)=>(λ(um:Prop)=>(λ(un:Prop)=>(U->U/\U/\U/\(P->P/\P/\P/\(C->C/\C/\(ng->ng/\ng/\Nat.ble uc 1000000/\ng/\C/\ng/\C/\C/\(B->B/\B/\B/\(G->G/\B/\G/\B/\B/\un)/\(N->N/\B/\N/\B/\B/\ul))/\(H->H/\H/\H/\H/\H/\H/\um/\(u3->I)))/\(T->T/\T/\T/\C/\T/\C/\C/\(G->G/\G/\un)/\(N->N/\N/\ul)))/\(O->O/\O/\O/\O/\O/\ub))/\(W->W/\W/\W/\ub))/\(Z->Z/\Z/\Z/\ub)) (um/\(u3->(V->V/\V/\u4=false/\uk)/\(u9->u9/\u9/\u4/\I)))) (lg->(E->E/\E/\u5/\uk)/\ua)) ((lg->(E->E/\E/\u5/\(A->A/\A/\A/\A/\A/\A/\A/\(Y->ui)/\(Y=false->A/\u6/\(ug->I)/\(ug=false->u2)))/\uf)/\ua)/\(u3->I)) ((A->A/\A/\A/\A/\A/\A/\A/\Y/\ui)/\uf) ((lg->(E->E/\E/\u5/\uj)/\ua)/\(u3->uj))) (A/\u6/\(ue->I)/\(uh->u2)) (A/\A/\A/\A/\A/\A/\A/\A/\Y/\A/\u6/\uh/\u2)) (ue=false)) (ae .i64 u7) (not (ab g u7)) (not (ab g (IntKind.wrap .i64 u7))) (U=false) (u8->u8/\u8/\u0/\I) (F->F/\F/\F/\F/\F/\F/\F/\F/\u1/\I)) (aa ud 4) (Int.add ud e) (A=false) (E=false) (V=false)) (not u1) (not u0) (not u4) (Int.ofNat uc) (B=false) (G=false) (C=false) (P=false) (u0=false) (u1=false)) (not (af (CN s) [])) (aa e 0) (not (aa g 0)) (Bl s) (not (vz s e)) (not (ab 0 g)) (not (not (not (Nat.beq (aT s 88 88) 0)))) s.length (Q (.int .i64 6)) (ng=false) (Q (.int .i64 0)) (lg=false)) (λ_=>by kernel_rfl) λQ' hQ=>?_;try dsimp only
   have yes:aZ ng lg s e g->Q' (.int .i64 0):=λh=>hQ _ (by rw[h];rfl);have no:¬aZ ng lg s e g->Q' (.int .i64 6):=λh=>hQ _ (by rw[Bool.not_eq_true]at h;rw[h];rfl);unfold aZ at yes no;rw[zAb]at yes no;have hs:=NM s;have li:=@GP s e;clear hQ;rw[PJ];generalize vz s e=lr at *;generalize magOk s e.toNat=mk at *;generalize (s.getD 0 0).toNat=c0 at *;simp only[ON,Sa,PF,reduceCtorEq,dP,dR,ne_eq]at yes no ⊢;generalize aT s 48 57=a at *;generalize aT s 88 88=x at *;generalize aT s 48 48=z at *;generalize s.length=n at *
   (repeat' first|exact trivial|refine⟨?_,?_⟩|intro)<;>first|omega|assumption|(apply yes;grind)|(apply no;grind)|grind
 . cases he
theorem Bn{ng lg:Bool}{s:List UInt8}{e g:Int}(h:aZ ng lg s e g)(hx:aT s 88 88=0):(0<=e/\e<=16)/\(1<=s.length/\s.length<=17)/\dY s/\magOk s e.toNat/\cC s e.toNat<=10000000000000000:=by
 unfold aZ at h;rw[zAb]at h;have hd:dY s=true:=oP (by omega);have hm:magOk s e.toNat=true:=by
  rcases h with⟨k1,k2,⟨l1,l2,l3,l4⟩|⟨l1,l2,l3,l4,l5,l6,l7,l8,l9,l10⟩⟩
  . have nb:Go.Ev.numL s<10^s.length:=by
     have:=Go.Proofs.YtoghlpcacfnjbaaGreatDoor.numL_lt s (by rw[vO];exact hd)
     rwa [A4]at this
    have:(10:Nat)^4=10000:=by decide
    rw[l2]at nb;unfold magOk;rw[aq,cC,l3];simp only[Int.toNat_zero,Nat.pow_zero,Nat.mul_one];omega
  . exact l10
 exact⟨by omega,by omega,hd,hm,by unfold magOk at hm;rwa [aq]at hm⟩
theorem KK{S:aR}(hS:ak Tryz.prog cfg S):ak Tryz.prog cfg (aY S 161 MQ):=by
 refine au hS λargs t v he hv=>?_;unfold MQ at he;split at he
 . rename_i ng lg s e g;cases he;obtain⟨h1,hv⟩:=bK hv;rw[aq]at h1;have hv':Tr.run (bif aZ ng lg s e g&&Nat.beq (aT s 88 88) 0 then .ret (.tuple [.int .i64 (d8 ng s e),.int .i64 0])else .ret (.tuple [.int .i64 0,.int .i64 6]))=some v:=hv;have ids:aD v=[]:=by
    cases hb:aZ ng lg s e g&&Nat.beq (aT s 88 88) 0<;>rw[hb]at hv'<;>cases hv'<;>simp[aD,bz]
   refine iI mj ag (bA 10231111111040111440444444005143020542005) (R:=λQ=>(λ(A:AV)(E H:Bool)(C I:Nat)(N:Prop)=>(λ(F O:Bool)(P:Int)(B:Prop)=>(λ(G:Int)(T:Prop)=>(λ(U:Bool)=>Nat.ble C 1000/\(F->F/\E=false/\(H->B)/\(H=false->(dY s->(aW 0 C->(O->(ab 0 e->(ab e 16->(magOk s I->(ng->(U->Q (.tuple [.int .i64 G,A]))/\(U=false->Q (.tuple [.int .i64 (IntKind.wrap .i64 G),A])))/\(N->Q (.tuple [.int .i64 P,A])))/\(magOk s I=false->(ng->B)/\(N->B)))/\(ab e 16=false->False))/\(ab 0 e=false->False))/\(O=false->False))/\(aW 0 C=false->False))/\(dY s=false->False)))/\(T->T/\E/\B)) (ae .i64 G)) (Int.sub 0 P) (F=false)) (not E) (Nat.ble C 18) (Int.ofNat (cC s I)) (Q (.tuple [A,.int .i64 6]))) (.int .i64 0) (not (aa (cond (aZ ng lg s e g) 0 6) 0)) (not (Nat.beq (aT s 88 88) 0)) s.length e.toNat (ng=false)) (λ_=>by kernel_rfl) (hi:=ids) λQ' hQ=>?_;try dsimp only
   have no:(aZ ng lg s e g&&Nat.beq (aT s 88 88) 0)=false->Q' (.tuple [.int .i64 0,.int .i64 6]):=λh=>by
    rw[h]at hv';cases hv';exact hQ _ rfl
   have yes:(aZ ng lg s e g&&Nat.beq (aT s 88 88) 0)->Q' (.tuple [.int .i64 (d8 ng s e),.int .i64 0]):=λh=>by
    rw[h]at hv';cases hv';exact hQ _ rfl
   clear hQ hv hv' ids;cases ho:aZ ng lg s e g with
   | false=>
     rw[ho]at no;have no:=no rfl;clear yes;simp only[cond_false,az,reduceCtorEq]
     (repeat' first|exact trivial|refine⟨?_,?_⟩|intro)<;>first|omega|exact no
   | true=>
     rw[ho]at no yes;by_cases hx:aT s 88 88=0
     . obtain⟨k1,k2,k3,k4,k5⟩:=Bn ho hx;have yes:=yes (by rw[hx];rfl);have ev:d8 ng s e=if ng=true then -(cC s e.toNat:Int)else(cC s e.toNat:Int):=by unfold d8;cases ng<;>rfl
       rw[ev]at yes;rw[k3,k4];clear no ev;generalize cC s e.toNat=mv at *;cases ng<;>simp only[cond_true,az,reduceCtorEq,if_true,Bool.false_eq_true,if_false]at yes ⊢<;>(repeat' first|exact trivial|refine⟨?_,?_⟩|intro)<;>first|omega|exact yes|(rw[Int.zero_sub];exact yes)|(exfalso;omega)
     . have no:=no (by rw[cr.mpr hx];rfl);clear yes;simp only[cond_true,az,reduceCtorEq]
       (repeat' first|exact trivial|refine⟨?_,?_⟩|intro)<;>first|omega|exact no
 . cases he
end Go.Ev
end
