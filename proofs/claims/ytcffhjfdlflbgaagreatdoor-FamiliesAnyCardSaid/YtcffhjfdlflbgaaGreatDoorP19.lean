import Derived.Test.YtcffhjfdlflbgaaGreatDoorP18
set_option linter.all false
open Int renaming ofNat->ν
open Nat renaming beq->ξ,ble->ο
open Prod renaming snd->π
set_option linter.all false
set_option maxRecDepth 100000
set_option maxHeartbeats 4000000
section
namespace Go.Ev
open Go Go.Proofs
def XG:dP:=λ
 | [.e [c0,c1],.a .i64 n]=>some (aH [fC c0,fC c1,ab 0 n,ab n 99] (.a0 (.b (agr [c0,c1] n))))
 | _=>none
def U5:aQ:=d5 U4 244 XG
def ay(c0 c1:UInt8):Nat->List Int
 | 0=>[]
 | g+1=>ay c0 c1 g++(bif agr [c0,c1] ((g:Int)+1)then[(g:Int)+1]else[])
def iC(b:Nat):List Int->AV
 | []=>.f
 | x::xs=>.c b 0 (xs.length+1) (.a 0)
def zM:List Int->aB
 | []=>⟨0,[],[]⟩
 | x::xs=>⟨1,[.a ((x::xs).map (AV.a .i64)) true (some 1)],[]⟩
theorem F5{tn:Nat}{rel:List Nat}{vs vs':List AV}{x:cD}{k:Nat}{os:List cD}(hlen:os.length=k)(hx:cR 14 x)(hvs:yw (kG 14 [(14+k,14)] 20) vs=some vs') :
 VW cfg (Cw cfg []) 0 tn rel vs ⟨k+1,x::os,[]⟩ vs' ⟨1,[x],[]⟩:=by
 refine VW.d0 eb.lv (C:=Cw cfg []) (kb:=0) (sel:=[k]) zW (Nat.zero_le _) (λs hs=>?_) (by simp) (λp hp=>by grind) rfl rfl rfl (λi hi=>absurd hi (Nat.not_lt_zero i)) (λt ht=>?_) hvs
 . grind
 . have:t=0:=by grind
   subst this;refine .inl ⟨?_,?_⟩
   . grind [aB.at]
   . show cR 14 ((⟨k+1,x::os,[]⟩:aB).at k);grind [aB.at]
theorem lV{L:List Int}{rw:Bool}{g:Option Nat}{b:Nat}:cR b (.a (L.map (AV.a .i64)) rw g):=by
 refine⟨rfl,λi hi=>?_⟩;exfalso;obtain⟨v,hv,hi⟩:=ga.1 hi;grind [aC]
def Rw:dW:=λ
 | [.e [c0,c1],.a .i64 g,.a .i64 i,.f],⟨0,[],[]⟩=>some (aH [fC c0,fC c1,ab 0 g,ab g 99,aa i 0] (.a0 (.b 0,[.e [c0,c1],.a .i64 g,.a .i64 g,iC 14 (ay c0 c1 g.toNat)],zM (ay c0 c1 g.toNat))))
 | _,_=>none
def Zn:cx:=iz jE 0 (d9 22 [0,7,8,5] Rw)
def gU(L:List Int):Bool:=L.isEmpty
def dG(L:List Int):Nat:=L.length
def aI(L:List Int):List AV:=L.map (AV.a .i64)
def QR:aav:=λ
 | [.e [c0,c1],.a .i64 g],[]=>some (aH [fC c0,fC c1,ab 0 g,ab g 99] (.d0 (gU (ay c0 c1 g.toNat)) λb=>bif b then .a0 (.f,[])else .a0 (.c 14 0 (dG (ay c0 c1 g.toNat)) (.a 0),[.a (aI (ay c0 c1 g.toNat)) true (some 1)])))
 | _,_=>none
def U6:aQ:=eQ U5 172 (fl 14 [] QR)
theorem OA:ec tab 172=some (dH 172,aL 172):=by rfl
theorem Ln:(bz (aL 172)).map (·.1)=[0]:=by rfl
theorem Gu{c0 c1:UInt8}{n:Int}:agr [c0,c1] n=true↔(c0.toNat=88\/(c0.toNat:Int)=48+n/10)/\(c1.toNat=88\/(c1.toNat:Int)=48+n%10):=by
 grind [agr,ad7]
theorem Hu:ak Tryz.prog cfg U5:=by
 refine au PE λargs t v he hv=>?_;unfold XG at he;split at he
 . rename_i c0 c1 n;cases he;obtain⟨⟨h0,h1,h2,h3,-⟩,hv⟩:=aF hv;rw[aq]at h2 h3;rw[dD]at h0 h1;cases hv;refine jD PE ai (bE 102088103020770024005288133000581788123220770024220024322077002400) (R:=λQ=>(λ(P T U:Int)(V:Prop)=>(λ(H I:Bool)(N O:Int)=>(λ(A C E W:Bool)(Y Z:Prop)=>(λ(B F G:Prop)=>(λ(u0:Prop->Prop)=>(E->E/\E/\af .u8 N/\E/\af .i64 N/\E/\E/\af .i64 T/\E/\I=false/\(C->C/\C/\C/\(A->u0 (C/\Y/\C/\Z))/\(B->B/\B/\B/\B/\B/\B/\C/\H/\C/\V))/\(G->G/\G/\G/\G/\G/\Q (.b false)))/\(F->F/\F/\F/\F/\F/\F/\I/\(A->u0 (Y/\Z))/\(B->B/\B/\B/\B/\B/\B/\H/\V))) (λu1=>A/\A/\af .u8 O/\A/\W/\A/\A/\A/\u1)) (A=false) (E=false) (C=false)) (not H) (aa N T) (not I) (af .i64 O) (H=false) (Q (.b (aa O (Int.tmod n 10))))) (aa U 88) (aa P 88) (Int.sub P 48) (Int.sub U 48)) (ν c0.toNat) (Int.tdiv n 10) (ν c1.toNat) (Q (.b true))) (λ_=>by rfl) λQ' hQ=>?_;try dsimp only
   have e1:n.tdiv 10=n/10:=Int.tdiv_eq_ediv_of_nonneg h2;have m1:n.tmod 10=n%10:=Int.tmod_eq_emod_of_nonneg h2;rw[e1,m1];have iff:=@Gu c0 c1 n;have yes:agr [c0,c1] n->Q' (.b true):=λh=>hQ _ (by rw[h]);have no:¬agr [c0,c1] n->Q' (.b false):=λh=>hQ _ (by grind);have eq:∀b:Bool,(b=true↔agr [c0,c1] n=true)->Q' (.b b):=λb h=>hQ _ (by grind);simp only[az,reduceCtorEq]
   (repeat' first|exact trivial|refine⟨?_,?_⟩|intro)<;>first|omega|(refine yes (iff.2 ?_);omega)|(refine no λh=>?_;grind)|grind [ao]
 grind
theorem aam(c0 c1:UInt8)(g:Nat):ay c0 c1 (g+1)=ay c0 c1 g++(bif agr [c0,c1] ((g:Int)+1)then[(g:Int)+1]else[]):=rfl
theorem eV(c0 c1:UInt8):∀g,(ay c0 c1 g).length<=g
 | 0=>Nat.le_refl _
 | g+1=>by
   have:=eV c0 c1 g;grind [aam]
theorem jr{b:Nat}{L:List Int}(h:L≠[]):iC b L=.c b 0 L.length (.a 0):=by cases L with|nil=>grind|cons x xs=>rfl
theorem rl{L:List Int}(h:L≠[]):zM L=⟨1,[.a (L.map (AV.a .i64)) true (some 1)],[]⟩:=by cases L with|nil=>grind|cons x xs=>rfl
theorem Vi:cu Tryz.prog (cH cfg U5) (Cw cfg []) (lb 172 0) 22 [0,7,8,5] Rw:=by
 intro vs o t Q hv hq J;unfold Rw at hv;split at hv
 . rename_i c0 c1 g i;cases hv;replace hq:=cO hq;obtain⟨⟨h1,h2,h3,h4,h5,-⟩,hq⟩:=hq;rw[aq]at h3 h4;rw[ao]at h5;subst h5;have hq:Q (.b 0,[.e [c0,c1],.a .i64 g,.a .i64 g,iC 14 (ay c0 c1 g.toNat)],zM (ay c0 c1 g.toNat)):=hq;refine ia Hu rfl rfl ai (ι:={i:Nat // i<=g.toNat}) (λx=>[.e [c0,c1],.a .i64 g,.a .i64 (x.1:Int),iC 14 (ay c0 c1 x.1)]) (λx=>zM (ay c0 c1 x.1)) (λx=>g.toNat-x.1) 0 (λ_=>Nat.zero_le _) (λx J=>?_) (Nat.le_refl _) (λJ=>Wk.a0 ⟨⟨0,Nat.zero_le _⟩,J,rfl⟩) J;obtain⟨i,hi⟩:=x;dsimp only;have hlen:=eV c0 c1 i;have hs:=aam c0 c1 i;have fin:i=g.toNat->∃vs2 o2,VW cfg (Cw cfg []) 0 22 [0,7,8,5] [.e [c0,c1],.a .i64 g,.a .i64 (i:Int),iC 14 (ay c0 c1 i)] (zM (ay c0 c1 i)) vs2 o2/\Q (.b 0,vs2,o2):=λh=>by
    grind [VW.b0]
   by_cases hL:ay c0 c1 i=[]
   . rw[hL]at hs fin ⊢;refine jJ (bE 11212052427024) (R:=λQ=>(λ(C E:AV)(G:Bool)(A:Int)=>(λ(F:AV)(B H:Bool)=>(G->B/\fC c0/\fC c1/\ab 0 A/\ab A 99/\(H->B/\B/\Q (.a,[C,E,F,.c 15 0 1 (fg.a 0)],⟨2,[.a [F] true (some 1),.a [F] true none],[]⟩))/\(H=false->B/\Q (.a,[C,E,F,.f],⟨0,[],[]⟩)))/\(G=false->Q (.b 0,[C,E,.a .i64 i,.f],⟨0,[],[]⟩))) (.a .i64 A) (af .i64 A) (agr [c0,c1] A)) (.e [c0,c1]) (.a .i64 g) (not (ab g i)) (Int.add i 1)) (λ_=>by rfl) λQ' hQ=>?_;simp only[az,reduceCtorEq]
     (repeat' first|exact trivial|refine⟨?_,?_⟩|intro)<;>first|omega|assumption|refine hQ _ ?_
     . rename_i ha;refine⟨⟨i+1,by omega⟩,by grind,?_⟩;dsimp only;rw[hs,ha];exact F5 (x:=.a [.a .i64 ((i:Int)+1)] true (some 1)) rfl (lV (L:=[(i:Int)+1])) rfl
     . rename_i ha;refine⟨⟨i+1,by omega⟩,by grind,?_⟩;dsimp only;rw[hs,ha];exact VW.a0
     . exact fin (by omega)
   . rw[jr hL,rl hL]at fin ⊢;refine jJ (bE 11211245202427024) (R:=λQ=>(λ(C E N:AV)(G I:Bool)(A:Int)(H:Nat)=>(λ(F:AV)(B O:Bool)=>(G->B/\fC c0/\fC c1/\ab 0 A/\ab A 99/\(O->B/\and (and (ο H 1000000) true) true/\(I->B/\Q (.a,[C,E,F,.c 16 0 H (fg.a 0)],⟨3,[.a (((ay c0 c1 i).map (AV.a .i64))++[F]) true (some 1),.a [F] true none,cD.b],[]⟩))/\(I=false->False))/\(O=false->B/\Q (.a,[C,E,F,N],⟨1,[.a ((ay c0 c1 i).map (AV.a .i64)) true (some 1)],[]⟩)))/\(G=false->Q (.b 0,[C,E,.a .i64 i,N],⟨1,[.a ((ay c0 c1 i).map (AV.a .i64)) true (some 1)],[]⟩))) (.a .i64 A) (af .i64 A) (agr [c0,c1] A)) (.e [c0,c1]) (.a .i64 g) (.c 14 0 (ay c0 c1 i).length (fg.a 0)) (not (ab g i)) (and true (ξ ((ay c0 c1 i).map (AV.a .i64)).length (HMul.hMul (ay c0 c1 i).length 1))) (Int.add i 1) (HAdd.hAdd (ay c0 c1 i).length 1)) (λ_=>by rfl) λQ' hQ=>?_;simp only[az,reduceCtorEq];simp only[Bool.and_true,Bool.true_and,aJ,b9,al,List.length_map,Nat.mul_one]
     (repeat' first|exact trivial|refine⟨?_,?_⟩|intro)<;>first|omega|assumption|(exfalso;simp_all;done)|(exfalso;simp_all;omega)|refine hQ _ ?_
     . rename_i ha _;refine⟨⟨i+1,by omega⟩,by grind,?_⟩;dsimp only;have hne:ay c0 c1 (i+1)≠[]:=by simp_all
       have he:ay c0 c1 (i+1)=ay c0 c1 i++[(i:Int)+1]:=by grind
       rw[jr hne,rl hne,he,List.map_append,zAe];refine F5 (k:=2) (x:=.a ((ay c0 c1 i).map (AV.a .i64)++[.a .i64 ((i:Int)+1)]) true (some 1)) (os:=[.a [.a .i64 ((i:Int)+1)] true none,.b]) rfl ?_ ?_
       . have:=@lV (ay c0 c1 i++[(i:Int)+1]) true (some 1) 14
         rwa [List.map_append]at this
       . rfl
     . rename_i ha;refine⟨⟨i+1,by omega⟩,by dsimp only;omega,?_⟩;dsimp only;have he:ay c0 c1 (i+1)=ay c0 c1 i:=by rw[hs,ha];simp
       rw[he,jr hL,rl hL];exact VW.a0
     . exact fin (by omega)
 . cases hv
theorem Pl:ak Tryz.prog cfg U6:=by
 refine bm Hu (fW eb.lv Az λargs ws t r he hr=>?_);unfold QR at he;split at he
 . rename_i c0 c1 g;cases he;obtain⟨⟨h1,h2,h3,h4,-⟩,hr⟩:=aF hr;rw[aq]at h3 h4;have key:∀(v:AV) (news:List cD),iC 14 (ay c0 c1 g.toNat)=v->zM (ay c0 c1 g.toNat)=⟨news.length,news,[]⟩->bu Tryz.prog cfg 172 [.e [c0,c1],.a .i64 g] [] v news:=λv news e1 e2=>by
    refine Bu Hu (L:=Zn) OA (by simp) (dv Ln λi hi e he st Q hw=>?_) (jJ (bE 1027) (R:=λQ=>(λ(B:AV)(A:List Int)=>fC c0/\fC c1/\ab 0 g/\ab g 99/\(∀J1:Nat->Value,Q (Prod.fst (Prod.fst (iC 14 A,π ([.e [c0,c1],B,B,iC 14 A],zM A)),π (iC 14 A,π ([.e [c0,c1],B,B,iC 14 A],zM A))),π (Prod.fst (iC 14 A,π ([.e [c0,c1],B,B,iC 14 A],zM A)),π (iC 14 A,π ([.e [c0,c1],B,B,iC 14 A],zM A)))))) (.a .i64 g) (ay c0 c1 g.toNat)) (λ_=>by rfl) λQ' hQ=>?_)
    . have hi:i=0:=by grind
      subst hi;cases he;exact bR (cC.a0 Hu) (by decide) rfl Vi hw
    simp_all [az,dL.of]
   have hr:Tr.b0 (bif gU (ay c0 c1 g.toNat)then .a0 (.f,[])else .a0 (.c 14 0 (dG (ay c0 c1 g.toNat)) (.a 0),[.a (aI (ay c0 c1 g.toNat)) true (some 1)]))=some r:=hr;by_cases hL:ay c0 c1 g.toNat=[]
   . rw[hL]at hr key;cases hr;exact⟨key _ _ rfl rfl,λx hx=>by grind⟩
   . have:gU (ay c0 c1 g.toNat)=false:=by grind [gU]
     rw[this]at hr;cases hr;refine⟨key _ _ (jr hL) (rl hL),λx hx=>?_⟩;simp only[List.mem_singleton]at hx;subst hx;exact lV
 grind
def Pt:dP:=λ
 | [.e [c0,c1,c2,c3],.a .i64 n,.b b]=>some (aH [fC c0,fC c1,fC c2,fC c3,ab 0 n,ab n 9999] (.d0 b λb=>bif b then Et (c_ c0 c1 c2 c3 n)else Et (cV c0 c1 c2 c3 n)))
 | _=>none
def U7:aQ:=d5 U6 219 Pt
def W8:dP:=λ
 | [.e [c0,c1,c2,c3],.a .i64 n]=>some (aH [fC c0,fC c1,fC c2,fC c3] (Et (cV c0 c1 c2 c3 n)))
 | _=>none
def U8:aQ:=d5 U7 314 W8
theorem PT:ak Tryz.prog cfg U7:=by
 refine au Pl λargs t v he hv=>?_;unfold Pt at he;split at he
 . rename_i c0 c1 c2 c3 n b;cases he;obtain⟨⟨h0,h1,h2,h3,h4,h5,-⟩,hv⟩:=aF hv;rw[aq]at h4 h5;cases b with
   | true=>exact PG ⟨h4,h5⟩ (dD.1 h0) (dD.1 h1) (dD.1 h2) (dD.1 h3) hv
   | false=>exact anv ⟨h4,h5⟩ (dD.1 h0) (dD.1 h1) (dD.1 h2) (dD.1 h3) hv
 grind
theorem H2{c0 c1 c2 c3:UInt8}(h0:fC c0)(h1:fC c1)(h2:fC c2)(h3:fC c3){n:Int}(hn:9999<=n):cV c0 c1 c2 c3 n=some (gu c0 c1 c2 c3 57):=by
 rw[dD]at h0 h1 h2 h3;have ed:∀c:UInt8,(c.toNat=88\/48<=c.toNat/\c.toNat<=57)->0<=lL c 57/\lL c 57<=9/\mt c (lL c 57)/\∀k,mt c k->k<=9->k<=lL c 57:=λc h=>by
  grind [lL,mt,gm,ic]
 obtain⟨a0,b0,m0,l0⟩:=ed c0 h0;obtain⟨a1,b1,m1,l1⟩:=ed c1 h1;obtain⟨a2,b2,m2,l2⟩:=ed c2 h2;obtain⟨a3,b3,m3,l3⟩:=ed c3 h3;rw[fb];unfold gu;refine⟨(pw ⟨a0,b0⟩ ⟨a1,b1⟩ ⟨a2,b2⟩ ⟨a3,b3⟩).2 ⟨m0,m1,m2,m3⟩,by omega,λk hk _=>?_⟩;obtain⟨k0,k1,k2,k3,x0,x1,x2,x3,rfl,y0,y1,y2,y3⟩:=abJ hk;have:=l0 k0 y0 x0.2;have:=l1 k1 y1 x1.2;have:=l2 k2 y2 x2.2;have:=l3 k3 y3 x3.2;omega
theorem V6:ak Tryz.prog cfg U8:=by
 refine au PT λargs t v he hv=>?_;unfold W8 at he;split at he
 . rename_i c0 c1 c2 c3 n;cases he;obtain⟨⟨h0,h1,h2,h3,-⟩,hv⟩:=aF hv;have hv':Tr.b0 (bif za (cV c0 c1 c2 c3 n)then .a0 (.d [.a .i64 (kp (cV c0 c1 c2 c3 n)),.a .i64 0])else .a0 (.d [.a .i64 0,.a .i64 16]))=some v:=hv;have ids:aC v=[]:=by
    cases hb:za (cV c0 c1 c2 c3 n)<;>rw[hb]at hv'<;>cases hv'<;>simp[aC,bw]
   have yes:∀u,cV c0 c1 c2 c3 n=some u->v=(.d [.a .i64 u,.a .i64 0]):=λu hu=>by
    rw[hu]at hv';cases hv';rfl
   have no:cV c0 c1 c2 c3 n=none->v=(.d [.a .i64 0,.a .i64 16]):=λhu=>by
    rw[hu]at hv';cases hv';rfl
   refine jD PT ai (bE 1140770102700270422005627140270) (R:=λQ=>(λ(G:AV)(A B C E F H:Bool)(I:Option Int)=>(λ(N:Bool)(O:Prop)=>(λ(P:Prop->Prop)=>P ((N->O)/\(N=false->A/\A/\A/\A/\A/\A/\(H->P (P (Q (.d [.a .i64 (gu c0 c1 c2 c3 57),G]))))/\(H=false->P (A/\ab n 9999/\(za I->Q (.d [.a .i64 (kp I),G]))/\(za I=false->O)))))) (λu0=>B/\C/\E/\F/\u0)) (not A) (Q (.d [G,.a .i64 16]))) (.a .i64 0) (ab 0 n) (fC c0) (fC c1) (fC c2) (fC c3) (not (not (ab 10000 n))) (cV c0 c1 c2 c3 n)) (λ_=>by rfl) (hi:=ids) λQ' hQ=>?_;simp only[az,reduceCtorEq];have hle:∀k,nS c0 c1 c2 c3 k->0<=k:=λk hk=>hk.1
   (repeat' first|exact trivial|refine⟨?_,?_⟩|intro)<;>first|omega|assumption|refine hQ _ ?_
   . grind [nu]
   . grind [H2]
   . rename_i hs;obtain⟨u,hu⟩:=Option.isSome_iff_exists.1 hs;rw[yes u hu,hu];rfl
   . rename_i hs;exact(no (by cases hx:cV c0 c1 c2 c3 n with
      | none=>rfl
      | some u=>rw[hx]at hs;cases hs)).symm
 grind
end Go.Ev
end
section
namespace Go.Ev
open Go Go.Proofs Go.Proofs.YtcffhjfdlflbgaaGreatDoor
def By(s:List UInt8):Bool:=ξ (eC s 48 57+eC s 88 88) s.length
def Eg(s:List UInt8):List UInt8:=Lib.trimB s 48
def PQ:dP:=λ
 | [.e s,.e t]=>some (aH [ae t [88]] (.a0 (.b (!(ξ (eC s 88 88) 0)))))
 | _=>none
def XE:dP:=λ
 | [.e s,.e t]=>some (bif ae t [48,49,50,51,52,53,54,55,56,57]then .a0 (.b (dV s))else aH [ae t [88,48,49,50,51,52,53,54,55,56,57]] (.a0 (.b (By s))))
 | _=>none
def UE:dP:=λ
 | [.e s,.e t]=>some (aH [ae t [48],ο s.length 1000000] (.a0 (.e (Eg s))))
 | _=>none
def Uh:dP:=λ
 | [.e s,.a .i64 a,.a .i64 b]=>some (aH [aa a 10,aa b 64,dV s,aS 0 s.length,ο s.length 18] (.a0 (.d [.a .i64 (ν (numL s)),.k])))
 | _=>none
def WL:dP:=λ
 | [.a .i64 a,.a .i64 b]=>some (aH [ab 0 a,ab 0 b,af .i64 a,af .i64 b] (.d0 (ab (Int.mul a b) 9223372036854775807) λc=>bif c then .a0 (.d [.a .i64 (Int.mul a b),.a .i64 0])else .a0 (.d [.a .i64 0,.a .i64 15])))
 | _=>none
def Yp:aQ:=d5 (d5 (d5 (d5 (d5 gZ 80 PQ) 213 XE) 214 UE) 220 Uh) 221 WL
theorem JF:ec tab 80=some (dH 80,aL 80):=by rfl
theorem G3:ec tab 213=some (dH 213,aL 213):=by rfl
theorem NS:ec tab 214=some (dH 214,aL 214):=by rfl
theorem Og:ec tab 220=some (dH 220,aL 220):=by rfl
theorem Hs:ec tab 221=some (dH 221,aL 221):=by rfl
theorem NR(s:List UInt8):hasX s=!(ξ (eC s 88 88) 0):=by
 grind [Ed,b9]
theorem Oh(s:List UInt8):mskB s=By s:=by
 grind [XB,By,aJ]
theorem BR:ak Tryz.prog cfg Yp:=by
 refine au (au (au (au (au aW λargs t v he hv=>?_) λargs t v he hv=>?_) λargs t v he hv=>?_) λargs t v he hv=>?_) λargs t v he hv=>?_
 . unfold PQ at he;split at he
   . rename_i s u;cases he;obtain⟨h1,hv⟩:=eL hv;rw[bV,beq_iff_eq]at h1;cases hv;subst h1;refine dy JF (by rfl) λm w hG=>?_;refine((Contains_X ⟨⟨s⟩⟩ w).mono λe w' h=>?_);grind [NR,aj,RowKit.Below.refl]
   grind
 . unfold XE at he;split at he
   . rename_i s u;cases he;cases hb:ae u [48,49,50,51,52,53,54,55,56,57]with
     | true=>
       rw[hb]at hv;rw[bV,beq_iff_eq]at hb;subst hb;cases hv;grind [dy,G3,aC,only_d,wK,ap,aj]
     | false=>
       rw[hb]at hv;obtain⟨h1,hv⟩:=eL hv;rw[bV,beq_iff_eq]at h1;cases hv;grind [dy,G3,aC,only_m,Oh,ap,aj]
   grind
 . unfold UE at he;split at he
   . rename_i s u;cases he;obtain⟨⟨h1,h2,-⟩,hv⟩:=aF hv;rw[bV,beq_iff_eq]at h1;rw[al]at h2;cases hv;subst h1;refine dy NS (by rfl) λm w hG=>?_;refine((Tryz.strings_Trim_one ⟨⟨s⟩⟩ 48 (by decide) w (by show s.length<=_;omega)).mono λe w' h=>?_);rcases h with⟨rfl,rfl|rfl⟩
     . grind [aj,Eg,RowKit.Below.refl]
     . exact⟨by rfl,(RowKit.Below.refl _ _).drew⟩
   grind
 . unfold Uh at he;split at he
   . rename_i s a b;cases he;obtain⟨⟨h1,h2,h3,h4,h5,-⟩,hv⟩:=aF hv;rw[ao]at h1 h2;rw[qy]at h4;rw[al]at h5;cases hv;subst h1 h2;refine dy Og (by rfl) λm w hG=>?_;have:=ParseInt_dig ⟨⟨s⟩⟩ w (by grind [wK]) (by show 1<=s.length;omega) (by show s.length<=18;omega);grind [BX,ap,aj]
   grind
 . unfold WL at he;split at he
   . rename_i a b;cases he;obtain⟨⟨h1,h2,h3,h4,-⟩,hv⟩:=aF hv;rw[aq]at h1 h2;rw[aE]at h3 h4;simp only[eH,eE]at h3 h4;obtain⟨x,rfl⟩:=Int.eq_ofNat_of_zero_le h1;obtain⟨y,rfl⟩:=Int.eq_ofNat_of_zero_le h2;have e:Int.mul (x:Int) (y:Int)=((x*y:Nat):Int):=(Int.natCast_mul x y).symm;rw[e]at hv;have hv:Tr.b0 (bif ab ((x*y:Nat):Int) 9223372036854775807 then .a0 (.d [.a .i64 ((x*y:Nat):Int),.a .i64 0])else .a0 (.d [.a .i64 0,.a .i64 15]))=some v:=hv;cases hb:ab ((x*y:Nat):Int) 9223372036854775807 with
     | true=>
       rw[hb]at hv;cases hv;rw[aq]at hb;refine dy Hs (by rfl) λm w hG=>?_;simpa [ap,aj]using Mul_ok x y w (by omega) (by omega) (by omega)
     | false=>
       rw[hb]at hv;cases hv;rw[bF]at hb;refine dy Hs (by rfl) λm w hG=>?_;simpa [ap,aj]using Mul_no x y w (by omega) (by omega) (by omega)
   grind
def lK(n:Int):Int:=((10^n.toNat:Nat):Int)
def Qa:dW:=λ
 | [.a .i64 p,.a .i64 n,.a .i64 i],⟨0,[],[]⟩=>some (aH [aa p 1,aa i 0,ab 0 n,ab n 18] (.a0 (.b 0,[.a .i64 (lK n),.a .i64 n,.a .i64 n],dO)))
 | _,_=>none
def Z0:cx:=iz jE 0 (d9 16 [4,9,10] Qa)
def Vk:dP:=λ
 | [.a .i64 n]=>some (aH [ab 0 n,ab n 18] (.a0 (.d [.a .i64 (lK n),.a .i64 0])))
 | _=>none
def Z5:aQ:=d5 Yp 141 Vk
def Wh:dP:=λ
 | [.h [.b ng,.b lg,.e s,.a .i64 e,.a .i64 g]]=>some (aH [dV s,aS 0 s.length,ο s.length 18,ab 0 e,ab e 16] (.d0 (magOk s e.toNat) λb=>bif b then .a0 (.d [.a .i64 (ν (cF s e.toNat)),.a .i64 0])else .a0 (.d [.a .i64 0,.a .i64 6])))
 | _=>none
def YG:aQ:=d5 Z5 140 Wh
def vU(s:List UInt8)(e:Int):Bool:=decide (1<=s.length/\s.length<=17/\dV s/\(s.getD 0 0).toNat≠48/\0<=e/\e<=16/\¬(e=0/\s.length<5)/\magOk s e.toNat=true)
def WI:dP:=λ
 | [.h [.b ng,.b lg,.e s,.a .i64 e,.a .i64 g]]=>some (.a0 (.b (vU s e)))
 | _=>none
def QA:dP:=λ
 | [.h [.b ng,.b lg,.e s,.a .i64 e,.a .i64 g]]=>some (.a0 (.b (!(ξ (eC s 88 88) 0))))
 | _=>none
def HH:aQ:=d5 (d5 YG 215 WI) 136 QA
def VA:dP:=λ
 | [.h [.b ng,.b lg,.e s,.a .i64 e,.a .i64 g]]=>some (aH [ο s.length 140737488351232] (.a0 (.a .i64 (bif aV ng lg s e g then 0 else 6))))
 | _=>none
def Zg:aQ:=d5 HH 135 VA
theorem YW(ng lg:Bool)(s:List UInt8)(e g:Int){Q:AV->Prop}:gG Q (pT YG jE 136 [.h [.b ng,.b lg,.e s,.a .i64 e,.a .i64 g]]) (bE 1000)=(Q (.b (not (ξ (eC s 88 88) 0)))):=by rfl
theorem N7:ec tab 141=some (dH 141,aL 141):=by rfl
theorem NC:ec tab 136=some (dH 136,aL 136):=by rfl
theorem J4:(bz (aL 141)).map (·.1)=[0]:=by rfl
theorem Qg(i:Nat):lK ((i:Int)+1)=lK (i:Int)*10:=by
 rfl
theorem Cj{n:Int}(h:n<=18):1<=lK n/\lK n<=1000000000000000000:=by
 unfold lK;have h1:10^n.toNat<=10^18:=Nat.pow_le_pow_right (by decide) (by omega);grind
theorem UU:cu Tryz.prog (cH cfg Yp) (Cw cfg []) (lb 141 0) 16 [4,9,10] Qa:=by
 intro vs o t Q hv hq J;unfold Qa at hv;split at hv
 . rename_i p n i;cases hv;obtain⟨h1,hq1⟩:=cZ hq;obtain⟨h2,hq2⟩:=cZ hq1;obtain⟨h3,hq3⟩:=cZ hq2;obtain⟨h4,hq4⟩:=cZ hq3;clear hq hq1 hq2 hq3;rw[ao]at h1 h2;rw[aq]at h3 h4;subst h1 h2;have hq:Q (.b 0,[.a .i64 (lK n),.a .i64 n,.a .i64 n],dO):=hq4;refine ia BR rfl rfl ai (ι:={i:Nat // (i:Int)<=n}) (λx=>[.a .i64 (lK (x.1:Int)),.a .i64 n,.a .i64 (x.1:Int)]) (λ_=>dO) (λx=>n.toNat-x.1) 0 (λ_=>Nat.zero_le _) (λx J=>?_) (Nat.le_refl _) (λJ=>Wk.a0 ⟨⟨0,h3⟩,J,rfl⟩) J;obtain⟨i,hi⟩:=x;dsimp only;refine jJ (bE 1121244) (R:=λQ=>(λ(B:AV)(C:Bool)(A E:Int)=>(λ(H:AV)(F G:Bool)=>(C->(F->G/\Q (.a,[.a .i64 A,B,H],⟨0,[],[]⟩))/\(F=false->G/\Q (.a,[.a .i64 (IntKind.wrap .i64 A),B,H],⟨0,[],[]⟩)))/\(C=false->Q (.b 0,[.a .i64 (lK (i:Int)),B,.a .i64 i],⟨0,[],[]⟩))) (.a .i64 E) (af .i64 A) (af .i64 E)) (.a .i64 n) (not (ab n i)) (Int.mul (lK (i:Int)) 10) (Int.add i 1)) (λ_=>by rfl) λQ' hQ=>?_;try dsimp only
   have e:=Qg i;have go:(i:Int)<n->Q' (.a,[.a .i64 (lK (i:Int)*10),.a .i64 n,.a .i64 ((i:Int)+1)],dO):=λh=>
    hQ (.a,_,_) ⟨⟨i+1,by omega⟩,by grind,VW.b0 (by rfl) rfl⟩
   have fin:¬(i:Int)<n->Q' (.b 0,[.a .i64 (lK (i:Int)),.a .i64 n,.a .i64 (i:Int)],dO):=λh=>by
    grind [VW.b0]
   have b:(i:Int)<n->lK (i:Int)*10<=1000000000000000000:=λh=>by
    have:=Cj (n:=(i:Int)+1) (by omega);omega
   have b0:=Cj (n:=(i:Int)) (by omega);simp_all [az];omega
 grind
theorem Jv:ak Tryz.prog cfg Z5:=by
 refine au BR λargs t v he hv=>?_;unfold Vk at he;split at he
 . rename_i n;cases he;obtain⟨⟨h1,h2,-⟩,hv⟩:=aF hv;rw[aq]at h1 h2;cases hv;refine kA BR (L:=Z0) N7 (by simp) (dv J4 λi hi e he st Q hw=>?_) (jJ (bE 1220033) (R:=λQ=>not (ab 0 n)=false/\not (ab n 18)=false/\ab 0 n/\ab n 18/\(∀J1:Nat->Value,Q (.d [.a .i64 (lK n),.a .i64 0]))) (λ_=>by rfl) λQ' hQ=>?_) (by rfl)
   . have hi:i=0:=by grind
     subst hi;cases he;exact bR (cC.a0 BR) (by decide) rfl UU hw
   simp_all [az]
 grind
theorem Ft:ak Tryz.prog cfg YG:=by
 refine au Jv λargs t v he hv=>?_;unfold Wh at he;split at he
 . rename_i ng lg s e g;cases he;obtain⟨⟨h1,h2,h3,h4,h5,-⟩,hv⟩:=aF hv;rw[qy]at h2;rw[al]at h3;rw[aq]at h4 h5;have hv':Tr.b0 (bif magOk s e.toNat then .a0 (.d [.a .i64 (ν (cF s e.toNat)),.a .i64 0])else .a0 (.d [.a .i64 0,.a .i64 6]))=some v:=hv;have ids:aC v=[]:=by
    cases hb:magOk s e.toNat<;>rw[hb]at hv'<;>cases hv'<;>simp[aC,bw]
   refine jD Jv ai (bE 151140004220005220075) (R:=λQ=>(λ(E:AV)(C:Int)(B:Nat)=>(λ(A:Int)(F:Prop)=>(λ(G H:Bool)=>dV s/\aS 0 B/\ο B 18/\ab 0 e/\ab e 18/\af .i64 C/\af .i64 (lK e)/\(G->(H->F)/\(H=false->Q (.d [.a .i64 A,E])))/\(G=false->F)) (ab A 9223372036854775807) (not (ab A 10000000000000000))) (Int.mul C (lK e)) (Q (.d [E,.a .i64 6]))) (.a .i64 0) (ν (numL s)) s.length) (λ_=>by rfl) (hi:=ids) λQ' hQ=>?_;try dsimp only
   have nb:Go.Ev.numL s<10^s.length:=by
    grind [Go.Proofs.YtcffhjfdlflbgaaGreatDoor.numL_lt,wK,BX]
   have nb2:10^s.length<=10^18:=Nat.pow_le_pow_right (by decide) h3;have nb3:(10:Nat)^18=1000000000000000000:=by decide
   have pb:=Cj (n:=e) (by omega);have em:Int.mul (ν (Go.Ev.numL s)) (lK e)=ν (cF s e.toNat):=by
    rfl
   have yes:cF s e.toNat<=10000000000000000->Q' (.d [.a .i64 (ν (cF s e.toNat)),.a .i64 0]):=λh=>by
    have hb:magOk s e.toNat=true:=by grind [magOk,al]
    rw[hb]at hv';cases hv';grind
   have no:¬cF s e.toNat<=10000000000000000->Q' (.d [.a .i64 0,.a .i64 6]):=λh=>by
    have hb:magOk s e.toNat=false:=by grind [magOk,Cn]
    rw[hb]at hv';cases hv';grind
   rw[em];clear hQ hv hv' ids em;have yes:cF s e.toNat<=10000000000000000->Q' (.d [.a .i64 ((cF s e.toNat:Nat):Int),.a .i64 0]):=yes;generalize cF s e.toNat=mv at *;generalize lK e=pe at *;generalize Go.Ev.numL s=nl at *;simp only[az,reduceCtorEq];grind
 grind
theorem AC{s:List UInt8}{e:Int}:vU s e=true↔1<=s.length/\s.length<=17/\dV s/\(s.getD 0 0).toNat≠48/\0<=e/\e<=16/\¬(e=0/\s.length<5)/\magOk s e.toNat=true:=by grind [vU]
theorem EZ:ak Tryz.prog cfg HH:=by
 refine au (au Ft λargs t v he hv=>?_) λargs t v he hv=>?_
 . unfold WI at he;split at he
   . rename_i ng lg s e g;cases he;cases hv;refine jD Ft ai (bE 16662315662815562815623316233102300811422700053323114227005143742202432024320243220202432020243240) (R:=λQ=>(λ(G T U V W u5:Bool)(P:Nat)(A:Prop)=>(λ(B C H I:Bool)(Y:Int)(Z u6 u7:Prop)=>(λ(u0 u1 u8:Bool)(E N u2 u3:Prop)=>(λ(F u4:Bool)=>(λ(O u9:Prop)=>(u4->u4/\u0=false/\(F->F/\F/\F/\u1=false/\(C->C/\C/\aS 0 P/\C/\T=false/\(H->H/\H/\U=false/\(I->I/\I/\V=false/\(B->B/\B/\B/\(G->G/\B/\G/\u6/\(u8->A)/\(u8=false->u7))/\(Z->Z/\B/\Z/\u6/\u7))/\(E->E/\E/\E/\E/\W/\A))/\(u2->u2/\u2/\V/\A))/\(u3->u3/\u3/\U/\A))/\(N->N/\N/\N/\T/\A))/\(O->O/\O/\O/\u1/\A))/\(u9->u9/\u0/\A)) (F=false) (u4=false)) (not u1) (not u0)) (not (ab 1 Y)) (not (ab Y 17)) (not (ab 5 Y)) (B=false) (C=false) (I=false) (H=false)) (not W) (not T) (not U) (not V) (ν P) (G=false) (W=false) (dV s/\aS 0 P/\ο P 18/\ab 0 e/\ab e 16/\(u5->Q (.b true))/\(u5=false->A))) (aa e 0) (not (dV s)) (aa (ν (UInt8.toNat (List.getD s 0 (UInt8.ofNat 0)))) 48) (not (ab 0 e)) (not (ab e 16)) (magOk s e.toNat) s.length (Q (.b false))) (λ_=>by rfl) λQ' hQ=>?_;try dsimp only
     have li:=@AC s e;have yes:vU s e->Q' (.b true):=λh=>hQ _ (by rw[h]);have no:¬vU s e->Q' (.b false):=λh=>hQ _ (by grind);rw[li]at yes no;clear hQ li;simp only[az,reduceCtorEq]at yes no ⊢;generalize dV s=dg at *;generalize magOk s e.toNat=mk at *;generalize (s.getD 0 0).toNat=c0 at *;generalize s.length=n at *
     (repeat' first|exact trivial|refine⟨?_,?_⟩|intro)<;>first|omega|assumption|(apply yes;grind)|(apply no;grind)|grind
   . cases he
 . unfold QA at he;split at he
   . rename_i ng lg s e g;cases he;cases hv;exact kA Ft (L:=jE) NC (by simp) ai (eD λQ' hQ=>cg ((YW ng lg s e g).mpr (hQ _ rfl))) (by simp[aC])
   . cases he
def dY(ng:Bool)(s:List UInt8)(e:Int):Int:=bif ng then -(cF s e.toNat:Int)else cF s e.toNat
def Ol:dP:=λ
 | [.h [.b ng,.b lg,.e s,.a .i64 e,.a .i64 g]]=>some (aH [ο s.length 1000] (.d0 (aV ng lg s e g&&ξ (eC s 88 88) 0) λb=>bif b then .a0 (.d [.a .i64 (dY ng s e),.a .i64 0])else .a0 (.d [.a .i64 0,.a .i64 6])))
 | _=>none
theorem Qn{s:List UInt8}:(By s=true)=(eC s 48 57+eC s 88 88=s.length):=by unfold By;rw[aJ]
theorem SQ{s:List UInt8}:(By s=false)=(eC s 48 57+eC s 88 88≠s.length):=by unfold By;rw[b9]
theorem Qc{s:List UInt8}:ae (Eg s) []=ξ (eC s 48 48) s.length:=by
 rw[bV,Bool.eq_iff_iff,beq_iff_eq,aJ,<-ZF,<-trim_zer,List.isEmpty_iff];rfl
theorem M7(s:List UInt8):eC s 48 57+eC s 88 88<=s.length:=by
 induction s<;>grind [eC]
theorem Il{s:List UInt8}{e:Int}:vU s e=true↔1<=s.length/\s.length<=17/\eC s 48 57=s.length/\(s.getD 0 0).toNat≠48/\0<=e/\e<=16/\¬(e=0/\s.length<5)/\magOk s e.toNat=true:=by rw[AC,Zj]
theorem nt:ak Tryz.prog cfg Zg:=by
 refine au EZ λargs t v he hv=>?_;unfold VA at he;split at he
 . rename_i ng lg s e g;cases he;obtain⟨h1,hv⟩:=eL hv;rw[al]at h1;cases hv;refine jD EZ ai (bE 10056100623310233881143211432420702202432024005400566810056100623310233881143211432420702202432024005400668100561006233102338811432114324207022024320240054068533133707022022051006233133707022022320240054000303100623310233881143707022024320241006233102338811437070220243202400540002002054052232810056100623310233881143707022024320240054080081337070220220510062331337070220223202400540223231006233102338811437070220243202410062331023388114370702202432024005402702054220247700202420242202420020240) (R:=λQ=>(λ(B C G P u0 u1 u4:Bool)(uc:Nat)(I T u2 u3:Prop)=>(λ(A E V:Bool)(ud:Int)(H N O W u5 u6:Prop)=>(λ(U:Bool)(u7:Int)(F u8 u9:Prop)=>(λ(Y ue ug:Bool)(Z ua uf:Prop)=>(λ(uh:Prop)=>(λ(ui uj:Prop)=>(λ(ub uk ul:Prop)=>(λ(um:Prop)=>(λ(un:Prop)=>(U->U/\U/\U/\(P->P/\P/\P/\(C->C/\C/\(ng->ng/\ng/\ο uc 1000000/\ng/\C/\ng/\C/\C/\(B->B/\B/\B/\(G->G/\B/\G/\B/\B/\un)/\(N->N/\B/\N/\B/\B/\ul))/\(H->H/\H/\H/\H/\H/\H/\um/\(u3->I)))/\(T->T/\T/\T/\C/\T/\C/\C/\(G->G/\G/\un)/\(N->N/\N/\ul)))/\(O->O/\O/\O/\O/\O/\ub))/\(W->W/\W/\W/\ub))/\(Z->Z/\Z/\Z/\ub)) (um/\(u3->(V->V/\V/\u4=false/\uk)/\(u9->u9/\u9/\u4/\I)))) (lg->(E->E/\E/\u5/\uk)/\ua)) ((lg->(E->E/\E/\u5/\(A->A/\A/\A/\A/\A/\A/\A/\(Y->ui)/\(Y=false->A/\u6/\(ug->I)/\(ug=false->u2)))/\uf)/\ua)/\(u3->I)) ((A->A/\A/\A/\A/\A/\A/\A/\Y/\ui)/\uf) ((lg->(E->E/\E/\u5/\uj)/\ua)/\(u3->uj))) (A/\u6/\(ue->I)/\(uh->u2)) (A/\A/\A/\A/\A/\A/\A/\A/\Y/\A/\u6/\uh/\u2)) (ue=false)) (af .i64 u7) (not (ab g u7)) (not (ab g (IntKind.wrap .i64 u7))) (U=false) (u8->u8/\u8/\u0/\I) (F->F/\F/\F/\F/\F/\F/\F/\F/\u1/\I)) (aa ud 4) (Int.add ud e) (A=false) (E=false) (V=false)) (not u1) (not u0) (not u4) (ν uc) (B=false) (G=false) (C=false) (P=false) (u0=false) (u1=false)) (not (ae (Eg s) [])) (aa e 0) (not (aa g 0)) (By s) (not (vU s e)) (not (ab 0 g)) (not (not (not (ξ (eC s 88 88) 0)))) s.length (Q (.a .i64 6)) (ng=false) (Q (.a .i64 0)) (lg=false)) (λ_=>by kernel_rfl) λQ' hQ=>?_;try dsimp only
   have yes:aV ng lg s e g->Q' (.a .i64 0):=λh=>hQ _ (by grind);have no:¬aV ng lg s e g->Q' (.a .i64 6):=λh=>hQ _ (by grind);unfold aV at yes no;rw[zAc]at yes no;have hs:=M7 s;have li:=@Il s e;clear hQ;rw[Qc];generalize vU s e=lr at *;generalize magOk s e.toNat=mk at *;generalize (s.getD 0 0).toNat=c0 at *;simp only[Pp,Qn,SQ,reduceCtorEq,eH,eE,ne_eq]at yes no ⊢;generalize eC s 48 57=a at *;generalize eC s 88 88=x at *;generalize eC s 48 48=z at *;generalize s.length=n at *
   (repeat' first|exact trivial|refine⟨?_,?_⟩|intro)<;>first|omega|assumption|(apply yes;grind)|(apply no;grind)|grind
 . cases he
theorem Bk{ng lg:Bool}{s:List UInt8}{e g:Int}(h:aV ng lg s e g)(hx:eC s 88 88=0):(0<=e/\e<=16)/\(1<=s.length/\s.length<=17)/\dV s/\magOk s e.toNat/\cF s e.toNat<=10000000000000000:=by
 grind [aV,oV,magOk,Go.Proofs.YtcffhjfdlflbgaaGreatDoor.numL_lt,wK,BX,al,cF]
theorem Ks{S:aQ}(hS:ak Tryz.prog cfg S):ak Tryz.prog cfg (d5 S 146 Ol):=by
 refine au hS λargs t v he hv=>?_;unfold Ol at he;split at he
 . rename_i ng lg s e g;cases he;obtain⟨h1,hv⟩:=eL hv;rw[al]at h1;have h1':s.length<=140737488351232:=Nat.le_trans h1 (by decide);have hv':Tr.b0 (bif aV ng lg s e g&&ξ (eC s 88 88) 0 then .a0 (.d [.a .i64 (dY ng s e),.a .i64 0])else .a0 (.d [.a .i64 0,.a .i64 6]))=some v:=hv;have ids:aC v=[]:=by
    cases hb:aV ng lg s e g&&ξ (eC s 88 88) 0<;>rw[hb]at hv'<;>cases hv'<;>simp[aC,bw]
   refine jD nt ai (bE 10231111111040111440444444005143020542005) (R:=λQ=>(λ(A:AV)(E H:Bool)(C I:Nat)(N:Prop)=>(λ(F O:Bool)(P:Int)(B:Prop)=>(λ(G:Int)(T:Prop)=>(λ(U:Bool)=>ο C 140737488351232/\(F->F/\E=false/\(H->B)/\(H=false->(dV s->(aS 0 C->(O->(ab 0 e->(ab e 16->(magOk s I->(ng->(U->Q (.d [.a .i64 G,A]))/\(U=false->Q (.d [.a .i64 (IntKind.wrap .i64 G),A])))/\(N->Q (.d [.a .i64 P,A])))/\(magOk s I=false->(ng->B)/\(N->B)))/\(ab e 16=false->False))/\(ab 0 e=false->False))/\(O=false->False))/\(aS 0 C=false->False))/\(dV s=false->False)))/\(T->T/\E/\B)) (af .i64 G)) (Int.sub 0 P) (F=false)) (not E) (ο C 18) (ν (cF s I)) (Q (.d [A,.a .i64 6]))) (.a .i64 0) (not (aa (cond (aV ng lg s e g) 0 6) 0)) (not (ξ (eC s 88 88) 0)) s.length e.toNat (ng=false)) (λ_=>by rfl) (hi:=ids) λQ' hQ=>?_;try dsimp only
   have no:(aV ng lg s e g&&ξ (eC s 88 88) 0)=false->Q' (.d [.a .i64 0,.a .i64 6]):=λh=>by
    rw[h]at hv';cases hv';grind
   have yes:(aV ng lg s e g&&ξ (eC s 88 88) 0)->Q' (.d [.a .i64 (dY ng s e),.a .i64 0]):=λh=>by
    rw[h]at hv';cases hv';grind
   clear hQ hv hv' ids;cases ho:aV ng lg s e g with
   | false=>
     simp_all [az]
   | true=>
     rw[ho]at no yes;by_cases hx:eC s 88 88=0
     . obtain⟨k1,k2,k3,k4,k5⟩:=Bk ho hx;have yes:=yes (by simp_all);have ev:dY ng s e=if ng=true then -(cF s e.toNat:Int)else(cF s e.toNat:Int):=by grind [dY]
       rw[ev]at yes;rw[k3,k4];clear no ev;generalize cF s e.toNat=mv at *;cases ng<;>simp only[cond_true,az,reduceCtorEq,if_true,Bool.false_eq_true,if_false]at yes ⊢<;>(repeat' first|exact trivial|refine⟨?_,?_⟩|intro)<;>first|omega|exact yes|(rw[Int.zero_sub];exact yes)|grind
     simp_all [az]
 grind
end Go.Ev
end
