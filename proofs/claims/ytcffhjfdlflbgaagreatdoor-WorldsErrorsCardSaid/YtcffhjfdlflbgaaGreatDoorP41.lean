/- For every argument that the row takes, circalaw25.WorldsErrors returns true, and the arguments read afterwards as they did: the card of WorldsErrors. Conditions: those of the card and its row (the package variables that it lists, as the program text lays them), and no others. -/
import Derived.Test.YtcffhjfdlflbgaaGreatDoorP40
set_option linter.all false
open Int renaming ofNat->ν,ofNat_eq_natCast->ξ
open Nat renaming not_lt_zero->ο
open List renaming take->π
set_option linter.all false
set_option maxRecDepth 100000
set_option maxHeartbeats 4000000
section
namespace Go.Ev
open Go Go.Proofs
variable{b w z:Bool}{E k β β':Nat}{X:Prop}{R:List Rn}{K:fg}{x:Da}{a c:Int}{C:bg}
theorem ZE{f:Nat->Int}(h:∀i,0<=f i):∀{n i:Nat},0<=tC f i n
 | 0,_=>Int.le_refl 0
 | n+1,i=>by
   rw[tC];split
   . exact ZE h
   . exact h i
theorem an5{R:List Rn}:0<=jo R:=ZE λi=>by
 have h:∀r:Rn,0<=bA r.a r.b r.c r.d:=λr=>x7;have:=h (R.getD i x9);unfold qn LO;grind
theorem an4{k:Int}{R:List Rn}{x:Da}{p a b c d:Int}:0<=K2 k R x p a b c d:=by
 have h1:=@an5 R;have h2:=@aa_ x;unfold K2 iT;grind
theorem aoN{e:Int}(h:0<=e):∃b E,e=eI b E:=by
 by_cases h0:e=0
 . exact⟨false,0,h0⟩
 . exact⟨true,e.toNat-1,by show e=((e.toNat-1+1:Nat):Int);omega⟩
theorem asO(m:Int):∃b M,m=mI b M:=by
 cases m with
 | ofNat M=>exact⟨false,M,rfl⟩
 | negSucc M=>exact⟨true,M,rfl⟩
theorem ar1(h:eI b E=0):b=false:=by
 cases b
 . rfl
 . replace h:((E+1:Nat):Int)=0:=h;omega
theorem aa7:eI true E≠0:=λh=>by cases ar1 h
theorem aft{v:Bool}(h:b=v)(hX:X):rp k b v X:=by
 induction k with
 | zero=>exact hX
 | succ k ih=>exact⟨h,ih⟩
theorem WU{q v:Bool}(h:b->q=v)(hX:X):cI b k q v w X:=by
 cases b
 . exact hX
 . have h:=h rfl;subst h;refine aft (by cases q<;>rfl) ?_;cases w
   . exact hX
   . exact⟨rfl,hX⟩
theorem aoC{q:Bool}(h:q)(hX:X):cJ b k q X:=by
 cases b
 . exact hX
 . exact aft h hX
theorem asb{k:Int}{p b d:Int}(hz:z=false->R=[])(hR:Nx R)(hn:R.length<=1000)(gx:rM x)(gp:Zf p a b c d):bu Tryz.prog cfg 11 [.g (eb k (Th z R.length K) x p a b c d)] (UO z R) (.a .i64 (K2 k R x p a b c d)) []:=by
 obtain⟨⟨g1,g2,g3⟩,g4,g5,g6,g7,g8⟩:=aeS gx;obtain⟨i1,i2,i3,i4,i5⟩:=ae1 gp;cases z
 . cases hz rfl;exact ar8 g1 g2 g3 g4 g5 i3 i5 i2 i4 g6 g7 g8 i1
 . have:=ar9 (kd:=k) (K:=K) hR hn g1 g2 g3 g4 g5 i3 i5 i2 i4 g6 g7 g8 i1 (ng:=x.ng) (lg:=x.lg);rw[<-ai3 λi hi=>(hR i hi).2]at this;exact this
section
variable{C:bg}{o:aB}{xs:List AV}(hx:∀q,nC (nX 14 C o 20) xs q=some (xs,q))
include hx
theorem aoG{k:Int}{p b d:Int}(hg:z->get C o 14=.a (bh R) false none):nC (nX 14 C o 20) (.g (eb k (Th z R.length K) x p a b c d)::xs) ⟨bif z then[4]else[],[],true⟩=some (.g (eb k (Th z R.length (xe K)) x p a b c d)::xs,⟨[],UO z R,true⟩):=by
 have hn:∀q,nX 14 C o 19 .f q=some (.f,q):=λ_=>rfl;cases z
 . simp only[Th,UO,cond_false,nC,agd,hn,ob,hx]
 . simp only[Th,UO,cond_true,nC,agd,ac4 (hg rfl) kC ma,ob,hx,List.length_nil,Nat.add_zero,List.nil_append]
theorem aoJ{y:Bool}{L:List It}{c:Nat}{k:Int}{d z:Da}{k1 k2:Int}{ea la:Bool}(hg:y->get C o (b0 w)=.a (dp L) false none):nC (nX 14 C o 20) (.g (aaa k d k1 x k2 z (slY w y L c) ea la)::xs) ⟨bif y then[21]else[],[],true⟩=some (.g (aaa k d k1 x k2 z (kR y L c) ea la)::xs,⟨[],ox y L,true⟩):=by
 have hn:∀q,nX 14 C o 19 .f q=some (.f,q):=λ_=>rfl;cases y
 . simp only[slY,kR,ox,cond_false,nC,ajK,hn,ob,hx]
 . simp only[slY,kR,ox,cond_true,nC,ajK,ac4 (hg rfl) S0 lU,ob,List.length_nil,Nat.add_zero,List.nil_append,xe,hx]
end
theorem Zp{f:Nat}{args args':List AV}{szs:List Nat}{q:Aq}{o:aB}{V:Nat->AV}(hcan:nC (nX 14 C o 20) args ⟨szs,[],true⟩=some (args',q))(hq:q.ok)(h:bu Tryz.prog cfg f args' q.ws (V (14+q.ws.length)) (gP k))(hv:∀β β',kG 14 (VV (14+β) β' k) 20 (V (14+β))=some (V β')):rL Tryz.prog cfg f C args o (V (C.lo+o.n),⟨(gP k).length+o.n,gP k++o.os,o.le⟩):=by
 have e:(gP k).length=k:=List.length_replicate;refine abR (news':=gP k) gR.lv Az hcan hq h (by rw[e];exact hv _ _) rfl λj hj=>.inl ⟨rfl,?_⟩;have:(⟨(gP k).length,gP k,[]⟩:aB).at j=.b:=by rw[e];exact Us
 rw[this];exact⟨rfl,λi hi=>by cases hi⟩
theorem asP{g:Nat}{e:Int}:kG 14 (VV (14+β) β' 2) 20 (Xl (cl g (14+β)) e)=some (Xl (cl g β') e):=by
 have h:∀j,j<2->To 14 (VV (14+β) β' 2) (14+β+j)=some (β'+j):=λj hj=>by
  rw[To,ou.2 δ,cond_false];exact aem hj
 have h1:=h 1 ζ;have h0:To 14 (VV (14+β) β' 2) (14+β)=some β':=h 0 ζ;simp only[Xl,cl,kG,yw,h1,h0,ob]
theorem asQ{f:Nat}{e:Int}:kG 14 (VV (14+β) β' 1) 20 (Xl (.i f [] [.h (14+β) 0]) e)=some (Xl (.i f [] [.h β' 0]) e):=by
 have h0:To 14 (VV (14+β) β' 1) (14+β)=some β':=by
  rw[To,ou.2 δ,cond_false];exact aem (j:=0) ζ
 simp only[Xl,kG,yw,h0,ob]
theorem aqu{g:Nat}{e:Int}:kG β (fY β 0 [k,k+1]) 20 (Xl (cl g (β+k)) e)=some (Xl (cl g β) e):=by
 have h1:To β (fY β 0 [k,k+1]) (β+k+1)=some (β+1):=by
  simp only[To,fY,xx,ou.2 (show β<=β+k+1 by omega),ic (show β+k≠β+k+1 by omega),show β+(k+1)=β+k+1 by omega,rY (rfl:β+k+1=β+k+1),zAj]
 have h2:To β (fY β 0 [k,k+1]) (β+k)=some (β+0):=by
  simp only[To,fY,xx,ou.2 (show β<=β+k by omega),rY (rfl:β+k=β+k),zAj]
 simp only[Xl,cl,kG,yw,h1,h2,ob,Nat.add_zero]
theorem len0{L:List It}:14+(ox w L).length=b0 w:=by cases w<;>rfl
section
variable{z:Bool}{k:Int}{R:List Rn}{K:fg}{x:Da}{p a b c d:Int}{mn fe:Bool}{M E:Nat}(hz:z=false->R=[])(hR:Nx R)(hn:R.length<=1000)(gx:rM x)(gp:Zf p a b c d)(he:K2 k R x p a b c d=eI fe E)
include hz hR hn gx gp he
theorem f17:bu Tryz.prog cfg 17 [.g (eb k (Th z R.length K) x p a b c d),.a .i64 (mI mn M)] (UO z R) (v17 (mn || fe) (gK k) (bif mn then 4 else eI fe E) (14+(UO z R).length)) (acU (mn || fe)):=by
 refine fFw hz hR hn gx gp λQ hQ=>?_;cases mn
 . refine⟨λh=>?_,λ_ h=>?_,λ_ h D=>?_⟩
   . replace h:not (ab 0 (ν M))=true:=h;rw[Bool.not_eq_true',bF]at h;simp only[ξ]at h;omega
   . rw[he]at h ⊢;cases fe
     . exact absurd rfl h
     . exact hQ _ (dL.a0 x8 [] θ θ κ)
   . rw[he]at h;cases ar1 h;refine hQ _ (dL.a0 x8 [D.length+1,D.length+1+1] (λk hk=>by simp[gP]at hk ⊢;omega) θ ?_);rw[ajs];exact aqu
 . refine⟨λ_=>hQ _ (dL.a0 x8 [] θ θ κ),λh=>?_,λh=>?_⟩<;>exact absurd h (by simp[mI,ab])
theorem c17{o:aB}(hg:z->get C o 14=.a (bh R) false none):rL Tryz.prog cfg 17 C [.g (eb k (Th z R.length K) x p a b c d),.a .i64 (mI mn M)] o (v17 (mn || fe) (gK k) (bif mn then 4 else eI fe E) (C.lo+o.n),⟨(acU (mn || fe)).length+o.n,acU (mn || fe)++o.os,o.le⟩):=by
 have hc:=aoG (C:=C) (o:=o) (xs:=[.a .i64 (mI mn M)]) (λ_=>rfl) (k:=k) (K:=K) (x:=x) (p:=p) (a:=a) (b:=b) (c:=c) (d:=d) hg;have hf:=f17 (K:=xe K) (mn:=mn) (M:=M) hz hR hn gx gp he;cases h:(mn || fe)<;>rw[h]at hf
 . exact Zp (V:=λ β=>v17 false (gK k) (bif mn then 4 else eI fe E) β) (k:=2) hc rfl hf λ_ _=>asP
 . exact Zp (V:=λ β=>v17 true (gK k) (bif mn then 4 else eI fe E) β) (k:=0) hc rfl hf λ_ _=>rfl
end
section
variable{y:Bool}{L:List It}{c:Nat}{k:Int}{d x v:Da}{k1 k2:Int}{ea la:Bool}{mn ue:Bool}{M U:Nat}(hm:L.length<=6)(hy:y=false->L=[])(hd:rM d)(hx:rM x)(hv:rM v)(hg:GdL L)(hu:Tt k d k1 x k2 v ea la L=eI ue U)
include hm hy hd hx hv hg hu
theorem f18:bu Tryz.prog cfg 18 [.g (aaa k d k1 x k2 v (kR y L c) ea la),.a .i64 (mI mn M)] (ox y L) (v18 (mn || ue) (bif mn then 4 else eI ue U) (14+(ox y L).length)) (amm (mn || ue)):=by
 cases mn
 . cases ue
   . obtain⟨n,g,Φ,p,h1,h6,h0,u7,l7,hp,hW⟩:=r7w (c:=c) hm hy hd hx hv hg hu;rw[len0];exact fEr h1 h6 h0 (Int.natCast_nonneg _) u7 l7 hp hW
   . exact fEe (Int.natCast_nonneg _) aa7 (hu▸fE7 hy hd hx hv δ hg (hu▸aa7))
 . exact fEm (Int.negSucc_lt_zero _)
theorem c18{o:aB}(hG:y->get C o (b0 w)=.a (dp L) false none):rL Tryz.prog cfg 18 C [.g (aaa k d k1 x k2 v (slY w y L c) ea la),.a .i64 (mI mn M)] o (v18 (mn || ue) (bif mn then 4 else eI ue U) (C.lo+o.n),⟨(amm (mn || ue)).length+o.n,amm (mn || ue)++o.os,o.le⟩):=by
 have hc:=aoJ (C:=C) (o:=o) (xs:=[.a .i64 (mI mn M)]) (λ_=>rfl) (c:=c) (k:=k) (d:=d) (x:=x) (z:=v) (k1:=k1) (k2:=k2) (ea:=ea) (la:=la) hG;have hf:=f18 (c:=c) (mn:=mn) (M:=M) hm hy hd hx hv hg hu;cases h:(mn || ue)<;>rw[h]at hf
 . exact Zp (V:=λ β=>v18 false (bif mn then 4 else eI ue U) β) (k:=1) hc rfl hf λ_ _=>asQ
 . exact Zp (V:=λ β=>v18 true (bif mn then 4 else eI ue U) β) (k:=0) hc rfl hf λ_ _=>rfl
theorem f16:∃N B o,bu Tryz.prog cfg 16 [.g (aaa k d k1 x k2 v (kR y L c) ea la)] (ox y L) (t3 N B (oI ue o U)) []:=by
 cases ue
 . obtain⟨n,g,Φ,p,h1,h6,h0,u7,l7,hp,hW⟩:=r7w (c:=c) hm hy hd hx hv hg hu;have h:=atH h1 h6 h0 u7 l7 hp hW;unfold aqz ctV at h;cases h2:(cF Φ (b0 y+1) n).2.2<;>rw[h2]at h
   . cases h3:(cF Φ (b0 y+1) n).2.1<;>rw[h3]at h
     . exact⟨_,_,false,h⟩
     . exact⟨_,_,true,h⟩
   . exact⟨_,_,false,h⟩
 . have h7:bu Tryz.prog cfg 7 [.g (aaa k d k1 x k2 v (kR y L c) ea la)] (ox y L) (.d [.f,.a .i64 (eI true U)]) []:=hu▸fE7 hy hd hx hv δ hg (hu▸aa7);exact⟨_,_,false,atG aa7 h7⟩
end
theorem arm{k:Int}{p b d:Int}{fe:Bool}(he:K2 k R x p a b c d=eI fe E):∃N B o,mnV k R x p a b c d=t3 N B (oI fe o E):=by
 unfold mnV;rw[he];cases fe
 . show ∃N B o,mnE _ _=_;unfold mnE;cases(not (ab 0 (mnN k x p a b c d)) || (aa (mnN k x p a b c d) 0&&not (mnB k a c)))
   . exact⟨_,_,false,rfl⟩
   . exact⟨_,_,true,rfl⟩
 . refine⟨0,false,false,?_⟩;rw[aw.mpr aa7];rfl
theorem adw{S:aQ}(f13:bu Tryz.prog cfg 13 [] [] (.b true) [])(hS:ak Tryz.prog cfg S):ak Tryz.prog cfg (aK S 13 Bn):=au hS λargs t v he hv=>by
 unfold Bn at he;split at he
 . cases he;cases hv;exact f13
 . cases he
theorem ase{z y:Bool}{R:List Rn}{L:List It}{n:Nat}{os:List cD}:(z->get (Cw cfg (ws5 z y R L)) ⟨n,os,[]⟩ 14=.a (bh R) false none)/\(y->get (Cw cfg (ws5 z y R L)) ⟨n,os,[]⟩ (b0 z)=.a (dp L) false none):=by
 cases z<;>cases y<;>refine⟨λh=>?_,λh=>?_⟩<;>first|rfl|cases h
theorem Yy{y:Bool}{L:List It}:∀x∈ws5 z y R L,cR 14 x:=λx hx=>by
 rcases List.mem_append.1 hx with h|h
 . exact x8 x h
 . exact j0 x h
section
variable{z y:Bool}{k1:Int}{R:List Rn}{K:fg}{x1:Da}{p a1 b1 c1 d1 m:Int}{L:List It}{c:Nat}{k:Int}{d x v:Da}{k2 k3:Int}{ea la:Bool}(f13:bu Tryz.prog cfg 13 [] [] (.b true) [])(hz:z=false->R=[])(hy:y=false->L=[])
include f13 hz hy
theorem fWe(hR:Nx R)(gx:rM x1)(gp:Zf p a1 b1 c1 d1)(hd:rM d)(hx:rM x)(hv:rM v)(hg:GdL L):bu Tryz.prog cfg 5 [.g (eb k1 (Th z R.length K) x1 p a1 b1 c1 d1),.g (aaa k d k2 x k3 v (slY z y L c) ea la),.a .i64 m] (ws5 z y R L) (.b true) []:=by
 have n8:∀{n q:Nat},n<=q->ab (ν n) (ν q)=true:=λh=>by rw[aq];simp only[ξ];omega
 have n9:∀{n q:Nat},q<n->ab (ν n) (ν q)=false:=λh=>by rw[bF];simp only[ξ];omega
 by_cases h1:8<R.length
 . cases z
   . rw[hz rfl]at h1;exact absurd h1 (ο _)
   . have e:ab (ν R.length) 8=false:=n9 h1;refine P0 (adw f13 aW) (L:=jE) Yy ady θ ai (bb λQ' hQ=>cg ((bL1 m k1 x1 p a1 b1 c1 d1 R R.length K k d x v k2 k3 ea la L c y).mpr (aft (by rw[e];rfl) ⟨by rw[e];rfl,hQ _ rfl⟩))) κ
 have e1:ab (ν R.length) 8=true:=n8 (q:=8) δ;by_cases h2:6<L.length
 . cases y
   . rw[hy rfl]at h2;exact absurd h2 (ο _)
   . have e:ab (ν L.length) 6=false:=n9 h2;refine P0 (adw f13 aW) (L:=jE) Yy ady θ ai (bb λQ' hQ=>cg ((bL2 m k1 x1 p a1 b1 c1 d1 R R.length K k d x v k2 k3 ea la L c z).mpr (WU (λ_=>e1) (aft (by rw[e];rfl) ⟨by rw[e];rfl,hQ _ rfl⟩)))) κ
 have e2:ab (ν L.length) 6=true:=n8 (q:=6) δ;by_cases h3:30<x1.s.length
 . have e:ab (ν x1.s.length) 30=false:=n9 h3;refine P0 (adw f13 aW) (L:=jE) Yy ady θ ai (bb λQ' hQ=>cg ((bL3 m k1 x1 p a1 b1 c1 d1 R R.length K k d x v k2 k3 ea la L c z y).mpr (WU (λ_=>e1) (WU (λ_=>e2) ⟨by rw[e];rfl,hQ _ rfl⟩)))) κ
 have e3:ab (ν x1.s.length) 30=true:=n8 (q:=30) δ;have hm:L.length<=6:=δ
 have hn:R.length<=1000:=δ
 obtain⟨fe,E,he⟩:=aoN (@an4 k1 R x1 p a1 b1 c1 d1);obtain⟨ue,U,hu⟩:=aoN (@aqp k d x v k2 k3 ea la L);obtain⟨mn,M,rfl⟩:=asO m;obtain⟨N1,B1,fo,h15⟩:=arm he;obtain⟨N2,B2,uo,h16⟩:=f16 (c:=c) hm hy hd hx hv hg hu;have sl:∀n:Nat,aa (ν n) (ν n)=true:=λn=>ao.mpr rfl;have G1:=λn os=>(@ase z y R L n os).1;have G2:=λn os=>(@ase z y R L n os).2;have tA:∀{f:Nat} {w:AV} {X:Prop},(∀ρ,kG 14 ρ 20 w=some w)->(∀K,bu Tryz.prog cfg f [.g (eb k1 (Th z R.length K) x1 p a1 b1 c1 d1)] (UO z R) w [])->X->tl (okC Tryz.prog cfg) f (Cw cfg (ws5 z y R L)) [.g (eb k1 (Th z R.length K) x1 p a1 b1 c1 d1)] (o5 (eb k1 (Th z R.length K) x1 p a1 b1 c1 d1) (aaa k d k2 x k3 v (slY z y L c) ea la)) (λ_=>w) [] X:=λhw h hX=>⟨aa3.2 (Zp (V:=λ_=>_) (k:=0) (aoG (xs:=[]) (λ_=>rfl) (G1 _ _)) rfl (h _) λ_ _=>hw _),hX⟩;have tB:∀{f:Nat} {w:AV} {X:Prop},(∀ρ,kG 14 ρ 20 w=some w)->bu Tryz.prog cfg f [.g (aaa k d k2 x k3 v (kR y L c) ea la)] (ox y L) w []->X->tl (okC Tryz.prog cfg) f (Cw cfg (ws5 z y R L)) [.g (aaa k d k2 x k3 v (slY z y L c) ea la)] (o5 (eb k1 (Th z R.length K) x1 p a1 b1 c1 d1) (aaa k d k2 x k3 v (slY z y L c) ea la)) (λ_=>w) [] X:=λhw h hX=>⟨aa3.2 (Zp (V:=λ_=>_) (k:=0) (aoJ (xs:=[]) (λ_=>rfl) (G2 _ _)) rfl h λ_ _=>hw _),hX⟩;refine P0 (S:=TW5 (okC Tryz.prog cfg) (eI fe E) (eI ue U) N1 (oI fe fo E) N2 (oI ue uo U) (bif mn then 4 else eI fe E) (bif mn then 4 else eI ue U) B1 B2 (mn || fe) (mn || ue) (gK k1)) (bm (bm (bm (bm (bm (bm (bm (adw f13 aW) sf) sf) sf) sf) sf) sf) sf) (L:=jE) Yy ady θ ai (bb λQ' hQ=>cg ((bLw (okC Tryz.prog cfg) E U M N1 N2 B1 B2 (gK k1) k1 x1 p a1 b1 c1 d1 R R.length K k d x v k2 k3 ea la L c z y fe fo ue uo mn).mpr ?_)) κ;refine WU (λ_=>e1) (WU (λ_=>e2) ⟨by rw[e3];rfl,?_⟩);refine tA (λ_=>rfl) (λK=>he▸asb hz hR hn gx gp) (tB (λ_=>rfl) (hu▸f8k hy hd hx hv δ hg) (tA (λ_=>rfl) (λK=>h15▸fMa hz hR hn gx gp) (tB (λ_=>rfl) h16 (WU (λ_=>sl _) (WU (λ_=>sl _) (tA (λ_=>rfl) (λK=>he▸aqB hz hR hn gx gp) (WU (λ_=>sl _) (WU (λ_=>sl _) ?_))))))));exact⟨aa3.2 (c17 hz hR hn gx gp he (G1 _ _)),aa3.2 (c18 hm hy hd hx hv hg hu (G2 _ _)),aoC (sl _) (aoC (sl _) (hQ _ rfl))⟩
end
def asl:pR tab cfg 10000 94 [dA [48,48,48,48] 0 0 [48,88] []] (iA 0)=true:=ε
def asm:pR tab cfg 10000 146 [.g [.b false,.b false,.e [48,48,48,48],iA 0,iA 0]] (.d [iA 0,iA 0])=true:=ε
def asn:pR tab cfg 10000 294 [iA 0,iA 1] (.d [iA 30,iA 0])=true:=ε
def aso:pR tab cfg 10000 293 [iA 0,iA 2] (.d [iA 31,iA 0])=true:=ε
def asp:pR tab cfg 10000 293 [iA 0,iA 3] (.d [iA 60,iA 0])=true:=ε
def asq:pR tab cfg 10000 293 [iA 0,iA 4] (.d [iA 91,iA 0])=true:=ε
def asr:pR tab cfg 10000 94 [dA [48,48,48,48] 0 0 [] []] (iA 0)=true:=ε
def ass:pR tab cfg 10000 222 [iA 365] (.d [iA 0,iA 0])=true:=ε
def ast:pR tab cfg 10000 222 [iA 0] (.d [iA 0,iA 0])=true:=ε
def asu:pR tab cfg 10000 222 [iA (-365)] (.d [iA (-1),iA 0])=true:=ε
def aqG:pR tab cfg 10000 94 [dA [48,48,48,48] 0 0 [48,49] []] (iA 0)=true:=ε
def aqH:pR tab cfg 10000 94 [dA [48,48,48,48] 0 0 [48,51] []] (iA 0)=true:=ε
def aqI:pR tab cfg 10000 93 [MX 0 0 0 30,MX 0 60 0 90] (.b false)=true:=ε
def aqJ:pR tab cfg 10000 94 [dA [48,48,48,57] 0 0 [] []] (iA 0)=true:=ε
def aqK:pR tab cfg 10000 146 [.g [.b false,.b false,.e [48,48,48,57],iA 0,iA 0]] (.d [iA 9,iA 0])=true:=ε
def aqL:pR tab cfg 10000 94 [dA [48,48,48,49] 0 0 [] []] (iA 0)=true:=ε
def aqM:pR tab cfg 10000 146 [.g [.b false,.b false,.e [48,48,48,49],iA 0,iA 0]] (.d [iA 1,iA 0])=true:=ε
def aqN:pR tab cfg 10000 222 [iA 3652] (.d [iA 9,iA 0])=true:=ε
def aqO:pR tab cfg 10000 222 [iA 3288] (.d [iA 9,iA 0])=true:=ε
noncomputable def aoY:EU:=(.a0 none (.a0 none .b0 (.a0 none .b0 (.a0 none (.a0 none (.a0 none .b0 (.a0 none (.a0 none (.a0 (some [([iA 0,iA 2],.d [iA 31,iA 0]),([iA 0,iA 3],.d [iA 60,iA 0]),([iA 0,iA 4],.d [iA 91,iA 0])]) .b0 .b0) .b0) .b0)) .b0) (.a0 none .b0 (.a0 none (.a0 (some [([MX 0 0 0 30,MX 0 60 0 90],.b false)]) .b0 .b0) .b0))))) (.a0 none .b0 (.a0 none (.a0 none (.a0 none .b0 (.a0 none (.a0 none (.a0 (some [([.g [.b false,.b false,.e [48,48,48,48],iA 0,iA 0]],.d [iA 0,iA 0]),([.g [.b false,.b false,.e [48,48,48,57],iA 0,iA 0]],.d [iA 9,iA 0]),([.g [.b false,.b false,.e [48,48,48,49],iA 0,iA 0]],.d [iA 1,iA 0])]) .b0 .b0) .b0) .b0)) .b0) (.a0 none (.a0 none (.a0 none .b0 (.a0 none (.a0 none (.a0 (some [([iA 0,iA 1],.d [iA 30,iA 0])]) .b0 .b0) .b0) .b0)) .b0) (.a0 none .b0 (.a0 none (.a0 (some [([dA [48,48,48,48] 0 0 [48,88] []],iA 0),([dA [48,48,48,48] 0 0 [] []],iA 0),([dA [48,48,48,48] 0 0 [48,49] []],iA 0),([dA [48,48,48,48] 0 0 [48,51] []],iA 0),([dA [48,48,48,57] 0 0 [] []],iA 0),([dA [48,48,48,49] 0 0 [] []],iA 0)]) .b0 (.a0 (some [([iA 365],.d [iA 0,iA 0]),([iA 0],.d [iA 0,iA 0]),([iA (-365)],.d [iA (-1),iA 0]),([iA 3652],.d [iA 9,iA 0]),([iA 3288],.d [iA 9,iA 0])]) .b0 .b0)) .b0))))))
noncomputable def T0:cL:=EN cfg aoY
theorem al0(g:nG Tryz.prog tab cfg):nL (λf l=>∀e∈l,gM Tryz.prog cfg f e.1 e.2) (λi=>i) aoY:=⟨aZ,⟨aZ,trivial,⟨aZ,trivial,⟨aZ,⟨aZ,⟨aZ,trivial,⟨aZ,⟨aZ,⟨(kE (ee (g.a0 10000 aso) (ee (g.a0 10000 asp) (ee (g.a0 10000 asq) g_)))),trivial,trivial⟩,trivial⟩,trivial⟩⟩,trivial⟩,⟨aZ,trivial,⟨aZ,⟨(kE (ee (g.a0 10000 aqI) g_)),trivial,trivial⟩,trivial⟩⟩⟩⟩⟩,⟨aZ,trivial,⟨aZ,⟨aZ,⟨aZ,trivial,⟨aZ,⟨aZ,⟨(kE (ee (g.a0 10000 asm) (ee (g.a0 10000 aqK) (ee (g.a0 10000 aqM) g_)))),trivial,trivial⟩,trivial⟩,trivial⟩⟩,trivial⟩,⟨aZ,⟨aZ,⟨aZ,trivial,⟨aZ,⟨aZ,⟨(kE (ee (g.a0 10000 asn) g_)),trivial,trivial⟩,trivial⟩,trivial⟩⟩,trivial⟩,⟨aZ,trivial,⟨aZ,⟨(kE (ee (g.a0 10000 asl) (ee (g.a0 10000 asr) (ee (g.a0 10000 aqG) (ee (g.a0 10000 aqH) (ee (g.a0 10000 aqJ) (ee (g.a0 10000 aqL) g_))))))),trivial,⟨(kE (ee (g.a0 10000 ass) (ee (g.a0 10000 ast) (ee (g.a0 10000 asu) (ee (g.a0 10000 aqN) (ee (g.a0 10000 aqO) g_)))))),trivial,trivial⟩⟩,trivial⟩⟩⟩⟩⟩⟩
theorem asf(g:nG Tryz.prog tab cfg):nG Tryz.prog tab T0:=g.f0 λf l h=>(al0 g).a0 f l h
def asv:pR tab T0 10000 254 [dA [48,48,48,48] 0 0 [48,88] [],.g [iA (-9223372036854775808),iA 0,iA 0],.b true] (.d [.g [iA 0,iA 1,iA 0],iA 0])=true:=ε
def asw:pR tab T0 10000 254 [dA [48,48,48,48] 0 0 [48,88] [],.g [iA 9223372036854775807,iA 0,iA 0],.b false] (.d [.g [iA 0,iA 9,iA 0],iA 0])=true:=ε
def asx:pR tab T0 10000 194 [dA [48,48,48,48] 0 0 [48,88] [],.g [iA 0,iA 1,iA 0]] (.d [.g [iA 0,iA 1,iA 0],.b true,iA 0])=true:=ε
def asy:pR tab T0 10000 194 [dA [48,48,48,48] 0 0 [48,88] [],.g [iA 0,iA 2,iA 0]] (.d [.g [iA 0,iA 2,iA 0],.b true,iA 0])=true:=ε
def asz:pR tab T0 10000 194 [dA [48,48,48,48] 0 0 [48,88] [],.g [iA 0,iA 3,iA 0]] (.d [.g [iA 0,iA 3,iA 0],.b true,iA 0])=true:=ε
def asA:pR tab T0 10000 194 [dA [48,48,48,48] 0 0 [48,88] [],.g [iA 0,iA 4,iA 0]] (.d [.g [iA 0,iA 4,iA 0],.b true,iA 0])=true:=ε
def asB:pR tab T0 10000 75 [dA [48,48,48,48] 0 0 [] []] (.d [MX 0 0 0 365,iA 0])=true:=ε
def asC:pR tab T0 10000 189 [MX 0 0 0 365,.a .u8 1] (.d [iA 0,iA 0])=true:=ε
def asD:pR tab T0 10000 253 [MX 0 (-365) 0 (-1),.a .u8 1] (.b true)=true:=ε
def asE:pR tab T0 10000 75 [dA [48,48,48,48] 0 0 [48,51] []] (.d [MX 0 60 0 90,iA 0])=true:=ε
def aqP:pR tab T0 10000 112 [dA [48,48,48,48] 0 0 [48,88] []] (.d [iA 9,iA 0])=true:=ε
def aqQ:pR tab T0 10000 205 [dA [48,48,48,48] 0 0 [] []] (.d [MX 0 0 0 365,iA 0])=true:=ε
def aqR:pR tab T0 10000 205 [dA [48,48,48,57] 0 0 [] []] (.d [MX 0 3288 0 3652,iA 0])=true:=ε
def aqS:pR tab T0 10000 75 [dA [48,48,48,57] 0 0 [] []] (.d [MX 0 3288 0 3652,iA 0])=true:=ε
def aqT:pR tab T0 10000 75 [dA [48,48,48,49] 0 0 [] []] (.d [MX 0 366 0 730,iA 0])=true:=ε
def aqU:pR tab T0 10000 189 [MX 0 3288 0 3652,.a .u8 1] (.d [iA 9,iA 0])=true:=ε
noncomputable def aoZ:EU:=(.a0 none (.a0 none (.a0 none .b0 (.a0 none .b0 (.a0 none (.a0 none (.a0 (some [([dA [48,48,48,48] 0 0 [] []],.d [MX 0 0 0 365,iA 0]),([dA [48,48,48,48] 0 0 [48,51] []],.d [MX 0 60 0 90,iA 0]),([dA [48,48,48,57] 0 0 [] []],.d [MX 0 3288 0 3652,iA 0]),([dA [48,48,48,49] 0 0 [] []],.d [MX 0 366 0 730,iA 0])]) .b0 .b0) .b0) .b0))) (.a0 none .b0 (.a0 none .b0 (.a0 none (.a0 none (.a0 none .b0 (.a0 (some [([dA [48,48,48,48] 0 0 [] []],.d [MX 0 0 0 365,iA 0]),([dA [48,48,48,57] 0 0 [] []],.d [MX 0 3288 0 3652,iA 0])]) .b0 .b0)) .b0) (.a0 none .b0 (.a0 none (.a0 (some [([MX 0 0 0 365,.a .u8 1],.d [iA 0,iA 0]),([MX 0 3288 0 3652,.a .u8 1],.d [iA 9,iA 0])]) .b0 .b0) (.a0 (some [([MX 0 (-365) 0 (-1),.a .u8 1],.b true)]) .b0 .b0))))))) (.a0 none (.a0 none (.a0 none (.a0 none .b0 (.a0 none .b0 (.a0 (some [([dA [48,48,48,48] 0 0 [48,88] []],.d [iA 9,iA 0])]) .b0 .b0))) .b0) .b0) (.a0 none (.a0 none (.a0 none (.a0 none (.a0 none .b0 (.a0 (some [([dA [48,48,48,48] 0 0 [48,88] [],.g [iA 0,iA 1,iA 0]],.d [.g [iA 0,iA 1,iA 0],.b true,iA 0]),([dA [48,48,48,48] 0 0 [48,88] [],.g [iA 0,iA 2,iA 0]],.d [.g [iA 0,iA 2,iA 0],.b true,iA 0]),([dA [48,48,48,48] 0 0 [48,88] [],.g [iA 0,iA 3,iA 0]],.d [.g [iA 0,iA 3,iA 0],.b true,iA 0]),([dA [48,48,48,48] 0 0 [48,88] [],.g [iA 0,iA 4,iA 0]],.d [.g [iA 0,iA 4,iA 0],.b true,iA 0])]) .b0 .b0)) .b0) .b0) .b0) (.a0 none .b0 (.a0 none .b0 (.a0 none .b0 (.a0 none .b0 (.a0 (some [([dA [48,48,48,48] 0 0 [48,88] [],.g [iA (-9223372036854775808),iA 0,iA 0],.b true],.d [.g [iA 0,iA 1,iA 0],iA 0]),([dA [48,48,48,48] 0 0 [48,88] [],.g [iA 9223372036854775807,iA 0,iA 0],.b false],.d [.g [iA 0,iA 9,iA 0],iA 0])]) .b0 .b0))))))))
noncomputable def Zk:cL:=EN T0 aoZ
theorem al1(g:nG Tryz.prog tab T0):nL (λf l=>∀e∈l,gM Tryz.prog T0 f e.1 e.2) (λi=>i) aoZ:=⟨aZ,⟨aZ,⟨aZ,trivial,⟨aZ,trivial,⟨aZ,⟨aZ,⟨(kE (ee (g.a0 10000 asB) (ee (g.a0 10000 asE) (ee (g.a0 10000 aqS) (ee (g.a0 10000 aqT) g_))))),trivial,trivial⟩,trivial⟩,trivial⟩⟩⟩,⟨aZ,trivial,⟨aZ,trivial,⟨aZ,⟨aZ,⟨aZ,trivial,⟨(kE (ee (g.a0 10000 aqQ) (ee (g.a0 10000 aqR) g_))),trivial,trivial⟩⟩,trivial⟩,⟨aZ,trivial,⟨aZ,⟨(kE (ee (g.a0 10000 asC) (ee (g.a0 10000 aqU) g_))),trivial,trivial⟩,⟨(kE (ee (g.a0 10000 asD) g_)),trivial,trivial⟩⟩⟩⟩⟩⟩⟩,⟨aZ,⟨aZ,⟨aZ,⟨aZ,trivial,⟨aZ,trivial,⟨(kE (ee (g.a0 10000 aqP) g_)),trivial,trivial⟩⟩⟩,trivial⟩,trivial⟩,⟨aZ,⟨aZ,⟨aZ,⟨aZ,⟨aZ,trivial,⟨(kE (ee (g.a0 10000 asx) (ee (g.a0 10000 asy) (ee (g.a0 10000 asz) (ee (g.a0 10000 asA) g_))))),trivial,trivial⟩⟩,trivial⟩,trivial⟩,trivial⟩,⟨aZ,trivial,⟨aZ,trivial,⟨aZ,trivial,⟨aZ,trivial,⟨(kE (ee (g.a0 10000 asv) (ee (g.a0 10000 asw) g_))),trivial,trivial⟩⟩⟩⟩⟩⟩⟩⟩
theorem asg(g:nG Tryz.prog tab T0):nG Tryz.prog tab Zk:=g.f0 λf l h=>(al1 g).a0 f l h
def asF:pR tab Zk 10000 193 [dA [48,48,48,48] 0 0 [48,88] [],.g [iA 0,iA 2,iA 0]] (.d [MX 0 31 0 59,iA 0])=true:=ε
def asG:pR tab Zk 10000 193 [dA [48,48,48,48] 0 0 [48,88] [],.g [iA 0,iA 3,iA 0]] (.d [MX 0 60 0 90,iA 0])=true:=ε
def asH:pR tab Zk 10000 193 [dA [48,48,48,48] 0 0 [48,88] [],.g [iA 0,iA 4,iA 0]] (.d [MX 0 91 0 120,iA 0])=true:=ε
def asI:pR tab Zk 10000 197 [MX 0 (-365) 0 (-1),.a .u8 1] (.d [MX 0 (-730) 0 (-366),iA 0])=true:=ε
def asJ:pR tab Zk 10000 262 [dA [48,48,48,48] 0 0 [] [],dA [48,48,48,57] 0 0 [] []] (.b true)=true:=ε
noncomputable def ao0:EU:=(.a0 none (.a0 none .b0 (.a0 none (.a0 none (.a0 none (.a0 none (.a0 none .b0 (.a0 (some [([dA [48,48,48,48] 0 0 [48,88] [],.g [iA 0,iA 2,iA 0]],.d [MX 0 31 0 59,iA 0]),([dA [48,48,48,48] 0 0 [48,88] [],.g [iA 0,iA 3,iA 0]],.d [MX 0 60 0 90,iA 0]),([dA [48,48,48,48] 0 0 [48,88] [],.g [iA 0,iA 4,iA 0]],.d [MX 0 91 0 120,iA 0])]) .b0 .b0)) .b0) .b0) .b0) (.a0 none (.a0 none (.a0 none (.a0 none .b0 (.a0 (some [([MX 0 (-365) 0 (-1),.a .u8 1],.d [MX 0 (-730) 0 (-366),iA 0])]) .b0 .b0)) .b0) .b0) .b0))) (.a0 none .b0 (.a0 none .b0 (.a0 none (.a0 none (.a0 none (.a0 none (.a0 none (.a0 (some [([dA [48,48,48,48] 0 0 [] [],dA [48,48,48,57] 0 0 [] []],.b true)]) .b0 .b0) .b0) .b0) .b0) .b0) .b0))))
noncomputable def aqm:cL:=EN Zk ao0
theorem al2(g:nG Tryz.prog tab Zk):nL (λf l=>∀e∈l,gM Tryz.prog Zk f e.1 e.2) (λi=>i) ao0:=⟨aZ,⟨aZ,trivial,⟨aZ,⟨aZ,⟨aZ,⟨aZ,⟨aZ,trivial,⟨(kE (ee (g.a0 10000 asF) (ee (g.a0 10000 asG) (ee (g.a0 10000 asH) g_)))),trivial,trivial⟩⟩,trivial⟩,trivial⟩,trivial⟩,⟨aZ,⟨aZ,⟨aZ,⟨aZ,trivial,⟨(kE (ee (g.a0 10000 asI) g_)),trivial,trivial⟩⟩,trivial⟩,trivial⟩,trivial⟩⟩⟩,⟨aZ,trivial,⟨aZ,trivial,⟨aZ,⟨aZ,⟨aZ,⟨aZ,⟨aZ,⟨(kE (ee (g.a0 10000 asJ) g_)),trivial,trivial⟩,trivial⟩,trivial⟩,trivial⟩,trivial⟩,trivial⟩⟩⟩⟩
theorem ash(g:nG Tryz.prog tab Zk):nG Tryz.prog tab aqm:=g.f0 λf l h=>(al2 g).a0 f l h
def asK:pR tab aqm 10000 13 [] (.b true)=true:=ε
end Go.Ev
end
section
namespace Go.Ev
open Go Go.Proofs Go.ChangeShapes
variable{w:World}
theorem aqD:gM Tryz.prog cfg 13 [] (.b true):=M9 (cfg':=aqm) rfl rfl ((ash (asg (asf gR))).a0 10000 asK)
theorem f13:bu Tryz.prog cfg 13 [] [] (.b true) []:=λD m w hi hok=>(aqD (Cw cfg []) D m ⟨0,[],[]⟩ w hi hok).a0 λV w' ⟨h1,h2,h3,_⟩=>⟨D,m,h1,h2,h3⟩
theorem co2:Tryz.prog.cellsOf 2=1:=κ
theorem atC:Tryz.prog.cellsOf 45=1:=κ
theorem atB:Tryz.prog.cellsOf 44=1:=κ
theorem arY:Tryz.prog.cellsOf 47=2:=κ
theorem aqy:Tryz.prog.cellsOf 49=4:=κ
theorem arZ:Tryz.prog.cellsOf 51=17:=κ
section
variable{H:Type}{enc:TypeId×Value->H}{w:World}{sp:Nat->Bool}{held:Bool}{fuel:Nat}{cs:List Value}{x:DataW H×List MemPlace}{t:TypeId}
theorem rdE(h:DataW.trod enc Tryz.prog w 0 sp held fuel 47 cs=some x)(hb:BW 47 x.1):∃a b,cs=[.int .i8 a,.int .i64 b]/\af .i8 a/\af .i64 b=true:=by
 obtain⟨hl,n,hf⟩:=fld Tryz.underlying47 h hb;rw[arY]at hl
 match cs,hl with
 | [c0,c1],_=>
   obtain⟨_,h0,-⟩:=hf 0 _ rfl;obtain⟨_,h1,-⟩:=hf 1 _ rfl;change DataW.trod enc Tryz.prog w 0 sp held n 45 (π (Tryz.prog.cellsOf 45) _)=_ at h0;change DataW.trod enc Tryz.prog w 0 sp held n 2 (π (Tryz.prog.cellsOf 2) _)=_ at h1;rw[atC]at h0;rw[co2]at h1;obtain⟨a,e0,_,r0⟩:=DataW.trod_int Tryz.underlying45 h0;obtain⟨b,e1,_,r1⟩:=DataW.trod_int Tryz.underlying2 h1;cases e0;cases e1;exact⟨a,b,rfl,by rw[aE];exact Ka r0,by rw[aE];exact Ka r1⟩
theorem asY(h:DataW.trod enc Tryz.prog w 0 sp held fuel 49 cs=some x)(hb:BW 49 x.1):∃r:Rn,(af .i8 r.a/\af .i64 r.b/\af .i8 r.c/\af .i64 r.d=true)/\cs=[.int .i8 r.a,.int .i64 r.b,.int .i8 r.c,.int .i64 r.d]:=by
 obtain⟨hl,n,hf⟩:=fld Tryz.underlying49 h hb;rw[aqy]at hl
 match cs,hl with
 | [c0,c1,c2,c3],_=>
   obtain⟨_,h0,b0⟩:=hf 0 _ rfl;obtain⟨_,h1,b1⟩:=hf 1 _ rfl;change DataW.trod enc Tryz.prog w 0 sp held n 47 (π (Tryz.prog.cellsOf 47) _)=_ at h0 h1;rw[arY]at h0 h1;obtain⟨a,b,e0,r0,r1⟩:=rdE h0 b0;obtain⟨c,d,e1,r2,r3⟩:=rdE h1 b1;cases e0;cases e1;exact⟨⟨a,b,c,d⟩,⟨r0,r1,r2,r3⟩,rfl⟩
theorem atX(h:DataW.trod enc Tryz.prog w 0 sp held fuel 51 cs=some x)(hb:BW 51 x.1):∃(k:Int) (sv:Value) (D:Da) (p a b c d:Int),rM D/\Zf p a b c d/\(∃n y,DataW.trod enc Tryz.prog w 0 sp held n 44 [sv]=some y/\BW 44 y.1)/\cs[1]? = some sv/\∀m A,aj m A=sv->aD m (eb k A D p a b c d)=cs:=by
 obtain⟨hl,n,hf⟩:=fld Tryz.underlying51 h hb;rw[arZ]at hl
 match cs,hl with
 | c0::c1::c2::c3::c4::c5::c6::c7::c8::c9::c10::c11::c12::c13::c14::c15::c16::[],_=>
   obtain⟨_,h0,-⟩:=hf 0 _ rfl;obtain⟨y1,h1,b1⟩:=hf 1 _ rfl;obtain⟨_,h2,b2⟩:=hf 2 _ rfl;obtain⟨_,h3,-⟩:=hf 3 _ rfl;obtain⟨_,h4,b4⟩:=hf 4 _ rfl;change DataW.trod enc Tryz.prog w 0 sp held n 5 (π (Tryz.prog.cellsOf 5) _)=_ at h0 h3;change DataW.trod enc Tryz.prog w 0 sp held n 44 (π (Tryz.prog.cellsOf 44) _)=_ at h1;change DataW.trod enc Tryz.prog w 0 sp held n 30 (π (Tryz.prog.cellsOf 30) _)=_ at h2;change DataW.trod enc Tryz.prog w 0 sp held n 49 (π (Tryz.prog.cellsOf 49) _)=_ at h4;rw[vY]at h0 h3;rw[atB]at h1;rw[akW]at h2;rw[aqy]at h4;obtain⟨k,e0,_⟩:=rd8 h0;obtain⟨p,e3,r3⟩:=rd8 h3;obtain⟨D,g2,e2⟩:=AS h2 b2;obtain⟨r,⟨q1,q2,q3,q4⟩,e4⟩:=asY h4 b4;cases e0;cases e3;cases e4;refine⟨k,c1,D,p,r.a,r.b,r.c,r.d,g2,by unfold Zf;rw[r3,q1,q2,q3,q4];rfl,⟨n,y1,h1,b1⟩,rfl,λm A hA=>?_⟩;subst hA;have e2:[c2,c3,c4,c5,c6,c7,c8,c9,c10,c11]=_:=e2 m;show _=.int .u8 k::aj m A::([c2,c3,c4,c5,c6,c7,c8,c9,c10,c11]++[.int .u8 p,.int .i8 r.a,.int .i64 r.b,.int .i8 r.c,.int .i64 r.d]);rw[e2];rfl
end
def rnC(r:Rn):List AV:=[.a .i8 r.a,.a .i64 r.b,.a .i8 r.c,.a .i64 r.d]
theorem aeG{m:Nat->bv}:∀{G:List Rn} {f:Nat->Option Value},(∀q,q<G.length->∀j,j<4->f (q*4+j)=((rnC (G.getD q x9)).map (aj m))[j]?)->∀i v,(bh G)[i]? = some v->f i=some (aj m v)
 | [],f,_,i,v,hv=>by simp[bh]at hv
 | x::xs,f,h,i,v,hv=>by
   have hl:(rnC x).length=4:=rfl;have hv:(rnC x++bh xs)[i]? = some v:=hv;by_cases hi:i<4
   . have h1:=h 0 θ i hi;grind
   . rw[List.getElem?_append_right δ,hl]at hv;have:=aeG (m:=m) (f:=λn=>f (n+4)) (λq hq j hj=>by
      have:=h (q+1) η j hj;grind) (i-4) v hv
     grind
section
variable{H:Type}{enc:TypeId×Value->H}{w:World}{sp:Nat->Bool}{held:Bool}
theorem atY{fuel b o len cap:Nat}{x:DataW H×List MemPlace}(h:DataW.trod enc Tryz.prog w 0 sp held fuel 44 [.slice (some ⟨b,o,none⟩) len cap]=some x)(hb:BW 44 x.1) :
 ∃R:List Rn,R.length=len/\Nx R/\∀m i v,(bh R)[i]? = some v->w.cell? ⟨b,o+i,none⟩=some (aj m v):=by
 rcases DataW.trod_slice Tryz.underlying44 h with⟨h1,_⟩|⟨a,len',cap',elems,rest,n,_,h1,rfl,_,hcap,_,hel,hat,_⟩
 . grind
 . cases h1;rw[aqy]at hat;have main:∀i,i<len->∃r:Rn,(IJ r.b/\IJ r.d)/\∀j,j<4->∀m,w.cell? ⟨b,o+(i*4+j),none⟩=((rnC r).map (aj m))[j]? := by
    intro i hi;have h3:=hat i hi;rw[List.getElem?_eq_getElem δ]at h3;obtain⟨cs',hcs,htr⟩:=Option.bind_eq_some_iff.1 h3;obtain⟨r,⟨-,r1,-,r3⟩,he⟩:=asY htr λk hk=>hb k (by
     simp only[DataW.weights,Tryz.underlying44];exact List.mem_cons_of_mem _ (List.mem_append_left _ (anz (List.mem_map_of_mem (List.getElem_mem _)) hk)))
    rw[aE]at r1 r3;refine⟨r,⟨r1,r3⟩,λj hj m=>?_⟩;obtain⟨_,_,hcell⟩:=World.cells?_some hcs;have he:cs'=(rnC r).map (aj m):=he;rw[<-he];grind [K3]
   obtain⟨G,hR,hq⟩:=GT (d:=x9) main;exact⟨G,hR,λi hi=>(hq i δ).1,λm=>aeG (f:=λi=>w.cell? ⟨b,o+i,none⟩) λq h j hj=>(hq q δ).2 j hj m⟩
end
theorem as7{m:Nat->bv}{b o:Nat}{G:List Rn}(hb:∃c e fz,w.heap[b]? = some (.cells c e fz))(hc:∀m i v,(bh G)[i]? = some v->w.cell? ⟨b,o+i,none⟩=some (aj m v)):JU cfg.a0.n (λid=>id<14) m w (.a (bh G) false none) ⟨b,o,0⟩:=by
 obtain⟨c,el,fz,hh⟩:=hb;refine⟨_,rfl,ma,?_,c,el,fz,hh,λi v hv=>?_⟩
 . intro i hi;rw[sR]at hi;cases hi
 . have:=hc m i v hv;grind [World.cell?]
theorem atF:Tryz.prog.cellTypes Tryz.prog.depth 51=some [5,44,4,4,9,3,3,9,9,5,5,5,5,45,2,45,2]:=κ
def Wn{α:Type}(cells:List α->List AV)(P:List α->Prop)(m:Nat->bv)(w:World)(sv:Value):Prop:=(sv=.slice none 0 0/\P [])\/∃b o cap G,sv=.slice (some ⟨b,o,none⟩) G.length cap/\P G/\JU cfg.a0.n (λid=>id<14) m w (.a (cells G) false none) ⟨b,o,0⟩
theorem at1{m:Nat->bv}(hi:dX cfg (λid=>id<14) m C0 ⟨0,[],[]⟩ w){k1:Int}{s1:Value}{x1:Da}{p a1 b1 c1 d1 mm:Int}{k:Int}{d x v:Da}{k2 k3:Int}{s2:Value}{ea la:Bool}{l1 l2:List Value}(h1:Wn bh Nx m w s1)(h2:Wn dp GdL m w s2)(gx:rM x1)(gp:Zf p a1 b1 c1 d1)(hd:rM d)(hx:rM x)(hv:rM v)(e1:∀m A,aj m A=s1->aD m (eb k1 A x1 p a1 b1 c1 d1)=l1)(e2:∀m A,aj m A=s2->aD m (aaa k d k2 x k3 v A ea la)=l2):Calls Tryz.prog 5 #[.agg ⟨l1⟩,.agg ⟨l2⟩,.int .i64 mm] w λe w'=>e=.returned (.bool true)/\RowKit.Below w.heap.size w w':=by
 have key:∀{z y:Bool} {R:List Rn} {L:List It} {K c:Nat} {Lz:List bv},(z=false->R=[])->(y=false->L=[])->Nx R->GdL L->M0 cfg.a0.n (λid=>id<14) m w Lz (ws5 z y R L)->aj (mL cfg.a0.n m Lz) (Th z R.length (.a K))=s1->aj (mL cfg.a0.n m Lz) (slY z y L c)=s2->Calls Tryz.prog 5 #[.agg ⟨l1⟩,.agg ⟨l2⟩,.int .i64 mm] w λe w'=>e=.returned (.bool true)/\RowKit.Below w.heap.size w w':=λ{z y R L K c Lz} hz hy hR hg hw f1 f2=>by
  have:=Dk Tryz.func5 κ κ (fWe (z:=z) (y:=y) (R:=R) (L:=L) (K:=.a K) (c:=c) (k1:=k1) (p:=p) (a1:=a1) (b1:=b1) (c1:=c1) (d1:=d1) (m:=mm) (k:=k) (k2:=k2) (k3:=k3) (ea:=ea) (la:=la) f13 hz hy hR gx gp hd hx hv hg) (JZ hi hw) (by cases z<;>cases y<;>simp[eb,aaa,Th,slY,ws5,UO,ox,b0,fM,bw,aC,rI]);rw[<-e1 _ _ f1,<-e2 _ _ f2];exact this
 rcases h1 with⟨rfl,p1⟩|⟨b1',o1,cap1,R,rfl,p1,r1⟩<;>rcases h2 with⟨rfl,p2⟩|⟨b2',o2,cap2,L,rfl,p2,r2⟩
 . exact key (z:=false) (y:=false) (K:=0) (c:=0) (Lz:=[]) (λ_=>rfl) (λ_=>rfl) p1 p2 ⟨rfl,nofun⟩ rfl rfl
 . exact key (z:=false) (y:=true) (K:=0) (c:=cap2) (Lz:=[⟨b2',o2,0⟩]) (λ_=>rfl) nofun p1 p2 ⟨rfl,λj x l hx hl=>by
    match j with
    | 0=>cases hx;cases hl;exact r2
    | j+1=>grind [ws5,UO,ox]⟩ rfl rfl
 . exact key (z:=true) (y:=false) (K:=cap1) (c:=0) (Lz:=[⟨b1',o1,0⟩]) nofun (λ_=>rfl) p1 p2 ⟨rfl,λj x l hx hl=>by
    match j with
    | 0=>cases hx;cases hl;exact r1
    | j+1=>grind [ws5,UO,ox]⟩ rfl rfl
 . exact key (z:=true) (y:=true) (K:=cap1) (c:=cap2) (Lz:=[⟨b1',o1,0⟩,⟨b2',o2,0⟩]) nofun nofun p1 p2 ⟨rfl,λj x l hx hl=>by
    match j with
    | 0=>cases hx;cases hl;exact r1
    | 1=>cases hx;cases hl;exact r2
    | j+2=>grind [ws5,UO,ox]⟩ rfl rfl
theorem calls5{H:Type}{enc:TypeId×Value->H}{r:Reach}{b0:Nat}{v0 v1 v2:Value}{d0 d1 d2:DataW H}{p0 p1 p2:List MemPlace}(hL:laidMetH Tryz.prog abA w)(h0:Value.okWide Tryz.prog w r b0 51 v0)(h1:Value.okWide Tryz.prog w r b0 35 v1)(h2:Value.okWide Tryz.prog w r b0 3 v2)(t0:DataW.Trod enc Tryz.prog w 0 (λ_=>true) true 51 v0 d0 p0)(t1:DataW.Trod enc Tryz.prog w 0 (λ_=>true) true 35 v1 d1 p1)(t2:DataW.Trod enc Tryz.prog w 0 (λ_=>true) true 3 v2 d2 p2)(w0:BW 51 d0)(w1:BW 35 d1) :
 Calls Tryz.prog 5 #[v0,v1,v2] w λe w'=>e=.returned (.bool true)/\RowKit.Below w.heap.size w w':=by
 obtain⟨m,hi⟩:=Jn (JA hL);obtain⟨l0,rfl,c0⟩:=IH Tryz.underlying51 atF arZ h0;obtain⟨l1,rfl,c1⟩:=IH Tryz.underlying35 atE arX h1;obtain⟨f0,t0⟩:=t0;obtain⟨f1,t1⟩:=t1;have t0:DataW.trod enc Tryz.prog w 0 (λ_=>true) true f0 51 l0=some (d0,p0):=t0;have t1:DataW.trod enc Tryz.prog w 0 (λ_=>true) true f1 35 l1=some (d1,p1):=t1;obtain⟨k1,s1,x1,p,a,b,c,dd,gx,gp,⟨n1,y1,hy1,by1⟩,hs1,hv1⟩:=atX t0 w0;obtain⟨k,d,k2,x,k3,v,s2,ea,la,g1,g2,g3,⟨n2,y2,hy2,by2⟩,hs2,hv2⟩:=rdX t1 w1;obtain⟨mm,rfl⟩:∃mm,v2=.int .i64 mm:=by
  obtain⟨mm,e,_⟩:=open_int Tryz.underlying3 h2 t2;exact⟨mm,e⟩
 refine at1 hi ?_ ?_ gx gp g1 g2 g3 hv1 hv2
 . rcases EP Tryz.underlying44 (aas (i:=1) c0 rfl hs1)with rfl|⟨bk,o,len,cap,cc,el,fz,rfl,hh⟩
   . exact .inl ⟨rfl,λi hi=>absurd hi (ο i)⟩
   . obtain⟨G,rfl,hg,hcl⟩:=atY hy1 by1;exact .inr ⟨bk,o,cap,G,rfl,hg,as7 ⟨cc,el,fz,hh⟩ hcl⟩
 . rcases EP Tryz.underlying33 (aas (i:=33) c1 rfl hs2)with rfl|⟨bk,o,len,cap,cc,el,fz,rfl,hh⟩
   . exact .inl ⟨rfl,λi hi=>absurd hi (ο i)⟩
   . obtain⟨G,rfl,hle,hg,hcl⟩:=rdL hy2 by2;exact .inr ⟨bk,o,cap,G,rfl,hg,as6 ⟨cc,el,fz,hh⟩ hcl⟩
end Go.Ev
end
section
namespace Go.Proofs.YtcffhjfdlflbgaaGreatDoor.fnWorldsErrors
open Go.ChangeShapes Go.WideShapes Go.ChangeAt Go.RowKit
def rec0:Tryz.prog.readableRec 51=true:=ε
theorem row0:51 < Tryz.prog.types.size:=of_decide_eq_true ε
def rec1:Tryz.prog.readableRec 35=true:=ε
theorem row1:35 < Tryz.prog.types.size:=of_decide_eq_true ε
def rec2:Tryz.prog.readableRec 3=true:=ε
theorem row2:3 < Tryz.prog.types.size:=of_decide_eq_true ε
theorem contract(H:Type)(enc:TypeId×Value->H)(W:World)(args:Array Value)(ds gs:List (DataW H))(before:List MemPlace)(r:Reach)(b0:Nat)
 (hval:∀(j:Nat) (t:TypeId) (v:Value),Tryz.f5.params[j]? = some t->args[j]? = some v->Value.okWide Tryz.prog W r b0 t v)
 (hW:DataW.Whole enc Tryz.prog Tryz.f5.params.toList Rows.worldsErrorsSpec.vars false W args.toList ds gs before) (hsz:(DataW.weightsEach Tryz.prog (Tryz.f5.params.toList++(OpenSpec.ofChange Rows.worldsErrorsSpec).bare.plain.varTypes Tryz.prog) (ds++gs)).all (·<=reachBytes)) (hL:laidMetH Tryz.prog Rows.worldsErrorsRow.laid W) :
 Calls Tryz.prog 5 args W λe W'=>∃v,e=.returned v/\Rows.worldsErrorsSpec.post enc Tryz.prog Tryz.f5 false true false false W args v W':=by
 have hW':=hW;obtain⟨p,q,hA0,hV,rfl,hfz,hnd⟩:=hW;have hA:DataW.TrodAll enc Tryz.prog W 0 (λ_=>true) true Tryz.f5.params.toList args.toList ds p:=hA0;rw[Tryz.params5]at hA hval hsz;obtain⟨v0,v1,v2,d0,d1,d2,p0,p1,p2,rfl,rfl,rfl,hd0,hd1,hd2⟩:=trodAll_three hA;obtain⟨rfl,rfl⟩:=trodVars_none hV;clear hA0;refine(Go.Ev.calls5 hL (hval 0 51 v0 rfl rfl) (hval 1 35 v1 rfl rfl) (hval 2 3 v2 rfl rfl) hd0 hd1 hd2 (λn hn=>of_decide_eq_true (List.all_eq_true.1 hsz n (DataW.weights_mem_each (j:=0) (t:=51) rfl rfl n hn))) λn hn=>of_decide_eq_true (List.all_eq_true.1 hsz n (DataW.weights_mem_each (j:=1) (t:=35) rfl rfl n hn))).mono λe W' ⟨he,hb⟩=>?_;subst he;refine⟨_,rfl,Go.Ev.post_of_below (pa:=p0++(p1++p2)) (pv:=[]) hW' (λ_ _ _=>trodAll_cons_mk (shut_bool Tryz.underlying4 _) trodAll_mk0) (λsp hsp=>?_) (λ_ _=>rfl) θ hb (ok_one ε rfl (okWide_bool_mk Tryz.underlying4 _))⟩;rw[Tryz.params5];exact trodAll_mk3 (Go.WideElems.Trod_stays Go.Ev.laidOut rec0 row0 hd0 (λx hx=>Go.Ev.below_place hb (hW'.lt x (by simp[hx]))) λx hx=>hsp x (by simp[hx])) (Go.WideElems.Trod_stays Go.Ev.laidOut rec1 row1 hd1 (λx hx=>Go.Ev.below_place hb (hW'.lt x (by simp[hx]))) λx hx=>hsp x (by simp[hx])) (Go.WideElems.Trod_stays Go.Ev.laidOut rec2 row2 hd2 (λx hx=>Go.Ev.below_place hb (hW'.lt x (by simp[hx]))) λx hx=>hsp x (by simp[hx]))
end Go.Proofs.YtcffhjfdlflbgaaGreatDoor.fnWorldsErrors
end
set_option linter.all false
set_option maxRecDepth 100000
set_option maxHeartbeats 4000000
section
namespace Go.Proofs.YtcffhjfdlflbgaaGreatDoor.fnWorldsErrors
open Go.ChangeShapes Go.WideShapes Go.ChangeAt Go.RowKit
noncomputable abbrev Fa(x:Program->FuncId->Func->ChangeSpec->OpenClaim->Bool):Bool:=x Tryz.prog 5 Tryz.f5 Rows.worldsErrorsSpec Rows.worldsErrorsRow
def fa0:(Fa λP f fn s c=>c.wf (OpenSpec.ofChange s))=true:=ε
def fa1:(Fa λP f fn s c=>laidOutB P)=true:=ε
def fa2:(Fa λP f fn s c=>mapsRowed P)=true:=ε
def fa3:(Fa λP f fn s c=>fn.params.all (P.readableRec ·))=true:=ε
def fa4:(Fa λP f fn s c=>namedTie P c.named s.vars)=true:=ε
def fa5:(Fa λP f fn s c=>(c.stops==[]))=true:=ε
def fa6:(Fa λP f fn s c=>(P.stops==[]))=true:=ε
def fa7:(Fa λP f fn s c=>(c.knobs==[]))=true:=ε
def fa8:(Fa λP f fn s c=>(P.stopKnobs==[]))=true:=ε
def fa9:(Fa λP f fn s c=>(c.inPlace==P.inPlace f))=true:=ε
def fa10:(Fa λP f fn s c=>(c.unfollowed==P.unfollowed f))=true:=ε
def fa11:(Fa λP f fn s c=>(c.recurses==P.recurses f))=true:=ε
def fa12:(Fa λP f fn s c=>(c.named==P.varsNamed f))=true:=ε
def fa13:(Fa λP f fn s c=>(c.maps==(fn.params.toList++s.plain.varTypes P).any (P.mapsRec ·)))=true:=ε
def fa14:(Fa λP f fn s c=>(c.ifaces==(fn.params.toList++s.plain.varTypes P).any (P.ifacesRec ·)))=true:=ε
def fa15:(Fa λP f fn s c=>(c.mapsOut==P.mapsAmong fn.resultTypes.toList))=true:=ε
def fa16:(Fa λP f fn s c=>(c.loops==(fn.params.toList++s.plain.varTypes P).any (P.loopsFrom ·)))=true:=ε
def fa17:(Fa λP f fn s c=>(c.wideKeys==(fn.params.toList++s.plain.varTypes P++fn.resultTypes.toList).any (P.wideKeysFrom ·)))=true:=ε
def fa18:(Fa λP f fn s c=>s.vars.all (P.varReadable ·))=true:=ε
def fa19:(Fa λP f fn s c=>fn.resultTypes.all (λt=>P.readableRec t&&decide (t<P.types.size)))=true:=ε
def fa20:(Fa λP f fn s c=>(c.ifacesOut==fn.resultTypes.toList.any (P.ifacesRec ·)))=true:=ε
def fa21:(Fa λP f fn s c=>(c.loopsOut==fn.resultTypes.toList.any (P.loopsFrom ·)))=true:=ε
def fa22:(Fa λP f fn s c=>(c.plainKeys==P.plainKeys))=true:=ε
def fa23:(Fa λP f fn s c=>c.shortTexts.isNone)=true:=ε
def fa24:(Fa λP f fn s c=>P.stopsHeard)=true:=ε
def fa25:(Fa λP f fn s c=>P.mayEnter)=true:=ε
def fa26:(Fa λP f fn s c=>(c.lifted==P.liftsFinal))=true:=ε
def fa27:(Fa λP f fn s c=>(P.make==some c.make))=true:=ε
def fa28:(Fa λP f fn s c=>(c.kinds==(if c.domain.isEmpty then[]else fn.params.toList.map λt=>match P.underlying t with|some (.int k)=>some k|_=>none)))=true:=ε
def fa29:(Fa λP f fn s c=>(c.pinned==c.pinnedBy))=true:=ε
def fa30:(Fa λP f fn s c=>(c.veiled==(fn.params.toList++s.plain.varTypes P++fn.resultTypes.toList).any (P.veiledRec ·)))=true:=ε
def fa31:(Fa λP f fn s c=>c.veiledFits P fn.params.toList (fn.params.toList++s.plain.varTypes P++fn.resultTypes.toList))=true:=ε
theorem facts:joinedFacts Tryz.prog 5 Tryz.f5 Rows.worldsErrorsSpec Rows.worldsErrorsRow=true:=by
 unfold joinedFacts;simp only[zAa];exact⟨⟨⟨⟨⟨⟨⟨⟨⟨⟨⟨⟨⟨⟨⟨⟨⟨⟨⟨⟨⟨⟨⟨⟨⟨⟨⟨⟨⟨⟨⟨fa0,fa1⟩,fa2⟩,fa3⟩,fa4⟩,fa5⟩,fa6⟩,fa7⟩,fa8⟩,fa9⟩,fa10⟩,fa11⟩,fa12⟩,fa13⟩,fa14⟩,fa15⟩,fa16⟩,fa17⟩,fa18⟩,fa19⟩,fa20⟩,fa21⟩,fa22⟩,fa23⟩,fa24⟩,fa25⟩,fa26⟩,fa27⟩,fa28⟩,fa29⟩,fa30⟩,fa31⟩
end Go.Proofs.YtcffhjfdlflbgaaGreatDoor.fnWorldsErrors
end
section
namespace Go.Proofs.YtcffhjfdlflbgaaGreatDoor.fnWorldsErrors
open Go.ChangeShapes Go.WideShapes Go.ChangeAt Go.RowKit Go.Ev.Wit
def zero0:Value:=.agg #[.int .u8 0,.bool false,.bool false,.string ⟨#[]⟩,.int .i64 0,.int .i64 0,.string ⟨#[]⟩,.string ⟨#[]⟩,.int .u8 0,.int .u8 0,.int .u8 0,.int .u8 0,.bool false,.bool false,.string ⟨#[]⟩,.int .i64 0,.int .i64 0,.string ⟨#[]⟩,.string ⟨#[]⟩,.int .u8 0,.int .u8 0,.int .u8 0,.int .u8 0,.bool false,.bool false,.string ⟨#[]⟩,.int .i64 0,.int .i64 0,.string ⟨#[]⟩,.string ⟨#[]⟩,.int .u8 0,.int .u8 0,.int .u8 0,.slice none 0 0,.bool false,.bool false]
def zeroF:Value:=.agg #[.int .u8 0,.slice none 0 0,.bool false,.bool false,.string ⟨#[]⟩,.int .i64 0,.int .i64 0,.string ⟨#[]⟩,.string ⟨#[]⟩,.int .u8 0,.int .u8 0,.int .u8 0,.int .u8 0,.int .i8 0,.int .i64 0,.int .i8 0,.int .i64 0]
abbrev args0:Array Value:=#[zeroF,zero0,.int .i64 0]
noncomputable abbrev W0(os:Os):World:=(laidWorld os).forCall (λ_ _=>0) ⟨#[],args0,[]⟩
theorem laid_met(os:Os):laidMet Tryz.prog Rows.worldsErrorsRow.laid (W0 os).memory:=laidMet_of_run' 8 ε ε
theorem reads(os:Os){H:Type}(enc:TypeId×Value->H):∃x,DataW.whole enc Tryz.prog (W0 os).memory Tryz.f5.params.toList Rows.worldsErrorsSpec.vars false args0.toList 8=some x:=Option.isSome_iff_exists.1 ε
def shaped(os:Os):(W0 os).variablesRefB Tryz.checked.prog=true:=ε
def restB(os:Os):((W0 os).heap.toList.drop Tryz.checked.prog.globals.size).take ((begin Tryz.checked.prog (λ_ _=>0) default).world.heap.size - Tryz.checked.prog.globals.size)=(begin Tryz.checked.prog (λ_ _=>0) default).world.heap.toList.drop Tryz.checked.prog.globals.size:=ε
def argsB(os:Os):Input.okWideB Tryz.checked.prog (W0 os) 5 ⟨#[],args0,[]⟩=true:=ε
end Go.Proofs.YtcffhjfdlflbgaaGreatDoor.fnWorldsErrors
end
section
namespace Go.Proofs.YtcffhjfdlflbgaaGreatDoor.fnWorldsErrors
open Go.ChangeShapes Go.WideShapes Go.ChangeAt Go.RowKit
def own:ownKnob Tryz.prog.godebug=none:=ε
theorem lifted(os:Os)(started:os.Started)(H:Type)(enc:TypeId×Value->H)(F:Stop.Interp) :
 ReturnsInHanded {} Tryz.checked os 5 .any ((OpenSpec.ofChange Rows.worldsErrorsSpec).preRow enc Tryz.prog Tryz.f5 Rows.worldsErrorsRow.domain false Rows.worldsErrorsRow.laid) (((OpenSpec.ofChange Rows.worldsErrorsSpec).at F).post enc Tryz.prog Tryz.f5 false true false false):=by
 obtain⟨x,hx⟩:=reads os enc;refine returnsInHanded_of_row (C:=Tryz.checked) (s:=OpenSpec.ofChange Rows.worldsErrorsSpec) own started ε Tryz.func5
  (witness_row_atRef (enc:=enc) (C:=Tryz.checked) false (Go.Ev.Wit.laidWorld os) args0 rfl (shaped os) (restB os) (argsB os)
    (OpenSpec.preRow_of_cond 8 hx ε (λk hk=>by cases hk) ε (laid_met os))) ?_
 intro W base args ds gs before hval hW _ _ hsz hL _ _;exact contract H enc W args ds gs before .any base hval hW hsz hL
theorem said:Rows.WorldsErrorsSaid:=
 OpenClaim.holds_of_cond 5 Tryz.f5 rfl rfl rfl rfl rfl rfl rfl ⟨rfl,rfl,rfl,rfl,rfl⟩ rfl rfl rfl rfl rfl ε Tryz.func5 facts
  (of_decide_eq_true ε) (by unfold Func.isWrapper;first|(rw[if_pos (by decide +kernel)];kernel_rfl)|(rw[if_neg (by decide +kernel)];exact⟨rfl,rfl⟩))
  (λos started H enc _ F=>by rw[OpenClaim.pre_eq_preRow];exact lifted os started H enc F)
def standB:Tryz.f5.params.all (λt=>!Tryz.prog.wantsStandIn t)=true:=ε
theorem plain(f:FuncId)(fn:Func)(hf:Tryz.pinned.checked.prog.funcNamed "circa/circalaw25.WorldsErrors" = some f)(hfn:Tryz.pinned.checked.prog.funcs[f]? = some fn) :
 true=Tryz.pinned.checked.prog.looks []/\∀(j:Nat) t,fn.params[j]? = some t->Tryz.pinned.checked.prog.wantsStandIn t=false:=by
 obtain rfl:f=5:=Option.some.inj ((show Tryz.prog.funcNamed "circa/circalaw25.WorldsErrors" = some 5 by kernel_rfl).symm.trans hf) |>.symm
 obtain rfl:fn=Tryz.f5:=(Option.some.inj (Tryz.func5.symm.trans hfn)).symm;refine⟨by kernel_rfl,λj t ht=>?_⟩;obtain⟨hj,e⟩:=Array.getElem?_eq_some_iff.1 ht;have:=(Array.all_eq_true.1 standB) j hj;rw[e]at this;have this:Tryz.prog.wantsStandIn t=false:=by simpa using this
 exact this
theorem card:Rows.WorldsErrorsCardSaid:=
 Claim7.holds_tied_plain_at .later [] _ _ _ _ said (λ_ h=>by cases h) ε (λ_ h=>by cases h) worldsErrors_row_tie rfl ⟨rfl,rfl⟩ ε rfl plain ε
#print axioms card
end Go.Proofs.YtcffhjfdlflbgaaGreatDoor.fnWorldsErrors
end
