import Derived.Test.YtcffhjfdlflbgaaGreatDoorP41
set_option linter.all false
open Bool renaming not_eq_false'->ν,not_eq_true'->ξ
open Int renaming ofNat->ο
open Nat renaming beq->π
set_option linter.all false
set_option maxRecDepth 100000
set_option maxHeartbeats 4000000
namespace Go.Ev
open Go Go.Proofs
variable{k:Int}{ea la z:Bool}{L:List It}{S:aQ}{x y:Da}{n f:Nat}{C:bg}{v:AV}
def LIg(L:List It)(k:Int)(ea la:Bool):cx:=iz jE 0 (d9 39 [1,2,3,4,13,14,15] (vIg L k ea la))
def adw(w:List AV)(L:List It)(k:Int)(ea la:Bool)(n:Nat)(K:fg){Q:AV->Prop}:gG Q (pW TJg (LIg L k ea la) [.a w false none] 134 [.h (fS k (.c 14 0 n K) ea la)]) (bE 114270200220020)=(af .i64 (Int.sub (ο n) 1)/\π L.length n/\π n n/\aa (ο n) (ο n)/\aa (Int.sub (ο n) 1) (ο n-1)/\aa k k/\bQ ea ea/\bQ la la/\fk (WU (td k ea la L) L.length) (∀J1:Nat->Value,Q (.d [.a .i64 0,.a .i64 0])) (∀J1:Nat->Value,Q (.d [iV (fJ (td k ea la L) L.length 0),.a .i64 (td k ea la L (fJ (td k ea la L) L.length 0))]))):=by kernel_rfl
theorem bEq{b:Bool}:bQ b b=true:=by cases b<;>rfl
theorem fIg{K:fg}(hk:(aa k 3 || aa k 4))(hn:L.length<=200)(hg:∀i,i<L.length->Va (L.getD i fP)):bu Tryz.prog cfg 134 [.h (fS k (.c 14 0 L.length K) ea la)] [.a (dp L) false none] (.d [.a .i64 (Zp k ea la L),.a .i64 (Us k ea la L)]) []:=by
 refine P0 Vl (L:=LIg L k ea la) dT alw (by simp) (dv aiO λi hi e he st Q hw=>?_) (eD λQ' hQ=>cg ((adw (dp L) L k ea la L.length K).mpr ?_)) (by rfl)
 . have hi:i=0:=by grind
   subst hi;cases he;exact bR (cC.a0 Vl) (by decide) rfl (aeS hk hn hg) hw
 . have hQ:=hQ _ rfl;unfold Zp Us at hQ;refine⟨by rw[aE];simp only[eH,eE];show _<=(L.length:Int)-1/\(L.length:Int)-1<=_;omega,aJ.mpr rfl,aJ.mpr rfl,aa0 _,aa0 _,aa0 _,bEq,bEq,λh _=>?_,λh _=>?_⟩<;>rw[h]at hQ<;>exact hQ
def sBd(F:Int->Da->Tr AV):dP:=λ
 | [.h [.a .u8 k,.b ng,.b lg,.e s,.a .i64 e,.a .i64 g,.e mo,.e da,.a .u8 a,.a .u8 b,.a .u8 c]]=>some (F k ⟨ng,lg,s,e,g,mo,da,a,b,c⟩)
 | _=>none
def sBB(F:Int->Da->Int->Da->Tr AV):dP:=λ
 | [.h [.a .u8 k,.b ng,.b lg,.e s,.a .i64 e,.a .i64 g,.e mo,.e da,.a .u8 a,.a .u8 b,.a .u8 c],.h [.a .u8 l,.b ng',.b lg',.e s',.a .i64 e',.a .i64 g',.e mo',.e da',.a .u8 a',.a .u8 b',.a .u8 c']]=>some (F k ⟨ng,lg,s,e,g,mo,da,a,b,c⟩ l ⟨ng',lg',s',e',g',mo',da',a',b',c'⟩)
 | _=>none
theorem Xc{F:Int->Da->Tr AV}{args:List AV}{t:Tr AV}(h:sBd F args=some t):∃(k:Int) (x:Da),args=[.h (sZ k x)]/\F k x=t:=by
 unfold sBd at h;split at h
 . exact⟨_,⟨_,_,_,_,_,_,_,_,_,_⟩,rfl,Option.some.inj h⟩
 . cases h
theorem Xb{F:Int->Da->Int->Da->Tr AV}{args:List AV}{t:Tr AV}(h:sBB F args=some t):∃(k:Int) (x:Da) (l:Int) (y:Da),args=[.h (sZ k x),.h (sZ l y)]/\F k x l y=t:=by
 unfold sBB at h;split at h
 . exact⟨_,⟨_,_,_,_,_,_,_,_,_,_⟩,_,⟨_,_,_,_,_,_,_,_,_,_⟩,rfl,Option.some.inj h⟩
 . cases h
def Uq(k:Int)(x:Da):Int:=bif aa k 1 then(bif aa (xC x) 0 then(bif fy x then 0 else 11)else xC x)else bif aa k 2 || aa k 3 then(bif Ul x then 0 else 5)else 18
def Xz(k:Int)(x:Da)(l:Int)(y:Da):Int:=bif not (aa (Uq k x) 0)then Uq k x else bif not (aa (Uq l y) 0)then Uq l y else jM k x l y
def sBc:dP:=sBd λk x=>aH [rk x] (.a0 (.a .i64 (Uq k x)))
def sPg:dP:=sBB λk x l y=>aH [rk x,rk y] (.a0 (.a .i64 (Xz k x l y)))
def TBk:aQ:=d5 (d5 gZ 42 Yo) 257 tz
def ZW:aQ:=pX (d5 (d5 gZ 204 sBc) 205 xY) 92 FB
def TB8:aQ:=d5 (d5 gZ 46 Yo) 126 ag_
def TP9:aQ:=d5 (d5 gZ 69 sBc) 70 ahu
def tBz(k:Int)(x:Da)(Q:AV->Prop)(X:Prop):Prop:=fk (aa k 1) X (fk (aa k 2) (aa k 2/\fk (not (Ul x)) (Q (.a .i64 5)) (Q (.a .i64 0))) (fk (aa k 3) (fk (not (Ul x)) (Q (.a .i64 5)) (Q (.a .i64 0))) (Q (.a .i64 18))))
section
variable(k l:Int)(x y:Da){Q:AV->Prop}
def bBc:gG Q (pT TBk jE 204 [.h (sZ k x)]) (bE 11140641140624114200614200640)=tBz k x Q (rk x/\fk (not (aa (xC x) 0)) (Q (.a .i64 (xC x))) (dF x/\fk (not (fy x)) (Q (.a .i64 11)) (Q (.a .i64 0)))):=by kernel_rfl
def adx:gG Q (pT ZW jE 133 [.h (sZ k x),.h (sZ l y)]) (bE 1140520006200614320220081028014220240001420666142566666)=(rk x/\fk (not (aa (Uq k x) 0)) (Q (.a .i64 (Uq k x))) (rk y/\fk (not (aa (Uq l y) 0)) (Q (.a .i64 (Uq l y))) (vZ 3 3 (not (aa k 1)) (fk (not (aa l 1)) (Q (.a .i64 11)) (rp 3 (not (not (aa k 1))) false (not (aa k 1)/\Q (.a .i64 0)))) (rp 3 (not (not (aa k 1))) true (not (aa k 1)=false/\fk (not (aa l 1)) (Q (.a .i64 0)) (gN x/\gN y/\fk (not (ab (gc 0 (jc x) 0 (iQ y)) 0)) (Q (.a .i64 11)) (Q (.a .i64 0)))))))):=by kernel_rfl
def bB8:gG Q (pT TB8 jE 69 [.h (sZ k x)]) (bE 1114006641140066241038114227020624200640)=tBz k x Q (rk x/\vZ 2 4 (aa (xC x) 0) (Nat.ble x.s.length 1000/\Nat.ble x.mo.length 1000/\Nat.ble x.da.length 1000/\rp 2 (aa (xC x) 0) true (fk (aa (bI (fy x)) 0) (Q (.a .i64 11)) (Q (.a .i64 (xC x))))) (Q (.a .i64 (xC x)))):=by kernel_rfl
def bP9:gG Q (pT TP9 jE 21 [.h (sZ k x),.h (sZ l y)]) (bE 1114200620064220220081038014220240120006420006120006420006)=(rk x/\fk (not (aa (Uq k x) 0)) (rk x/\Q (.a .i64 (Uq k x))) (rk y/\fk (not (aa (Uq l y) 0)) (rk y/\Q (.a .i64 (Uq l y))) (vZ 3 3 (not (aa k 1)) (fk (not (aa l 1)) (Q (.a .i64 11)) (rp 4 (aa k 1) false (Q (.a .i64 0)))) (rp 4 (aa k 1) true (fk (aa l 1) (gN x/\gN y/\fk (not (ab (jc x) (iQ y))) (Q (.a .i64 11)) (Q (.a .i64 0))) (Q (.a .i64 0))))))):=by kernel_rfl
end
theorem YU:ec tab 204=some (dH 204,aL 204):=by rfl
theorem Y5:ec tab 133=some (dH 133,aL 133):=by rfl
theorem Wi(hS:ak Tryz.prog cfg S):ak Tryz.prog cfg (d5 S 46 Yo):=au hS λargs t v he hv=>by
 obtain⟨x,rfl,rfl⟩:=Ym he;obtain⟨⟨h,-⟩,hv⟩:=aF hv;cases hv;unfold rk at h;simp only[zAa]at h;exact IR (al.mp h.1) (aE.mp h.2.2.2.1)
theorem YC:ak Tryz.prog cfg TBk:=ame (Wv aW)
theorem Yy:ak Tryz.prog cfg TB8:=afa (Wi aW)
theorem UR(g:rk x)(h:Uq k x=0)(hk:aa k 1):dF x/\fy x/\gN x=true:=by
 unfold Uq at h;rw[hk,cond_true]at h;cases he:aa (xC x) 0<;>rw[he]at h
 . rw[aw]at he;exact absurd h he
 . have v:=x9 g (ao.mp he);cases hn:fy x<;>rw[hn]at h
   . cases h
   . exact⟨v,rfl,qd v hn⟩
theorem Xl{Q:AV->Prop}{X:Prop}(hQ:Q (.a .i64 (Uq k x)))(hX:Q (.a .i64 (bif aa (xC x) 0 then(bif fy x then 0 else 11)else xC x))->X):tBz k x Q X:=by
 unfold Uq at hQ;have z:Q (.a .i64 (bif Ul x then 0 else 5))->fk (not (Ul x)) (Q (.a .i64 5)) (Q (.a .i64 0)):=λh=>by
  cases hd:Ul x<;>rw[hd]at h
  . exact⟨λ_=>h,nofun⟩
  . exact⟨nofun,λ_=>h⟩
 refine⟨λh=>hX ?_,λh=>⟨λh2=>⟨h2,z ?_⟩,λh2=>⟨λh3=>z ?_,λh3=>?_⟩⟩⟩
 . rw[h]at hQ;exact hQ
 . rw[h,h2]at hQ;exact hQ
 . rw[h,h2,h3]at hQ;exact hQ
 . rw[h,h2,h3]at hQ;exact hQ
theorem ZZ(hS:ak Tryz.prog cfg S):ak Tryz.prog cfg (d5 S 204 sBc):=au hS λargs t v he hv=>by
 obtain⟨k,x,rfl,rfl⟩:=Xc he;obtain⟨⟨h,-⟩,hv⟩:=aF hv;cases hv;refine kA YC (L:=jE) YU (by simp) ai (eD λQ' hQ=>cg ((bBc k x).mpr (Xl (hQ _ rfl) λhq=>⟨h,λe=>?_,λe=>?_⟩))) (by rfl)
 . rw[ξ]at e;rw[e]at hq;exact hq
 . rw[ν]at e;rw[e]at hq;refine⟨x9 h (ao.mp e),λn=>?_,λn=>?_⟩
   . rw[ξ]at n;rw[n]at hq;exact hq
   . rw[ν]at n;rw[n]at hq;exact hq
theorem ZY(hS:ak Tryz.prog cfg S):ak Tryz.prog cfg (d5 S 69 sBc):=au hS λargs t v he hv=>by
 obtain⟨k,x,rfl,rfl⟩:=Xc he;obtain⟨⟨h,-⟩,hv⟩:=aF hv;cases hv;refine kA Yy (L:=jE) afQ (by simp) ai (eD λQ' hQ=>cg ((bB8 k x).mpr (Xl (hQ _ rfl) λhq=>⟨h,λe=>?_,λe=>?_⟩))) (by rfl)
 . rw[e]at hq;obtain⟨b1,b2,b3⟩:=aej (x9 h (ao.mp e));refine⟨e,e,b1,b2,b3,e,e,λn=>?_,λn=>?_⟩
   . cases hn:fy x<;>rw[hn]at hq n
     . exact hq
     . cases n
   . cases hn:fy x<;>rw[hn]at hq n
     . cases n
     . rw[ao.mp e];exact hq
 . rw[e]at hq;exact⟨e,e,e,e,hq⟩
theorem XK:ak Tryz.prog cfg ZW:=eG (ajG (ZZ aW)) NE
theorem YM:ak Tryz.prog cfg TP9:=afd (ZY aW)
theorem aae(hS:ak Tryz.prog cfg S):ak Tryz.prog cfg (d5 S 133 sPg):=au hS λargs t v he hv=>by
 obtain⟨k,x,l,y,rfl,rfl⟩:=Xb he;obtain⟨⟨h1,h2,-⟩,hv⟩:=aF hv;cases hv;refine kA XK (L:=jE) Y5 (by simp) ai (eD λQ' hQ=>cg ((adx k l x y).mpr ?_)) (by rfl);have hQ:=hQ _ rfl;unfold Xz at hQ;refine⟨h1,λe=>by rw[e]at hQ;exact hQ,λe=>⟨h2,λf=>by rw[e,f]at hQ;exact hQ,λf=>?_⟩⟩;rw[e,f]at hQ;rw[ν,ao]at e f;have c:ab (gc 0 (jc x) 0 (iQ y)) 0=ab (jc x) (iQ y):=by
  have:=xF 0 (jc x) 0 (iQ y);rw[Bool.eq_iff_iff,aq,aq];omega
 have a:=UR h1 e;have b:=UR h2 f;rw[c];unfold jM at hQ;cases hk:aa k 1<;>cases hl:aa l 1<;>rw[hk,hl]at hQ<;>simp only[vZ,fk,rp,Bool.not_true,Bool.not_false,true_and,and_true,true_imp_iff,reduceCtorEq,false_imp_iff]<;>first|exact hQ|skip
 refine⟨(a hk).2.2,(b hl).2.2,λq=>?_,λq=>?_⟩
 . rw[ξ]at q;rw[q]at hQ;exact hQ
 . rw[ν]at q;rw[q]at hQ;exact hQ
theorem aad(hS:ak Tryz.prog cfg S):ak Tryz.prog cfg (d5 S 21 sPg):=au hS λargs t v he hv=>by
 obtain⟨k,x,l,y,rfl,rfl⟩:=Xb he;obtain⟨⟨h1,h2,-⟩,hv⟩:=aF hv;cases hv;refine kA YM (L:=jE) aiW (by simp) ai (eD λQ' hQ=>cg ((bP9 k l x y).mpr ?_)) (by rfl);have hQ:=hQ _ rfl;unfold Xz at hQ;refine⟨h1,λe=>⟨h1,by rw[e]at hQ;exact hQ⟩,λe=>⟨h2,λf=>⟨h2,by rw[e,f]at hQ;exact hQ⟩,λf=>?_⟩⟩;rw[e,f]at hQ;rw[ν,ao]at e f;have a:=UR h1 e;have b:=UR h2 f;unfold jM at hQ;cases hk:aa k 1<;>cases hl:aa l 1<;>rw[hk,hl]at hQ<;>simp only[vZ,fk,rp,Bool.not_true,Bool.not_false,true_and,and_true,true_imp_iff,reduceCtorEq,false_imp_iff]<;>first|exact hQ|skip
 refine⟨(a hk).2.2,(b hl).2.2,λq=>?_,λq=>?_⟩
 . rw[ξ]at q;rw[q]at hQ;exact hQ
 . rw[ν]at q;rw[q]at hQ;exact hQ
def T8g:aQ:=d5 (d5 (d5 (d5 (d5 gZ 46 Yo) 111 xQ) 68 YA) 70 ahu) 126 ag_
theorem Yu:ak Tryz.prog cfg T8g:=afa (afd (bm (ajQ (Wi aW)) (MW 68 _ rfl)))
def tX8(all:Bool)(x:Da)(Q:AV->Prop):Prop:=bif all then Nat.ble x.s.length 1000=true/\Nat.ble x.mo.length 1000/\Nat.ble x.da.length 1000/\fk (aa (bI (fy x)) 0) (Q (.a .i64 10)) (Q (.a .i64 0))else Q (.a .i64 0)
def m8(x y:Da):Int:=Int.mul (bI (kZ x)) (bI (kZ y))
def tI8(all:Bool)(x:It)(Q:AV->Prop):Prop:=rk x.f/\fk (not (aa (xC x.f) 0)) (rk x.f/\Q (.a .i64 (xC x.f))) (bif x.r then rk x.t=true/\fk (not (aa (xC x.t) 0)) (rk x.t/\Q (.a .i64 (xC x.t))) (dF x.f/\dF x.t/\af .i64 (m8 x.f x.t)/\vZ 6 6 (not (aa (m8 x.f x.t) 0)) (aa (m8 x.f x.t) 0=false/\fk (not (aa (dq x.f.mo x.f.da) (dq x.t.mo x.t.da))) (Q (.a .i64 10)) (gN x.f/\gN x.t/\fk (not (ab (jc x.f) (jc x.t))) (Q (.a .i64 10)) (tX8 all x.f Q))) (aa (m8 x.f x.t) 0/\Q (.a .i64 10)))else fk (not (Ul x.t)) (Q (.a .i64 5)) (tX8 all x.f Q))
theorem bI8(x y:Da){Q:AV->Prop}:∀all r:Bool,∃D,gG Q (pT T8g jE 110 [.h (x.cs++.b r::y.cs),.b all]) D=tI8 all ⟨x,r,y⟩ Q
 | false,false=>⟨bE 155140056661200642006,by kernel_rfl⟩
 | false,true=>⟨bE 10288100514200620061432020622020624220062006612006400200561200642006,by kernel_rfl⟩
 | true,false=>⟨bE 11400700056140056661200642006,by kernel_rfl⟩
 | true,true=>⟨bE 1028811400705614200620061432020622020624220062006612006400200561200642006,by kernel_rfl⟩
def sI8:dP:=sIK λx k=>match k with
 | .b all=>aH [Va x] (.a0 (.a .i64 (UO all x)))
 | _=>.c0
theorem Z_(hS:ak Tryz.prog cfg S):ak Tryz.prog cfg (d5 S 110 sI8):=au hS λargs t v he hv=>by
 obtain⟨x,k,rfl,rfl⟩:=Xf he;split at hv
 . rename_i all;obtain⟨⟨h,-⟩,hv⟩:=aF hv;cases hv;unfold Va at h;rw[zAa]at h;obtain⟨g1,g2⟩:=h;refine kA Yu (L:=jE) YR (by simp) ai (eD λQ' hQ=>?_) (by rfl);obtain⟨D,hD⟩:=@bI8 x.f x.t Q' all x.r;refine cg (hD.mpr ?_);have hQ:=hQ _ rfl;have hX:dF x.f->Q' (.a .i64 (bif all&&not (fy x.f)then 10 else 0))->tX8 all x.f Q':=λv hq=>by
    obtain⟨b1,b2,b3⟩:=aej v;unfold tX8;cases all
    . exact hq
    . refine⟨b1,b2,b3,λhn=>?_,λhn=>?_⟩<;>cases he:fy x.f<;>rw[he]at hq hn<;>first|exact hq|cases hn
   unfold UO at hQ;refine⟨g1,λe=>⟨g1,?_⟩,λe=>?_⟩<;>rw[e]at hQ
   . exact hQ
   . rw[ν,ao]at e;have v1:=x9 g1 e;dsimp only;cases hr:x.r<;>rw[hr]at hQ
     . refine⟨λe=>?_,λe=>hX v1 ?_⟩
       . rw[ξ]at e;rw[e]at hQ;exact hQ
       . rw[ν]at e;rw[e]at hQ;exact hQ
     . refine⟨g2,λe=>⟨g2,?_⟩,λe=>?_⟩<;>rw[e]at hQ
       . exact hQ
       . rw[ν,ao]at e;have v2:=x9 g2 e;have eo:Zl x.f x.t=(kZ x.f&&(kZ x.t&&(aa (dq x.f.mo x.f.da) (dq x.t.mo x.t.da)&&ab (jc x.f) (jc x.t)))):=rfl;have e1:kZ x.f->gN x.f=true:=λh=>qd v1 (qc.1 h).1;have e2:kZ x.t->gN x.t=true:=λh=>qd v2 (qc.1 h).1;rw[eo]at hQ;refine⟨v1,v2,?_,?_⟩
         . unfold m8;cases kZ x.f<;>cases kZ x.t<;>rfl
         . unfold m8;cases hp:kZ x.f<;>cases hq:kZ x.t<;>rw[hp,hq]at hQ
           . exact⟨nofun,λ_=>⟨rfl,rfl,rfl,rfl,rfl,rfl,rfl,hQ⟩⟩
           . exact⟨nofun,λ_=>⟨rfl,rfl,rfl,rfl,rfl,rfl,rfl,hQ⟩⟩
           . exact⟨nofun,λ_=>⟨rfl,rfl,rfl,rfl,rfl,rfl,rfl,hQ⟩⟩
           . refine⟨λ_=>⟨rfl,rfl,rfl,rfl,rfl,rfl,rfl,λf=>?_,λf=>⟨e1 hp,e2 hq,λf'=>?_,λf'=>hX v1 ?_⟩⟩,nofun⟩
             . rw[ξ]at f;rw[f]at hQ;exact hQ
             . rw[ν]at f;rw[ξ]at f';rw[f,f']at hQ;exact hQ
             . rw[ν]at f f';rw[f,f']at hQ;exact hQ
 . cases hv
def T8h:aQ:=d5 (d5 gZ 110 sI8) 111 xQ
theorem We:ak Tryz.prog cfg T8h:=ajQ (Z_ aW)
def tl8(il:Bool)(x:It)(R N:Prop):Prop:=vZ 2 3 (not x.r) (dF x.f/\not x.r/\il/\x.r=false/\il/\fk (aa (bI (kZ x.f)) 0) R N) (il/\x.r/\il/\R)
def tE8(iR:Bool):Bool->Bool->Bool->Bool->It->Prop->Prop->Prop
 | false,false,_,_,_,_,N=>N
 | false,true,_,il,x,R,N=>iR/\vZ 2 4 il (tl8 il x R N) N
 | true,false,i0,_,x,R,N=>fk i0 (i0/\not i0=false/\i0/\vZ 2 3 (not x.r) (dF x.f/\not x.r/\x.r=false/\fk (aa (bI (kZ x.f)) 0) R N) (x.r/\R)) (i0=false/\not i0/\i0=false/\N)
 | true,true,i0,il,x,R,N=>iR/\fk i0 (i0/\fk (not il) (not il/\not i0=false/\not il/\i0/\not il/\vZ 2 3 (not x.r) (dF x.f/\not x.r/\x.r=false/\not il/\il=false/\fk (aa (bI (kZ x.f)) 0) R N) (x.r/\not il/\il=false/\R)) (rp 4 (not il) false (il/\R))) (i0=false/\not i0/\i0=false/\vZ 2 4 il (tl8 il x R N) N)
theorem Zu{iR i0 il:Bool}{x:It}{R N:Prop}(hi:iR)(hv:dF x.f)(hR:VP ea la i0 il x->R)(hN:VP ea la i0 il x=false->N):tE8 iR ea la i0 il x R N:=by
 subst hi;cases hr:x.r<;>cases hp:kZ x.f<;>cases ea<;>cases la<;>cases i0<;>cases il<;>simp_all [tE8,tl8,VP,aaD,vZ,fk,rp,bI,aa]
def tR8(w:List AV)(k:Int)(n i:Nat)(ea la:Bool)(Rt:Int->Prop)(N E:Prop):Prop:=ba n i (aS i n/\nE (tg (wF w i)) (Va (jQ (wF w i))/\fk (not (aa (UO (aa k 4) (jQ (wF w i))) 0)) (Rt (UO (aa k 4) (jQ (wF w i)))) (tE8 (af .i64 (Int.sub (ο n) 1)) ea la (aa (ο i) 0) (aa (ο i) (Int.sub (ο n) 1)) (jQ (wF w i)) (Rt 10) N))) E
theorem rI8(w:List AV)(z1 z2:cD)(k:Int)(n i:Nat)(K1:fg)(J:Nat->Value){Q:VQ->Prop}:∀ea la:Bool,∃D,gG Q (rT T8h jE [.a w false none] 59 0 156 [1,2,3,7] [.g 15 0,.a .i64 0,.a .i64 0,iV i] J ⟨3,[z2,z1,ie k n K1 ea la],[]⟩) D=tR8 w k n i ea la (λe=>Q (.c,[.g 15 0,iV i,.a .i64 e,iV i],⟨4,[.a (dp [jQ (wF w i)]) true none,z2,z1,ie k n K1 ea la],[]⟩)) (nR i (Q (.a,[.g 15 0,.a .i64 0,.a .i64 0,iX i],⟨4,[.a (dp [jQ (wF w i)]) true none,z2,z1,ie k n K1 ea la],[]⟩))) (Q (.b 0,[.g 15 0,.a .i64 0,.a .i64 0,iV i],⟨3,[z2,z1,ie k n K1 ea la],[]⟩))
 | false,false=>⟨bE 1120566614200566277777770040,by kernel_rfl⟩
 | false,true=>⟨bE 1120030353310020228121402037020624202406200614200566277777770040,by kernel_rfl⟩
 | true,false=>⟨bE 112563020031520812140003022020624052030024000614200566277777770040,by kernel_rfl⟩
 | true,true=>⟨bE 11200303533100202281214020370206242024030200310235533031030220812143023022020624573242400200614200566277777770040,by kernel_rfl⟩
def v8g(L:List It)(k:Int)(ea la:Bool):dW:=λvs o=>match vs,o with
 | [.g 15 0,.a .i64 z,.a .i64 z',.a .i64 i],⟨3,[.a z2 true none,.a z1 true none,b],[]⟩=>s7 ⟨1,[b],[]⟩ λk1 m K1 ea1 la1=>aH [π L.length m,iw z2,iw z1,aa z 0,aa z' 0,aa i 0,aa k1 k,bQ ea1 ea,bQ la1 la] (.d0 (WU (td k ea la L) L.length) λb=>bif b then .a0 (.b 0,[.g 15 0,.a .i64 0,.a .i64 0,iV m],⟨3,[.a z2 true none,.a z1 true none,ie k m K1 ea la],[]⟩)else .a0 (.c,[.g 15 0,iV (fJ (td k ea la L) L.length 0),.a .i64 (td k ea la L (fJ (td k ea la L) L.length 0)),iV (fJ (td k ea la L) L.length 0)],⟨3,[.a z2 true none,.a z1 true none,ie k m K1 ea la],[]⟩))
 | _,_=>none
theorem Ww{i:Nat}:aa (ο i) (Int.sub (ο n) 1)=π (i+1) n:=Ve
theorem Yf{all:Bool}{x:It}(g:Va x)(h:UO all x=0):dF x.f=true:=by
 unfold Va at g;rw[zAa]at g;refine x9 g.1 ?_;unfold UO at h;cases hf:aa (xC x.f) 0 with
 | true=>exact ao.mp hf
 | false=>rw[hf]at h;exact h
theorem aeR(hn:L.length<=200)(hg:∀i,i<L.length->Va (L.getD i fP)):cu Tryz.prog (cH cfg T8h) (Cw cfg [.a (dp L) false none]) (lb 59 0) 156 [1,2,3,7] (v8g L k ea la):=by
 intro vs o t Q hv hq J;unfold v8g at hv;split at hv
 . rename_i z z' i z2 z1 b;obtain⟨k1,m,K1,ea1,la1,ho,rfl⟩:=aec hv;obtain rfl:b=ie k1 m K1 ea1 la1:=by injection ho with _ h;injection h
   replace hq:=cO hq;obtain⟨⟨h1,n2,n1,h3,h4,h6,h8,h9,h10,-⟩,hq⟩:=hq;rw[aJ]at h1;rw[ao]at h3 h4 h6 h8;replace h9:=yl h9;replace h10:=yl h10;subst h1 h3 h4 h6 h8 h9 h10;simp only[Tr.wp]at hq;refine ia We rfl rfl ai (ι:={i:Nat // i<=L.length/\∀j,j<i->td k1 ea1 la1 L j=0}) (λx=>[.g 15 0,.a .i64 0,.a .i64 0,iV x.1]) (λ_=>⟨3,[.a z2 true none,.a z1 true none,ie k1 L.length K1 ea1 la1],[]⟩) (λx=>L.length-x.1) 3 (λ_=>Nat.le_refl _) (λx J=>?_) (Nat.le_refl _) (λJ=>Wk.a0 ⟨⟨0,Nat.zero_le _,λj hj=>absurd hj (Nat.not_lt_zero j)⟩,J,rfl⟩) J;obtain⟨i,hi,hz⟩:=x;refine eD λQ' hQ=>?_;obtain⟨D,hD⟩:=@rI8 (dp L) (.a z1 true none) (.a z2 true none) k1 L.length i K1 J Q' ea1 la1;have base:∀{a:cD} {vs:List AV},(∀ρ,yw (kG 18 ρ 20) vs=some vs)->VW cfg (Cw cfg [.a (dp L) false none]) 3 156 [1,2,3,7] vs ⟨4,[a]++[.a z2 true none,.a z1 true none,ie k1 L.length K1 ea1 la1],[]⟩ vs ⟨3,[.a z2 true none,.a z1 true none,ie k1 L.length K1 ea1 la1],[]⟩:=λ{a vs} hv=>ad6 dT rfl rfl (λx hx=>by
    simp only[List.mem_cons,List.not_mem_nil,or_false]at hx;rcases hx with rfl|rfl|rfl
    . exact aO (gj.1 n2)
    . exact aO (gj.1 n1)
    . exact abX (by show 14<18;decide)) (hv [])
   have ir:af .i64 (Int.sub (ο L.length) 1)=true:=by rw[aE];simp only[eH,eE];show _<=(L.length:Int)-1/\(L.length:Int)-1<=_;omega
   refine cg (hD.mpr (abi hi (λhl=>?_) λh=>?_))
   . obtain⟨a1,a2⟩:=afB hl;rw[a2,Ww,X6];have g:=hg i hl;have ret:∀e,td k1 ea1 la1 L i=e->e≠0->Q' (.c,[.g 15 0,iV i,.a .i64 e,iV i],⟨4,[.a (dp [L.getD i fP]) true none,.a z2 true none,.a z1 true none,ie k1 L.length K1 ea1 la1],[]⟩):=λe he h0=>hQ _ ⟨_,_,base λ_=>rfl,by
      obtain⟨f1,f2⟩:=aa6 hl (by rw[he];exact h0) hz;rw[f1,f2,he]at hq;exact hq⟩
     refine⟨aU.2 hl,mz ⟨g,⟨λh=>?_,λh=>?_⟩⟩ a1⟩
     . refine ret _ ?_ ?_
       . unfold td;rw[h];rfl
       . simpa [aw]using h
     . have h':=h;rw[ν,ao]at h';refine Zu ir (Yf g h') (λhb=>ret 10 ?_ (by decide)) λhb=>⟨by rw[aE];simp only[eH,eE];show _<=(i:Int)+1/\(i:Int)+1<=_;omega,hQ _ ⟨⟨i+1,hl,λj hj=>?_⟩,by dsimp only;omega,base λ_=>rfl⟩⟩
       . unfold td;rw[h,hb];rfl
       . by_cases hji:j=i
         . subst hji;unfold td;rw[h,hb];rfl
         . exact hz j (by omega)
   . subst h;rw[aa7 hz]at hq;exact hQ _ ⟨_,_,VW.a0,hq⟩
 . cases hv
def iT(z:Bool)(L:List It)(c:Nat):AV:=bif z then .c 14 0 L.length (.b c)else .f
def i7(z:Bool)(L:List It):List cD:=bif z then[.a (dp L) false none]else[]
theorem iL:∀x∈i7 z L,cR 14 x:=by
 cases z
 . exact λx hx=>by cases hx
 . exact dT
def UD(k:Int)(x:Da):Bool:=aa k 0&&(Ul x&&true)
def Vd(k:Int)(d:Da)(k1:Int)(x:Da)(k2:Int)(y:Da)(ea la:Bool)(n:Nat):Bool:=not (((aa k 1 || Ul d)&&(aa k 2 || (UD k1 x&&UD k2 y)))&&(aa k 3 || aa k 4 || (π n 0&&!ea&&!la)))
def ZI(A:Bool)(st:Bool)(Q:Bool->Prop):Prop:=vZ 1 1 (not (not A)) (not A=false/\Q (not st)) (not A/\Q true)
def tU3(A X Y:Bool)(Q:Bool->Prop):Prop:=vZ 4 4 X (vZ 1 1 (not (not A)) (not A=false/\ZI Y true Q) (not A/\Q true)) (ZI A false Q)
theorem Xw{A st:Bool}{Q:Bool->Prop}(h:Q (not (A&&st))):ZI A st Q:=by
 cases A<;>simp_all [ZI,vZ,fk,rp]
theorem ZQ{A X Y:Bool}{Q:Bool->Prop}(h:Q (not (A&&(X&&Y)))):tU3 A X Y Q:=by
 cases A<;>cases X<;>cases Y<;>simp_all [tU3,ZI,vZ,fk,rp]
section
variable(d x y:Da)(k1 k2:Int)(c:Nat){Q:AV->Prop}
theorem bU1:∀(z:Bool) (L:List It) (ea la:Bool),(z=false->L=[])->∃D,gG Q (pW gZ jE (i7 z L) 132 [.h (aaa 1 d k1 x k2 y (iT z L c) ea la)]) D=vZ 4 4 (UD k1 x) (ZI (UD k2 y) (π L.length 0&&!ea&&!la) λb=>Q (.b b)) (Q (.b true))
 | false,[],false,_,_=>⟨bE 100566630812313240006662022006240566,by kernel_rfl⟩
 | false,[],true,_,_=>⟨bE 1056663081231324006662022006240566,by kernel_rfl⟩
 | true,[],false,_,_=>⟨bE 100566630812313240006662022006240566,by kernel_rfl⟩
 | true,[],true,_,_=>⟨bE 1056663081231324006662022006240566,by kernel_rfl⟩
 | true,_::_,_,_,_=>⟨bE 15666308123132406662022006240566,by kernel_rfl⟩
 | false,_::_,_,_,h=>nomatch h rfl
theorem bU2:∀(z:Bool) (L:List It) (ea la:Bool),(z=false->L=[])->∃D,gG Q (pW gZ jE (i7 z L) 132 [.h (aaa 2 d k1 x k2 y (iT z L c) ea la)]) D=ZI (Ul d) (π L.length 0&&!ea&&!la) λb=>Q (.b b)
 | false,[],false,_,_=>⟨bE 1000231000324666666,by kernel_rfl⟩
 | false,[],true,_,_=>⟨bE 10002310003245566666,by kernel_rfl⟩
 | true,[],false,_,_=>⟨bE 1000231000324666666,by kernel_rfl⟩
 | true,[],true,_,_=>⟨bE 10002310003245566666,by kernel_rfl⟩
 | true,_::_,_,_,_=>⟨bE 1000231000324000566666,by kernel_rfl⟩
 | false,_::_,_,_,h=>nomatch h rfl
theorem bU3(L:List It)(ea la:Bool):∀z all:Bool,∃D,gG Q (pW gZ jE (i7 z L) 132 [.h (aaa (bif all then 4 else 3) d k1 x k2 y (iT z L c) ea la)]) D=tU3 (Ul d) (UD k1 x) (UD k2 y) λb=>Q (.b b)
 | false,false=>⟨bE 100023100032400066308100023123132432400066202200624005666,by kernel_rfl⟩
 | true,false=>⟨bE 100023100032400066308100023123132432400066202200624005666,by kernel_rfl⟩
 | false,true=>⟨bE 10002310003245663081000231231324324566202200624005666,by kernel_rfl⟩
 | true,true=>⟨bE 10002310003245663081000231231324324566202200624005666,by kernel_rfl⟩
end
theorem Zb:ec tab 132=some (dH 132,aL 132):=by rfl
section
variable{k:Int}{d x y:Da}{k1 k2:Int}{ea la z:Bool}{L:List It}{c:Nat}(hz:z=false->L=[])
include hz
theorem fUn(hk:k=1\/k=2\/k=3\/k=4):bu Tryz.prog cfg 132 [.h (aaa k d k1 x k2 y (iT z L c) ea la)] (i7 z L) (.b (Vd k d k1 x k2 y ea la L.length)) []:=by
 refine P0 aW (L:=jE) iL Zb (by simp) ai (eD λQ' hQ=>?_) (by rfl);have hQ:=hQ _ rfl;have set:∀all:Bool,Q' (.b (Vd (bif all then 4 else 3) d k1 x k2 y ea la L.length))->(pW gZ jE (i7 z L) 132 [.h (aaa (bif all then 4 else 3) d k1 x k2 y (iT z L c) ea la)]).wp Q':=λall hq=>by
  obtain⟨D,hD⟩:=@bU3 d x y k1 k2 c Q' L ea la z all;refine cg (hD.mpr (ZQ ?_));unfold Vd at hq;cases all<;>cases hd:Ul d<;>cases hx:UD k1 x<;>cases hy:UD k2 y<;>rw[hd,hx,hy]at hq<;>exact hq
 rcases hk with rfl|rfl|rfl|rfl
 . obtain⟨D,hD⟩:=@bU1 d x y k1 k2 c Q' z L ea la hz;refine cg (hD.mpr ?_);unfold Vd at hQ;generalize (π L.length 0&&!ea&&!la)=st at *;cases hx:UD k1 x<;>rw[hx]at hQ
   . exact⟨nofun,λ_=>⟨rfl,rfl,rfl,rfl,hQ⟩⟩
   . refine⟨λ_=>⟨rfl,rfl,rfl,rfl,Xw ?_⟩,nofun⟩;cases hy:UD k2 y<;>rw[hy]at hQ<;>cases st<;>exact hQ
 . obtain⟨D,hD⟩:=@bU2 d x y k1 k2 c Q' z L ea la hz;refine cg (hD.mpr (Xw ?_));unfold Vd at hQ;generalize (π L.length 0&&!ea&&!la)=st at *;cases hd:Ul d<;>rw[hd]at hQ<;>cases st<;>exact hQ
 . exact set false hQ
 . exact set true hQ
end
abbrev x8(a e:Int):AV:=.d [.a .i64 a,.a .i64 e]
theorem tf(h:Ul x):x=gL:=by
 obtain⟨ng,lg,s,e,g,mo,da,a,b,c⟩:=x;unfold Ul dZ at h;simp only[zAa,ao,bV,beq_iff_eq]at h;obtain⟨⟨h1,h2,h3,h4,h5,-⟩,h6,h7,⟨h8,h9,h10,-⟩,-⟩:=h;replace h1:=yl h1;replace h2:=yl h2;subst h1 h2 h3 h4 h5 h6 h7 h8 h9 h10;rfl
theorem aax{o:aB}{d:Nat}{q:Aq}{k1:Int}{k2:Int}{z:Da}:nX 14 C o (d+2) (.h (aaa k x k1 y k2 z v ea la)) q=ob (nX 14 C o (d+1) v q) λr=>some (.h (aaa k x k1 y k2 z r.1 ea la),r.2):=by
 show ob (nC (nX 14 C o (d+1)) (aaa k x k1 y k2 z v ea la) q) (λp=>some (AV.h p.1,p.2))=_;have hi:∀k n q,nX 14 C o (d+1) (.a k n) q=some (.a k n,q):=λ_ _ _=>rfl;have hb:∀b q,nX 14 C o (d+1) (.b b) q=some (.b b,q):=λ_ _=>rfl;have hs:∀s q,nX 14 C o (d+1) (.e s) q=some (.e s,q):=λ_ _=>rfl;cases h:nX 14 C o (d+1) v q<;>simp only[aaa,nC,hi,hb,hs,h,ob]
theorem WH{c:Nat}{o:aB}{d:Da}{k1 k2:Int}(hg:z->get C o 14=.a (dp L) false none):nC (nX 14 C o 20) [.h (aaa k d k1 x k2 y (iT z L c) ea la)] ⟨bif z then[21]else[],[],true⟩=some ([.h (aaa k d k1 x k2 y (iT z L c) ea la)],⟨[],i7 z L,true⟩):=by
 cases z
 . rfl
 . simp only[iT,i7,cond_true,nC,aax,ac4 (hg rfl) lh lU,ob,List.length_nil,Nat.add_zero,List.nil_append,xe]
theorem Ud{c:Nat}{o:aB}{d:Da}{k1 k2:Int}(hg:z->get C o 14=.a (dp L) false none)(hv:∀ρ,kG 14 ρ 20 v=some v)(h:bu Tryz.prog cfg f [.h (aaa k d k1 x k2 y (iT z L c) ea la)] (i7 z L) v []):Ci Tryz.prog cfg f C [.h (aaa k d k1 x k2 y (iT z L c) ea la)] o (v,o):=by
 have:=abR (news':=[]) eb.lv Az (WH (c:=c) (k:=k) (d:=d) (x:=x) (y:=y) (k1:=k1) (k2:=k2) (ea:=ea) (la:=la) hg) rfl h (hv _) rfl λj hj=>absurd hj (Nat.not_lt_zero j);simpa using this
def oE(E:List AV):aB:=⟨1,[.a E true none],[]⟩
theorem TI{E:List AV}(h:z):get (Cw cfg (i7 z L)) (oE E) 14=.a (dp L) false none:=by
 subst h;rfl
def TUc(ok:qp)(u:Bool)(a e:Int):aQ:=eQ (eQ (d5 (d5 gZ 42 Yo) 133 sPg) 132 (vv ok 132 (λ_=>.b u) [])) 134 (vv ok 134 (λ_=>x8 a e) [])
def ZV(ok:qp)(f:Nat)(v:AV):aQ:=eQ gZ f (vv ok f (λ_=>v) [])
theorem Uo{v:Nat->AV}{news:List cD}:tD Tryz.prog cfg f (vv (okC Tryz.prog cfg) f v news):=by
 intro C args o t r ht hr;cases ht;obtain⟨h,hr⟩:=bG hr;cases hr;exact aa3.1 h
theorem YN{u:Bool}{a e:Int}:ak Tryz.prog cfg (TUc (okC Tryz.prog cfg) u a e):=bm (bm (aae (Wv aW)) Uo) Uo
theorem U9:ak Tryz.prog cfg (ZV (okC Tryz.prog cfg) f v):=bm aW Uo
def tFi(ok:qp)(C:bg)(E:List AV)(u:Bool)(a e k:Int)(d:Da)(k1:Int)(x:Da)(k2:Int)(y:Da)(z:Bool)(n:Nat)(Q:AV->Prop):Prop:=vZ 2 2 (not (not (ab 1 k))) (not (ab 1 k)=false/\fk (not (ab k 4)) (Q (x8 0 18)) (ok 132 C [.h E] (oE E) (.b u,oE E)/\bif u then Q (x8 0 5)else fk (aa k 1) (rk d/\Q (x8 0 (xC d))) (fk (aa k 2) (rk x/\rk y/\Q (x8 0 (Xz k1 x k2 y))) (bif z then fk (aa (ο n) 0) (Q (x8 0 17)) (fk (not (ab (ο n) 256)) (Q (x8 0 3)) (ok 134 C [.h E] (oE E) (x8 a e,oE E)/\Q (x8 a e)))else Q (x8 0 17))))) (not (ab 1 k)/\Q (x8 0 18))
section
variable(ok:qp)(k:Int)(d x y:Da)(k1 k2:Int)(ea la:Bool)(L:List It)(c:Nat){Q:AV->Prop}
theorem bFi(a e:Int):∀z u:Bool,∃D,gG Q (pW (TUc ok u a e) jE (i7 z L) 72 [.h (aaa k d k1 x k2 y (iT z L c) ea la)]) D=tFi ok (Cw cfg (i7 z L)) (aaa k d k1 x k2 y (iT z L c) ea la) u a e k d k1 x k2 y z L.length Q
 | false,true=>⟨bE 10233102666614320240,by kernel_rfl⟩
 | false,false=>⟨bE 10233100122056640120064002666614320240,by kernel_rfl⟩
 | true,true=>⟨bE 10233102666614320240,by kernel_rfl⟩
 | true,false=>⟨bE 10233126666140140122056640120064002666614320240,by kernel_rfl⟩
theorem bCk(a e:Int):∀z:Bool,∃D,gG Q (pW (ZV ok 72 (x8 a e)) jE (i7 z L) 25 [.h (aaa k d k1 x k2 y (iT z L c) ea la)]) D=(ok 72 (Cw cfg (i7 z L)) [.h (aaa k d k1 x k2 y (iT z L c) ea la)] (oE (aaa k d k1 x k2 y (iT z L c) ea la)) (x8 a e,oE (aaa k d k1 x k2 y (iT z L c) ea la))/\Q (.a .i64 e))
 | false=>⟨bE 126666,by kernel_rfl⟩
 | true=>⟨bE 126666,by kernel_rfl⟩
theorem bC8(a e:Int):∀z:Bool,∃D,gG Q (pW (ZV ok 59 (x8 a e)) jE (i7 z L) 14 [.h (aaa k d k1 x k2 y (iT z L c) ea la)]) D=(ok 59 (Cw cfg (i7 z L)) [.h (aaa k d k1 x k2 y (iT z L c) ea la)] (oE (aaa k d k1 x k2 y (iT z L c) ea la)) (x8 a e,oE (aaa k d k1 x k2 y (iT z L c) ea la))/\Q (.a .i64 e))
 | false=>⟨bE 126666,by kernel_rfl⟩
 | true=>⟨bE 126666,by kernel_rfl⟩
theorem bE7(e:Int):∀z:Bool,∃D,gG Q (pW (ZV ok 25 (.a .i64 e)) jE (i7 z L) 7 [.h (aaa k d k1 x k2 y (iT z L c) ea la)]) D=(ok 25 (Cw cfg (i7 z L)) [.h (aaa k d k1 x k2 y (iT z L c) ea la)] (oE (aaa k d k1 x k2 y (iT z L c) ea la)) (.a .i64 e,oE (aaa k d k1 x k2 y (iT z L c) ea la))/\not (aa e 0)/\Q (.d [.f,.a .i64 e]))
 | false=>⟨bE 1226666,by kernel_rfl⟩
 | true=>⟨bE 1226666,by kernel_rfl⟩
theorem bE8(e:Int):∀z:Bool,∃D,gG Q (pW (ZV ok 14 (.a .i64 e)) jE (i7 z L) 8 [.h (aaa k d k1 x k2 y (iT z L c) ea la)]) D=(ok 14 (Cw cfg (i7 z L)) [.h (aaa k d k1 x k2 y (iT z L c) ea la)] (oE (aaa k d k1 x k2 y (iT z L c) ea la)) (.a .i64 e,oE (aaa k d k1 x k2 y (iT z L c) ea la))/\not (ab e 0)/\ok 14 (Cw cfg (i7 z L)) [.h (aaa k d k1 x k2 y (iT z L c) ea la)] (oE (aaa k d k1 x k2 y (iT z L c) ea la)) (.a .i64 e,oE (aaa k d k1 x k2 y (iT z L c) ea la))/\Q (.d [.f,.a .i64 e]))
 | false=>⟨bE 126666226666,by kernel_rfl⟩
 | true=>⟨bE 126666226666,by kernel_rfl⟩
end
def kE(k:Int)(d:Da)(k1:Int)(x:Da)(k2:Int)(y:Da)(ea la:Bool)(L:List It):Int:=bif not (ab 1 k&&ab k 4)then 18 else bif Vd k d k1 x k2 y ea la L.length then 5 else bif aa k 1 then xC d else bif aa k 2 then Xz k1 x k2 y else bif π L.length 0 then 17 else Us k ea la L
def Tt(k:Int)(d:Da)(k1:Int)(x:Da)(k2:Int)(y:Da)(ea la:Bool)(L:List It):Int:=bif not (ab 1 k&&ab k 4)then 0 else bif Vd k d k1 x k2 y ea la L.length then 0 else bif aa k 1 then 0 else bif aa k 2 then 0 else bif π L.length 0 then 0 else Zp k ea la L
theorem X4:aa (ο n) 0=π n 0:=by grind [aJ,ao]
theorem ZR{d:Da}{k1 k2:Int}(h1:aa k 1=false)(h2:aa k 2=false)(h:Vd k d k1 x k2 y ea la n=false):d=gL/\k1=0/\x=gL/\k2=0/\y=gL:=by
 unfold Vd UD at h;rw[h1,h2]at h;simp only[Bool.false_or,ν,zAa,ao,and_true]at h;obtain⟨⟨a,⟨b,c⟩,e,f⟩,-⟩:=h;exact⟨tf a,b,tf c,e,tf f⟩
theorem Y4:ec tab 72=some (dH 72,aL 72):=by rfl
def ZT(L:List It):Prop:=∀i,i<L.length->Va (L.getD i fP)=true
section
variable{k:Int}{d x y:Da}{k1 k2:Int}{ea la z:Bool}{L:List It}{c:Nat}(hz:z=false->L=[])(hd:rk d)(hx:rk x)(hy:rk y)(hn:L.length<=200)(hg:ZT L)
include hz hd hx hy hn hg
theorem fFi:bu Tryz.prog cfg 72 [.h (aaa k d k1 x k2 y (iT z L c) ea la)] (i7 z L) (x8 (Tt k d k1 x k2 y ea la L) (kE k d k1 x k2 y ea la L)) []:=by
 refine P0 (YN (u:=Vd k d k1 x k2 y ea la L.length) (a:=Zp k ea la L) (e:=Us k ea la L)) (L:=jE) iL Y4 (by simp) ai (eD λQ' hQ=>?_) (by rfl);have hQ:=hQ _ rfl;obtain⟨D,hD⟩:=@bFi (okC Tryz.prog cfg) k d x y k1 k2 ea la L c Q' (Zp k ea la L) (Us k ea la L) z (Vd k d k1 x k2 y ea la L.length);refine cg (hD.mpr ?_);unfold Tt kE at hQ;refine⟨λe=>⟨e,e,?_⟩,λe=>⟨e,e,?_⟩⟩
 . rw[ξ,ν]at e;refine⟨by rw[e];rfl,λf=>?_,λf=>?_⟩
   . rw[ξ]at f;rw[e,f]at hQ;exact hQ
   . rw[ν]at f;rw[e,f]at hQ;have hk:k=1\/k=2\/k=3\/k=4:=by rw[aq]at e f;omega
     refine⟨aa3.2 (Ud TI (λ_=>rfl) (fUn hz hk)),?_⟩;cases hu:Vd k d k1 x k2 y ea la L.length<;>rw[hu]at hQ
     . refine⟨λh1=>⟨hd,by rw[h1]at hQ;exact hQ⟩,λh1=>⟨λh2=>⟨hx,hy,by rw[h1,h2]at hQ;exact hQ⟩,λh2=>?_⟩⟩;rw[h1,h2]at hQ;cases z
       . obtain rfl:=hz rfl;exact hQ
       . refine⟨λh0=>?_,λh0=>?_⟩<;>rw[X4]at h0<;>rw[h0]at hQ
         . exact hQ
         . refine⟨λh3=>?_,λ_=>⟨?_,hQ⟩⟩
           . rw[ξ,bF]at h3;simp only[Int.ofNat_eq_natCast]at h3;omega
           . obtain⟨rfl,rfl,rfl,rfl,rfl⟩:=ZR h1 h2 hu;refine aa3.2 (Ud (z:=true) TI (λ_=>rfl) ?_);refine fIg ?_ hn hg;rw[aw]at h1 h2;rw[Bool.or_eq_true,ao,ao];omega
     . exact hQ
 . rw[ν]at e;rw[ξ]at e;refine⟨by rw[e];rfl,?_⟩;rw[e]at hQ;exact hQ
theorem fCk:bu Tryz.prog cfg 25 [.h (aaa k d k1 x k2 y (iT z L c) ea la)] (i7 z L) (.a .i64 (kE k d k1 x k2 y ea la L)) []:=by
 refine P0 (U9 (f:=72) (v:=x8 (Tt k d k1 x k2 y ea la L) (kE k d k1 x k2 y ea la L))) (L:=jE) iL YY (by simp) ai (eD λQ' hQ=>?_) (by rfl);obtain⟨D,hD⟩:=@bCk (okC Tryz.prog cfg) k d x y k1 k2 ea la L c Q' (Tt k d k1 x k2 y ea la L) (kE k d k1 x k2 y ea la L) z;exact cg (hD.mpr ⟨aa3.2 (Ud TI (λ_=>rfl) (fFi hz hd hx hy hn hg)),hQ _ rfl⟩)
theorem fE7(h0:kE k d k1 x k2 y ea la L≠0):bu Tryz.prog cfg 7 [.h (aaa k d k1 x k2 y (iT z L c) ea la)] (i7 z L) (.d [.f,.a .i64 (kE k d k1 x k2 y ea la L)]) []:=by
 refine P0 (U9 (f:=25) (v:=.a .i64 (kE k d k1 x k2 y ea la L))) (L:=jE) iL abc (by simp) ai (eD λQ' hQ=>?_) (by rfl);obtain⟨D,hD⟩:=@bE7 (okC Tryz.prog cfg) k d x y k1 k2 ea la L c Q' (kE k d k1 x k2 y ea la L) z;exact cg (hD.mpr ⟨aa3.2 (Ud TI (λ_=>rfl) (fCk hz hd hx hy hn hg)),by rw[aw.mpr h0];rfl,hQ _ rfl⟩)
end
end Go.Ev
