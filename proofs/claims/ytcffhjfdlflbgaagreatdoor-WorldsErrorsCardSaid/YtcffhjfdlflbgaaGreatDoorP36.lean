import Derived.Test.YtcffhjfdlflbgaaGreatDoorP35
set_option linter.all false
open Bool renaming not_eq_false'->ν,not_eq_true'->ξ
open Int renaming ofNat->ο
open Nat renaming beq->π
set_option linter.all false
set_option maxRecDepth 100000
set_option maxHeartbeats 4000000
namespace Go.Ev
open Go Go.Proofs
variable{k:Int}{ea la z:Bool}{L:List It}{S:aQ}{x y:Da}{n f:Nat}{C:bg}{v:AV}
def LIg(L:List It)(k:Int)(ea la:Bool):cx:=iz jE 0 (d9 39 [1,2,3,4,13,14,15] (vIg L k ea la))
def ats(w:List AV)(L:List It)(k:Int)(ea la:Bool)(n:Nat)(K:fg){Q:AV->Prop}:gG Q (pW TJg (LIg L k ea la) [.a w false none] 134 [.g (fS k (.c 14 0 n K) ea la)]) (bE 114270200220020)=(af .i64 (Int.sub (ο n) 1)/\π L.length n/\π n n/\aa (ο n) (ο n)/\aa (Int.sub (ο n) 1) (ο n-1)/\aa k k/\bQ ea ea/\bQ la la/\fk (fBz (Un k ea la L) L.length) (∀J1:Nat->Value,Q (.d [.a .i64 0,.a .i64 0])) (∀J1:Nat->Value,Q (.d [iV (fJ (Un k ea la L) L.length 0),.a .i64 (Un k ea la L (fJ (Un k ea la L) L.length 0))]))):=ε
theorem bEq{b:Bool}:bQ b b=true:=by cases b<;>rfl
theorem fIg{K:fg}(hk:(aa k 3 || aa k 4))(hn:L.length<=200)(hg:∀i,i<L.length->Z_ (L.getD i fP)):bu Tryz.prog cfg 134 [.g (fS k (.c 14 0 L.length K) ea la)] [.a (dp L) false none] (.d [.a .i64 (stJ k ea la L),.a .i64 (Ym k ea la L)]) []:=by
 refine P0 ack (L:=LIg L k ea la) i7 alw θ (dv aiO λi hi e he st Q hw=>?_) (bb λQ' hQ=>cg ((ats (dp L) L k ea la L.length K).mpr ?_)) κ
 . have hi:i=0:=η
   subst hi;cases he;exact bR (cC.a0 ack) ζ rfl (atP hk hn hg) hw
 . have hQ:=hQ _ rfl;unfold stJ Ym at hQ;refine⟨by rw[aE];simp only[eH,eE];show _<=(L.length:Int)-1/\(L.length:Int)-1<=_;omega,aJ.mpr rfl,aJ.mpr rfl,aa0 _,aa0 _,aa0 _,bEq,bEq,λh _=>?_,λh _=>?_⟩<;>rw[h]at hQ<;>exact hQ
def sBd(F:Int->Da->Tr AV):dP:=λ
 | [.g [.a .u8 k,.b ng,.b lg,.e s,.a .i64 e,.a .i64 g,.e mo,.e da,.a .u8 a,.a .u8 b,.a .u8 c]]=>some (F k ⟨ng,lg,s,e,g,mo,da,a,b,c⟩)
 | _=>none
def sBB(F:Int->Da->Int->Da->Tr AV):dP:=λ
 | [.g [.a .u8 k,.b ng,.b lg,.e s,.a .i64 e,.a .i64 g,.e mo,.e da,.a .u8 a,.a .u8 b,.a .u8 c],.g [.a .u8 l,.b ng',.b lg',.e s',.a .i64 e',.a .i64 g',.e mo',.e da',.a .u8 a',.a .u8 b',.a .u8 c']]=>some (F k ⟨ng,lg,s,e,g,mo,da,a,b,c⟩ l ⟨ng',lg',s',e',g',mo',da',a',b',c'⟩)
 | _=>none
theorem amJ{F:Int->Da->Tr AV}{args:List AV}{t:Tr AV}(h:sBd F args=some t):∃(k:Int) (x:Da),args=[.g (WH k x)]/\F k x=t:=by
 unfold sBd at h;split at h
 . exact⟨_,⟨_,_,_,_,_,_,_,_,_,_⟩,rfl,Option.some.inj h⟩
 . cases h
theorem amw{F:Int->Da->Int->Da->Tr AV}{args:List AV}{t:Tr AV}(h:sBB F args=some t):∃(k:Int) (x:Da) (l:Int) (y:Da),args=[.g (WH k x),.g (WH l y)]/\F k x l y=t:=by
 unfold sBB at h;split at h
 . exact⟨_,⟨_,_,_,_,_,_,_,_,_,_⟩,_,⟨_,_,_,_,_,_,_,_,_,_⟩,rfl,Option.some.inj h⟩
 . cases h
def Yf(k:Int)(x:Da):Int:=bif aa k 1 then(bif aa (UI x) 0 then(bif fy x then 0 else 11)else UI x)else bif aa k 2 || aa k 3 then(bif XY x then 0 else 5)else 18
def prE(k:Int)(x:Da)(l:Int)(y:Da):Int:=bif not (aa (Yf k x) 0)then Yf k x else bif not (aa (Yf l y) 0)then Yf l y else jM k x l y
def sBc:dP:=sBd λk x=>aH [rM x] (.a0 (.a .i64 (Yf k x)))
def sPg:dP:=sBB λk x l y=>aH [rM x,rM y] (.a0 (.a .i64 (prE k x l y)))
def TBk:aQ:=aK (aK gZ 42 sGc) 257 tz
def arD:aQ:=pX (aK (aK gZ 204 sBc) 205 xY) 92 FB
def TB8:aQ:=aK (aK gZ 46 sGc) 126 ag_
def TP9:aQ:=aK (aK gZ 69 sBc) 70 ahu
def tBz(k:Int)(x:Da)(Q:AV->Prop)(X:Prop):Prop:=fk (aa k 1) X (fk (aa k 2) (aa k 2/\fk (not (XY x)) (Q (.a .i64 5)) (Q (.a .i64 0))) (fk (aa k 3) (fk (not (XY x)) (Q (.a .i64 5)) (Q (.a .i64 0))) (Q (.a .i64 18))))
section
variable(k l:Int)(x y:Da){Q:AV->Prop}
def bBc:gG Q (pT TBk jE 204 [.g (WH k x)]) (bE 11140641140624114200614200640)=tBz k x Q (rM x/\fk (not (aa (UI x) 0)) (Q (.a .i64 (UI x))) (dF x/\fk (not (fy x)) (Q (.a .i64 11)) (Q (.a .i64 0)))):=ε
def atx:gG Q (pT arD jE 133 [.g (WH k x),.g (WH l y)]) (bE 1140520006200614320220081028014220240001420666142566666)=(rM x/\fk (not (aa (Yf k x) 0)) (Q (.a .i64 (Yf k x))) (rM y/\fk (not (aa (Yf l y) 0)) (Q (.a .i64 (Yf l y))) (vZ 3 3 (not (aa k 1)) (fk (not (aa l 1)) (Q (.a .i64 11)) (rp 3 (not (not (aa k 1))) false (not (aa k 1)/\Q (.a .i64 0)))) (rp 3 (not (not (aa k 1))) true (not (aa k 1)=false/\fk (not (aa l 1)) (Q (.a .i64 0)) (gN x/\gN y/\fk (not (ab (gc 0 (jc x) 0 (iQ y)) 0)) (Q (.a .i64 11)) (Q (.a .i64 0)))))))):=ε
def bB8:gG Q (pT TB8 jE 69 [.g (WH k x)]) (bE 1114006641140066241038114227020624200640)=tBz k x Q (rM x/\vZ 2 4 (aa (UI x) 0) (Nat.ble x.s.length 1000/\Nat.ble x.mo.length 1000/\Nat.ble x.da.length 1000/\rp 2 (aa (UI x) 0) true (fk (aa (bI (fy x)) 0) (Q (.a .i64 11)) (Q (.a .i64 (UI x))))) (Q (.a .i64 (UI x)))):=ε
def bP9:gG Q (pT TP9 jE 21 [.g (WH k x),.g (WH l y)]) (bE 1114200620064220220081038014220240120006420006120006420006)=(rM x/\fk (not (aa (Yf k x) 0)) (rM x/\Q (.a .i64 (Yf k x))) (rM y/\fk (not (aa (Yf l y) 0)) (rM y/\Q (.a .i64 (Yf l y))) (vZ 3 3 (not (aa k 1)) (fk (not (aa l 1)) (Q (.a .i64 11)) (rp 4 (aa k 1) false (Q (.a .i64 0)))) (rp 4 (aa k 1) true (fk (aa l 1) (gN x/\gN y/\fk (not (ab (jc x) (iQ y))) (Q (.a .i64 11)) (Q (.a .i64 0))) (Q (.a .i64 0))))))):=ε
end
theorem ap_:aY tab 204=some (dH 204,aL 204):=κ
theorem aqg:aY tab 133=some (dH 133,aL 133):=κ
theorem aiJ(hS:ak Tryz.prog cfg S):ak Tryz.prog cfg (aK S 46 sGc):=au hS λargs t v he hv=>by
 obtain⟨x,rfl,rfl⟩:=ao9 he;obtain⟨⟨h,-⟩,hv⟩:=aF hv;cases hv;unfold rM at h;simp only[zAa]at h;exact IR (al.mp h.1) (aE.mp h.2.2.2.1)
theorem apu:ak Tryz.prog cfg TBk:=ame (ai0 aW)
theorem apr:ak Tryz.prog cfg TB8:=afa (aiJ aW)
theorem Zo(g:rM x)(h:Yf k x=0)(hk:aa k 1):dF x/\fy x/\gN x=true:=by
 unfold Yf at h;rw[hk,cond_true]at h;cases he:aa (UI x) 0<;>rw[he]at h
 . rw[aw]at he;exact absurd h he
 . have v:=Vd g (ao.mp he);cases hn:fy x<;>rw[hn]at h
   . cases h
   . exact⟨v,rfl,qd v hn⟩
theorem am6{Q:AV->Prop}{X:Prop}(hQ:Q (.a .i64 (Yf k x)))(hX:Q (.a .i64 (bif aa (UI x) 0 then(bif fy x then 0 else 11)else UI x))->X):tBz k x Q X:=by
 unfold Yf at hQ;have z:Q (.a .i64 (bif XY x then 0 else 5))->fk (not (XY x)) (Q (.a .i64 5)) (Q (.a .i64 0)):=λh=>by
  cases hd:XY x<;>rw[hd]at h
  . exact⟨λ_=>h,nofun⟩
  . exact⟨nofun,λ_=>h⟩
 refine⟨λh=>hX ?_,λh=>⟨λh2=>⟨h2,z ?_⟩,λh2=>⟨λh3=>z ?_,λh3=>?_⟩⟩⟩
 . rw[h]at hQ;exact hQ
 . rw[h,h2]at hQ;exact hQ
 . rw[h,h2,h3]at hQ;exact hQ
 . rw[h,h2,h3]at hQ;exact hQ
theorem arF(hS:ak Tryz.prog cfg S):ak Tryz.prog cfg (aK S 204 sBc):=au hS λargs t v he hv=>by
 obtain⟨k,x,rfl,rfl⟩:=amJ he;obtain⟨⟨h,-⟩,hv⟩:=aF hv;cases hv;refine kA apu (L:=jE) ap_ θ ai (bb λQ' hQ=>cg ((bBc k x).mpr (am6 (hQ _ rfl) λhq=>⟨h,λe=>?_,λe=>?_⟩))) κ
 . rw[ξ]at e;rw[e]at hq;exact hq
 . rw[ν]at e;rw[e]at hq;refine⟨Vd h (ao.mp e),λn=>?_,λn=>?_⟩
   . rw[ξ]at n;rw[n]at hq;exact hq
   . rw[ν]at n;rw[n]at hq;exact hq
theorem arE(hS:ak Tryz.prog cfg S):ak Tryz.prog cfg (aK S 69 sBc):=au hS λargs t v he hv=>by
 obtain⟨k,x,rfl,rfl⟩:=amJ he;obtain⟨⟨h,-⟩,hv⟩:=aF hv;cases hv;refine kA apr (L:=jE) afQ θ ai (bb λQ' hQ=>cg ((bB8 k x).mpr (am6 (hQ _ rfl) λhq=>⟨h,λe=>?_,λe=>?_⟩))) κ
 . rw[e]at hq;obtain⟨b1,b2,b3⟩:=aej (Vd h (ao.mp e));refine⟨e,e,b1,b2,b3,e,e,λn=>?_,λn=>?_⟩
   . cases hn:fy x<;>rw[hn]at hq n
     . exact hq
     . cases n
   . cases hn:fy x<;>rw[hn]at hq n
     . cases n
     . rw[ao.mp e];exact hq
 . rw[e]at hq;exact⟨e,e,e,e,hq⟩
theorem an0:ak Tryz.prog cfg arD:=eG (ajG (arF aW)) NE
theorem apN:ak Tryz.prog cfg TP9:=afd (arE aW)
theorem arL(hS:ak Tryz.prog cfg S):ak Tryz.prog cfg (aK S 133 sPg):=au hS λargs t v he hv=>by
 obtain⟨k,x,l,y,rfl,rfl⟩:=amw he;obtain⟨⟨h1,h2,-⟩,hv⟩:=aF hv;cases hv;refine kA an0 (L:=jE) aqg θ ai (bb λQ' hQ=>cg ((atx k l x y).mpr ?_)) κ;have hQ:=hQ _ rfl;unfold prE at hQ;refine⟨h1,λe=>by rw[e]at hQ;exact hQ,λe=>⟨h2,λf=>by rw[e,f]at hQ;exact hQ,λf=>?_⟩⟩;rw[e,f]at hQ;rw[ν,ao]at e f;have c:ab (gc 0 (jc x) 0 (iQ y)) 0=ab (jc x) (iQ y):=by
  have:=xF 0 (jc x) 0 (iQ y);rw[Bool.eq_iff_iff,aq,aq];omega
 have a:=Zo h1 e;have b:=Zo h2 f;rw[c];unfold jM at hQ;cases hk:aa k 1<;>cases hl:aa l 1<;>rw[hk,hl]at hQ<;>simp only[vZ,fk,rp,Bool.not_true,Bool.not_false,true_and,and_true,true_imp_iff,reduceCtorEq,false_imp_iff]<;>first|exact hQ|skip
 refine⟨(a hk).2.2,(b hl).2.2,λq=>?_,λq=>?_⟩
 . rw[ξ]at q;rw[q]at hQ;exact hQ
 . rw[ν]at q;rw[q]at hQ;exact hQ
theorem arK(hS:ak Tryz.prog cfg S):ak Tryz.prog cfg (aK S 21 sPg):=au hS λargs t v he hv=>by
 obtain⟨k,x,l,y,rfl,rfl⟩:=amw he;obtain⟨⟨h1,h2,-⟩,hv⟩:=aF hv;cases hv;refine kA apN (L:=jE) aiW θ ai (bb λQ' hQ=>cg ((bP9 k l x y).mpr ?_)) κ;have hQ:=hQ _ rfl;unfold prE at hQ;refine⟨h1,λe=>⟨h1,by rw[e]at hQ;exact hQ⟩,λe=>⟨h2,λf=>⟨h2,by rw[e,f]at hQ;exact hQ⟩,λf=>?_⟩⟩;rw[e,f]at hQ;rw[ν,ao]at e f;have a:=Zo h1 e;have b:=Zo h2 f;unfold jM at hQ;cases hk:aa k 1<;>cases hl:aa l 1<;>rw[hk,hl]at hQ<;>simp only[vZ,fk,rp,Bool.not_true,Bool.not_false,true_and,and_true,true_imp_iff,reduceCtorEq,false_imp_iff]<;>first|exact hQ|skip
 refine⟨(a hk).2.2,(b hl).2.2,λq=>?_,λq=>?_⟩
 . rw[ξ]at q;rw[q]at hQ;exact hQ
 . rw[ν]at q;rw[q]at hQ;exact hQ
def T8g:aQ:=aK (aK (aK (aK (aK gZ 46 sGc) 111 xQ) 68 YA) 70 ahu) 126 ag_
theorem apm:ak Tryz.prog cfg T8g:=afa (afd (bm (ajQ (aiJ aW)) (MW 68 _ rfl)))
def tX8(all:Bool)(x:Da)(Q:AV->Prop):Prop:=bif all then Nat.ble x.s.length 1000=true/\Nat.ble x.mo.length 1000/\Nat.ble x.da.length 1000/\fk (aa (bI (fy x)) 0) (Q (.a .i64 10)) (Q (.a .i64 0))else Q (.a .i64 0)
def m8(x y:Da):Int:=Int.mul (bI (kZ x)) (bI (kZ y))
def tI8(all:Bool)(x:It)(Q:AV->Prop):Prop:=rM x.f/\fk (not (aa (UI x.f) 0)) (rM x.f/\Q (.a .i64 (UI x.f))) (bif x.r then rM x.t=true/\fk (not (aa (UI x.t) 0)) (rM x.t/\Q (.a .i64 (UI x.t))) (dF x.f/\dF x.t/\af .i64 (m8 x.f x.t)/\vZ 6 6 (not (aa (m8 x.f x.t) 0)) (aa (m8 x.f x.t) 0=false/\fk (not (aa (dq x.f.mo x.f.da) (dq x.t.mo x.t.da))) (Q (.a .i64 10)) (gN x.f/\gN x.t/\fk (not (ab (jc x.f) (jc x.t))) (Q (.a .i64 10)) (tX8 all x.f Q))) (aa (m8 x.f x.t) 0/\Q (.a .i64 10)))else fk (not (XY x.t)) (Q (.a .i64 5)) (tX8 all x.f Q))
theorem bI8(x y:Da){Q:AV->Prop}:∀all r:Bool,∃D,gG Q (pT T8g jE 110 [.g (x.cs++.b r::y.cs),.b all]) D=tI8 all ⟨x,r,y⟩ Q
 | false,false=>⟨bE 155140056661200642006,by kernel_rfl⟩
 | false,true=>⟨bE 10288100514200620061432020622020624220062006612006400200561200642006,by kernel_rfl⟩
 | true,false=>⟨bE 11400700056140056661200642006,by kernel_rfl⟩
 | true,true=>⟨bE 1028811400705614200620061432020622020624220062006612006400200561200642006,by kernel_rfl⟩
def sI8:dP:=sIK λx k=>match k with
 | .b all=>aH [Z_ x] (.a0 (.a .i64 (Zl all x)))
 | _=>.c0
theorem arI(hS:ak Tryz.prog cfg S):ak Tryz.prog cfg (aK S 110 sI8):=au hS λargs t v he hv=>by
 obtain⟨x,k,rfl,rfl⟩:=amO he;split at hv
 . rename_i all;obtain⟨⟨h,-⟩,hv⟩:=aF hv;cases hv;unfold Z_ at h;rw[zAa]at h;obtain⟨g1,g2⟩:=h;refine kA apm (L:=jE) ap8 θ ai (bb λQ' hQ=>?_) κ;obtain⟨D,hD⟩:=@bI8 x.f x.t Q' all x.r;refine cg (hD.mpr ?_);have hQ:=hQ _ rfl;have hX:dF x.f->Q' (.a .i64 (bif all&&not (fy x.f)then 10 else 0))->tX8 all x.f Q':=λv hq=>by
    obtain⟨b1,b2,b3⟩:=aej v;unfold tX8;cases all
    . exact hq
    . refine⟨b1,b2,b3,λhn=>?_,λhn=>?_⟩<;>cases he:fy x.f<;>rw[he]at hq hn<;>first|exact hq|cases hn
   unfold Zl at hQ;refine⟨g1,λe=>⟨g1,?_⟩,λe=>?_⟩<;>rw[e]at hQ
   . exact hQ
   . rw[ν,ao]at e;have v1:=Vd g1 e;dsimp only;cases hr:x.r<;>rw[hr]at hQ
     . refine⟨λe=>?_,λe=>hX v1 ?_⟩
       . rw[ξ]at e;rw[e]at hQ;exact hQ
       . rw[ν]at e;rw[e]at hQ;exact hQ
     . refine⟨g2,λe=>⟨g2,?_⟩,λe=>?_⟩<;>rw[e]at hQ
       . exact hQ
       . rw[ν,ao]at e;have v2:=Vd g2 e;have eo:orD x.f x.t=(kZ x.f&&(kZ x.t&&(aa (dq x.f.mo x.f.da) (dq x.t.mo x.t.da)&&ab (jc x.f) (jc x.t)))):=rfl;have e1:kZ x.f->gN x.f=true:=λh=>qd v1 (qc.1 h).1;have e2:kZ x.t->gN x.t=true:=λh=>qd v2 (qc.1 h).1;rw[eo]at hQ;refine⟨v1,v2,?_,?_⟩
         . unfold m8;cases kZ x.f<;>cases kZ x.t<;>rfl
         . unfold m8;cases hp:kZ x.f<;>cases hq:kZ x.t<;>rw[hp,hq]at hQ
           . exact⟨nofun,λ_=>⟨rfl,rfl,rfl,rfl,rfl,rfl,rfl,hQ⟩⟩
           . exact⟨nofun,λ_=>⟨rfl,rfl,rfl,rfl,rfl,rfl,rfl,hQ⟩⟩
           . exact⟨nofun,λ_=>⟨rfl,rfl,rfl,rfl,rfl,rfl,rfl,hQ⟩⟩
           . refine⟨λ_=>⟨rfl,rfl,rfl,rfl,rfl,rfl,rfl,λf=>?_,λf=>⟨e1 hp,e2 hq,λf'=>?_,λf'=>hX v1 ?_⟩⟩,nofun⟩
             . rw[ξ]at f;rw[f]at hQ;exact hQ
             . rw[ν]at f;rw[ξ]at f';rw[f,f']at hQ;exact hQ
             . rw[ν]at f f';rw[f,f']at hQ;exact hQ
 . cases hv
def T8h:aQ:=aK (aK gZ 110 sI8) 111 xQ
theorem ain:ak Tryz.prog cfg T8h:=ajQ (arI aW)
def tl8(il:Bool)(x:It)(R N:Prop):Prop:=vZ 2 3 (not x.r) (dF x.f/\not x.r/\il/\x.r=false/\il/\fk (aa (bI (kZ x.f)) 0) R N) (il/\x.r/\il/\R)
def tE8(iR:Bool):Bool->Bool->Bool->Bool->It->Prop->Prop->Prop
 | false,false,_,_,_,_,N=>N
 | false,true,_,il,x,R,N=>iR/\vZ 2 4 il (tl8 il x R N) N
 | true,false,i0,_,x,R,N=>fk i0 (i0/\not i0=false/\i0/\vZ 2 3 (not x.r) (dF x.f/\not x.r/\x.r=false/\fk (aa (bI (kZ x.f)) 0) R N) (x.r/\R)) (i0=false/\not i0/\i0=false/\N)
 | true,true,i0,il,x,R,N=>iR/\fk i0 (i0/\fk (not il) (not il/\not i0=false/\not il/\i0/\not il/\vZ 2 3 (not x.r) (dF x.f/\not x.r/\x.r=false/\not il/\il=false/\fk (aa (bI (kZ x.f)) 0) R N) (x.r/\not il/\il=false/\R)) (rp 4 (not il) false (il/\R))) (i0=false/\not i0/\i0=false/\vZ 2 4 il (tl8 il x R N) N)
theorem arb{iR i0 il:Bool}{x:It}{R N:Prop}(hi:iR)(hv:dF x.f)(hR:bdE ea la i0 il x->R)(hN:bdE ea la i0 il x=false->N):tE8 iR ea la i0 il x R N:=by
 subst hi;cases hr:x.r<;>cases hp:kZ x.f<;>cases ea<;>cases la<;>cases i0<;>cases il<;>simp_all [tE8,tl8,bdE,aaD,vZ,fk,rp,bI,aa]
def tR8(w:List AV)(k:Int)(n i:Nat)(ea la:Bool)(Rt:Int->Prop)(N E:Prop):Prop:=ba n i (aS i n/\XK (tg (wF w i)) (Z_ (jQ (wF w i))/\fk (not (aa (Zl (aa k 4) (jQ (wF w i))) 0)) (Rt (Zl (aa k 4) (jQ (wF w i)))) (tE8 (af .i64 (Int.sub (ο n) 1)) ea la (aa (ο i) 0) (aa (ο i) (Int.sub (ο n) 1)) (jQ (wF w i)) (Rt 10) N))) E
theorem rI8(w:List AV)(z1 z2:cD)(k:Int)(n i:Nat)(K1:fg)(J:Nat->Value){Q:VQ->Prop}:∀ea la:Bool,∃D,gG Q (rT T8h jE [.a w false none] 59 0 156 [1,2,3,7] [.h 15 0,.a .i64 0,.a .i64 0,iV i] J ⟨3,[z2,z1,ie k n K1 ea la],[]⟩) D=tR8 w k n i ea la (λe=>Q (.c,[.h 15 0,iV i,.a .i64 e,iV i],⟨4,[.a (dp [jQ (wF w i)]) true none,z2,z1,ie k n K1 ea la],[]⟩)) (nR i (Q (.a,[.h 15 0,.a .i64 0,.a .i64 0,iX i],⟨4,[.a (dp [jQ (wF w i)]) true none,z2,z1,ie k n K1 ea la],[]⟩))) (Q (.b 0,[.h 15 0,.a .i64 0,.a .i64 0,iV i],⟨3,[z2,z1,ie k n K1 ea la],[]⟩))
 | false,false=>⟨bE 1120566614200566277777770040,by kernel_rfl⟩
 | false,true=>⟨bE 1120030353310020228121402037020624202406200614200566277777770040,by kernel_rfl⟩
 | true,false=>⟨bE 112563020031520812140003022020624052030024000614200566277777770040,by kernel_rfl⟩
 | true,true=>⟨bE 11200303533100202281214020370206242024030200310235533031030220812143023022020624573242400200614200566277777770040,by kernel_rfl⟩
def v8g(L:List It)(k:Int)(ea la:Bool):dW:=λvs o=>match vs,o with
 | [.h 15 0,.a .i64 z,.a .i64 z',.a .i64 i],⟨3,[.a z2 true none,.a z1 true none,b],[]⟩=>s7 ⟨1,[b],[]⟩ λk1 m K1 ea1 la1=>aH [π L.length m,iw z2,iw z1,aa z 0,aa z' 0,aa i 0,aa k1 k,bQ ea1 ea,bQ la1 la] (.d0 (fBz (Un k ea la L) L.length) λb=>bif b then .a0 (.b 0,[.h 15 0,.a .i64 0,.a .i64 0,iV m],⟨3,[.a z2 true none,.a z1 true none,ie k m K1 ea la],[]⟩)else .a0 (.c,[.h 15 0,iV (fJ (Un k ea la L) L.length 0),.a .i64 (Un k ea la L (fJ (Un k ea la L) L.length 0)),iV (fJ (Un k ea la L) L.length 0)],⟨3,[.a z2 true none,.a z1 true none,ie k m K1 ea la],[]⟩))
 | _,_=>none
theorem ajy{i:Nat}:aa (ο i) (Int.sub (ο n) 1)=π (i+1) n:=aaG
theorem aoX{all:Bool}{x:It}(g:Z_ x)(h:Zl all x=0):dF x.f=true:=by
 unfold Z_ at g;rw[zAa]at g;refine Vd g.1 ?_;unfold Zl at h;cases hf:aa (UI x.f) 0 with
 | true=>exact ao.mp hf
 | false=>rw[hf]at h;exact h
theorem atO(hn:L.length<=200)(hg:∀i,i<L.length->Z_ (L.getD i fP)):cu Tryz.prog (cH cfg T8h) (Cw cfg [.a (dp L) false none]) (lb 59 0) 156 [1,2,3,7] (v8g L k ea la):=by
 intro vs o t Q hv hq J;unfold v8g at hv;split at hv
 . rename_i z z' i z2 z1 b;obtain⟨k1,m,K1,ea1,la1,ho,rfl⟩:=aec hv;obtain rfl:b=ie k1 m K1 ea1 la1:=by injection ho with _ h;injection h
   replace hq:=cO hq;obtain⟨⟨h1,n2,n1,h3,h4,h6,h8,h9,h10,-⟩,hq⟩:=hq;rw[aJ]at h1;rw[ao]at h3 h4 h6 h8;replace h9:=yl h9;replace h10:=yl h10;subst h1 h3 h4 h6 h8 h9 h10;simp only[Tr.wp]at hq;refine ia ain rfl rfl ai (ι:={i:Nat // i<=L.length/\∀j,j<i->Un k1 ea1 la1 L j=0}) (λx=>[.h 15 0,.a .i64 0,.a .i64 0,iV x.1]) (λ_=>⟨3,[.a z2 true none,.a z1 true none,ie k1 L.length K1 ea1 la1],[]⟩) (λx=>L.length-x.1) 3 (λ_=>Nat.le_refl _) (λx J=>?_) (Nat.le_refl _) (λJ=>Wk.a0 ⟨⟨0,Nat.zero_le _,λj hj=>absurd hj (Nat.not_lt_zero j)⟩,J,rfl⟩) J;obtain⟨i,hi,hz⟩:=x;refine bb λQ' hQ=>?_;obtain⟨D,hD⟩:=@rI8 (dp L) (.a z1 true none) (.a z2 true none) k1 L.length i K1 J Q' ea1 la1;have base:∀{a:cD} {vs:List AV},(∀ρ,yw (kG 18 ρ 20) vs=some vs)->VW cfg (Cw cfg [.a (dp L) false none]) 3 156 [1,2,3,7] vs ⟨4,[a]++[.a z2 true none,.a z1 true none,ie k1 L.length K1 ea1 la1],[]⟩ vs ⟨3,[.a z2 true none,.a z1 true none,ie k1 L.length K1 ea1 la1],[]⟩:=λ{a vs} hv=>ad6 i7 rfl rfl (λx hx=>by
    simp only[List.mem_cons,List.not_mem_nil,or_false]at hx;rcases hx with rfl|rfl|rfl
    . exact aO (gj.1 n2)
    . exact aO (gj.1 n1)
    . exact abX (by show 14<18;decide)) (hv [])
   have ir:af .i64 (Int.sub (ο L.length) 1)=true:=by rw[aE];simp only[eH,eE];show _<=(L.length:Int)-1/\(L.length:Int)-1<=_;omega
   refine cg (hD.mpr (abi hi (λhl=>?_) λh=>?_))
   . obtain⟨a1,a2⟩:=afB hl;rw[a2,ajy,aoo];have g:=hg i hl;have ret:∀e,Un k1 ea1 la1 L i=e->e≠0->Q' (.c,[.h 15 0,iV i,.a .i64 e,iV i],⟨4,[.a (dp [L.getD i fP]) true none,.a z2 true none,.a z1 true none,ie k1 L.length K1 ea1 la1],[]⟩):=λe he h0=>hQ _ ⟨_,_,base λ_=>rfl,by
      obtain⟨f1,f2⟩:=ar_ hl (by rw[he];exact h0) hz;rw[f1,f2,he]at hq;exact hq⟩
     refine⟨aU.2 hl,rR ⟨g,⟨λh=>?_,λh=>?_⟩⟩ a1⟩
     . refine ret _ ?_ ?_
       . unfold Un;rw[h];rfl
       . simpa [aw]using h
     . have h':=h;rw[ν,ao]at h';refine arb ir (aoX g h') (λhb=>ret 10 ?_ ζ) λhb=>⟨by rw[aE];simp only[eH,eE];show _<=(i:Int)+1/\(i:Int)+1<=_;omega,hQ _ ⟨⟨i+1,hl,λj hj=>?_⟩,by dsimp only;omega,base λ_=>rfl⟩⟩
       . unfold Un;rw[h,hb];rfl
       . by_cases hji:j=i
         . subst hji;unfold Un;rw[h,hb];rfl
         . exact hz j δ
   . subst h;rw[asa hz]at hq;exact hQ _ ⟨_,_,VW.a0,hq⟩
 . cases hv
def kR(z:Bool)(L:List It)(c:Nat):AV:=bif z then .c 14 0 L.length (.a c)else .f
def ox(z:Bool)(L:List It):List cD:=bif z then[.a (dp L) false none]else[]
theorem j0:∀x∈ox z L,cR 14 x:=by
 cases z
 . exact λx hx=>by cases hx
 . exact i7
def YN(k:Int)(x:Da):Bool:=aa k 0&&(XY x&&true)
def usE(k:Int)(d:Da)(k1:Int)(x:Da)(k2:Int)(y:Da)(ea la:Bool)(n:Nat):Bool:=not (((aa k 1 || XY d)&&(aa k 2 || (YN k1 x&&YN k2 y)))&&(aa k 3 || aa k 4 || (π n 0&&!ea&&!la)))
def tU1(A:Bool)(st:Bool)(Q:Bool->Prop):Prop:=vZ 1 1 (not (not A)) (not A=false/\Q (not st)) (not A/\Q true)
def tU3(A X Y:Bool)(Q:Bool->Prop):Prop:=vZ 4 4 X (vZ 1 1 (not (not A)) (not A=false/\tU1 Y true Q) (not A/\Q true)) (tU1 A false Q)
theorem ann{A st:Bool}{Q:Bool->Prop}(h:Q (not (A&&st))):tU1 A st Q:=by
 cases A<;>simp_all [tU1,vZ,fk,rp]
theorem arj{A X Y:Bool}{Q:Bool->Prop}(h:Q (not (A&&(X&&Y)))):tU3 A X Y Q:=by
 cases A<;>cases X<;>cases Y<;>simp_all [tU3,tU1,vZ,fk,rp]
section
variable(d x y:Da)(k1 k2:Int)(c:Nat){Q:AV->Prop}
theorem bU1:∀(z:Bool) (L:List It) (ea la:Bool),(z=false->L=[])->∃D,gG Q (pW gZ jE (ox z L) 132 [.g (aaa 1 d k1 x k2 y (kR z L c) ea la)]) D=vZ 4 4 (YN k1 x) (tU1 (YN k2 y) (π L.length 0&&!ea&&!la) λb=>Q (.b b)) (Q (.b true))
 | false,[],false,_,_=>⟨bE 100566630812313240006662022006240566,by kernel_rfl⟩
 | false,[],true,_,_=>⟨bE 1056663081231324006662022006240566,by kernel_rfl⟩
 | true,[],false,_,_=>⟨bE 100566630812313240006662022006240566,by kernel_rfl⟩
 | true,[],true,_,_=>⟨bE 1056663081231324006662022006240566,by kernel_rfl⟩
 | true,_::_,_,_,_=>⟨bE 15666308123132406662022006240566,by kernel_rfl⟩
 | false,_::_,_,_,h=>nomatch h rfl
theorem bU2:∀(z:Bool) (L:List It) (ea la:Bool),(z=false->L=[])->∃D,gG Q (pW gZ jE (ox z L) 132 [.g (aaa 2 d k1 x k2 y (kR z L c) ea la)]) D=tU1 (XY d) (π L.length 0&&!ea&&!la) λb=>Q (.b b)
 | false,[],false,_,_=>⟨bE 1000231000324666666,by kernel_rfl⟩
 | false,[],true,_,_=>⟨bE 10002310003245566666,by kernel_rfl⟩
 | true,[],false,_,_=>⟨bE 1000231000324666666,by kernel_rfl⟩
 | true,[],true,_,_=>⟨bE 10002310003245566666,by kernel_rfl⟩
 | true,_::_,_,_,_=>⟨bE 1000231000324000566666,by kernel_rfl⟩
 | false,_::_,_,_,h=>nomatch h rfl
theorem bU3(L:List It)(ea la:Bool):∀z all:Bool,∃D,gG Q (pW gZ jE (ox z L) 132 [.g (aaa (bif all then 4 else 3) d k1 x k2 y (kR z L c) ea la)]) D=tU3 (XY d) (YN k1 x) (YN k2 y) λb=>Q (.b b)
 | false,false=>⟨bE 100023100032400066308100023123132432400066202200624005666,by kernel_rfl⟩
 | true,false=>⟨bE 100023100032400066308100023123132432400066202200624005666,by kernel_rfl⟩
 | false,true=>⟨bE 10002310003245663081000231231324324566202200624005666,by kernel_rfl⟩
 | true,true=>⟨bE 10002310003245663081000231231324324566202200624005666,by kernel_rfl⟩
end
theorem aqi:aY tab 132=some (dH 132,aL 132):=κ
section
variable{k:Int}{d x y:Da}{k1 k2:Int}{ea la z:Bool}{L:List It}{c:Nat}(hz:z=false->L=[])
include hz
theorem fUn(hk:k=1\/k=2\/k=3\/k=4):bu Tryz.prog cfg 132 [.g (aaa k d k1 x k2 y (kR z L c) ea la)] (ox z L) (.b (usE k d k1 x k2 y ea la L.length)) []:=by
 refine P0 aW (L:=jE) j0 aqi θ ai (bb λQ' hQ=>?_) κ;have hQ:=hQ _ rfl;have set:∀all:Bool,Q' (.b (usE (bif all then 4 else 3) d k1 x k2 y ea la L.length))->(pW gZ jE (ox z L) 132 [.g (aaa (bif all then 4 else 3) d k1 x k2 y (kR z L c) ea la)]).wp Q':=λall hq=>by
  obtain⟨D,hD⟩:=@bU3 d x y k1 k2 c Q' L ea la z all;refine cg (hD.mpr (arj ?_));unfold usE at hq;cases all<;>cases hd:XY d<;>cases hx:YN k1 x<;>cases hy:YN k2 y<;>rw[hd,hx,hy]at hq<;>exact hq
 rcases hk with rfl|rfl|rfl|rfl
 . obtain⟨D,hD⟩:=@bU1 d x y k1 k2 c Q' z L ea la hz;refine cg (hD.mpr ?_);unfold usE at hQ;generalize (π L.length 0&&!ea&&!la)=st at *;cases hx:YN k1 x<;>rw[hx]at hQ
   . exact⟨nofun,λ_=>⟨rfl,rfl,rfl,rfl,hQ⟩⟩
   . refine⟨λ_=>⟨rfl,rfl,rfl,rfl,ann ?_⟩,nofun⟩;cases hy:YN k2 y<;>rw[hy]at hQ<;>cases st<;>exact hQ
 . obtain⟨D,hD⟩:=@bU2 d x y k1 k2 c Q' z L ea la hz;refine cg (hD.mpr (ann ?_));unfold usE at hQ;generalize (π L.length 0&&!ea&&!la)=st at *;cases hd:XY d<;>rw[hd]at hQ<;>cases st<;>exact hQ
 . exact set false hQ
 . exact set true hQ
end
abbrev V4(a e:Int):AV:=.d [.a .i64 a,.a .i64 e]
theorem Uq(h:XY x):x=rb:=by
 obtain⟨ng,lg,s,e,g,mo,da,a,b,c⟩:=x;unfold XY dZ at h;simp only[zAa,ao,bV,beq_iff_eq]at h;obtain⟨⟨h1,h2,h3,h4,h5,-⟩,h6,h7,⟨h8,h9,h10,-⟩,-⟩:=h;replace h1:=yl h1;replace h2:=yl h2;subst h1 h2 h3 h4 h5 h6 h7 h8 h9 h10;rfl
theorem ajK{o:aB}{d:Nat}{q:Aq}{k1:Int}{k2:Int}{z:Da}:nX 14 C o (d+2) (.g (aaa k x k1 y k2 z v ea la)) q=ob (nX 14 C o (d+1) v q) λr=>some (.g (aaa k x k1 y k2 z r.1 ea la),r.2):=by
 show ob (nC (nX 14 C o (d+1)) (aaa k x k1 y k2 z v ea la) q) (λp=>some (AV.g p.1,p.2))=_;have hi:∀k n q,nX 14 C o (d+1) (.a k n) q=some (.a k n,q):=λ_ _ _=>rfl;have hb:∀b q,nX 14 C o (d+1) (.b b) q=some (.b b,q):=λ_ _=>rfl;have hs:∀s q,nX 14 C o (d+1) (.e s) q=some (.e s,q):=λ_ _=>rfl;cases h:nX 14 C o (d+1) v q<;>simp only[aaa,nC,hi,hb,hs,h,ob]
theorem aoL{c:Nat}{o:aB}{d:Da}{k1 k2:Int}(hg:z->get C o 14=.a (dp L) false none):nC (nX 14 C o 20) [.g (aaa k d k1 x k2 y (kR z L c) ea la)] ⟨bif z then[21]else[],[],true⟩=some ([.g (aaa k d k1 x k2 y (kR z L c) ea la)],⟨[],ox z L,true⟩):=by
 cases z
 . rfl
 . simp only[kR,ox,cond_true,nC,ajK,ac4 (hg rfl) S0 lU,ob,List.length_nil,Nat.add_zero,List.nil_append,xe]
theorem YO{c:Nat}{o:aB}{d:Da}{k1 k2:Int}(hg:z->get C o 14=.a (dp L) false none)(hv:∀ρ,kG 14 ρ 20 v=some v)(h:bu Tryz.prog cfg f [.g (aaa k d k1 x k2 y (kR z L c) ea la)] (ox z L) v []):rL Tryz.prog cfg f C [.g (aaa k d k1 x k2 y (kR z L c) ea la)] o (v,o):=by
 have:=abR (news':=[]) gR.lv Az (aoL (c:=c) (k:=k) (d:=d) (x:=x) (y:=y) (k1:=k1) (k2:=k2) (ea:=ea) (la:=la) hg) rfl h (hv _) rfl λj hj=>absurd hj (Nat.not_lt_zero j);simpa using this
def oE(E:List AV):aB:=⟨1,[.a E true none],[]⟩
theorem X7{E:List AV}(h:z):get (Cw cfg (ox z L)) (oE E) 14=.a (dp L) false none:=by
 subst h;rfl
def TUc(ok:qp)(u:Bool)(a e:Int):aQ:=eQ (eQ (aK (aK gZ 42 sGc) 133 sPg) 132 (vv ok 132 (λ_=>.b u) [])) 134 (vv ok 134 (λ_=>V4 a e) [])
def T1t(ok:qp)(f:Nat)(v:AV):aQ:=eQ gZ f (vv ok f (λ_=>v) [])
theorem sf{v:Nat->AV}{news:List cD}:tD Tryz.prog cfg f (vv (okC Tryz.prog cfg) f v news):=by
 intro C args o t r ht hr;cases ht;obtain⟨h,hr⟩:=bG hr;cases hr;exact aa3.1 h
theorem apO{u:Bool}{a e:Int}:ak Tryz.prog cfg (TUc (okC Tryz.prog cfg) u a e):=bm (bm (arL (ai0 aW)) sf) sf
theorem abN:ak Tryz.prog cfg (T1t (okC Tryz.prog cfg) f v):=bm aW sf
def tFi(ok:qp)(C:bg)(E:List AV)(u:Bool)(a e k:Int)(d:Da)(k1:Int)(x:Da)(k2:Int)(y:Da)(z:Bool)(n:Nat)(Q:AV->Prop):Prop:=vZ 2 2 (not (not (ab 1 k))) (not (ab 1 k)=false/\fk (not (ab k 4)) (Q (V4 0 18)) (ok 132 C [.g E] (oE E) (.b u,oE E)/\bif u then Q (V4 0 5)else fk (aa k 1) (rM d/\Q (V4 0 (UI d))) (fk (aa k 2) (rM x/\rM y/\Q (V4 0 (prE k1 x k2 y))) (bif z then fk (aa (ο n) 0) (Q (V4 0 17)) (fk (not (ab (ο n) 256)) (Q (V4 0 3)) (ok 134 C [.g E] (oE E) (V4 a e,oE E)/\Q (V4 a e)))else Q (V4 0 17))))) (not (ab 1 k)/\Q (V4 0 18))
section
variable(ok:qp)(k:Int)(d x y:Da)(k1 k2:Int)(ea la:Bool)(L:List It)(c:Nat){Q:AV->Prop}
theorem bFi(a e:Int):∀z u:Bool,∃D,gG Q (pW (TUc ok u a e) jE (ox z L) 72 [.g (aaa k d k1 x k2 y (kR z L c) ea la)]) D=tFi ok (Cw cfg (ox z L)) (aaa k d k1 x k2 y (kR z L c) ea la) u a e k d k1 x k2 y z L.length Q
 | false,true=>⟨bE 10233102666614320240,by kernel_rfl⟩
 | false,false=>⟨bE 10233100122056640120064002666614320240,by kernel_rfl⟩
 | true,true=>⟨bE 10233102666614320240,by kernel_rfl⟩
 | true,false=>⟨bE 10233126666140140122056640120064002666614320240,by kernel_rfl⟩
theorem bCk(a e:Int):∀z:Bool,∃D,gG Q (pW (T1t ok 72 (V4 a e)) jE (ox z L) 25 [.g (aaa k d k1 x k2 y (kR z L c) ea la)]) D=(ok 72 (Cw cfg (ox z L)) [.g (aaa k d k1 x k2 y (kR z L c) ea la)] (oE (aaa k d k1 x k2 y (kR z L c) ea la)) (V4 a e,oE (aaa k d k1 x k2 y (kR z L c) ea la))/\Q (.a .i64 e))
 | false=>⟨bE 126666,by kernel_rfl⟩
 | true=>⟨bE 126666,by kernel_rfl⟩
theorem bC8(a e:Int):∀z:Bool,∃D,gG Q (pW (T1t ok 59 (V4 a e)) jE (ox z L) 14 [.g (aaa k d k1 x k2 y (kR z L c) ea la)]) D=(ok 59 (Cw cfg (ox z L)) [.g (aaa k d k1 x k2 y (kR z L c) ea la)] (oE (aaa k d k1 x k2 y (kR z L c) ea la)) (V4 a e,oE (aaa k d k1 x k2 y (kR z L c) ea la))/\Q (.a .i64 e))
 | false=>⟨bE 126666,by kernel_rfl⟩
 | true=>⟨bE 126666,by kernel_rfl⟩
theorem bE7(e:Int):∀z:Bool,∃D,gG Q (pW (T1t ok 25 (.a .i64 e)) jE (ox z L) 7 [.g (aaa k d k1 x k2 y (kR z L c) ea la)]) D=(ok 25 (Cw cfg (ox z L)) [.g (aaa k d k1 x k2 y (kR z L c) ea la)] (oE (aaa k d k1 x k2 y (kR z L c) ea la)) (.a .i64 e,oE (aaa k d k1 x k2 y (kR z L c) ea la))/\not (aa e 0)/\Q (.d [.f,.a .i64 e]))
 | false=>⟨bE 1226666,by kernel_rfl⟩
 | true=>⟨bE 1226666,by kernel_rfl⟩
end
def Tt(k:Int)(d:Da)(k1:Int)(x:Da)(k2:Int)(y:Da)(ea la:Bool)(L:List It):Int:=bif not (ab 1 k&&ab k 4)then 18 else bif usE k d k1 x k2 y ea la L.length then 5 else bif aa k 1 then UI d else bif aa k 2 then prE k1 x k2 y else bif π L.length 0 then 17 else Ym k ea la L
def W6(k:Int)(d:Da)(k1:Int)(x:Da)(k2:Int)(y:Da)(ea la:Bool)(L:List It):Int:=bif not (ab 1 k&&ab k 4)then 0 else bif usE k d k1 x k2 y ea la L.length then 0 else bif aa k 1 then 0 else bif aa k 2 then 0 else bif π L.length 0 then 0 else stJ k ea la L
theorem aoe:aa (ο n) 0=π n 0:=by grind [aJ,ao]
theorem arl{d:Da}{k1 k2:Int}(h1:aa k 1=false)(h2:aa k 2=false)(h:usE k d k1 x k2 y ea la n=false):d=rb/\k1=0/\x=rb/\k2=0/\y=rb:=by
 unfold usE YN at h;rw[h1,h2]at h;simp only[Bool.false_or,ν,zAa,ao,and_true]at h;obtain⟨⟨a,⟨b,c⟩,e,f⟩,-⟩:=h;exact⟨Uq a,b,Uq c,e,Uq f⟩
theorem aqd:aY tab 72=some (dH 72,aL 72):=κ
def GdL(L:List It):Prop:=∀i,i<L.length->Z_ (L.getD i fP)=true
section
variable{k:Int}{d x y:Da}{k1 k2:Int}{ea la z:Bool}{L:List It}{c:Nat}(hz:z=false->L=[])(hd:rM d)(hx:rM x)(hy:rM y)(hn:L.length<=200)(hg:GdL L)
include hz hd hx hy hn hg
theorem fFi:bu Tryz.prog cfg 72 [.g (aaa k d k1 x k2 y (kR z L c) ea la)] (ox z L) (V4 (W6 k d k1 x k2 y ea la L) (Tt k d k1 x k2 y ea la L)) []:=by
 refine P0 (apO (u:=usE k d k1 x k2 y ea la L.length) (a:=stJ k ea la L) (e:=Ym k ea la L)) (L:=jE) j0 aqd θ ai (bb λQ' hQ=>?_) κ;have hQ:=hQ _ rfl;obtain⟨D,hD⟩:=@bFi (okC Tryz.prog cfg) k d x y k1 k2 ea la L c Q' (stJ k ea la L) (Ym k ea la L) z (usE k d k1 x k2 y ea la L.length);refine cg (hD.mpr ?_);unfold W6 Tt at hQ;refine⟨λe=>⟨e,e,?_⟩,λe=>⟨e,e,?_⟩⟩
 . rw[ξ,ν]at e;refine⟨by rw[e];rfl,λf=>?_,λf=>?_⟩
   . rw[ξ]at f;rw[e,f]at hQ;exact hQ
   . rw[ν]at f;rw[e,f]at hQ;have hk:k=1\/k=2\/k=3\/k=4:=by rw[aq]at e f;omega
     refine⟨aa3.2 (YO X7 (λ_=>rfl) (fUn hz hk)),?_⟩;cases hu:usE k d k1 x k2 y ea la L.length<;>rw[hu]at hQ
     . refine⟨λh1=>⟨hd,by rw[h1]at hQ;exact hQ⟩,λh1=>⟨λh2=>⟨hx,hy,by rw[h1,h2]at hQ;exact hQ⟩,λh2=>?_⟩⟩;rw[h1,h2]at hQ;cases z
       . obtain rfl:=hz rfl;exact hQ
       . refine⟨λh0=>?_,λh0=>?_⟩<;>rw[aoe]at h0<;>rw[h0]at hQ
         . exact hQ
         . refine⟨λh3=>?_,λ_=>⟨?_,hQ⟩⟩
           . rw[ξ,bF]at h3;simp only[Int.ofNat_eq_natCast]at h3;omega
           . obtain⟨rfl,rfl,rfl,rfl,rfl⟩:=arl h1 h2 hu;refine aa3.2 (YO (z:=true) X7 (λ_=>rfl) ?_);refine fIg ?_ hn hg;rw[aw]at h1 h2;rw[Bool.or_eq_true,ao,ao];omega
     . exact hQ
 . rw[ν]at e;rw[ξ]at e;refine⟨by rw[e];rfl,?_⟩;rw[e]at hQ;exact hQ
theorem fCk:bu Tryz.prog cfg 25 [.g (aaa k d k1 x k2 y (kR z L c) ea la)] (ox z L) (.a .i64 (Tt k d k1 x k2 y ea la L)) []:=by
 refine P0 (abN (f:=72) (v:=V4 (W6 k d k1 x k2 y ea la L) (Tt k d k1 x k2 y ea la L))) (L:=jE) j0 aqa θ ai (bb λQ' hQ=>?_) κ;obtain⟨D,hD⟩:=@bCk (okC Tryz.prog cfg) k d x y k1 k2 ea la L c Q' (W6 k d k1 x k2 y ea la L) (Tt k d k1 x k2 y ea la L) z;exact cg (hD.mpr ⟨aa3.2 (YO X7 (λ_=>rfl) (fFi hz hd hx hy hn hg)),hQ _ rfl⟩)
theorem fE7(h0:Tt k d k1 x k2 y ea la L≠0):bu Tryz.prog cfg 7 [.g (aaa k d k1 x k2 y (kR z L c) ea la)] (ox z L) (.d [.f,.a .i64 (Tt k d k1 x k2 y ea la L)]) []:=by
 refine P0 (abN (f:=25) (v:=.a .i64 (Tt k d k1 x k2 y ea la L))) (L:=jE) j0 abc θ ai (bb λQ' hQ=>?_) κ;obtain⟨D,hD⟩:=@bE7 (okC Tryz.prog cfg) k d x y k1 k2 ea la L c Q' (Tt k d k1 x k2 y ea la L) z;exact cg (hD.mpr ⟨aa3.2 (YO X7 (λ_=>rfl) (fCk hz hd hx hy hn hg)),by rw[aw.mpr h0];rfl,hQ _ rfl⟩)
end
end Go.Ev
