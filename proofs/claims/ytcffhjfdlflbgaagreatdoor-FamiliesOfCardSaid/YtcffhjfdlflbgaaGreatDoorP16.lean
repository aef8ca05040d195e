import Derived.Deep.WholeRow
import Derived.Test.YtcffhjfdlflbgaaGreatDoorP15
set_option linter.all false
open Int renaming tmod_eq_emod_of_nonneg->ν,ofNat->ξ,add->ο
open UInt8 renaming ofNat->π
set_option linter.all false
set_option maxRecDepth 100000
set_option maxHeartbeats 4000000
section
namespace Go.Ev
open Go Go.Proofs
theorem LT{n:Int}:(af .i64 n=true)=(-9223372036854775808<=n/\n<=9223372036854775807):=aE
theorem EB(a b:Int):gY a b=min a b:=by
 grind [gY,bF]
theorem anq{b:Bool}:((bif b then(1:Int)else 0)=0)=(b=false):=η
theorem am2{b:Bool}:((bif b then(1:Int)else 0)=1)=(b=true):=η
theorem IN{ng lg:Bool}{s:List UInt8}{e g:Int}(h:aV ng lg s e g)(h0:eC s 88 88=0):dV s/\0<=e/\e<=16/\s.length<=17:=by
 grind [aV,oV]
def oc(ng lg:Bool)(s:List UInt8)(e g:Int)(mo:List UInt8):Bool:=decide (aV ng lg s e g/\¬(0<g/\ae mo []=false)/\((aR mo≠24/\aR mo≠28/\aR mo≠30)\/1<=eC s 88 88\/¬(magOk s e.toNat/\cF s e.toNat=10000000000000000/\ng=false)))
def aml:dP:=λ
 | [.g [.e ng,.e lg,.f s,.a .i64 e,.a .i64 g,.f mo,.f da,.a .u8 a,.a .u8 b,.a .u8 c]]=>some (aH [Nat.ble s.length 1000,af .i64 e] (.a0 (bI (oc ng lg s e g mo))))
 | _=>none
def T8:aQ:=d5 T7 180 aml
def nH(ng lg:Bool)(s:List UInt8)(e g:Int)(mo da:List UInt8)(a b c:Int):Int:=
 if oc ng lg s e g mo=false then 6 else if ae mo []=false/\aR mo=0/\eW mo 12=false then 7 else if ae da []=false/\(ae mo []\/0<aR mo\/eW da 31=false)then 8 else errMk a b c (dq mo da)
def K8:dP:=λ
 | [.g [.e ng,.e lg,.f s,.a .i64 e,.a .i64 g,.f mo,.f da,.a .u8 a,.a .u8 b,.a .u8 c]]=>some (aH [Nat.ble s.length 1000,af .i64 e] (.a0 (nH ng lg s e g mo da a b c)))
 | _=>none
def T9:aQ:=d5 T8 100 K8
theorem CF(mo:List UInt8):0<=aR mo:=by
 unfold aR
 repeat' (first|omega|(cases ae mo _<;>simp only[zAj]))
theorem WW:ak Tryz.prog cfg T8:=by
 refine au MW λargs t v he hv=>?_;unfold aml at he;split at he
 . rename_i ng lg s e g mo da a b c;cases he;obtain⟨⟨h1,h2,-⟩,hv⟩:=aF hv;rw[al]at h1;rw[LT]at h2;cases hv;refine jD MW ai (bE 10230003811110051038114220224444420001400200063311110051038114220224444420001400263310281111005103811422022444442000143220205242242240006332331111005103811422022444442000140020006331111005103811422022444442000140026331028111100510381142202244444200014322020524224224006143702422022422005) (R:=λQ=>(λ(E I U u1 u2 u3 u5:Bool)(W:Int)(u4:Nat)(F V:Prop)=>(λ(A B N O Y:Bool)(P u6:Prop)=>(λ(G:Bool)(C H Z u0:Prop)=>(λ(T u7:Prop)=>(λ(u8:Prop)=>I/\af .i64 e/\(A->A/\A/\A/\A/\(E->E/\E/\A/\E/\u6/\(u1->V)/\(u1=false->u8))/\(P->P/\P/\A/\P/\u6/\u8))/\(C->C/\C/\C/\C/\C/\U/\V)) ((N->N/\N/\(O->O/\O/\(G->G/\G/\I/\G/\Y=false/\u7)/\(T->T/\T/\T/\Y/\F))/\(Z->Z/\Z/\I/\u7))/\(u0->u0/\u0/\I/\u7))) (G=false) ((u2->F)/\(u2=false->I/\(ab 0 e->(u3->(dV s->(magOk s u4->(B->B/\B/\B/\B/\(u5->V)/\(u5=false->F))/\(H->H/\H/\H/\H/\F))/\(magOk s u4=false->F))/\(dV s=false->False))/\(u3=false->False))/\(ab 0 e=false->False)))) (not Y) (A=false) (B=false) (O=false) (N=false)) (not U) (aa (ξ (cF s u4)) 10000000000000000) (not (aa W 24)) (not (aa W 28)) (not (aa W 30)) (E=false) (U=false)) (not (ab g 0)) (Nat.ble s.length 1000) (aa (cond (aV ng lg s e g) 1 0) 0) (not (ae mo [])) (aa (gY 1 (ξ (eC s 88 88))) 1) (ab e 1000) (not ng) (aR mo) e.toNat (Q (.a .i64 1)) (Q (.a .i64 0))) (λ_=>by kernel_rfl) λQ' hQ=>?_;simp only[az,reduceCtorEq];simp only[EB,anq,am2,Bool.not_eq_false,Bool.not_eq_true,Classical.not_not];have yes:oc ng lg s e g mo->Q' (.a .i64 1):=λh=>hQ _ (by rw[XD h]);have no:oc ng lg s e g mo=false->Q' (.a .i64 0):=λh=>hQ _ (by rw[VR h]);have dg:=@IN ng lg s e g
   (repeat' first|exact trivial|refine⟨?_,?_⟩|intro)<;>first|assumption|omega|(refine no ?_;grind [oc])|(refine yes ?_;unfold oc;rw[zAc];simp_all;try omega)|(exfalso;have:=dg (by assumption) δ;simp_all;try omega)
 grind
theorem gx:ak Tryz.prog cfg T9:=by
 refine au WW λargs t v he hv=>?_;unfold K8 at he;split at he
 . rename_i ng lg s e g mo da a b c;cases he;obtain⟨⟨h1,h2,-⟩,hv⟩:=aF hv;rw[al]at h1;rw[LT]at h2;cases hv;refine jD WW ai (bE 100056335330008102025782202400058100056335330008107810056142322000202423220206702400381000563353300081005614232200020732202067024014220002024220206401422006) (R:=λQ=>(λ(A F N O T U V:Bool)(W Y:Prop)=>(λ(B G:Bool)(C H Z:Prop)=>(λ(E I P u0:Prop)=>(λ(u1:Prop->Prop)=>Nat.ble s.length 1000/\af .i64 e/\(T->Q (.a .i64 6))/\(T=false->(B->B/\B/\B/\(F->F/\F/\F/\F/\(U->Q (.a .i64 7))/\(U=false->(A->u1 (G/\u0))/\P))/\(H->H/\H/\H/\H/\(A->u1 ((G->u0)/\(I->I/\I/\I/\A/\O/\A/\W)))/\P))/\(E->E/\E/\E/\(A->A/\A/\A/\E/\E/\E/\A/\N/\A/\A/\A/\W)/\P))) (λu2=>A/\A/\A/\B/\B/\B/\A/\Z/\A/\u2)) (B=false) (G=false) (C->C/\C/\C/\C/\C/\C/\C/\Y) (G/\G/\G/\A/\O=false/\A/\(V->W)/\(V=false->Y))) (not N) (not O) (A=false) (F=false) (N=false)) (not (ae da [])) (aa (aR mo) 0) (ae mo []) (not (ab (aR mo) 0)) (aa (cond (oc ng lg s e g mo) 1 0) 0) (aa (cond (eW mo 12) 1 0) 0) (aa (cond (eW da 31) 1 0) 0) (Q (.a .i64 8)) (Q (errMk a b c (dq mo da)))) (λ_=>by rfl) λQ' hQ=>?_;simp only[az,reduceCtorEq];simp only[EB,anq,am2,Bool.not_eq_false,Bool.not_eq_true,Classical.not_not];have nn:=CF mo
   (repeat' first|exact trivial|refine⟨?_,?_⟩|intro)<;>first|assumption|omega|grind [nH]|(refine hQ _ ?_;unfold nH;simp_all;omega)
 grind
end Go.Ev
end
section
namespace Go.Ev
open Go Go.Proofs Go.RowKit
variable{id:Nat}{v:AV}
section
variable{C:bg}{o:aB}{D:Nat->Prop}{m:Nat->bv}{w:World}(hi:dX cfg D m C o w)
include hi
theorem zj{cs:List AV}{rw:Bool}{g:Option Nat}(hid:id<14)(hx:g0.at id=.a cs rw g):∃c e fz,w.heap[(m id).a0]? = some (.cells c e fz)/\(∀i v,cs[i]? = some v->c[(m id).b0+i]? = some (aj m v))/\∀s,g=some s->(m id).b0=0/\c.size=(m id).c0*s:=by
 obtain⟨h1,h2⟩:=hi.b0 id hid;have:=hi.a0 id h1;rw[h2,show cfg.a0.at id=g0.at id from rfl,hx]at this;obtain⟨c,e,fz,hb,hc⟩:=this;exact⟨c,e,fz,hb,hc.d0,λs hs=>(hc.b0 s hs).2⟩
theorem Am{cs:List AV}{rw:Bool}{g:Option Nat}(hid:id<14)(hx:g0.at id=.a cs rw g){i:Nat}(hv:cs[i]? = some v):w.cell? ⟨(m id).a0,(m id).b0+i,none⟩=some (aj m v):=by
 grind [zj,World.cell?]
theorem Nq:Go.Proofs.YtcffhjfdlflbgaaGreatDoor.Glob w:=by
 have gl:∀g,g<11->(m g).a0=g/\(m g).b0=0/\(m g).c0=1:=λg hg=>(hi.c0 g hg).2;have cell:∀{g:Nat} {cs:List AV} {rw:Bool} {gr:Option Nat} (_:g<11) (_:g0.at g=.a cs rw gr) {i:Nat} {v:AV} (_:cs[i]? = some v),w.cell? ⟨g,i,none⟩=some (aj m v):=λ{g cs rw gr} hg hx {i v} hv=>by
  have:=Am hi (Nat.lt_of_lt_of_le hg ζ) hx hv;grind
 have err:∀(g id:Nat) (n:String) (hg:g<11) (hx:g0.at g=.a [.l 376 (.h id 0)] false (some 1)) (hn:Tryz.prog.globalNamed n=some g),∃tp p,World.var? Tryz.prog w n=some #[.iface tp p]:=λg id n hg hx hn=>by
  obtain⟨c,e,fz,hb,hc,hs⟩:=zj hi (Nat.lt_of_lt_of_le hg ζ) hx;obtain⟨a,b,d⟩:=gl g hg;have h0:=hc 0 _ rfl;rw[b]at h0;have hsz:=(hs 1 rfl).2;rw[d]at hsz;refine⟨376,aj m (.h id 0),?_⟩;rw[a]at hb;have e:c=#[.iface 376 (aj m (.h id 0))]:=by
   grind [aj]
  grind [World.var?]
 refine⟨?_,λi hi'=>?_,err 3 12 _ ζ rfl κ,err 4 13 _ ζ rfl κ,λi hi'=>?_⟩
 . have h11:∀(i:Nat) (n:Int),[i64 4,i64 1,i64 100,i64 (-1),i64 400,i64 1][i]? = some (i64 n)->w.cell? ⟨(m 11).a0,(m 11).b0+i,none⟩=some (.int .i64 n):=λi n hv=>by
    have:=Am hi (id:=11) ζ rfl hv;grind [i64,aj]
   refine⟨(m 11).a0,(m 11).b0,3,?_,?_,?_,?_,?_,?_,?_⟩
   . have:=cell (g:=5) ζ rfl (i:=0) rfl;grind [aj,iR]
   . exact h11 0 4 rfl
   . exact h11 1 1 rfl
   . exact h11 2 100 rfl
   . exact h11 3 (-1) rfl
   . exact h11 4 400 rfl
   . exact h11 5 1 rfl
 . have:(List.map i64 [31,28,31,30,31,30,31,31,30,31,30,31])[i]? = some (i64 (Go.Proofs.YtcffhjfdlflbgaaGreatDoor.len0.getD i 0)):=by
    have:i=0\/i=1\/i=2\/i=3\/i=4\/i=5\/i=6\/i=7\/i=8\/i=9\/i=10\/i=11:=δ
    rcases this with rfl|rfl|rfl|rfl|rfl|rfl|rfl|rfl|rfl|rfl|rfl|rfl<;>rfl
   have:=cell (g:=1) ζ rfl this;simpa [i64,aj]using this
 . have:(List.map i64 [3,3,6,3,9,3,12,3,3,3,6,3,9,3,12,3,9,3,12,3,3,3,6,3,1,3,4,3,7,3,10,3,1,4,5,4,9,4,1,6,7,6])[i]? = some (i64 (Go.Proofs.YtcffhjfdlflbgaaGreatDoor.spans0.getD i 0)):=by
    have:∀i,i<42->(List.map i64 [3,3,6,3,9,3,12,3,3,3,6,3,9,3,12,3,9,3,12,3,3,3,6,3,1,3,4,3,7,3,10,3,1,4,5,4,9,4,1,6,7,6])[i]? = some (i64 (Go.Proofs.YtcffhjfdlflbgaaGreatDoor.spans0.getD i 0)):=by
     intro i h;rw[List.getElem?_map];have hl:∀i,i<42->[3,3,6,3,9,3,12,3,3,3,6,3,9,3,12,3,9,3,12,3,3,3,6,3,1,3,4,3,7,3,10,3,1,4,5,4,9,4,1,6,7,6][i]? = some (Go.Proofs.YtcffhjfdlflbgaaGreatDoor.spans0.getD i 0):=ζ
     rw[hl i h];rfl
    exact this i hi'
   have:=cell (g:=2) ζ rfl this;simpa [i64,aj]using this
end
theorem LZ{f:Nat}(hb:ec eS f=some (dH f,aL f))(args:Array Value)(w:World):(callFunc f args).run Tryz.prog w=.ok (.enter f args) w:=by
 simp only[ec,ag,zAb,Prod.mk.injEq]at hb;obtain⟨fn',hfn,c',hbody,e1,e2⟩:=hb;obtain⟨hf,hname⟩:=dI.d0.fn f fn' hfn;simp_all [callFunc]
theorem dy{f:Nat}{args:List AV}(hb:ec eS f=some (dH f,aL f))(hv:aC v=[])(h:∀(m:Nat->bv) (w:World),Go.Proofs.YtcffhjfdlflbgaaGreatDoor.Glob w->Calls Tryz.prog f (ap m args).toArray w λe w'=>e=.returned (aj m v)/\Below w.heap.size w w'):bu Tryz.prog cfg f args [] v []:=λD m w hi hok=>
 .inl ⟨LZ hb _ w,(h m w (Nq hi)).mono λe w' ⟨he,hbl⟩=>⟨_,he,D,m,rfl,bM hv,(aaN hi hbl).1⟩⟩
end Go.Ev
end
section
namespace Go.Ev
open Go Go.Proofs Go.Proofs.YtcffhjfdlflbgaaGreatDoor
abbrev dt(ng lg:Bool)(s:List UInt8)(e g:Int)(mo da:List UInt8)(a b c:Int):Dt:=⟨ng,lg,⟨⟨s⟩⟩,e,g,⟨⟨mo⟩⟩,⟨⟨da⟩⟩,a,b,c⟩
theorem eU(c:UInt8)(s:List UInt8)(a b:Int):eC (c::s) a b=eC s a b+if a<=(c.toNat:Int)/\(c.toNat:Int)<=b then 1 else 0:=by
 grind [eC]
theorem Ed(s:List UInt8):(hasX s=true↔eC s 88 88≠0):=by
 unfold hasX;induction s with
 | nil=>simp[eC]
 | cons c s ih=>
   rw[eU,List.contains_cons,Bool.or_eq_true];constructor
   . rintro(h|h)
     . rw[beq_iff_eq]at h;subst h;simp
     grind
   . intro h;by_cases hc:(88:Int)<=(c.toNat:Int)/\(c.toNat:Int)<=88
     . left
       rw[beq_iff_eq];apply UInt8.toNat_inj.1;grind
     grind
theorem wK(s:List UInt8):digB s=dV s:=by
 grind [digB,dV,dB]
theorem Zj(s:List UInt8):dV s=true↔eC s 48 57=s.length:=by
 refine⟨λh=>?_,oV⟩;unfold eC;rw[List.length_filter_eq_length_iff];intro c hc;have:=List.all_eq_true.1 h c hc;grind [dB]
theorem XB(s:List UInt8):mskB s=true↔eC s 48 57+eC s 88 88=s.length:=by
 unfold mskB;induction s with
 | nil=>simp[eC]
 | cons c s ih=>
   have h1:=ab6 s 48 57;have h2:eC s 48 57+eC s 88 88<=s.length:=by
    clear ih h1;induction s<;>grind [eC]
   grind [eU,mb]
theorem ZF(s:List UInt8):zerB s=true↔eC s 48 48=s.length:=by
 unfold zerB;induction s with
 | nil=>simp[eC]
 | cons c s ih=>
   have h1:=ab6 s 48 48;rw[eU,List.all_cons,zAa,ih,beq_iff_eq,zAd];constructor
   . simp_all
   . intro h;by_cases hc:(48:Int)<=(c.toNat:Int)/\(c.toNat:Int)<=48
     . rw[if_pos hc]at h;exact⟨UInt8.toNat_inj.1 (show c.toNat=48 by omega),by omega⟩
     grind
theorem BX(s:List UInt8):Go.Proofs.YtcffhjfdlflbgaaGreatDoor.numL s=Go.Ev.numL s:=rfl
theorem e_(a b:UInt8)(x y:Nat)(hx:x<256)(hy:y<256):ae [a,b] [π x,π y]=decide (a.toNat=x/\b.toNat=y):=by
 rw[bV,Bool.eq_iff_iff,beq_iff_eq,zAc];have e1:(π x).toNat=x:=by simp_all
 have e2:(π y).toNat=y:=by simp_all
 grind [UInt8.toNat_inj]
theorem Nr(mo:List UInt8):seasL mo=aR mo:=by
 match mo with
 | []=>rfl
 | [a]=>simp[seasL,aR,ae]
 | a::b::c::r=>simp[seasL,aR,ae]
 | [a,b]=>
   unfold aR;simp only[e_ a b _ _ (by decide:(50:Nat)<256) (by decide:(49:Nat)<256),e_ a b 50 50 ζ ζ,e_ a b 50 51 ζ ζ,e_ a b 50 52 ζ ζ,e_ a b 50 53 ζ ζ,e_ a b 50 54 ζ ζ,e_ a b 50 55 ζ ζ,e_ a b 50 56 ζ ζ,e_ a b 50 57 ζ ζ,
    e_ a b 51 48 ζ ζ,e_ a b 51 49 ζ ζ,e_ a b 51 50 ζ ζ,e_ a b 51 51 ζ ζ,e_ a b 51 52 ζ ζ,e_ a b 51 53 ζ ζ,e_ a b 51 54 ζ ζ,e_ a b 51 55 ζ ζ,e_ a b 51 56 ζ ζ,e_ a b 51 57 ζ ζ,e_ a b 52 48 ζ ζ,e_ a b 52 49 ζ ζ]
   unfold seasL;by_cases h:(48<=a.toNat/\a.toNat<=57)/\(48<=b.toNat/\b.toNat<=57)/\21<=10*((a.toNat:Int)-48)+((b.toNat:Int)-48)/\10*((a.toNat:Int)-48)+((b.toNat:Int)-48)<=41
   . simp only[if_pos h];obtain⟨n,hn⟩:∃n:Nat,n=a.toNat:=⟨_,rfl⟩;obtain⟨k,hk⟩:∃k:Nat,k=b.toNat:=⟨_,rfl⟩;rw[<-hn,<-hk]at h ⊢;clear hn hk;have hna:n=50\/n=51\/n=52:=δ
     have hkb:k=48\/k=49\/k=50\/k=51\/k=52\/k=53\/k=54\/k=55\/k=56\/k=57:=δ
     rcases hna with rfl|rfl|rfl<;>rcases hkb with rfl|rfl|rfl|rfl|rfl|rfl|rfl|rfl|rfl|rfl<;>first|(exfalso;omega)|rfl
   . simp only[if_neg h];have no:∀x y:Nat,(48<=x/\x<=57)/\(48<=y/\y<=57)/\21<=10*((x:Int)-48)+((y:Int)-48)/\10*((x:Int)-48)+((y:Int)-48)<=41->decide (a.toNat=x/\b.toNat=y)=false:=λx y hxy=>by
      grind
     simp only[no 50 49 δ,no 50 50 δ,no 50 51 δ,no 50 52 δ,no 50 53 δ,no 50 54 δ,no 50 55 δ,no 50 56 δ,no 50 57 δ,no 51 48 δ,no 51 49 δ,no 51 50 δ,no 51 51 δ,no 51 52 δ,no 51 53 δ,no 51 54 δ,no 51 55 δ,no 51 56 δ,no 51 57 δ,no 52 48 δ,no 52 49 δ,cond_false]
end Go.Ev
end
section
namespace Go.Proofs.YtcffhjfdlflbgaaGreatDoor
open Go.RowKit
theorem toList_ne(s:ByteArray)(h:0<s.size):s.toList.isEmpty=false:=by
 rw[ByteArray.toList_eq];have e:s.data.size=s.size:=rfl;cases hl:s.data.toList with
 | nil=>
   have h3:=congrArg List.length hl;simp at h3;have h2:s.size=0:=by rw[<-e,h3];rfl
   omega
 | cons a l=>rfl
set_option maxHeartbeats 1000000 in
theorem masks_Check(s:ByteArray)(w:World)(hs:1<=s.size)(hs2:s.size<=18)(hm:∀(i:Nat) (h:i<s.size),mb s[i]) :
 Calls Tryz.prog 216 #[.string s] w λe w'=>e=.returned (.int .i64 0)/\Below w.heap.size w w':=by
 have hne:=toList_ne s (by omega);have HM:=Lib.hid hm;clear hm;go_enter Tryz.func216,Tryz.ntmps216
 go_wp2;go_loopw [] (λwr=>∃pos,pos<=s.size/\wr=w.iter s pos) (λwr=>s.size-wr.iterPos w.heap.size)
 case atStart=>exact⟨0,by omega,rfl⟩
 case round=>
  obtain⟨pos,hp,rfl⟩:=hrel;by_cases hlt:pos<s.size
  . have hb:=HM.out pos hlt;unfold mb at hb;have nx:=λty=>run_next_ascii (P:=Tryz.prog) w s pos ty hlt (by omega);generalize hc:s[pos]=c at *;clear hc;rcases hb with hb|⟨hb1,hb2⟩
    . have t0:((c.toNat:Int) !=88)=false:=by simp[hb]
      go_wp2;exact⟨⟨pos+1,by omega,rfl⟩,by simp;omega⟩
    . have t0:((c.toNat:Int) !=88)=true:=by simp;omega
      have t1:decide ((c.toNat:Int)<48)=false:=by simp;omega
      have t2:decide (57<(c.toNat:Int))=false:=by simp;omega
      go_wp2;exact⟨⟨pos+1,by omega,rfl⟩,by simp;omega⟩
  . have nx:=λty=>run_next_end (P:=Tryz.prog) w s pos ty hlt;go_wp2;go_ret
    exact⟨by simp,biter _ _⟩
theorem masks_filled(s:ByteArray)(x:Int)(w:World)(hx:48<=x/\x<=57)(hs2:s.size<=18)(hm:∀(i:Nat) (h:i<s.size),mb s[i]) :
 Calls Tryz.prog 217 #[.string s,.int .u8 x] w λe w'=>e=.returned (.int .i64 (fillv x s.data.toList))/\Below w.heap.size w w':=by
 have HM:=Lib.hid hm;obtain⟨C,w2,hconv,hcell,hB2,hz2⟩:=conv_bytes w s;have HC:=Lib.hid hcell;have BD:=Lib.hid (fillv_bd18 hx s hs2 hm);have hx1:=hx.1;have hx2:=hx.2;clear hm hcell;go_enter Tryz.func217,Tryz.ntmps217
 go_wp2;go_loop [5,11] (λn i=>∃k:Nat,k<=s.size/\i=.int .i64 k/\n=.int .i64 (fillv x (s.data.toList.take k))) (λ_ i=>s.size-(intOf i).toNat)
 case atStart=>exact⟨0,by omega,rfl,rfl⟩
 case round=>
  obtain⟨k,hk,rfl,rfl⟩:=hrel;by_cases hlt:k<s.size
  . obtain⟨b1,b2⟩:=BD.out k hlt;have hc0:=HC.out k hlt;have hb0:=HM.out k hlt;have S:=Lib.hid (show fillv x (s.data.toList.take (k+1))=10*fillv x (s.data.toList.take k)+dig x s[k]by rw[take_snocB s k hlt,fillv_snoc]);unfold mb at hb0;generalize s[k]=c at *;rcases hb0 with hb0|⟨hb1,hb2⟩
    . have t0:((c.toNat:Int)==88)=true:=by simp[hb0]
      go_wp2;go_round
      case rel=>exact⟨k+1,by omega,by go_num,by rw[S.out,dig_X hb0]⟩
      case measure=>simp[intOf];omega
    . have t0:((c.toNat:Int)==88)=false:=by simp;omega
      go_wp2;go_round
      case rel=>exact⟨k+1,by omega,by go_num,by rw[S.out,dig_D (by omega)]⟩
      case measure=>simp[intOf];omega
  . go_wp2;go_ret
    exact⟨ret_int (by rw[List.take_of_length_le (by simp;have e:s.data.size=s.size:=rfl;omega)]),bC⟩
abbrev dArr(a b c d:Int):Array Value:=#[.int .u8 a,.int .u8 b,.int .u8 c,.int .u8 d,.int .u8 0,.int .u8 0,.int .u8 0,.int .u8 0,.int .u8 0,.int .u8 0,.int .u8 0,.int .u8 0,.int .u8 0,.int .u8 0,.int .u8 0,.int .u8 0,.int .u8 0,.int .u8 0]
theorem masks_filled_d(s:ByteArray)(w:World)(hs2:s.size<=18)(hm:∀(i:Nat) (h:i<s.size),48<=s[i].toNat/\s[i].toNat<=57) :
 Calls Tryz.prog 217 #[.string s,.int .u8 0] w λe w'=>e=.returned (.int .i64 (fillv 48 s.data.toList))/\Below w.heap.size w w':=by
 have HM:=Lib.hid hm;obtain⟨C,w2,hconv,hcell,hB2,hz2⟩:=conv_bytes w s;have HC:=Lib.hid hcell;have BD:=Lib.hid (fillv_bd18 (x:=48) (by omega) s hs2 (λi h=>.inr (hm i h)));clear hm hcell;go_enter Tryz.func217,Tryz.ntmps217
 go_wp2;go_loop [5,11] (λn i=>∃k:Nat,k<=s.size/\i=.int .i64 k/\n=.int .i64 (fillv 48 (s.data.toList.take k))) (λ_ i=>s.size-(intOf i).toNat)
 case atStart=>exact⟨0,by omega,rfl,rfl⟩
 case round=>
  obtain⟨k,hk,rfl,rfl⟩:=hrel;by_cases hlt:k<s.size
  . obtain⟨b1,b2⟩:=BD.out k hlt;have hc0:=HC.out k hlt;obtain⟨hb1,hb2⟩:=HM.out k hlt;have S:=Lib.hid (show fillv 48 (s.data.toList.take (k+1))=10*fillv 48 (s.data.toList.take k)+dig 48 s[k]by rw[take_snocB s k hlt,fillv_snoc]);generalize s[k]=c at *;have t0:((c.toNat:Int)==88)=false:=by simp;omega
    go_wp2;go_round
    case rel=>exact⟨k+1,by omega,by go_num,by rw[S.out,dig_D (by omega)]⟩
    case measure=>simp[intOf];omega
  . go_wp2;go_ret
    exact⟨ret_int (by rw[List.take_of_length_le (by simp;have e:s.data.size=s.size:=rfl;omega)]),bC⟩
theorem masks_value(s:ByteArray)(a b c d:Int)(w:World)(hs:s.size=4)(ha:48<=a/\a<=57)(hb:48<=b/\b<=57)(hc:48<=c/\c<=57)(hd:48<=d/\d<=57) :
 Calls Tryz.prog 277 #[.string s,.agg (dArr a b c d)] w λe w'=>e=.returned (.int .i64 (1000*(a-48)+100*(b-48)+10*(c-48)+(d-48)))/\Below w.heap.size w w':=by
 have hs2:(s.size:Int)=4:=by omega
 have byt:∀z:Int,48<=z/\z<=57->∃x:UInt8,(x.toNat:Int)=z/\48<=x.toNat/\x.toNat<=57:=by
  intro z hz;refine⟨π z.toNat,?_⟩;have:(π z.toNat).toNat=z.toNat:=by simp;omega
  rw[this];omega
 obtain⟨x0,rfl,p0⟩:=byt a ha;obtain⟨x1,rfl,p1⟩:=byt b hb;obtain⟨x2,rfl,p2⟩:=byt c hc;obtain⟨x3,rfl,p3⟩:=byt d hd;have hv:fillv 48 [x0,x1,x2,x3]=1000*((x0.toNat:Int)-48)+100*((x1.toNat:Int)-48)+10*((x2.toNat:Int)-48)+((x3.toNat:Int)-48):=by
  simp only[fillv,List.foldl_cons,List.foldl_nil];rw[dig_D (by omega),dig_D (by omega),dig_D (by omega),dig_D (by omega)];omega
 have HF:=Lib.hid (λW:World=>masks_filled_d ⟨#[x0,x1,x2,x3]⟩ W (show 4<=18 by decide) (λi h=>by
  have h4:i<4:=h;have:i=0\/i=1\/i=2\/i=3:=by omega
  rcases this with rfl|rfl|rfl|rfl
  . exact p0
  . exact p1
  . exact p2
  . exact p3))
 go_enter Tryz.func277,Tryz.ntmps277
 go_upto_region 1 with fail
 have cl:∀(j:Nat) (hj:j<[x0,x1,x2,x3].length),(w.alloc (.cells (dArr x0.toNat x1.toNat x2.toNat x3.toNat) 303)).cell? (Addr.add ⟨w.heap.size,0,none⟩ j)=some (.int .u8 (([x0,x1,x2,x3][j].toNat:Nat):Int)):=by
  intro j hj;have hadd:(⟨w.heap.size,0,none⟩:Addr).add j=⟨w.heap.size,j,none⟩:=by unfold Addr.add;split<;>simp_all
  rw[hadd,cell_of_row _ _ j _ _ (0,0) (heap_alloc_last w _)];have h4:j<4:=hj;have:j=0\/j=1\/j=2\/j=3:=by omega
  rcases this with rfl|rfl|rfl|rfl<;>rfl
 have cv:=run_convert_bytes_back (P:=Tryz.prog) (w.alloc (.cells (dArr x0.toNat x1.toNat x2.toNat x3.toNat) 303)) 207 9 5 ⟨w.heap.size,0,none⟩ 18 [x0,x1,x2,x3] Tryz.underlying207 Tryz.underlying5 Tryz.underlying9 cl;clear cl;have cv2:(convert 207 9 (.slice (some ⟨w.heap.size,0,none⟩) 4 18)).run Tryz.prog (w.alloc (.cells (dArr x0.toNat x1.toNat x2.toNat x3.toNat) 303))=.ok (.string ⟨#[x0,x1,x2,x3]⟩) (w.alloc (.cells (dArr x0.toNat x1.toNat x2.toNat x3.toNat) 303)):=cv;clear cv;generalize hD:dArr x0.toNat x1.toNat x2.toNat x3.toNat=D at *;generalize hS:(⟨#[x0,x1,x2,x3]⟩:ByteArray)=S at *;have hl:S.data.toList=[x0,x1,x2,x3]:=by rw[<-hS]
 have V:=Lib.hid (show fillv 48 S.data.toList=1000*((x0.toNat:Int)-48)+100*((x1.toNat:Int)-48)+10*((x2.toNat:Int)-48)+((x3.toNat:Int)-48)by rw[hl,hv]);clear hl hv hS hD;go_wp2_with (first|(go_at_call 217;refine(HF.out _).mono ?_;rintro e w1 ⟨rfl,hb⟩;obtain⟨hc,hf⟩:=bcell hb;have hz:=hb.size;(try simp only[World.size_alloc,World.size_setCell,World.size_drew]at hz hc hf);(try have⟨hl0,hc0,hf0⟩:=bk hc hf hz (w.heap.size) (by omega));(try have⟨hl1,hc1,hf1⟩:=bk hc hf hz (w.heap.size+1) (by omega));(try have⟨hl2,hc2,hf2⟩:=bk hc hf hz (w.heap.size+2) (by omega));(try have⟨hl3,hc3,hf3⟩:=bk hc hf hz (w.heap.size+3) (by omega));(try have⟨hl4,hc4,hf4⟩:=bk hc hf hz (w.heap.size+4) (by omega))))
 go_ret
 exact⟨by rw[<-V.out];simp,bC⟩
end Go.Proofs.YtcffhjfdlflbgaaGreatDoor
end
section
namespace Go.Ev
open Go Go.Proofs
variable{n:Int}{c1 c2 c3:UInt8}
def dg(n:Int)(i:Nat):Int:=n/10^(3-i)%10
abbrev X0:List AV:=[.a .u8 0,.a .u8 0,.a .u8 0,.a .u8 0,.a .u8 0,.a .u8 0,.a .u8 0,.a .u8 0,.a .u8 0,.a .u8 0,.a .u8 0,.a .u8 0,.a .u8 0,.a .u8 0]
def Wq:dP:=λ
 | [.f [c0,c1,c2,c3],.a .i64 n]=>some (aH [ab 0 n,ab n 9999] (.a0 (.g (.a .u8 (ο 48 (dg n 0))::.a .u8 (ο 48 (dg n 1))::.a .u8 (ο 48 (dg n 2))::.a .u8 (ο 48 (dg n 3))::X0))))
 | _=>none
def U1:aQ:=d5 T9 276 Wq
def SH(v:Int):Bool:=ab 48 v&&ab v 57
def db(a b c d:Int):Int:=1000*(a-48)+100*(b-48)+10*(c-48)+(d-48)
def WJ:dP:=λ
 | [.f [c0,c1,c2,c3],.g (.a .u8 a::.a .u8 b::.a .u8 c::.a .u8 d::[.a .u8 0,.a .u8 0,.a .u8 0,.a .u8 0,.a .u8 0,.a .u8 0,.a .u8 0,.a .u8 0,.a .u8 0,.a .u8 0,.a .u8 0,.a .u8 0,.a .u8 0,.a .u8 0])]=>some (aH [SH a,SH b,SH c,SH d] (.a0 (db a b c d)))
 | _=>none
def U2:aQ:=d5 U1 277 WJ
theorem Yj(h:0<=n):dg n 0=n/1000%10/\dg n 1=n/100%10/\dg n 2=n/10%10/\dg n 3=n%10:=by
 refine⟨rfl,rfl,rfl,?_⟩;show n/1%10=n%10;simp
theorem OW:ec eS 277=some (dH 277,aL 277):=κ
theorem V0:ak Tryz.prog cfg U1:=by
 refine au gx λargs t v he hv=>?_;unfold Wq at he;split at he
 . rename_i c0 c1 c2 c3 n;cases he;obtain⟨⟨h1,h2,-⟩,hv⟩:=aF hv;rw[aq]at h1 h2;cases hv;refine jD gx ai (bE 1000662522000252200025220002522000) (R:=λQ=>(λ(A:AV)(B C:Int)=>(λ(E F:Int)=>(λ(G H:Int)=>(λ(I:Int)=>af .i64 B/\af .u8 B/\af .i64 C/\af .i64 E/\af .u8 E/\af .i64 F/\af .i64 G/\af .u8 G/\af .i64 H/\af .i64 I/\af .u8 I/\af .i64 (Int.tdiv H 10)/\Q (.g [.a .u8 I,.a .u8 G,.a .u8 E,.a .u8 B,A,A,A,A,A,A,A,A,A,A,A,A,A,A])) (ο 48 (Int.tmod H 10))) (ο 48 (Int.tmod F 10)) (Int.tdiv F 10)) (ο 48 (Int.tmod C 10)) (Int.tdiv C 10)) (.a .u8 0) (ο 48 (Int.tmod n 10)) (Int.tdiv n 10)) (λ_=>by kernel_rfl) (hi:=κ) λQ' hQ=>?_;try dsimp only
   have e1:n.tdiv 10=n/10:=Int.tdiv_eq_ediv_of_nonneg h1;have e2:(n/10).tdiv 10=n/100:=η
   have e3:(n/100).tdiv 10=n/1000:=η
   have e4:(n/1000).tdiv 10=n/10000:=η
   have m1:n.tmod 10=n%10:=ν h1;have m2:(n/10).tmod 10=n/10%10:=ν δ;have m3:(n/100).tmod 10=n/100%10:=ν δ;have m4:(n/1000).tmod 10=n/1000%10:=ν δ;simp_all [Yj,az];omega
 grind
theorem L0:ak Tryz.prog cfg U2:=by
 refine au V0 λargs t v he hv=>?_;unfold WJ at he;split at he
 . rename_i c0 c1 c2 c3 a b c d;cases he;obtain⟨⟨h1,h2,h3,h4,-⟩,hv⟩:=aF hv;unfold SH at h1 h2 h3 h4;rw[zAa,aq,aq]at h1 h2 h3 h4;cases hv;refine dy OW κ λm w hG=>?_;have:=Go.Proofs.YtcffhjfdlflbgaaGreatDoor.masks_value ⟨⟨[c0,c1,c2,c3]⟩⟩ a b c d w rfl h1 h2 h3 h4;simp_all [ap,aj,db]
 grind
def mt(c:UInt8)(k:Int):Prop:=c.toNat=88\/(c.toNat:Int)=48+k
instance (c:UInt8) (k:Int):Decidable (mt c k):=by unfold mt;infer_instance
def nS(c0 c1 c2 c3:UInt8)(k:Int):Prop:=0<=k/\k<=9999/\mt c0 (k/1000)/\mt c1 (k/100%10)/\mt c2 (k/10%10)/\mt c3 (k%10)
instance (c0 c1 c2 c3:UInt8) (k:Int):Decidable (nS c0 c1 c2 c3 k):=by unfold nS;infer_instance
def c_(c0 c1 c2 c3:UInt8)(n:Int):Option Int:=((List.range 10000).map ξ).find? λk=>decide (n<=k)&&decide (nS c0 c1 c2 c3 k)
def cV(c0 c1 c2 c3:UInt8)(n:Int):Option Int:=((List.range 10000).map λi=>9999-ξ i).find? λk=>decide (k<=n)&&decide (nS c0 c1 c2 c3 k)
theorem nJ{c0:UInt8}:c_ c0 c1 c2 c3 n=none↔∀k,nS c0 c1 c2 c3 k->k<n:=by
 unfold c_;rw[List.find?_eq_none];constructor
 . intro h k hk;have:=h k (List.mem_map.2 ⟨k.toNat,List.mem_range.2 (by have:=hk.2.1;omega),Int.toNat_of_nonneg hk.1⟩);grind
 grind
theorem gF{c0:UInt8}{v:Int}:c_ c0 c1 c2 c3 n=some v↔nS c0 c1 c2 c3 v/\n<=v/\∀k,nS c0 c1 c2 c3 k->n<=k->v<=k:=by
 unfold c_;have inc:∀(l:List Nat),l.Pairwise (· < ·)->∀(p:Int->Bool) (v:Int),(l.map ξ).find? p=some v->p v/\v∈l.map ξ/\∀k∈l.map ξ,p k->v<=k:=by
  intro l hl p;induction l<;>grind [List.pairwise_cons]
 have mem:∀k,nS c0 c1 c2 c3 k->k∈(List.range 10000).map ξ:=λk hk=>List.mem_map.2 ⟨k.toNat,List.mem_range.2 (by have:=hk.2.1;omega),Int.toNat_of_nonneg hk.1⟩;constructor
 . grind [List.pairwise_lt_range]
 . rintro⟨h1,h2,h3⟩;cases hf:((List.range 10000).map ξ).find? (λk=>decide (n<=k)&&decide (nS c0 c1 c2 c3 k))<;>grind [List.pairwise_lt_range]
theorem nu{c0:UInt8}:cV c0 c1 c2 c3 n=none↔∀k,nS c0 c1 c2 c3 k->n<k:=by
 unfold cV;rw[List.find?_eq_none];constructor
 . intro h k hk;have:=h k (List.mem_map.2 ⟨(9999-k).toNat,List.mem_range.2 (by have:=hk.1;omega),by have:=hk.2.1;grind⟩);grind
 grind
theorem pw{c0:UInt8}{k0 k1 k2 k3:Int}(h0:0<=k0/\k0<=9)(h1:0<=k1/\k1<=9)(h2:0<=k2/\k2<=9)(h3:0<=k3/\k3<=9):nS c0 c1 c2 c3 (1000*k0+100*k1+10*k2+k3)↔mt c0 k0/\mt c1 k1/\mt c2 k2/\mt c3 k3:=by
 grind [nS]
theorem abJ{c0:UInt8}{k:Int}(h:nS c0 c1 c2 c3 k):∃k0 k1 k2 k3:Int,(0<=k0/\k0<=9)/\(0<=k1/\k1<=9)/\(0<=k2/\k2<=9)/\(0<=k3/\k3<=9)/\k=1000*k0+100*k1+10*k2+k3/\mt c0 k0/\mt c1 k1/\mt c2 k2/\mt c3 k3:=by
 obtain⟨h1,h2,h3⟩:=h;exact⟨k/1000,k/100%10,k/10%10,k%10,by omega,by omega,by omega,by omega,by omega,h3⟩
def fC(c:UInt8):Bool:=Nat.beq c.toNat 88 || (Nat.ble 48 c.toNat&&Nat.ble c.toNat 57)
theorem dD{c:UInt8}:fC c=true↔c.toNat=88\/48<=c.toNat/\c.toNat<=57:=by
 unfold fC;simp
def za(x:Option Int):Bool:=x.isSome
def kp(x:Option Int):Int:=x.getD 0
def Et(x:Option Int):Tr AV:=.d0 (za x) λb=>bif b then .a0 (.c [(kp x),.a .i64 0])else .a0 (.c [.a .i64 0,.a .i64 16])
theorem PG{c0:UInt8}(hn:0<=n/\n<=9999)(hc0:c0.toNat=88\/48<=c0.toNat/\c0.toNat<=57)(hc1:c1.toNat=88\/48<=c1.toNat/\c1.toNat<=57)(hc2:c2.toNat=88\/48<=c2.toNat/\c2.toNat<=57)(hc3:c3.toNat=88\/48<=c3.toNat/\c3.toNat<=57){v:AV}(hv:(Et (c_ c0 c1 c2 c3 n)).b0=some v):bu Tryz.prog cfg 219 [.f [c0,c1,c2,c3],n,true] [] v []:=by
 obtain⟨d0,d1,d2,d3⟩:=Yj hn.1;have hv':Tr.b0 (bif za (c_ c0 c1 c2 c3 n)then .a0 (.c [(kp (c_ c0 c1 c2 c3 n)),.a .i64 0])else .a0 (.c [.a .i64 0,.a .i64 16]))=some v:=hv;have ids:aC v=[]:=by
  cases hb:za (c_ c0 c1 c2 c3 n)<;>rw[hb]at hv'<;>cases hv'<;>simp[aC,bw]
 have g0:0<=dg n 0/\dg n 0<=9:=δ
 have g1:0<=dg n 1/\dg n 1<=9:=δ
 have g2:0<=dg n 2/\dg n 2<=9:=δ
 have g3:0<=dg n 3/\dg n 3<=9:=δ
 have hn2:n=1000*dg n 0+100*dg n 1+10*dg n 2+dg n 3:=δ
 refine jD L0 ai (bE 10662088127000663551001200200066300062000620006254702002251202200066300062000625470200225127000663000625470200225400515564030202002200224062088127000661070056646355100122020006610202005664630006200062547020022512700066107005664630006254702002254005106620881270006635510012202000663630006200062547020022512700066363000625470200220588540051556403020200220022455403020200220022406208812700066107005664612022000661002200566400064635510012700066107005664612022000661002200566400064630006254702002254005106620881270006635510012022000663000626300062547020022058851270006630006254702002254005155640302020022002240620881270006610700566463551001270006610700566463630006254702002205885400510662088127000663551001270006636363000625470200220588058854005155640302020022002245540302020022002245540302020022002240620881270006610700566461202200066100220056640006461220200066102020056646120020006610002005664000640006463551004005106620881270006635510008851202200066300062000625470200225127000663000625470200225400515564030202002200224062088127000661070056646355100088512700066107005664630006254702002254005106620881270006635510008851270006636300062547020022058854005155640302020022002245540302020022002240620881270006610700566461202200066100220056640006463551000885400510662088127000663551000880588512700066300062547020022540051556403020200220022406208812700066107005664635510008805885400510662088127000663551000880588058854005155640302020022002245540302020022002245540302020022002245540302020022002246662200) (R:=λQ=>(λ(I:AV)(P T U V u2 u5 ug uF:Int)=>(λ(B C F W Z u0 u3 u4 u7 u8 u9 un uo up ur ux uz uG uH uJ uK:Bool)(u6 um uq:Int)(uy uI:Prop)=>(λ(A H Y ua uh ui uA uB:Bool)(E G O ub uc ud uj us ut uu uL:Prop)=>(λ(N u1 ue uk ul uv uw uC uM uN uO uP uQ uR:Prop)=>(λ(uf uD uE uS uT uU:Prop)=>(λ(v5:Prop->Prop->Prop)=>(λ(v4:Prop->Prop)=>(λ(v3:Prop->Prop)=>(λ(v2:Prop->Prop)=>(λ(v1:Prop->Prop)=>(λ(v0:Prop->Prop)=>(λ(uZ:Prop->Prop)=>(λ(uY:Prop->Prop)=>(λ(uX:Prop->Prop)=>(λ(uW:Prop->Prop)=>(λ(uV:Prop->Prop)=>ab 0 n/\ab n 9999/\(ua->v5 ua (ub/\(uG->(Y->v4 ((ux->(H->uY ((un->(A->uV (ud->(u7->v5 E uD)/\ue))/\uf)/\(us->(uo->uD)/\uv)))/\(N->uZ ((A->uV (ud->(u7->uX (ut->uD))/\ue))/\uf)))/\(uL->(uz->uC)/\uM)))/\(u1->v3 ((H->uY ((un->(A->uV (ud->(u7->v0 uE)/\ue))/\uf)/\(us->(uo->v1 (v1 (uT/\uE)))/\uv)))/\(N->uZ ((A->uV (ud->(u7->uX (ut->v1 (v1 (uO/\uE))))/\ue))/\uf)))))/\(uG=false->(uK->uy)/\(uK=false->ub/\(C->(F->(Z->u8/\Q (.c [(db u2 48 48 48),I]))/\(O->u8/\W/\Q (.c [(db u2 48 48 P),I])))/\(E->(Z->u8/\u0/\Q (.c [(db u2 48 T 48),I]))/\(O->u8/\u0/\W/\Q (.c [(db u2 48 T P),I]))))/\(G->(F->(Z->u8/\u3/\Q (.c [(db u2 V 48 48),I]))/\(O->u8/\u3/\W/\Q (.c [(db u2 V 48 P),I])))/\(E->(Z->u8/\u3/\u0/\Q (.c [(db u2 V T 48),I]))/\(O->u8/\u3/\u0/\W/\Q (.c [(db u2 V T P),I]))))))))/\(ul->v5 ul (B/\(Y->v4 ((ux->(H->uY ((un->(A->uV (ud->(u7->v5 E (uW ((u9->uh/\G/\E/\O/\uP)/\uj)))/\ue))/\uf)/\(us->(uo->uW ((u9->uh/\G/\E/\uU)/\uj))/\uv)))/\(N->uZ ((A->uV (ud->(u7->uX (ut->uW ((u9->uh/\G/\F/\O/\uQ)/\uj)))/\ue))/\uf)))/\(uL->(uz->v2 (v2 ((u9->uh/\G/\(F->(Z->ui/\u3/\Q (.c [(db u6 V 48 48),I]))/\(O->uQ))/\(E->uU))/\uj)))/\uM)))/\(u1->v3 ((H->uY ((un->(A->uV (ud->(u7->v0 (uu->v2 (v2 ((u9->uh/\C/\E/\O/\uR)/\uj))))/\ue))/\uf)/\(us->(uo->v1 (v1 (uT/\(uu->v2 (v2 ((u9->uh/\C/\E/\(Z->ui/\u0/\Q (.c [(db u6 48 T 48),I]))/\(O->uR))/\uj))))))/\uv)))/\(N->uZ ((A->uV (ud->(u7->uX (ut->v1 (v1 (uO/\(uu->v2 (v2 ((u9->uh/\C/\F/\O/\ui/\W/\Q (.c [(db u6 48 48 P),I]))/\uj)))))))/\ue))/\uf))))))) (λv6=>v5 A (O/\uc/\v6))) (λv6=>v5 G (v2 (v2 v6)))) (λv6=>v5 F (uw/\v6))) (λv6=>v5 H (E/\v6))) (λv6=>v5 N (F/\v6))) (λv6=>v5 E (v1 (v1 (uS/\v6))))) (λv6=>C/\C/\C/\v6)) (λv6=>B/\B/\B/\v6)) (λv6=>v5 u1 (C/\v6))) (λv6=>v5 Y (G/\v6))) (λv6 v7=>v6/\v6/\v6/\v6/\v6/\v6/\v7)) (uk->uk/\uk/\uk/\uk/\uk/\uk/\Z/\uI) (G/\G/\G/\G/\G/\G/\uC) (uu->uC) (ur->uA/\E/\O/\uN) (ur->uA/\E/\(Z->u4/\uB/\u0/\Q (.c [(db U um T 48),I]))/\(O->uN)) ((Z->ui/\u3/\u0/\Q (.c [(db u6 V T 48),I]))/\(O->uP))) (H=false) (Y=false) (u7=false->O/\u4/\up/\and (ab 48 ug) (ab ug 57)/\W/\Q (.c [(db U u5 ug P),I])) (A=false) (ua=false) (uo=false->E/\(Z->u4/\up/\u0/\Q (.c [(db U u5 T 48),I]))/\(O->u4/\up/\u0/\W/\Q (.c [(db U u5 T P),I]))) (uJ->af .u8 uq/\O/\u4/\up/\and (ab 48 uq) (ab uq 57)/\W/\Q (.c [(db U u5 uq P),I])) (ub/\ub/\ub/\ub/\ub/\ub/\uy) (uz=false->G/\(F->(Z->u4/\u3/\Q (.c [(db U V 48 48),I]))/\(O->u4/\u3/\W/\Q (.c [(db U V 48 P),I])))/\(E->(Z->u4/\u3/\u0/\Q (.c [(db U V T 48),I]))/\(O->u4/\u3/\u0/\W/\Q (.c [(db U V T P),I])))) (u4/\uB/\u0/\W/\Q (.c [(db U um T P),I])) (ur->uA/\F/\O/\u4/\uB/\W/\Q (.c [(db U um 48 P),I])) (ui/\u3/\u0/\W/\Q (.c [(db u6 V T P),I])) (ui/\u3/\W/\Q (.c [(db u6 V 48 P),I])) (ui/\u0/\W/\Q (.c [(db u6 48 T P),I]))) (not Z) (not F) (not C) (not B) (af .u8 u6) (and (ab 48 u6) (ab u6 57)) (af .u8 um) (and (ab 48 um) (ab um 57)) (F=false) (C=false) (Z=false) (B=false) (uH->uI) (uH=false) (u9=false->uy) (un=false) (uJ=false) (ur=false) (ux=false)) (aa u2 88) (aa V 88) (aa T 88) (and (ab 48 P) (ab P 57)) (aa P 88) (and (ab 48 T) (ab T 57)) (and (ab 48 V) (ab V 57)) (and (ab 48 U) (ab U 57)) (not (bQ (not (ab P uF)) true)) (and (ab 48 u2) (ab u2 57)) (not (aa U 57)) (aa T ug) (not (bQ (not (ab T ug)) true)) (and (ab 48 u5) (ab u5 57)) (not (aa u5 57)) (aa V u5) (not (bQ (not (ab V u5)) true)) (aa u2 U) (aa P uF) (not (aa ug 57)) (not (bQ (not (ab u2 U)) true)) (ο U 1) (ο u5 1) (ο ug 1) (Q (.c [I,.a .i64 16])) (Q (.c [n,I]))) (.a .i64 0) (ξ c3.toNat) (ξ c2.toNat) (ο 48 (dg n 0)) (ξ c1.toNat) (ξ c0.toNat) (ο 48 (dg n 1)) (ο 48 (dg n 2)) (ο 48 (dg n 3))) (λ_=>by kernel_rfl) (hi:=ids) λQ' hQ=>?_;try dsimp only
 have yes:∀u,c_ c0 c1 c2 c3 n=some u->Q' (.c [u,.a .i64 0]):=λu hu=>by
  rw[hu]at hv';cases hv';exact hQ _ rfl
 have no:c_ c0 c1 c2 c3 n=none->Q' (.c [.a .i64 0,.a .i64 16]):=λhu=>by
  rw[hu]at hv';cases hv';grind
 generalize dg n 0=e0 at *;generalize dg n 1=e1 at *;generalize dg n 2=e2 at *;generalize dg n 3=e3 at *;clear d0 d1 d2 d3 hv hv' hQ ids;have all:∀(a b c d:Int),(48<=a/\a<=57)->(48<=b/\b<=57)->(48<=c/\c<=57)->(48<=d/\d<=57)->(c0.toNat=88\/(c0.toNat:Int)=a)->(c1.toNat=88\/(c1.toNat:Int)=b)->(c2.toNat=88\/(c2.toNat:Int)=c)->(c3.toNat=88\/(c3.toNat:Int)=d)->
  1000*e0+100*e1+10*e2+e3<=1000*(a-48)+100*(b-48)+10*(c-48)+(d-48)->
  (∀k0 k1 k2 k3:Int,(0<=k0/\k0<=9)->(0<=k1/\k1<=9)->(0<=k2/\k2<=9)->(0<=k3/\k3<=9)->(c0.toNat=88\/(c0.toNat:Int)=48+k0)->(c1.toNat=88\/(c1.toNat:Int)=48+k1)->(c2.toNat=88\/(c2.toNat:Int)=48+k2)->(c3.toNat=88\/(c3.toNat:Int)=48+k3)->
    1000*e0+100*e1+10*e2+e3<=1000*k0+100*k1+10*k2+k3->1000*(a-48)+100*(b-48)+10*(c-48)+(d-48)<=1000*k0+100*k1+10*k2+k3)->Q' (.c [(db a b c d),.a .i64 0]):=by
  intro a b c d ha hb hc hd m0 m1 m2 m3 hle hmin;refine yes _ (gF.2 ⟨?_,?_,λk hk hnk=>?_⟩)
  . unfold db;rw[pw δ δ δ δ];unfold mt;exact⟨by omega,by omega,by omega,by omega⟩
  . unfold db;omega
  . obtain⟨k0,k1,k2,k3,a1,a2,a3,a4,rfl,b1,b2,b3,b4⟩:=abJ hk;unfold db;exact hmin k0 k1 k2 k3 a1 a2 a3 a4 b1 b2 b3 b4 δ
 have same:(c0.toNat=88\/(c0.toNat:Int)=48+e0)->(c1.toNat=88\/(c1.toNat:Int)=48+e1)->(c2.toNat=88\/(c2.toNat:Int)=48+e2)->(c3.toNat=88\/(c3.toNat:Int)=48+e3)->Q' (.c [n,.a .i64 0]):=λm0 m1 m2 m3=>by
  refine yes _ (gF.2 ⟨?_,Int.le_refl _,λk hk hnk=>hnk⟩);rw[hn2,pw g0 g1 g2 g3];exact⟨m0,m1,m2,m3⟩
 have non:(∀k0 k1 k2 k3:Int,(0<=k0/\k0<=9)->(0<=k1/\k1<=9)->(0<=k2/\k2<=9)->(0<=k3/\k3<=9)->(c0.toNat=88\/(c0.toNat:Int)=48+k0)->(c1.toNat=88\/(c1.toNat:Int)=48+k1)->(c2.toNat=88\/(c2.toNat:Int)=48+k2)->(c3.toNat=88\/(c3.toNat:Int)=48+k3)->
       1000*k0+100*k1+10*k2+k3<1000*e0+100*e1+10*e2+e3)->Q' (.c [.a .i64 0,.a .i64 16]):=λh=>by
  refine no (nJ.2 λk hk=>?_);obtain⟨k0,k1,k2,k3,a1,a2,a3,a4,rfl,b1,b2,b3,b4⟩:=abJ hk;have:=h k0 k1 k2 k3 a1 a2 a3 a4 b1 b2 b3 b4;omega
 clear yes no;simp only[az,reduceCtorEq]
 (repeat' first|exact trivial|refine⟨?_,?_⟩|intro)<;>first|omega|(refine same ?_ ?_ ?_ ?_<;>omega)|(refine all _ _ _ _ ?_ ?_ ?_ ?_ ?_ ?_ ?_ ?_ ?_ ?_<;>(intros;omega))|(refine non ?_;intros;omega)
end Go.Ev
end
