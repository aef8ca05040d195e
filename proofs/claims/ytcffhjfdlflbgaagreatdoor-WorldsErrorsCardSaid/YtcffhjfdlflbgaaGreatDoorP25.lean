import Derived.Test.YtcffhjfdlflbgaaGreatDoorP24
set_option linter.all false
open Int renaming ofNat->ν
open Bool renaming true_and->ξ,and_true->ο
open List renaming not_mem_nil->π
open HAdd renaming hAdd->ς
open HMul renaming hMul->σ
set_option linter.all false
set_option maxRecDepth 100000
set_option maxHeartbeats 4000000
namespace Go.Ev
open Go Go.Proofs
variable{n k nM:Nat}
noncomputable def Z1:aQ:=eQ (aK T9 203 SF) 250 (fl 14 [] Ta)
theorem q_:ak Tryz.prog cfg Z1:=Sk (Sh tV)
def iL(w:List AV)(i:Nat):Int:=dx (w.getD i (.d []))
def ki(d0 d1:UInt8)(y m:Int):List Int:=ay d0 d1 (bP y m).toNat
def dU(y m:Int):List Int->List AV
 | []=>[]
 | d::ds=>.a .i64 y::.a .i64 m::.a .i64 d::dU y m ds
def Tm(n:Nat):AV:=match n with
 | 0=>.f
 | k+1=>.c 16 0 (k+1) (.b 0)
def g9(n:Nat)(cs:List AV)(mb b0:cD):aB:=match n with
 | 0=>⟨2,[mb,b0],[]⟩
 | _+1=>⟨3,[.a cs true (some 3),mb,b0],[]⟩
def iw(cs:List AV):Bool:=(bw cs).isEmpty
def Zs(y:Int)(nM:Nat)(i:Int)(mb b0:cD)(m:Int)(D:List Int):Tr (AX×List AV×aB):=.a0 (.b 2,[.a .i64 y,.h 14 0,Tm D.length,.c 15 0 nM (.b 0),.a .i64 i,.a .i64 (bP y m+1)],g9 D.length (dU y m D) mb b0)
def zH(n k:Nat):AV:=match k with
 | 0=>.c 16 0 n (.b 0)
 | k+1=>.c 17 0 (n+(k+1)) (.b 0)
def zL(k:Nat)(cs cs':List AV)(mb b0:cD):aB:=match k with
 | 0=>⟨3,[.a cs true (some 3),mb,b0],[]⟩
 | _+1=>⟨4,[.a cs' true (some 3),.b,mb,b0],[]⟩
def Yn(y:Int)(nM:Nat)(i:Int)(n:Nat)(cs:List AV)(mb b0:cD)(m:Int)(D:List Int):Tr (AX×List AV×aB):=.a0 (.b 2,[.a .i64 y,.h 14 0,zH n D.length,.c 15 0 nM (.b 0),.a .i64 i,.a .i64 (bP y m+1)],zL D.length cs (cs++dU y m D) mb b0)
def Lp:dW:=λ
 | [.a .i64 y,.h 14 0,.f,.c 15 0 nM (.b 0),.a .i64 i,.a .i64 d],⟨2,[.a w true (some 1),.a [.b ng,.b lg,.e s,.a .i64 e,.a .i64 g,.e mo,.e [d0,d1],.a .u8 a,.a .u8 b,.a .u8 c] true none],[]⟩=>
   some (aH [aa d 1,ab 0 i,aS i.toNat nM,Nat.ble nM 1000,ab1 y,fC d0,fC d1,eB .i64 (w.getD i.toNat (.d [])),iw w] (Zs y nM i (.a w true (some 1)) (bB ng lg s e g mo [d0,d1] a b c) (iL w i.toNat) (ki d0 d1 y (iL w i.toNat))))
 | [.a .i64 y,.h 14 0,.c 16 0 n (.b 0),.c 15 0 nM (.b 0),.a .i64 i,.a .i64 d],⟨3,[.a cs true (some 3),.a w true (some 1),.a [.b ng,.b lg,.e s,.a .i64 e,.a .i64 g,.e mo,.e [d0,d1],.a .u8 a,.a .u8 b,.a .u8 c] true none],[]⟩=>
   some (aH [aa d 1,ab 0 i,aS i.toNat nM,Nat.ble nM 1000,ab1 y,fC d0,fC d1,eB .i64 (w.getD i.toNat (.d [])),iw w,Nat.beq cs.length (n*3),aS 0 n,Nat.ble n 40000,iw cs] (Yn y nM i n cs (.a w true (some 1)) (bB ng lg s e g mo [d0,d1] a b c) (iL w i.toNat) (ki d0 d1 y (iL w i.toNat))))
 | _,_=>none
def W9:cx:=iz jE 2 (d9 55 [1,2,5,6,7,8] Lp)
theorem Py(ng lg:Bool)(s:List UInt8)(e g:Int)(mo da:List UInt8)(a b c y d:Int)(w cs:List AV)(nM i n:Nat)(J:Nat->Value){Q:VQ->Prop}:gG Q (rT Z1 jE [] 185 1 55 [1,2,5,6,7,8] [.a .i64 y,.h 14 0,.c 16 0 n (.b 0),.c 15 0 nM (.b 0),.a .i64 (ν i),.a .i64 d] J ⟨3,[.a cs true (some 3),.a w true (some 1),bB ng lg s e g mo da a b c],[]⟩) (bE 1112112452022042200420420)=((λ(U V:cD)(A B E H T:AV)(I O:Bool)(C:fg)(P:Int)(N:Nat)=>(λ(G Z u1:AV)(F W Y:Bool)(u0:List AV)=>aS i nM/\(F->af .i64 y/\(W->ab 0 d/\ab d 99/\(I->aS i nM/\F/\and (and (Nat.ble N 1000000) true) true/\(O->Y/\Q (.a,[A,B,.c 18 0 N C,G,E,Z],⟨5,[.a (cs++u0) true (some 3),.a u0 true none,cD.b,U,V],[]⟩))/\(O=false->False))/\(I=false->Y/\Q (.a,[A,B,u1,G,E,Z],⟨3,[.a cs true (some 3),U,V],[]⟩)))/\(W=false->Q (.b 2,[A,B,u1,G,E,T],⟨3,[.a cs true (some 3),U,V],[]⟩)))/\(F=false->False)) (.c 15 0 nM C) (.a .i64 P) (.c 16 0 n C) (eB .i64 H) (ab d (bP y (dx H))) (af .i64 P) [A,.a .i64 (dx H),T]) (.a w true (some 1)) (.a [.b ng,.b lg,.e s,.a .i64 e,.a .i64 g,.e mo,.e da,.a .u8 a,.a .u8 b,.a .u8 c] true none) (.a .i64 y) (.h 14 0) (.a .i64 (ν i)) (List.getD w (ς 0 (σ i 1)) (.d [])) (.a .i64 d) (aa (cond (agr da d) 1 0) 1) (and true (Nat.beq cs.length (σ n 3))) (fg.b 0) (Int.add d 1) (ς n 1)):=κ
theorem ag3:((bz (lb 185 0)).getD 0 (0,.skip)).2=lb 185 1:=κ
theorem IT:(bz (lb 185 0)).map (·.1)=[2]:=κ
theorem DE:(bz (aL 185)).map (·.1)=[0,2]:=κ
theorem Hm:aY tab 185=some (dH 185,aL 185):=κ
theorem gj{cs:List AV}:iw cs=true↔bw cs=[]:=by grind [iw]
theorem aar:∀{a b:List AV},bw (a++b)=bw a++bw b
 | [],b=>rfl
 | x::a,b=>by simp only[List.cons_append,bw,aar (a:=a) (b:=b),List.append_assoc]
theorem oK{y m:Int}:∀{D:List Int},bw (dU y m D)=[]
 | []=>rfl
 | d::ds=>by simp only[dU,bw,aC,List.nil_append];exact oK
theorem yA{y m:Int}:∀{a b:List Int},dU y m (a++b)=dU y m a++dU y m b
 | [],b=>rfl
 | x::a,b=>by simp only[List.cons_append,dU,yA (a:=a) (b:=b)]
theorem sB{y m:Int}:∀{D:List Int},(dU y m D).length=D.length*3
 | []=>rfl
 | d::ds=>by simp only[dU,zAd,sB (D:=ds)];omega
theorem fZ(h:0<n):Tm n=.c 16 0 n (.b 0):=by cases n with|zero=>omega|succ k=>rfl
theorem Tv(h:0<n){cs:List AV}{mb b0:cD}:g9 n cs mb b0=⟨3,[.a cs true (some 3),mb,b0],[]⟩:=by cases n with|zero=>omega|succ k=>rfl
theorem E9{cs:List AV}{mb b0:cD}:2<=(g9 n cs mb b0).n:=by
 cases n with
 | zero=>exact Nat.le_refl _
 | succ k=>exact Nat.le_succ _
theorem Sg{cs cs':List AV}{mb b0:cD}:3<=(zL k cs cs' mb b0).n:=by
 cases k with
 | zero=>exact Nat.le_refl _
 | succ k=>exact Nat.le_succ _
theorem LQ{Q:VQ->Prop}{ng lg:Bool}{s:List UInt8}{e g:Int}{mo:List UInt8}{d0 d1:UInt8}{a b c y:Int}{w:List AV}{i:Nat}{J:Nat->Value}(hy : -10000000000000000<=y/\y<=10000000000000000)(hi:i<nM)(hM:nM<=1000)(hk:eB .i64 (w.getD i (.d [])))(hw:iw w)
 (hq:Q (.b 2,[.a .i64 y,.h 14 0,Tm (ki d0 d1 y (iL w i)).length,.c 15 0 nM (.b 0),.a .i64 (ν i),.a .i64 (bP y (iL w i)+1)],g9 (ki d0 d1 y (iL w i)).length (dU y (iL w i) (ki d0 d1 y (iL w i))) (.a w true (some 1)) (bB ng lg s e g mo [d0,d1] a b c))) :
 bN Tryz.prog (cH cfg Z1) (Cw cfg []) (.loop (lb 185 1)) (tr 55 [1,2,5,6,7,8] [.a .i64 y,.h 14 0,.f,.c 15 0 nM (.b 0),.a .i64 (ν i),.a .i64 (1)] J ⟨2,[.a w true (some 1),bB ng lg s e g mo [d0,d1] a b c],[]⟩) λr=>∃ax vs' o' J',Q (ax,vs',o')/\r=(ax,tr 55 [1,2,5,6,7,8] vs' J' o'):=by
 have hml:=mr y (iL w i);refine ia q_ rfl rfl ai (ι:={j:Nat // j<=(bP y (iL w i)).toNat}) (λx=>[.a .i64 y,.h 14 0,Tm (ay d0 d1 x.1).length,.c 15 0 nM (.b 0),.a .i64 (ν i),.a .i64 ((x.1:Int)+1)]) (λx=>g9 (ay d0 d1 x.1).length (dU y (iL w i) (ay d0 d1 x.1)) (.a w true (some 1)) (bB ng lg s e g mo [d0,d1] a b c)) (λx=>(bP y (iL w i)).toNat-x.1) 2 (λx=>E9) (λx J=>?_) (Nat.le_refl _) (λJ=>Wk.a0 ⟨⟨0,Nat.zero_le _⟩,J,rfl⟩) J;obtain⟨j,hj⟩:=x;dsimp only;have hlen:=eV d0 d1 j;have hs:=aam d0 d1 j;have wl:cR (14+2) (.a w true (some 1)):=aO (gj.1 hw);have bl:cR (14+2) (bB ng lg s e g mo [d0,d1] a b c):=aO κ;have fin:bP y (iL w i)<(j:Int)+1->∃vs2 o2,VW cfg (Cw cfg []) 2 55 [1,2,5,6,7,8] [.a .i64 y,.h 14 0,Tm (ay d0 d1 j).length,.c 15 0 nM (.b 0),.a .i64 (ν i),.a .i64 ((j:Int)+1)] (g9 (ay d0 d1 j).length (dU y (iL w i) (ay d0 d1 j)) (.a w true (some 1)) (bB ng lg s e g mo [d0,d1] a b c)) vs2 o2/\Q (.b 2,vs2,o2):=λh=>by
  have e:j=(bP y (iL w i)).toNat:=δ
  have e2:(j:Int)+1=bP y (iL w i)+1:=δ
  rw[e2];subst e;exact⟨_,_,VW.a0,hq⟩
 have hi0:0+i*1=i:=δ
 have hA:iL w i=dx (w.getD i (.d [])):=rfl;have go:(j:Int)+1<=bP y (iL w i)->∀vs o,VW cfg (Cw cfg []) 2 55 [1,2,5,6,7,8] vs o [.a .i64 y,.h 14 0,Tm (ay d0 d1 (j+1)).length,.c 15 0 nM (.b 0),.a .i64 (ν i),.a .i64 ((j:Int)+1+1)] (g9 (ay d0 d1 (j+1)).length (dU y (iL w i) (ay d0 d1 (j+1))) (.a w true (some 1)) (bB ng lg s e g mo [d0,d1] a b c))->∃x:{j:Nat // j<=(bP y (iL w i)).toNat},(bP y (iL w i)).toNat-x.1<(bP y (iL w i)).toNat-j/\VW cfg (Cw cfg []) 2 55 [1,2,5,6,7,8] vs o [.a .i64 y,.h 14 0,Tm (ay d0 d1 x.1).length,.c 15 0 nM (.b 0),.a .i64 (ν i),.a .i64 ((x.1:Int)+1)] (g9 (ay d0 d1 x.1).length (dU y (iL w i) (ay d0 d1 x.1)) (.a w true (some 1)) (bB ng lg s e g mo [d0,d1] a b c)):=λhle vs o hv=>⟨⟨j+1,by omega⟩,by grind,hv⟩;have hids:bw (dU y (iL w i) (ay d0 d1 j))=[]:=by exact oK
 have hlenc:(dU y (iL w i) (ay d0 d1 j)).length=((ay d0 d1 j).length)*3:=by rw[sB]
 clear hq;by_cases hD:ay d0 d1 j=[]
 . . rw[hD]at fin ⊢
     refine jJ (bE 1112120522042200420420) (R:=λQ=>(λ(O P:cD)(A B C E G N:AV)(H:Bool)(I:Int)=>(λ(V:AV)(F T U:Bool)(W:List AV)=>aS i nM/\(F->af .i64 y/\(T->ab 0 ((j:Int)+1)/\ab ((j:Int)+1) 99/\(H->aS i nM/\F/\U/\Q (.a,[A,B,.c 17 0 1 (fg.b 0),C,E,V],⟨4,[.a W true (some 3),.a W true none,O,P],[]⟩))/\(H=false->U/\Q (.a,[A,B,.f,C,E,V],⟨2,[O,P],[]⟩)))/\(T=false->Q (.b 2,[A,B,.f,C,E,N],⟨2,[O,P],[]⟩)))/\(F=false->False)) (.a .i64 I) (eB .i64 G) (ab ((j:Int)+1) (bP y (dx G))) (af .i64 I) [A,.a .i64 (dx G),N]) (.a w true (some 1)) (.a [.b ng,.b lg,.e s,.a .i64 e,.a .i64 g,.e mo,.e [d0,d1],.a .u8 a,.a .u8 b,.a .u8 c] true none) (.a .i64 y) (.h 14 0) (.c 15 0 nM (fg.b 0)) (.a .i64 (ν i)) (List.getD w (ς 0 (σ i 1)) (.d [])) (.a .i64 ((j:Int)+1)) (aa (cond (agr [d0,d1] ((j:Int)+1)) 1 0) 1) (Int.add ((j:Int)+1) 1)) (λ_=>by rfl) λQ' hQ=>?_;try dsimp only
     have fin2:bP y (iL w i)<(j:Int)+1->Q' (.b 2,[.a .i64 y,.h 14 0,.f,.c 15 0 nM (.b 0),.a .i64 (ν i),.a .i64 ((j:Int)+1)],⟨2,[.a w true (some 1),bB ng lg s e g mo [d0,d1] a b c],[]⟩):=λh=>hQ _ (fin h);cases ha:agr [d0,d1] ((j:Int)+1)with
     | true=>
       rw[ha]at hs;have hs:ay d0 d1 (j+1)=ay d0 d1 j++[(j:Int)+1]:=hs;have go2:(j:Int)+1<=bP y (iL w i)->Q' (.a,[.a .i64 y,.h 14 0,.c 17 0 1 (.b 0),.c 15 0 nM (.b 0),.a .i64 (ν i),.a .i64 ((j:Int)+1+1)],⟨4,[.a [.a .i64 y,.a .i64 (iL w i),.a .i64 ((j:Int)+1)] true (some 3),.a [.a .i64 y,.a .i64 (iL w i),.a .i64 ((j:Int)+1)] true none,.a w true (some 1),bB ng lg s e g mo [d0,d1] a b c],[]⟩):=λh=>hQ (.a,_,_) (go h _ _ (by
        rw[hs,hD];exact fx (x:=.a [.a .i64 y,.a .i64 (iL w i),.a .i64 ((j:Int)+1)] true (some 3)) (mid:=[.a [.a .i64 y,.a .i64 (iL w i),.a .i64 ((j:Int)+1)] true none]) (B:=[.a w true (some 1),bB ng lg s e g mo [d0,d1] a b c]) (k:=1) (kb:=2) (n:=4) rfl rfl rfl (λz hz=>by
         grind) (aO rfl) rfl))
       simp_all [az];omega
     | false=>
       rw[ha]at hs;have hs:ay d0 d1 (j+1)=ay d0 d1 j:=by rw[hs];simp
       have go2:(j:Int)+1<=bP y (iL w i)->Q' (.a,[.a .i64 y,.h 14 0,.f,.c 15 0 nM (.b 0),.a .i64 (ν i),.a .i64 ((j:Int)+1+1)],⟨2,[.a w true (some 1),bB ng lg s e g mo [d0,d1] a b c],[]⟩):=λh=>hQ (.a,_,_) (go h _ _ (by
        rw[hs,hD];exact VW.a0))
       clear hQ go fin hs hids;rw[hi0,hk,<-hA];try simp only[zAj]
       clear hA hk;generalize iL w i=m at *;simp only[az,reduceCtorEq];try simp only[ξ,ο,aJ,b9,al]
       (repeat' first|exact trivial|refine⟨?_,?_⟩|intro)<;>first|contradiction|omega|assumption|exact go2 (by assumption)|exact fin2 δ|(exfalso;simp_all;done)|(exfalso;simp_all;omega)
 . . have hpos:0<(ay d0 d1 j).length:=List.length_pos_iff.2 hD
     clear hD;have hD:True:=trivial;rw[fZ hpos,Tv hpos]at fin;rw[fZ hpos,Tv hpos];refine bb λQ' hQ=>cg ((Py ng lg s e g mo [d0,d1] a b c y ((j:Int)+1) w (dU y (iL w i) (ay d0 d1 j)) nM i (ay d0 d1 j).length J).mpr ?_);dsimp only;have fin2:bP y (iL w i)<(j:Int)+1->Q' (.b 2,[.a .i64 y,.h 14 0,.c 16 0 (ay d0 d1 j).length (.b 0),.c 15 0 nM (.b 0),.a .i64 (ν i),.a .i64 ((j:Int)+1)],⟨3,[.a (dU y (iL w i) (ay d0 d1 j)) true (some 3),.a w true (some 1),bB ng lg s e g mo [d0,d1] a b c],[]⟩):=λh=>hQ _ (fin h);cases ha:agr [d0,d1] ((j:Int)+1)with
     | true=>
       rw[ha]at hs;have hs:ay d0 d1 (j+1)=ay d0 d1 j++[(j:Int)+1]:=hs;have go2:(j:Int)+1<=bP y (iL w i)->Q' (.a,[.a .i64 y,.h 14 0,.c 18 0 ((ay d0 d1 j).length+1) (.b 0),.c 15 0 nM (.b 0),.a .i64 (ν i),.a .i64 ((j:Int)+1+1)],⟨5,[.a (dU y (iL w i) (ay d0 d1 j)++[.a .i64 y,.a .i64 (iL w i),.a .i64 ((j:Int)+1)]) true (some 3),.a [.a .i64 y,.a .i64 (iL w i),.a .i64 ((j:Int)+1)] true none,.b,.a w true (some 1),bB ng lg s e g mo [d0,d1] a b c],[]⟩):=λh=>hQ (.a,_,_) (go h _ _ (by
        rw[hs,zAe,yA];exact fx (tn:=55) (rel:=[1,2,5,6,7,8]) (vs:=[.a .i64 y,.h 14 0,.c 18 0 ((ay d0 d1 j).length+1) (.b 0),.c 15 0 nM (.b 0),.a .i64 (ν i),.a .i64 ((j:Int)+1+1)]) (vs':=[.a .i64 y,.h 14 0,.c 16 0 ((ay d0 d1 j).length+1) (.b 0),.c 15 0 nM (.b 0),.a .i64 (ν i),.a .i64 ((j:Int)+1+1)]) (x:=.a (dU y (iL w i) (ay d0 d1 j)++[.a .i64 y,.a .i64 (iL w i),.a .i64 ((j:Int)+1)]) true (some 3)) (mid:=[.a [.a .i64 y,.a .i64 (iL w i),.a .i64 ((j:Int)+1)] true none,.b]) (B:=[.a w true (some 1),bB ng lg s e g mo [d0,d1] a b c]) (k:=2) (kb:=2) (n:=5) rfl rfl rfl (λz hz=>by
         simp only[List.mem_cons,π,or_false]at hz;rcases hz with rfl|rfl
         . exact wl
         . exact bl) (aO (by rw[aar,hids];rfl)) rfl))
       clear hQ go fin hs hids;rw[hi0,hk,<-hA];try simp only[zAj]
       clear hA hk;generalize iL w i=m at *;generalize dU y m (ay d0 d1 j)=C at *;generalize (ay d0 d1 j).length=N at *;simp only[az,reduceCtorEq];try simp only[ξ,ο,aJ,b9,al]
       (repeat' first|exact trivial|refine⟨?_,?_⟩|intro)<;>first|contradiction|omega|assumption|exact go2 (by assumption)|exact fin2 δ|(exfalso;simp_all;done)|(exfalso;simp_all;omega)
     | false=>
       rw[ha]at hs;have hs:ay d0 d1 (j+1)=ay d0 d1 j:=by rw[hs];simp
       have go2:(j:Int)+1<=bP y (iL w i)->Q' (.a,[.a .i64 y,.h 14 0,.c 16 0 (ay d0 d1 j).length (.b 0),.c 15 0 nM (.b 0),.a .i64 (ν i),.a .i64 ((j:Int)+1+1)],⟨3,[.a (dU y (iL w i) (ay d0 d1 j)) true (some 3),.a w true (some 1),bB ng lg s e g mo [d0,d1] a b c],[]⟩):=λh=>hQ (.a,_,_) (go h _ _ (by
        rw[hs,fZ hpos,Tv hpos];exact VW.a0))
       clear hQ go fin hs hids;rw[hi0,hk,<-hA];try simp only[zAj]
       clear hA hk;generalize iL w i=m at *;generalize dU y m (ay d0 d1 j)=C at *;generalize (ay d0 d1 j).length=N at *;simp only[az,reduceCtorEq];try simp only[ξ,ο,aJ,b9,al]
       (repeat' first|exact trivial|refine⟨?_,?_⟩|intro)<;>first|contradiction|omega|assumption|exact go2 (by assumption)|exact fin2 δ|(exfalso;simp_all;done)|(exfalso;simp_all;omega)
theorem ac1(h:0<k):zH n k=.c 17 0 (n+k) (.b 0):=by cases k with|zero=>omega|succ k=>rfl
theorem zp(h:0<k){cs cs':List AV}{mb b0:cD}:zL k cs cs' mb b0=⟨4,[.a cs' true (some 3),.b,mb,b0],[]⟩:=by cases k with|zero=>omega|succ k=>rfl
theorem Ko{Q:VQ->Prop}{ng lg:Bool}{s:List UInt8}{e g:Int}{mo:List UInt8}{d0 d1:UInt8}{a b c y:Int}{w cs:List AV}{i:Nat}{J:Nat->Value}(hy : -10000000000000000<=y/\y<=10000000000000000)(hi:i<nM)(hM:nM<=1000)(hk:eB .i64 (w.getD i (.d [])))(hw:iw w)(hc:cs.length=n*3)(hn:n<=40000)(hcs:iw cs)
 (hq:Q (.b 2,[.a .i64 y,.h 14 0,zH n (ki d0 d1 y (iL w i)).length,.c 15 0 nM (.b 0),.a .i64 (ν i),.a .i64 (bP y (iL w i)+1)],zL (ki d0 d1 y (iL w i)).length cs (cs++dU y (iL w i) (ki d0 d1 y (iL w i))) (.a w true (some 1)) (bB ng lg s e g mo [d0,d1] a b c))) :
 bN Tryz.prog (cH cfg Z1) (Cw cfg []) (.loop (lb 185 1)) (tr 55 [1,2,5,6,7,8] [.a .i64 y,.h 14 0,.c 16 0 n (.b 0),.c 15 0 nM (.b 0),.a .i64 (ν i),.a .i64 (1)] J ⟨3,[.a cs true (some 3),.a w true (some 1),bB ng lg s e g mo [d0,d1] a b c],[]⟩) λr=>∃ax vs' o' J',Q (ax,vs',o')/\r=(ax,tr 55 [1,2,5,6,7,8] vs' J' o'):=by
 have hml:=mr y (iL w i);refine ia q_ rfl rfl ai (ι:={j:Nat // j<=(bP y (iL w i)).toNat}) (λx=>[.a .i64 y,.h 14 0,zH n (ay d0 d1 x.1).length,.c 15 0 nM (.b 0),.a .i64 (ν i),.a .i64 ((x.1:Int)+1)]) (λx=>zL (ay d0 d1 x.1).length cs (cs++dU y (iL w i) (ay d0 d1 x.1)) (.a w true (some 1)) (bB ng lg s e g mo [d0,d1] a b c)) (λx=>(bP y (iL w i)).toNat-x.1) 3 (λx=>Sg) (λx J=>?_) (Nat.le_refl _) (λJ=>Wk.a0 ⟨⟨0,Nat.zero_le _⟩,J,rfl⟩) J;obtain⟨j,hj⟩:=x;dsimp only;have hlen:=eV d0 d1 j;have hs:=aam d0 d1 j;have wl:cR (14+3) (.a w true (some 1)):=aO (gj.1 hw);have bl:cR (14+3) (bB ng lg s e g mo [d0,d1] a b c):=aO (by simp[bw,aC]);have fin:bP y (iL w i)<(j:Int)+1->∃vs2 o2,VW cfg (Cw cfg []) 3 55 [1,2,5,6,7,8] [.a .i64 y,.h 14 0,zH n (ay d0 d1 j).length,.c 15 0 nM (.b 0),.a .i64 (ν i),.a .i64 ((j:Int)+1)] (zL (ay d0 d1 j).length cs (cs++dU y (iL w i) (ay d0 d1 j)) (.a w true (some 1)) (bB ng lg s e g mo [d0,d1] a b c)) vs2 o2/\Q (.b 2,vs2,o2):=λh=>by
  have e:j=(bP y (iL w i)).toNat:=δ
  have e2:(j:Int)+1=bP y (iL w i)+1:=δ
  rw[e2];subst e;exact⟨_,_,VW.a0,hq⟩
 have hi0:0+i*1=i:=δ
 have hA:iL w i=dx (w.getD i (.d [])):=rfl;have go:(j:Int)+1<=bP y (iL w i)->∀vs o,VW cfg (Cw cfg []) 3 55 [1,2,5,6,7,8] vs o [.a .i64 y,.h 14 0,zH n (ay d0 d1 (j+1)).length,.c 15 0 nM (.b 0),.a .i64 (ν i),.a .i64 ((j:Int)+1+1)] (zL (ay d0 d1 (j+1)).length cs (cs++dU y (iL w i) (ay d0 d1 (j+1))) (.a w true (some 1)) (bB ng lg s e g mo [d0,d1] a b c))->∃x:{j:Nat // j<=(bP y (iL w i)).toNat},(bP y (iL w i)).toNat-x.1<(bP y (iL w i)).toNat-j/\VW cfg (Cw cfg []) 3 55 [1,2,5,6,7,8] vs o [.a .i64 y,.h 14 0,zH n (ay d0 d1 x.1).length,.c 15 0 nM (.b 0),.a .i64 (ν i),.a .i64 ((x.1:Int)+1)] (zL (ay d0 d1 x.1).length cs (cs++dU y (iL w i) (ay d0 d1 x.1)) (.a w true (some 1)) (bB ng lg s e g mo [d0,d1] a b c)):=λhle vs o hv=>⟨⟨j+1,by omega⟩,by dsimp only;omega,hv⟩;have hids:bw (cs++dU y (iL w i) (ay d0 d1 j))=[]:=by rw[aar,gj.1 hcs,oK];rfl
 have hids0:bw cs=[]:=gj.1 hcs;have hlenc:(cs++dU y (iL w i) (ay d0 d1 j)).length=(n+(ay d0 d1 j).length)*3:=by rw[zAe,hc,sB];omega
 clear hq;by_cases hD:ay d0 d1 j=[]
 . rw[hD]at fin ⊢;refine bb λQ' hQ=>cg ((Py ng lg s e g mo [d0,d1] a b c y ((j:Int)+1) w cs nM i n J).mpr ?_);dsimp only;have fin2:bP y (iL w i)<(j:Int)+1->Q' (.b 2,[.a .i64 y,.h 14 0,.c 16 0 n (.b 0),.c 15 0 nM (.b 0),.a .i64 (ν i),.a .i64 ((j:Int)+1)],⟨3,[.a cs true (some 3),.a w true (some 1),bB ng lg s e g mo [d0,d1] a b c],[]⟩):=λh=>hQ _ (fin h);cases ha:agr [d0,d1] ((j:Int)+1)with
   | true=>
     rw[ha]at hs;have hs:ay d0 d1 (j+1)=ay d0 d1 j++[(j:Int)+1]:=hs;have go2:(j:Int)+1<=bP y (iL w i)->Q' (.a,[.a .i64 y,.h 14 0,.c 18 0 (n+1) (.b 0),.c 15 0 nM (.b 0),.a .i64 (ν i),.a .i64 ((j:Int)+1+1)],⟨5,[.a (cs++[.a .i64 y,.a .i64 (iL w i),.a .i64 ((j:Int)+1)]) true (some 3),.a [.a .i64 y,.a .i64 (iL w i),.a .i64 ((j:Int)+1)] true none,.b,.a w true (some 1),bB ng lg s e g mo [d0,d1] a b c],[]⟩):=λh=>hQ (.a,_,_) (go h _ _ (by
      rw[hs,hD];exact fx (tn:=55) (rel:=[1,2,5,6,7,8]) (vs:=[.a .i64 y,.h 14 0,.c 18 0 (n+1) (.b 0),.c 15 0 nM (.b 0),.a .i64 (ν i),.a .i64 ((j:Int)+1+1)]) (vs':=[.a .i64 y,.h 14 0,.c 17 0 (n+1) (.b 0),.c 15 0 nM (.b 0),.a .i64 (ν i),.a .i64 ((j:Int)+1+1)]) (x:=.a (cs++[.a .i64 y,.a .i64 (iL w i),.a .i64 ((j:Int)+1)]) true (some 3)) (mid:=[.a [.a .i64 y,.a .i64 (iL w i),.a .i64 ((j:Int)+1)] true none]) (B:=[.b,.a w true (some 1),bB ng lg s e g mo [d0,d1] a b c]) (k:=1) (kb:=3) (n:=5) rfl rfl rfl (λz hz=>by
       simp only[List.mem_cons,π,or_false]at hz;rcases hz with rfl|rfl|rfl
       . exact⟨rfl,λi hi=>by cases hi⟩
       . exact wl
       . exact bl) (aO (by rw[aar,hids0];rfl)) rfl))
     clear hQ go fin hs hids;rw[hi0,hk,<-hA];try simp only[zAj]
     clear hA hk;generalize iL w i=m at *;simp only[az,reduceCtorEq];try simp only[ξ,ο,aJ,b9,al]
     (repeat' first|exact trivial|refine⟨?_,?_⟩|intro)<;>first|contradiction|omega|assumption|exact go2 (by assumption)|exact fin2 δ|(exfalso;simp_all;done)|(exfalso;simp_all;omega)
   | false=>
     rw[ha]at hs;have hs:ay d0 d1 (j+1)=ay d0 d1 j:=by rw[hs];simp
     have go2:(j:Int)+1<=bP y (iL w i)->Q' (.a,[.a .i64 y,.h 14 0,.c 16 0 n (.b 0),.c 15 0 nM (.b 0),.a .i64 (ν i),.a .i64 ((j:Int)+1+1)],⟨3,[.a cs true (some 3),.a w true (some 1),bB ng lg s e g mo [d0,d1] a b c],[]⟩):=λh=>hQ (.a,_,_) (go h _ _ (by
      rw[hs,hD];exact VW.a0))
     clear hQ go fin hs hids;rw[hi0,hk,<-hA];try simp only[zAj]
     clear hA hk;generalize iL w i=m at *;simp only[az,reduceCtorEq];try simp only[ξ,ο,aJ,b9,al]
     (repeat' first|exact trivial|refine⟨?_,?_⟩|intro)<;>first|contradiction|omega|assumption|exact go2 (by assumption)|exact fin2 δ|(exfalso;simp_all;done)|(exfalso;simp_all;omega)
 . have hpos:0<(ay d0 d1 j).length:=List.length_pos_iff.2 hD;clear hD;rw[ac1 hpos,zp hpos]at fin;rw[ac1 hpos,zp hpos];refine jJ (bE 1112112452022042200420420) (R:=λQ=>(λ(U V:cD)(A B E H T:AV)(I O:Bool)(C:fg)(P:Int)(N:Nat)=>(λ(G Z u1:AV)(F W Y:Bool)(u0:List AV)=>aS i nM/\(F->af .i64 y/\(W->ab 0 ((j:Int)+1)/\ab ((j:Int)+1) 99/\(I->aS i nM/\F/\and (and (Nat.ble N 1000000) true) true/\(O->Y/\Q (.a,[A,B,.c 19 0 N C,G,E,Z],⟨6,[.a ((cs++dU y (iL w i) (ay d0 d1 j))++u0) true (some 3),.a u0 true none,cD.b,cD.b,U,V],[]⟩))/\(O=false->False))/\(I=false->Y/\Q (.a,[A,B,u1,G,E,Z],⟨4,[.a (cs++dU y (iL w i) (ay d0 d1 j)) true (some 3),cD.b,U,V],[]⟩)))/\(W=false->Q (.b 2,[A,B,u1,G,E,T],⟨4,[.a (cs++dU y (iL w i) (ay d0 d1 j)) true (some 3),cD.b,U,V],[]⟩)))/\(F=false->False)) (.c 15 0 nM C) (.a .i64 P) (.c 17 0 (n+(ay d0 d1 j).length) C) (eB .i64 H) (ab ((j:Int)+1) (bP y (dx H))) (af .i64 P) [A,.a .i64 (dx H),T]) (.a w true (some 1)) (.a [.b ng,.b lg,.e s,.a .i64 e,.a .i64 g,.e mo,.e [d0,d1],.a .u8 a,.a .u8 b,.a .u8 c] true none) (.a .i64 y) (.h 14 0) (.a .i64 (ν i)) (List.getD w (ς 0 (σ i 1)) (.d [])) (.a .i64 ((j:Int)+1)) (aa (cond (agr [d0,d1] ((j:Int)+1)) 1 0) 1) (and true (Nat.beq (cs++dU y (iL w i) (ay d0 d1 j)).length (σ (n+(ay d0 d1 j).length) 3))) (fg.b 0) (Int.add ((j:Int)+1) 1) (ς (n+(ay d0 d1 j).length) 1)) (λ_=>by kernel_rfl) λQ' hQ=>?_;try dsimp only
   have fin2:bP y (iL w i)<(j:Int)+1->Q' (.b 2,[.a .i64 y,.h 14 0,.c 17 0 (n+(ay d0 d1 j).length) (.b 0),.c 15 0 nM (.b 0),.a .i64 (ν i),.a .i64 ((j:Int)+1)],⟨4,[.a (cs++dU y (iL w i) (ay d0 d1 j)) true (some 3),.b,.a w true (some 1),bB ng lg s e g mo [d0,d1] a b c],[]⟩):=λh=>hQ _ (fin h);cases ha:agr [d0,d1] ((j:Int)+1)with
   | true=>
     rw[ha]at hs;have hs:ay d0 d1 (j+1)=ay d0 d1 j++[(j:Int)+1]:=hs;have go2:(j:Int)+1<=bP y (iL w i)->Q' (.a,[.a .i64 y,.h 14 0,.c 19 0 (n+(ay d0 d1 j).length+1) (.b 0),.c 15 0 nM (.b 0),.a .i64 (ν i),.a .i64 ((j:Int)+1+1)],⟨6,[.a (cs++dU y (iL w i) (ay d0 d1 j)++[.a .i64 y,.a .i64 (iL w i),.a .i64 ((j:Int)+1)]) true (some 3),.a [.a .i64 y,.a .i64 (iL w i),.a .i64 ((j:Int)+1)] true none,.b,.b,.a w true (some 1),bB ng lg s e g mo [d0,d1] a b c],[]⟩):=λh=>hQ (.a,_,_) (go h _ _ (by
      rw[hs,zAe,yA,<-List.append_assoc];exact fx (tn:=55) (rel:=[1,2,5,6,7,8]) (vs:=[.a .i64 y,.h 14 0,.c 19 0 (n+(ay d0 d1 j).length+1) (.b 0),.c 15 0 nM (.b 0),.a .i64 (ν i),.a .i64 ((j:Int)+1+1)]) (vs':=[.a .i64 y,.h 14 0,.c 17 0 (n+(ay d0 d1 j).length+1) (.b 0),.c 15 0 nM (.b 0),.a .i64 (ν i),.a .i64 ((j:Int)+1+1)]) (x:=.a (cs++dU y (iL w i) (ay d0 d1 j)++[.a .i64 y,.a .i64 (iL w i),.a .i64 ((j:Int)+1)]) true (some 3)) (mid:=[.a [.a .i64 y,.a .i64 (iL w i),.a .i64 ((j:Int)+1)] true none,.b]) (B:=[.b,.a w true (some 1),bB ng lg s e g mo [d0,d1] a b c]) (k:=2) (kb:=3) (n:=6) rfl rfl rfl (λz hz=>by
       simp only[List.mem_cons,π,or_false]at hz;rcases hz with rfl|rfl|rfl
       . exact⟨rfl,λi hi=>by cases hi⟩
       . exact wl
       . exact bl) (aO (by rw[aar,hids];rfl)) rfl))
     clear hQ go fin hs hids;rw[hi0,hk,<-hA];try simp only[zAj]
     clear hA hk;generalize iL w i=m at *;generalize cs++dU y m (ay d0 d1 j)=C at *;generalize (ay d0 d1 j).length=N at *;simp only[az,reduceCtorEq];try simp only[ξ,ο,aJ,b9,al]
     (repeat' first|exact trivial|refine⟨?_,?_⟩|intro)<;>first|contradiction|omega|assumption|exact go2 (by assumption)|exact fin2 δ|(exfalso;simp_all;done)|(exfalso;simp_all;omega)
   | false=>
     rw[ha]at hs;have hs:ay d0 d1 (j+1)=ay d0 d1 j:=by rw[hs];simp
     have go2:(j:Int)+1<=bP y (iL w i)->Q' (.a,[.a .i64 y,.h 14 0,.c 17 0 (n+(ay d0 d1 j).length) (.b 0),.c 15 0 nM (.b 0),.a .i64 (ν i),.a .i64 ((j:Int)+1+1)],⟨4,[.a (cs++dU y (iL w i) (ay d0 d1 j)) true (some 3),.b,.a w true (some 1),bB ng lg s e g mo [d0,d1] a b c],[]⟩):=λh=>hQ (.a,_,_) (go h _ _ (by
      rw[hs,ac1 hpos,zp hpos];exact VW.a0))
     clear hQ go fin hs hids;rw[hi0,hk,<-hA];try simp only[zAj]
     clear hA hk;generalize iL w i=m at *;generalize cs++dU y m (ay d0 d1 j)=C at *;generalize (ay d0 d1 j).length=N at *;simp only[az,reduceCtorEq];try simp only[ξ,ο,aJ,b9,al]
     (repeat' first|exact trivial|refine⟨?_,?_⟩|intro)<;>first|contradiction|omega|assumption|exact go2 (by assumption)|exact fin2 δ|(exfalso;simp_all;done)|(exfalso;simp_all;omega)
end Go.Ev
