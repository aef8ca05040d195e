import Derived.Test.YtoghlpcacfnjbaaGreatDoorP29
set_option linter.all false
set_option maxRecDepth 100000
set_option maxHeartbeats 4000000
namespace Go.Ev
open Go Go.Proofs
variable{cs:List AV}{n k nM:Nat}{b0:aE}
noncomputable def Z1:aR:=fw (aY T9 139 QY) 138 (fy 14 [] Pv)
theorem q6:ak Tryz.prog cfg Z1:=PV (Rp gi)
def cQ(w:List AV)(i:Nat):Int:=bC (w.getD i (.tuple []))
def j6(d0 d1:UInt8)(y m:Int):List Int:=aw d0 d1 (bP y m).toNat
def dU(y m:Int):List Int->List AV
 | []=>[]
 | d::ds=>.int .i64 y::.int .i64 m::.int .i64 d::dU y m ds
def e7(n:Nat):AV:=match n with
 | 0=>.nilslice
 | k+1=>.slice 16 0 (k+1) (.rest 0)
def gV(n:Nat)(cs:List AV)(mb b0:aE):aC:=match n with
 | 0=>⟨2,[mb,b0],[]⟩
 | _+1=>⟨3,[.cells cs true (some 3),mb,b0],[]⟩
def e_(cs:List AV):Bool:=(bz cs).isEmpty
def Ym(y:Int)(nM:Nat)(i:Int)(mb b0:aE)(m:Int)(D:List Int):Tr (AX×List AV×aC):=.ret (.exit 2,[.int .i64 y,.ptr 14 0,e7 D.length,.slice 15 0 nM (.rest 0),.int .i64 i,.int .i64 (bP y m+1)],gV D.length (dU y m D) mb b0)
def yS(n k:Nat):AV:=match k with
 | 0=>.slice 16 0 n (.rest 0)
 | k+1=>.slice 17 0 (n+(k+1)) (.rest 0)
def yZ(k:Nat)(cs cs':List AV)(mb b0:aE):aC:=match k with
 | 0=>⟨3,[.cells cs true (some 3),mb,b0],[]⟩
 | _+1=>⟨4,[.cells cs' true (some 3),.dead,mb,b0],[]⟩
def Xl(y:Int)(nM:Nat)(i:Int)(n:Nat)(cs:List AV)(mb b0:aE)(m:Int)(D:List Int):Tr (AX×List AV×aC):=.ret (.exit 2,[.int .i64 y,.ptr 14 0,yS n D.length,.slice 15 0 nM (.rest 0),.int .i64 i,.int .i64 (bP y m+1)],yZ D.length cs (cs++dU y m D) mb b0)
def K_:d9:=λvs o=>match vs,o with
 | [.int .i64 y,.ptr 14 0,.nilslice,.slice 15 0 nM (.rest 0),.int .i64 i,.int .i64 d],⟨2,[.cells w true (some 1),.cells [.bool ng,.bool lg,.str s,.int .i64 e,.int .i64 g,.str mo,.str [d0,d1],.int .u8 a,.int .u8 b,.int .u8 c] true none],[]⟩=>
   some (aH [aa d 1,ab 0 i,aW i.toNat nM,Nat.ble nM 1000,gh y,cg d0,cg d1,cq .i64 (w.getD i.toNat (.tuple [])),e_ w] (Ym y nM i (.cells w true (some 1)) (bx ng lg s e g mo [d0,d1] a b c) (cQ w i.toNat) (j6 d0 d1 y (cQ w i.toNat))))
 | [.int .i64 y,.ptr 14 0,.slice 16 0 n (.rest 0),.slice 15 0 nM (.rest 0),.int .i64 i,.int .i64 d],⟨3,[.cells cs true (some 3),.cells w true (some 1),.cells [.bool ng,.bool lg,.str s,.int .i64 e,.int .i64 g,.str mo,.str [d0,d1],.int .u8 a,.int .u8 b,.int .u8 c] true none],[]⟩=>
   some (aH [aa d 1,ab 0 i,aW i.toNat nM,Nat.ble nM 1000,gh y,cg d0,cg d1,cq .i64 (w.getD i.toNat (.tuple [])),e_ w,Nat.beq cs.length (n*3),aW 0 n,Nat.ble n 40000,e_ cs] (Xl y nM i n cs (.cells w true (some 1)) (bx ng lg s e g mo [d0,d1] a b c) (cQ w i.toNat) (j6 d0 d1 y (cQ w i.toNat))))
 | _,_=>none
def TY:cz:=iz io 2 (eb 55 [1,2,5,6,7,8] K_)
def Pc(ng lg:Bool)(s:List UInt8)(e g:Int)(mo da:List UInt8)(a b c y d:Int)(w cs:List AV)(nM i n:Nat)(J:Nat->Value){Q:VQ->Prop}:fx Q (rT Z1 io [] 93 1 55 [1,2,5,6,7,8] [.int .i64 y,.ptr 14 0,.slice 16 0 n (.rest 0),.slice 15 0 nM (.rest 0),.int .i64 (Int.ofNat i),.int .i64 d] J ⟨3,[.cells cs true (some 3),.cells w true (some 1),bx ng lg s e g mo da a b c],[]⟩) (bA 1112112452022042200420420)=((λ(U V:aE)(A B E H T:AV)(I O:Bool)(C:eZ)(P:Int)(N:Nat)=>(λ(G Z u1:AV)(F W Y:Bool)(u0:List AV)=>aW i nM/\(F->ae .i64 y/\(W->ab 0 d/\ab d 99/\(I->aW i nM/\F/\and (and (Nat.ble N 1000000) true) true/\(O->Y/\Q (.normal,[A,B,.slice 18 0 N C,G,E,Z],⟨5,[.cells (cs++u0) true (some 3),.cells u0 true none,aE.dead,U,V],[]⟩))/\(O=false->False))/\(I=false->Y/\Q (.normal,[A,B,u1,G,E,Z],⟨3,[.cells cs true (some 3),U,V],[]⟩)))/\(W=false->Q (.exit 2,[A,B,u1,G,E,T],⟨3,[.cells cs true (some 3),U,V],[]⟩)))/\(F=false->False)) (.slice 15 0 nM C) (.int .i64 P) (.slice 16 0 n C) (cq .i64 H) (ab d (bP y (bC H))) (ae .i64 P) [A,.int .i64 (bC H),T]) (.cells w true (some 1)) (.cells [.bool ng,.bool lg,.str s,.int .i64 e,.int .i64 g,.str mo,.str da,.int .u8 a,.int .u8 b,.int .u8 c] true none) (.int .i64 y) (.ptr 14 0) (.int .i64 (Int.ofNat i)) (List.getD w (HAdd.hAdd 0 (HMul.hMul i 1)) (.tuple [])) (.int .i64 d) (aa (cond (agr da d) 1 0) 1) (and true (Nat.beq cs.length (HMul.hMul n 3))) (eZ.rest 0) (Int.add d 1) (HAdd.hAdd n 1)):=by kernel_rfl
def Jp:((bj (lb 93 0)).getD 0 (0,.skip)).2=lb 93 1:=by kernel_rfl
def G4:(bj (lb 93 0)).map (·.1)=[2]:=by kernel_rfl
def BS:(bj (aN 93)).map (·.1)=[0,2]:=by kernel_rfl
def FU:bh tab 93=some (dC 93,aN 93):=by kernel_rfl
theorem fY:e_ cs=true↔bz cs=[]:=by unfold e_;exact List.isEmpty_iff
theorem gu:∀{a b:List AV},bz (a++b)=bz a++bz b
 | [],b=>rfl
 | x::a,b=>by simp only[List.cons_append,bz,gu (a:=a) (b:=b),List.append_assoc]
theorem nU{y m:Int}:∀{D:List Int},bz (dU y m D)=[]
 | []=>rfl
 | d::ds=>by simp only[dU,bz,aD,List.nil_append];exact nU
theorem xW{y m:Int}:∀{a b:List Int},dU y m (a++b)=dU y m a++dU y m b
 | [],b=>rfl
 | x::a,b=>by simp only[List.cons_append,dU,xW (a:=a) (b:=b)]
theorem qQ{y m:Int}:∀{D:List Int},(dU y m D).length=D.length*3
 | []=>rfl
 | d::ds=>by simp only[dU,zAd,qQ (D:=ds)];omega
theorem fQ(h:0<n):e7 n=.slice 16 0 n (.rest 0):=by cases n with|zero=>omega|succ k=>rfl
theorem fT(h:0<n){mb:aE}:gV n cs mb b0=⟨3,[.cells cs true (some 3),mb,b0],[]⟩:=by cases n with|zero=>omega|succ k=>rfl
theorem DW{mb:aE}:2<=(gV n cs mb b0).n:=by
 cases n with
 | zero=>exact Nat.le_refl _
 | succ k=>exact Nat.le_succ _
theorem PD{cs':List AV}{mb:aE}:3<=(yZ k cs cs' mb b0).n:=by
 cases k with
 | zero=>exact Nat.le_refl _
 | succ k=>exact Nat.le_succ _
theorem I6{Q:VQ->Prop}{ng lg:Bool}{s:List UInt8}{e g:Int}{mo:List UInt8}{d0 d1:UInt8}{a b c y:Int}{w:List AV}{i:Nat}{J:Nat->Value}(hy : -10000000000000000<=y/\y<=10000000000000000)(hi:i<nM)(hM:nM<=1000)(hk:cq .i64 (w.getD i (.tuple [])))(hw:e_ w)
 (hq:Q (.exit 2,[.int .i64 y,.ptr 14 0,e7 (j6 d0 d1 y (cQ w i)).length,.slice 15 0 nM (.rest 0),.int .i64 (Int.ofNat i),.int .i64 (bP y (cQ w i)+1)],gV (j6 d0 d1 y (cQ w i)).length (dU y (cQ w i) (j6 d0 d1 y (cQ w i))) (.cells w true (some 1)) (bx ng lg s e g mo [d0,d1] a b c))) :
 bO Tryz.prog (cH cfg Z1) (Cw cfg []) (.loop (lb 93 1)) (sX 55 [1,2,5,6,7,8] [.int .i64 y,.ptr 14 0,.nilslice,.slice 15 0 nM (.rest 0),.int .i64 (Int.ofNat i),.int .i64 (1)] J ⟨2,[.cells w true (some 1),bx ng lg s e g mo [d0,d1] a b c],[]⟩) λr=>∃ax vs' o' J',Q (ax,vs',o')/\r=(ax,sX 55 [1,2,5,6,7,8] vs' J' o'):=by
 have hml:=jl y (cQ w i);refine im q6 rfl rfl ag (ι:={j:Nat // j<=(bP y (cQ w i)).toNat}) (λx=>[.int .i64 y,.ptr 14 0,e7 (aw d0 d1 x.1).length,.slice 15 0 nM (.rest 0),.int .i64 (Int.ofNat i),.int .i64 ((x.1:Int)+1)]) (λx=>gV (aw d0 d1 x.1).length (dU y (cQ w i) (aw d0 d1 x.1)) (.cells w true (some 1)) (bx ng lg s e g mo [d0,d1] a b c)) (λx=>(bP y (cQ w i)).toNat-x.1) 2 (λx=>DW) (λx J=>?_) (Nat.le_refl _) (λJ=>Wk.refl ⟨⟨0,Nat.zero_le _⟩,J,rfl⟩) J;obtain⟨j,hj⟩:=x;dsimp only;have hlen:=eU d0 d1 j;have hs:=fW d0 d1 j;have wl:cR (14+2) (.cells w true (some 1)):=aO (fY.1 hw);have bl:cR (14+2) (bx ng lg s e g mo [d0,d1] a b c):=aO (by simp[bz,aD]);have fin:bP y (cQ w i)<(j:Int)+1->∃vs2 o2,VW cfg (Cw cfg []) 2 55 [1,2,5,6,7,8] [.int .i64 y,.ptr 14 0,e7 (aw d0 d1 j).length,.slice 15 0 nM (.rest 0),.int .i64 (Int.ofNat i),.int .i64 ((j:Int)+1)] (gV (aw d0 d1 j).length (dU y (cQ w i) (aw d0 d1 j)) (.cells w true (some 1)) (bx ng lg s e g mo [d0,d1] a b c)) vs2 o2/\Q (.exit 2,vs2,o2):=λh=>by
  have e:j=(bP y (cQ w i)).toNat:=by omega
  have e2:(j:Int)+1=bP y (cQ w i)+1:=by omega
  rw[e2];subst e;exact⟨_,_,VW.refl,hq⟩
 have hi0:0+i*1=i:=by omega
 have hA:cQ w i=bC (w.getD i (.tuple [])):=rfl;have go:(j:Int)+1<=bP y (cQ w i)->∀vs o,VW cfg (Cw cfg []) 2 55 [1,2,5,6,7,8] vs o [.int .i64 y,.ptr 14 0,e7 (aw d0 d1 (j+1)).length,.slice 15 0 nM (.rest 0),.int .i64 (Int.ofNat i),.int .i64 ((j:Int)+1+1)] (gV (aw d0 d1 (j+1)).length (dU y (cQ w i) (aw d0 d1 (j+1))) (.cells w true (some 1)) (bx ng lg s e g mo [d0,d1] a b c))->∃x:{j:Nat // j<=(bP y (cQ w i)).toNat},(bP y (cQ w i)).toNat-x.1<(bP y (cQ w i)).toNat-j/\VW cfg (Cw cfg []) 2 55 [1,2,5,6,7,8] vs o [.int .i64 y,.ptr 14 0,e7 (aw d0 d1 x.1).length,.slice 15 0 nM (.rest 0),.int .i64 (Int.ofNat i),.int .i64 ((x.1:Int)+1)] (gV (aw d0 d1 x.1).length (dU y (cQ w i) (aw d0 d1 x.1)) (.cells w true (some 1)) (bx ng lg s e g mo [d0,d1] a b c)):=λhle vs o hv=>⟨⟨j+1,by omega⟩,by dsimp only;omega,hv⟩;have hids:bz (dU y (cQ w i) (aw d0 d1 j))=[]:=by exact nU
 have hlenc:(dU y (cQ w i) (aw d0 d1 j)).length=((aw d0 d1 j).length)*3:=by rw[qQ]
 clear hq;by_cases hD:aw d0 d1 j=[]
 . . rw[hD]at fin ⊢
     refine jT (bA 1112120522042200420420) (R:=λQ=>(λ(O P:aE)(A B C E G N:AV)(H:Bool)(I:Int)=>(λ(V:AV)(F T U:Bool)(W:List AV)=>aW i nM/\(F->ae .i64 y/\(T->ab 0 ((j:Int)+1)/\ab ((j:Int)+1) 99/\(H->aW i nM/\F/\U/\Q (.normal,[A,B,.slice 17 0 1 (eZ.rest 0),C,E,V],⟨4,[.cells W true (some 3),.cells W true none,O,P],[]⟩))/\(H=false->U/\Q (.normal,[A,B,.nilslice,C,E,V],⟨2,[O,P],[]⟩)))/\(T=false->Q (.exit 2,[A,B,.nilslice,C,E,N],⟨2,[O,P],[]⟩)))/\(F=false->False)) (.int .i64 I) (cq .i64 G) (ab ((j:Int)+1) (bP y (bC G))) (ae .i64 I) [A,.int .i64 (bC G),N]) (.cells w true (some 1)) (.cells [.bool ng,.bool lg,.str s,.int .i64 e,.int .i64 g,.str mo,.str [d0,d1],.int .u8 a,.int .u8 b,.int .u8 c] true none) (.int .i64 y) (.ptr 14 0) (.slice 15 0 nM (eZ.rest 0)) (.int .i64 (Int.ofNat i)) (List.getD w (HAdd.hAdd 0 (HMul.hMul i 1)) (.tuple [])) (.int .i64 ((j:Int)+1)) (aa (cond (agr [d0,d1] ((j:Int)+1)) 1 0) 1) (Int.add ((j:Int)+1) 1)) (λ_=>by kernel_rfl) λQ' hQ=>?_;try dsimp only
     have fin2:bP y (cQ w i)<(j:Int)+1->Q' (.exit 2,[.int .i64 y,.ptr 14 0,.nilslice,.slice 15 0 nM (.rest 0),.int .i64 (Int.ofNat i),.int .i64 ((j:Int)+1)],⟨2,[.cells w true (some 1),bx ng lg s e g mo [d0,d1] a b c],[]⟩):=λh=>hQ _ (fin h);cases ha:agr [d0,d1] ((j:Int)+1)with
     | true=>
       rw[ha]at hs;have hs:aw d0 d1 (j+1)=aw d0 d1 j++[(j:Int)+1]:=hs;have go2:(j:Int)+1<=bP y (cQ w i)->Q' (.normal,[.int .i64 y,.ptr 14 0,.slice 17 0 1 (.rest 0),.slice 15 0 nM (.rest 0),.int .i64 (Int.ofNat i),.int .i64 ((j:Int)+1+1)],⟨4,[.cells [.int .i64 y,.int .i64 (cQ w i),.int .i64 ((j:Int)+1)] true (some 3),.cells [.int .i64 y,.int .i64 (cQ w i),.int .i64 ((j:Int)+1)] true none,.cells w true (some 1),bx ng lg s e g mo [d0,d1] a b c],[]⟩):=λh=>hQ (.normal,_,_) (go h _ _ (by
        rw[hs,hD];exact fu (x:=.cells [.int .i64 y,.int .i64 (cQ w i),.int .i64 ((j:Int)+1)] true (some 3)) (mid:=[.cells [.int .i64 y,.int .i64 (cQ w i),.int .i64 ((j:Int)+1)] true none]) (B:=[.cells w true (some 1),bx ng lg s e g mo [d0,d1] a b c]) (k:=1) (kb:=2) (n:=4) rfl rfl rfl (λz hz=>by
         simp only[List.mem_cons,List.not_mem_nil,or_false]at hz;rcases hz with rfl|rfl
         . exact wl
         . exact bl) (aO rfl) rfl))
       clear hQ go fin hs hids;rw[hi0,hk,<-hA];try simp only[zAj]
       clear hA hk;generalize cQ w i=m at *;simp only[az,reduceCtorEq];try simp only[Bool.true_and,Bool.and_true,aK,cr,aq]
       (repeat' first|exact trivial|refine⟨?_,?_⟩|intro)<;>first|contradiction|omega|assumption|exact go2 (by assumption)|exact fin2 (by omega)|(exfalso;simp_all;done)|(exfalso;simp_all;omega)
     | false=>
       rw[ha]at hs;have hs:aw d0 d1 (j+1)=aw d0 d1 j:=by rw[hs];simp
       have go2:(j:Int)+1<=bP y (cQ w i)->Q' (.normal,[.int .i64 y,.ptr 14 0,.nilslice,.slice 15 0 nM (.rest 0),.int .i64 (Int.ofNat i),.int .i64 ((j:Int)+1+1)],⟨2,[.cells w true (some 1),bx ng lg s e g mo [d0,d1] a b c],[]⟩):=λh=>hQ (.normal,_,_) (go h _ _ (by
        rw[hs,hD];exact VW.refl))
       clear hQ go fin hs hids;rw[hi0,hk,<-hA];try simp only[zAj]
       clear hA hk;generalize cQ w i=m at *;simp only[az,reduceCtorEq];try simp only[Bool.true_and,Bool.and_true,aK,cr,aq]
       (repeat' first|exact trivial|refine⟨?_,?_⟩|intro)<;>first|contradiction|omega|assumption|exact go2 (by assumption)|exact fin2 (by omega)|(exfalso;simp_all;done)|(exfalso;simp_all;omega)
 . . have hpos:0<(aw d0 d1 j).length:=List.length_pos_iff.2 hD
     clear hD;have hD:True:=trivial;rw[fQ hpos,fT hpos]at fin;rw[fQ hpos,fT hpos];refine dD λQ' hQ=>bG ((Pc ng lg s e g mo [d0,d1] a b c y ((j:Int)+1) w (dU y (cQ w i) (aw d0 d1 j)) nM i (aw d0 d1 j).length J).mpr ?_);dsimp only;have fin2:bP y (cQ w i)<(j:Int)+1->Q' (.exit 2,[.int .i64 y,.ptr 14 0,.slice 16 0 (aw d0 d1 j).length (.rest 0),.slice 15 0 nM (.rest 0),.int .i64 (Int.ofNat i),.int .i64 ((j:Int)+1)],⟨3,[.cells (dU y (cQ w i) (aw d0 d1 j)) true (some 3),.cells w true (some 1),bx ng lg s e g mo [d0,d1] a b c],[]⟩):=λh=>hQ _ (fin h);cases ha:agr [d0,d1] ((j:Int)+1)with
     | true=>
       rw[ha]at hs;have hs:aw d0 d1 (j+1)=aw d0 d1 j++[(j:Int)+1]:=hs;have go2:(j:Int)+1<=bP y (cQ w i)->Q' (.normal,[.int .i64 y,.ptr 14 0,.slice 18 0 ((aw d0 d1 j).length+1) (.rest 0),.slice 15 0 nM (.rest 0),.int .i64 (Int.ofNat i),.int .i64 ((j:Int)+1+1)],⟨5,[.cells (dU y (cQ w i) (aw d0 d1 j)++[.int .i64 y,.int .i64 (cQ w i),.int .i64 ((j:Int)+1)]) true (some 3),.cells [.int .i64 y,.int .i64 (cQ w i),.int .i64 ((j:Int)+1)] true none,.dead,.cells w true (some 1),bx ng lg s e g mo [d0,d1] a b c],[]⟩):=λh=>hQ (.normal,_,_) (go h _ _ (by
        rw[hs,zAg,xW];exact fu (tn:=55) (rel:=[1,2,5,6,7,8]) (vs:=[.int .i64 y,.ptr 14 0,.slice 18 0 ((aw d0 d1 j).length+1) (.rest 0),.slice 15 0 nM (.rest 0),.int .i64 (Int.ofNat i),.int .i64 ((j:Int)+1+1)]) (vs':=[.int .i64 y,.ptr 14 0,.slice 16 0 ((aw d0 d1 j).length+1) (.rest 0),.slice 15 0 nM (.rest 0),.int .i64 (Int.ofNat i),.int .i64 ((j:Int)+1+1)]) (x:=.cells (dU y (cQ w i) (aw d0 d1 j)++[.int .i64 y,.int .i64 (cQ w i),.int .i64 ((j:Int)+1)]) true (some 3)) (mid:=[.cells [.int .i64 y,.int .i64 (cQ w i),.int .i64 ((j:Int)+1)] true none,.dead]) (B:=[.cells w true (some 1),bx ng lg s e g mo [d0,d1] a b c]) (k:=2) (kb:=2) (n:=5) rfl rfl rfl (λz hz=>by
         simp only[List.mem_cons,List.not_mem_nil,or_false]at hz;rcases hz with rfl|rfl
         . exact wl
         . exact bl) (aO (by rw[gu,hids];rfl)) rfl))
       clear hQ go fin hs hids;rw[hi0,hk,<-hA];try simp only[zAj]
       clear hA hk;generalize cQ w i=m at *;generalize dU y m (aw d0 d1 j)=C at *;generalize (aw d0 d1 j).length=N at *;simp only[az,reduceCtorEq];try simp only[Bool.true_and,Bool.and_true,aK,cr,aq]
       (repeat' first|exact trivial|refine⟨?_,?_⟩|intro)<;>first|contradiction|omega|assumption|exact go2 (by assumption)|exact fin2 (by omega)|(exfalso;simp_all;done)|(exfalso;simp_all;omega)
     | false=>
       rw[ha]at hs;have hs:aw d0 d1 (j+1)=aw d0 d1 j:=by rw[hs];simp
       have go2:(j:Int)+1<=bP y (cQ w i)->Q' (.normal,[.int .i64 y,.ptr 14 0,.slice 16 0 (aw d0 d1 j).length (.rest 0),.slice 15 0 nM (.rest 0),.int .i64 (Int.ofNat i),.int .i64 ((j:Int)+1+1)],⟨3,[.cells (dU y (cQ w i) (aw d0 d1 j)) true (some 3),.cells w true (some 1),bx ng lg s e g mo [d0,d1] a b c],[]⟩):=λh=>hQ (.normal,_,_) (go h _ _ (by
        rw[hs,fQ hpos,fT hpos];exact VW.refl))
       clear hQ go fin hs hids;rw[hi0,hk,<-hA];try simp only[zAj]
       clear hA hk;generalize cQ w i=m at *;generalize dU y m (aw d0 d1 j)=C at *;generalize (aw d0 d1 j).length=N at *;simp only[az,reduceCtorEq];try simp only[Bool.true_and,Bool.and_true,aK,cr,aq]
       (repeat' first|exact trivial|refine⟨?_,?_⟩|intro)<;>first|contradiction|omega|assumption|exact go2 (by assumption)|exact fin2 (by omega)|(exfalso;simp_all;done)|(exfalso;simp_all;omega)
theorem wL(h:0<k):yS n k=.slice 17 0 (n+k) (.rest 0):=by cases k with|zero=>omega|succ k=>rfl
theorem wz(h:0<k){cs':List AV}{mb:aE}:yZ k cs cs' mb b0=⟨4,[.cells cs' true (some 3),.dead,mb,b0],[]⟩:=by cases k with|zero=>omega|succ k=>rfl
theorem LP{Q:VQ->Prop}{ng lg:Bool}{s:List UInt8}{e g:Int}{mo:List UInt8}{d0 d1:UInt8}{a b c y:Int}{w:List AV}{i:Nat}{J:Nat->Value}(hy : -10000000000000000<=y/\y<=10000000000000000)(hi:i<nM)(hM:nM<=1000)(hk:cq .i64 (w.getD i (.tuple [])))(hw:e_ w)(hc:cs.length=n*3)(hn:n<=40000)(hcs:e_ cs)
 (hq:Q (.exit 2,[.int .i64 y,.ptr 14 0,yS n (j6 d0 d1 y (cQ w i)).length,.slice 15 0 nM (.rest 0),.int .i64 (Int.ofNat i),.int .i64 (bP y (cQ w i)+1)],yZ (j6 d0 d1 y (cQ w i)).length cs (cs++dU y (cQ w i) (j6 d0 d1 y (cQ w i))) (.cells w true (some 1)) (bx ng lg s e g mo [d0,d1] a b c))) :
 bO Tryz.prog (cH cfg Z1) (Cw cfg []) (.loop (lb 93 1)) (sX 55 [1,2,5,6,7,8] [.int .i64 y,.ptr 14 0,.slice 16 0 n (.rest 0),.slice 15 0 nM (.rest 0),.int .i64 (Int.ofNat i),.int .i64 (1)] J ⟨3,[.cells cs true (some 3),.cells w true (some 1),bx ng lg s e g mo [d0,d1] a b c],[]⟩) λr=>∃ax vs' o' J',Q (ax,vs',o')/\r=(ax,sX 55 [1,2,5,6,7,8] vs' J' o'):=by
 have hml:=jl y (cQ w i);refine im q6 rfl rfl ag (ι:={j:Nat // j<=(bP y (cQ w i)).toNat}) (λx=>[.int .i64 y,.ptr 14 0,yS n (aw d0 d1 x.1).length,.slice 15 0 nM (.rest 0),.int .i64 (Int.ofNat i),.int .i64 ((x.1:Int)+1)]) (λx=>yZ (aw d0 d1 x.1).length cs (cs++dU y (cQ w i) (aw d0 d1 x.1)) (.cells w true (some 1)) (bx ng lg s e g mo [d0,d1] a b c)) (λx=>(bP y (cQ w i)).toNat-x.1) 3 (λx=>PD) (λx J=>?_) (Nat.le_refl _) (λJ=>Wk.refl ⟨⟨0,Nat.zero_le _⟩,J,rfl⟩) J;obtain⟨j,hj⟩:=x;dsimp only;have hlen:=eU d0 d1 j;have hs:=fW d0 d1 j;have wl:cR (14+3) (.cells w true (some 1)):=aO (fY.1 hw);have bl:cR (14+3) (bx ng lg s e g mo [d0,d1] a b c):=aO (by simp[bz,aD]);have fin:bP y (cQ w i)<(j:Int)+1->∃vs2 o2,VW cfg (Cw cfg []) 3 55 [1,2,5,6,7,8] [.int .i64 y,.ptr 14 0,yS n (aw d0 d1 j).length,.slice 15 0 nM (.rest 0),.int .i64 (Int.ofNat i),.int .i64 ((j:Int)+1)] (yZ (aw d0 d1 j).length cs (cs++dU y (cQ w i) (aw d0 d1 j)) (.cells w true (some 1)) (bx ng lg s e g mo [d0,d1] a b c)) vs2 o2/\Q (.exit 2,vs2,o2):=λh=>by
  have e:j=(bP y (cQ w i)).toNat:=by omega
  have e2:(j:Int)+1=bP y (cQ w i)+1:=by omega
  rw[e2];subst e;exact⟨_,_,VW.refl,hq⟩
 have hi0:0+i*1=i:=by omega
 have hA:cQ w i=bC (w.getD i (.tuple [])):=rfl;have go:(j:Int)+1<=bP y (cQ w i)->∀vs o,VW cfg (Cw cfg []) 3 55 [1,2,5,6,7,8] vs o [.int .i64 y,.ptr 14 0,yS n (aw d0 d1 (j+1)).length,.slice 15 0 nM (.rest 0),.int .i64 (Int.ofNat i),.int .i64 ((j:Int)+1+1)] (yZ (aw d0 d1 (j+1)).length cs (cs++dU y (cQ w i) (aw d0 d1 (j+1))) (.cells w true (some 1)) (bx ng lg s e g mo [d0,d1] a b c))->∃x:{j:Nat // j<=(bP y (cQ w i)).toNat},(bP y (cQ w i)).toNat-x.1<(bP y (cQ w i)).toNat-j/\VW cfg (Cw cfg []) 3 55 [1,2,5,6,7,8] vs o [.int .i64 y,.ptr 14 0,yS n (aw d0 d1 x.1).length,.slice 15 0 nM (.rest 0),.int .i64 (Int.ofNat i),.int .i64 ((x.1:Int)+1)] (yZ (aw d0 d1 x.1).length cs (cs++dU y (cQ w i) (aw d0 d1 x.1)) (.cells w true (some 1)) (bx ng lg s e g mo [d0,d1] a b c)):=λhle vs o hv=>⟨⟨j+1,by omega⟩,by dsimp only;omega,hv⟩;have hids:bz (cs++dU y (cQ w i) (aw d0 d1 j))=[]:=by rw[gu,fY.1 hcs,nU];rfl
 have hids0:bz cs=[]:=fY.1 hcs;have hlenc:(cs++dU y (cQ w i) (aw d0 d1 j)).length=(n+(aw d0 d1 j).length)*3:=by rw[zAg,hc,qQ];omega
 clear hq;by_cases hD:aw d0 d1 j=[]
 . rw[hD]at fin ⊢;refine dD λQ' hQ=>bG ((Pc ng lg s e g mo [d0,d1] a b c y ((j:Int)+1) w cs nM i n J).mpr ?_);dsimp only;have fin2:bP y (cQ w i)<(j:Int)+1->Q' (.exit 2,[.int .i64 y,.ptr 14 0,.slice 16 0 n (.rest 0),.slice 15 0 nM (.rest 0),.int .i64 (Int.ofNat i),.int .i64 ((j:Int)+1)],⟨3,[.cells cs true (some 3),.cells w true (some 1),bx ng lg s e g mo [d0,d1] a b c],[]⟩):=λh=>hQ _ (fin h);cases ha:agr [d0,d1] ((j:Int)+1)with
   | true=>
     rw[ha]at hs;have hs:aw d0 d1 (j+1)=aw d0 d1 j++[(j:Int)+1]:=hs;have go2:(j:Int)+1<=bP y (cQ w i)->Q' (.normal,[.int .i64 y,.ptr 14 0,.slice 18 0 (n+1) (.rest 0),.slice 15 0 nM (.rest 0),.int .i64 (Int.ofNat i),.int .i64 ((j:Int)+1+1)],⟨5,[.cells (cs++[.int .i64 y,.int .i64 (cQ w i),.int .i64 ((j:Int)+1)]) true (some 3),.cells [.int .i64 y,.int .i64 (cQ w i),.int .i64 ((j:Int)+1)] true none,.dead,.cells w true (some 1),bx ng lg s e g mo [d0,d1] a b c],[]⟩):=λh=>hQ (.normal,_,_) (go h _ _ (by
      rw[hs,hD];exact fu (tn:=55) (rel:=[1,2,5,6,7,8]) (vs:=[.int .i64 y,.ptr 14 0,.slice 18 0 (n+1) (.rest 0),.slice 15 0 nM (.rest 0),.int .i64 (Int.ofNat i),.int .i64 ((j:Int)+1+1)]) (vs':=[.int .i64 y,.ptr 14 0,.slice 17 0 (n+1) (.rest 0),.slice 15 0 nM (.rest 0),.int .i64 (Int.ofNat i),.int .i64 ((j:Int)+1+1)]) (x:=.cells (cs++[.int .i64 y,.int .i64 (cQ w i),.int .i64 ((j:Int)+1)]) true (some 3)) (mid:=[.cells [.int .i64 y,.int .i64 (cQ w i),.int .i64 ((j:Int)+1)] true none]) (B:=[.dead,.cells w true (some 1),bx ng lg s e g mo [d0,d1] a b c]) (k:=1) (kb:=3) (n:=5) rfl rfl rfl (λz hz=>by
       simp only[List.mem_cons,List.not_mem_nil,or_false]at hz;rcases hz with rfl|rfl|rfl
       . exact⟨rfl,λi hi=>by cases hi⟩
       . exact wl
       . exact bl) (aO (by rw[gu,hids0];rfl)) rfl))
     clear hQ go fin hs hids;rw[hi0,hk,<-hA];try simp only[zAj]
     clear hA hk;generalize cQ w i=m at *;simp only[az,reduceCtorEq];try simp only[Bool.true_and,Bool.and_true,aK,cr,aq]
     (repeat' first|exact trivial|refine⟨?_,?_⟩|intro)<;>first|contradiction|omega|assumption|exact go2 (by assumption)|exact fin2 (by omega)|(exfalso;simp_all;done)|(exfalso;simp_all;omega)
   | false=>
     rw[ha]at hs;have hs:aw d0 d1 (j+1)=aw d0 d1 j:=by rw[hs];simp
     have go2:(j:Int)+1<=bP y (cQ w i)->Q' (.normal,[.int .i64 y,.ptr 14 0,.slice 16 0 n (.rest 0),.slice 15 0 nM (.rest 0),.int .i64 (Int.ofNat i),.int .i64 ((j:Int)+1+1)],⟨3,[.cells cs true (some 3),.cells w true (some 1),bx ng lg s e g mo [d0,d1] a b c],[]⟩):=λh=>hQ (.normal,_,_) (go h _ _ (by
      rw[hs,hD];exact VW.refl))
     clear hQ go fin hs hids;rw[hi0,hk,<-hA];try simp only[zAj]
     clear hA hk;generalize cQ w i=m at *;simp only[az,reduceCtorEq];try simp only[Bool.true_and,Bool.and_true,aK,cr,aq]
     (repeat' first|exact trivial|refine⟨?_,?_⟩|intro)<;>first|contradiction|omega|assumption|exact go2 (by assumption)|exact fin2 (by omega)|(exfalso;simp_all;done)|(exfalso;simp_all;omega)
 . have hpos:0<(aw d0 d1 j).length:=List.length_pos_iff.2 hD;clear hD;rw[wL hpos,wz hpos]at fin;rw[wL hpos,wz hpos];refine jT (bA 1112112452022042200420420) (R:=λQ=>(λ(U V:aE)(A B E H T:AV)(I O:Bool)(C:eZ)(P:Int)(N:Nat)=>(λ(G Z u1:AV)(F W Y:Bool)(u0:List AV)=>aW i nM/\(F->ae .i64 y/\(W->ab 0 ((j:Int)+1)/\ab ((j:Int)+1) 99/\(I->aW i nM/\F/\and (and (Nat.ble N 1000000) true) true/\(O->Y/\Q (.normal,[A,B,.slice 19 0 N C,G,E,Z],⟨6,[.cells ((cs++dU y (cQ w i) (aw d0 d1 j))++u0) true (some 3),.cells u0 true none,aE.dead,aE.dead,U,V],[]⟩))/\(O=false->False))/\(I=false->Y/\Q (.normal,[A,B,u1,G,E,Z],⟨4,[.cells (cs++dU y (cQ w i) (aw d0 d1 j)) true (some 3),aE.dead,U,V],[]⟩)))/\(W=false->Q (.exit 2,[A,B,u1,G,E,T],⟨4,[.cells (cs++dU y (cQ w i) (aw d0 d1 j)) true (some 3),aE.dead,U,V],[]⟩)))/\(F=false->False)) (.slice 15 0 nM C) (.int .i64 P) (.slice 17 0 (n+(aw d0 d1 j).length) C) (cq .i64 H) (ab ((j:Int)+1) (bP y (bC H))) (ae .i64 P) [A,.int .i64 (bC H),T]) (.cells w true (some 1)) (.cells [.bool ng,.bool lg,.str s,.int .i64 e,.int .i64 g,.str mo,.str [d0,d1],.int .u8 a,.int .u8 b,.int .u8 c] true none) (.int .i64 y) (.ptr 14 0) (.int .i64 (Int.ofNat i)) (List.getD w (HAdd.hAdd 0 (HMul.hMul i 1)) (.tuple [])) (.int .i64 ((j:Int)+1)) (aa (cond (agr [d0,d1] ((j:Int)+1)) 1 0) 1) (and true (Nat.beq (cs++dU y (cQ w i) (aw d0 d1 j)).length (HMul.hMul (n+(aw d0 d1 j).length) 3))) (eZ.rest 0) (Int.add ((j:Int)+1) 1) (HAdd.hAdd (n+(aw d0 d1 j).length) 1)) (λ_=>by kernel_rfl) λQ' hQ=>?_;try dsimp only
   have fin2:bP y (cQ w i)<(j:Int)+1->Q' (.exit 2,[.int .i64 y,.ptr 14 0,.slice 17 0 (n+(aw d0 d1 j).length) (.rest 0),.slice 15 0 nM (.rest 0),.int .i64 (Int.ofNat i),.int .i64 ((j:Int)+1)],⟨4,[.cells (cs++dU y (cQ w i) (aw d0 d1 j)) true (some 3),.dead,.cells w true (some 1),bx ng lg s e g mo [d0,d1] a b c],[]⟩):=λh=>hQ _ (fin h);cases ha:agr [d0,d1] ((j:Int)+1)with
   | true=>
     rw[ha]at hs;have hs:aw d0 d1 (j+1)=aw d0 d1 j++[(j:Int)+1]:=hs;have go2:(j:Int)+1<=bP y (cQ w i)->Q' (.normal,[.int .i64 y,.ptr 14 0,.slice 19 0 (n+(aw d0 d1 j).length+1) (.rest 0),.slice 15 0 nM (.rest 0),.int .i64 (Int.ofNat i),.int .i64 ((j:Int)+1+1)],⟨6,[.cells (cs++dU y (cQ w i) (aw d0 d1 j)++[.int .i64 y,.int .i64 (cQ w i),.int .i64 ((j:Int)+1)]) true (some 3),.cells [.int .i64 y,.int .i64 (cQ w i),.int .i64 ((j:Int)+1)] true none,.dead,.dead,.cells w true (some 1),bx ng lg s e g mo [d0,d1] a b c],[]⟩):=λh=>hQ (.normal,_,_) (go h _ _ (by
      rw[hs,zAg,xW,<-List.append_assoc];exact fu (tn:=55) (rel:=[1,2,5,6,7,8]) (vs:=[.int .i64 y,.ptr 14 0,.slice 19 0 (n+(aw d0 d1 j).length+1) (.rest 0),.slice 15 0 nM (.rest 0),.int .i64 (Int.ofNat i),.int .i64 ((j:Int)+1+1)]) (vs':=[.int .i64 y,.ptr 14 0,.slice 17 0 (n+(aw d0 d1 j).length+1) (.rest 0),.slice 15 0 nM (.rest 0),.int .i64 (Int.ofNat i),.int .i64 ((j:Int)+1+1)]) (x:=.cells (cs++dU y (cQ w i) (aw d0 d1 j)++[.int .i64 y,.int .i64 (cQ w i),.int .i64 ((j:Int)+1)]) true (some 3)) (mid:=[.cells [.int .i64 y,.int .i64 (cQ w i),.int .i64 ((j:Int)+1)] true none,.dead]) (B:=[.dead,.cells w true (some 1),bx ng lg s e g mo [d0,d1] a b c]) (k:=2) (kb:=3) (n:=6) rfl rfl rfl (λz hz=>by
       simp only[List.mem_cons,List.not_mem_nil,or_false]at hz;rcases hz with rfl|rfl|rfl
       . exact⟨rfl,λi hi=>by cases hi⟩
       . exact wl
       . exact bl) (aO (by rw[gu,hids];rfl)) rfl))
     clear hQ go fin hs hids;rw[hi0,hk,<-hA];try simp only[zAj]
     clear hA hk;generalize cQ w i=m at *;generalize cs++dU y m (aw d0 d1 j)=C at *;generalize (aw d0 d1 j).length=N at *;simp only[az,reduceCtorEq];try simp only[Bool.true_and,Bool.and_true,aK,cr,aq]
     (repeat' first|exact trivial|refine⟨?_,?_⟩|intro)<;>first|contradiction|omega|assumption|exact go2 (by assumption)|exact fin2 (by omega)|(exfalso;simp_all;done)|(exfalso;simp_all;omega)
   | false=>
     rw[ha]at hs;have hs:aw d0 d1 (j+1)=aw d0 d1 j:=by rw[hs];simp
     have go2:(j:Int)+1<=bP y (cQ w i)->Q' (.normal,[.int .i64 y,.ptr 14 0,.slice 17 0 (n+(aw d0 d1 j).length) (.rest 0),.slice 15 0 nM (.rest 0),.int .i64 (Int.ofNat i),.int .i64 ((j:Int)+1+1)],⟨4,[.cells (cs++dU y (cQ w i) (aw d0 d1 j)) true (some 3),.dead,.cells w true (some 1),bx ng lg s e g mo [d0,d1] a b c],[]⟩):=λh=>hQ (.normal,_,_) (go h _ _ (by
      rw[hs,wL hpos,wz hpos];exact VW.refl))
     clear hQ go fin hs hids;rw[hi0,hk,<-hA];try simp only[zAj]
     clear hA hk;generalize cQ w i=m at *;generalize cs++dU y m (aw d0 d1 j)=C at *;generalize (aw d0 d1 j).length=N at *;simp only[az,reduceCtorEq];try simp only[Bool.true_and,Bool.and_true,aK,cr,aq]
     (repeat' first|exact trivial|refine⟨?_,?_⟩|intro)<;>first|contradiction|omega|assumption|exact go2 (by assumption)|exact fin2 (by omega)|(exfalso;simp_all;done)|(exfalso;simp_all;omega)
end Go.Ev
