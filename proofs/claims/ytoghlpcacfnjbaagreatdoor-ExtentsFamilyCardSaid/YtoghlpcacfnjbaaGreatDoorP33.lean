import Derived.Test.YtoghlpcacfnjbaaGreatDoorP32
set_option linter.all false
set_option maxRecDepth 100000
set_option maxHeartbeats 4000000
namespace Go.Ev
open Go Go.Proofs
variable{k:Int}{S:aQ}
theorem UO{rk a c:Int}{dz ft:Bool}:dr 2 0 0 dz 0 true 0 0 true true ft rk a c=0:=by
 unfold dr;rw[if_neg (by decide),if_neg (by decide),if_pos rfl,if_pos ⟨rfl,rfl,rfl⟩,if_pos rfl,if_pos ⟨rfl,rfl,rfl⟩]
abbrev Um:List UInt8:=[UInt8.ofNat 48,UInt8.ofNat 49,UInt8.ofNat 50,UInt8.ofNat 51,UInt8.ofNat 52,UInt8.ofNat 53,UInt8.ofNat 54,UInt8.ofNat 55,UInt8.ofNat 56,UInt8.ofNat 57]
def Bc(k:Int):UInt8:=Um.getD k.toNat 0
def d0(n:Int):UInt8:=Bc (n%10000/1000)
def d1(n:Int):UInt8:=Bc (n%10000/100%10)
def d2(n:Int):UInt8:=Bc (n%10000/10%10)
def d3(n:Int):UInt8:=Bc (n%10000%10)
def SX:dP:=λargs=>match args with
 | [.a .u16 n]=>some (aH [ab 0 n,ab n 65535] (.a0 (.d [d0 n,d1 n,d2 n,d3 n])))
 | _=>none
theorem tY(h:0<=k/\k<=9):k=0\/k=1\/k=2\/k=3\/k=4\/k=5\/k=6\/k=7\/k=8\/k=9:=by omega
theorem wC(h:0<=k/\k<=9):List.drop k.toNat (List.take (Int.add k 1).toNat Um)=[Bc k]:=by
 rcases tY h with rfl|rfl|rfl|rfl|rfl|rfl|rfl|rfl|rfl|rfl<;>rfl
theorem oZ(h:0<=k/\k<=9):((Bc k).toNat:Int)=48+k:=by
 rcases tY h with rfl|rfl|rfl|rfl|rfl|rfl|rfl|rfl|rfl|rfl<;>rfl
theorem Re(hS:ak Tryz.prog cfg S):ak Tryz.prog cfg (bb S 68 SX):=by
 refine au hS λargs t v he hv=>?_;unfold SX at he;split at he
 . rename_i n;cases he;obtain⟨⟨h1,h2,-⟩,hv⟩:=aF hv;cases hv;rw[aq]at h1 h2;have e0:Int.tmod n 10000=n%10000:=Int.tmod_eq_emod_of_nonneg h1;have e1:Int.tdiv (n%10000) 1000=n%10000/1000:=Int.tdiv_eq_ediv_of_nonneg (by omega);have e2:Int.tdiv (n%10000) 100=n%10000/100:=Int.tdiv_eq_ediv_of_nonneg (by omega);have e3:Int.tdiv (n%10000) 10=n%10000/10:=Int.tdiv_eq_ediv_of_nonneg (by omega);have e4:Int.tmod (n%10000/100) 10=n%10000/100%10:=Int.tmod_eq_emod_of_nonneg (by omega);have e5:Int.tmod (n%10000/10) 10=n%10000/10%10:=Int.tmod_eq_emod_of_nonneg (by omega);have e6:Int.tmod (n%10000) 10=n%10000%10:=Int.tmod_eq_emod_of_nonneg (by omega);refine nF aW ai (bE 111142270042270200204227020020770200) (R:=λQ=>(λ(A:Int)(B:List UInt8)=>(λ(C E W Y:Int)=>(λ(Z u1 u2:Bool)(F G H I:Int)(u0 u3:Nat)=>(λ(O P:Int)(N T u4 u5:Nat)=>(λ(u6 u7:List UInt8)(U V:Nat)=>(λ(u8 u9:List UInt8)=>(λ(ua:Bool)(ub:List UInt8)=>(λ(uc:Bool)(ud:List UInt8)=>(λ(ue:Bool)=>Z/\Z/\af .u16 F/\ab 0 F/\Nat.ble N 10/\ab 0 C/\Nat.ble u0 N/\u1/\u1/\af .u16 O/\ab 0 O/\Nat.ble U 10/\ab 0 G/\Nat.ble u4 U/\(ua->u2/\u2/\af .u16 P/\ab 0 P/\Nat.ble V 10/\ab 0 H/\Nat.ble u5 V/\(uc->af .u16 I/\ab 0 I/\Nat.ble T 10/\ab 0 E/\Nat.ble u3 T/\(ue->Q (.d (ud++u7)))/\(ue=false->False))/\(uc=false->False))/\(ua=false->False)) (Nat.ble (HAdd.hAdd ud.length u7.length) 1000000)) (Nat.ble (HAdd.hAdd ub.length u9.length) 1000000) (ub++u9)) (Nat.ble (HAdd.hAdd u6.length u8.length) 1000000) (u6++u8)) (List.drop u4 (List.take U B)) (List.drop u5 (List.take V B))) (List.drop u0 (List.take N B)) (List.drop u3 (List.take T B)) O.toNat P.toNat) (Int.add G 1) (Int.add H 1) F.toNat I.toNat G.toNat H.toNat) (af .u16 C) (af .u16 W) (af .u16 Y) (Int.add C 1) (Int.tmod W 10) (Int.tmod Y 10) (Int.add E 1) C.toNat E.toNat) (Int.tdiv A 1000) (Int.tmod A 10) (Int.tdiv A 100) (Int.tdiv A 10)) (Int.tmod n 10000) [UInt8.ofNat 48,UInt8.ofNat 49,UInt8.ofNat 50,UInt8.ofNat 51,UInt8.ofNat 52,UInt8.ofNat 53,UInt8.ofNat 54,UInt8.ofNat 55,UInt8.ofNat 56,UInt8.ofNat 57]) (λ_=>by kernel_rfl) λQ' hQ=>?_;try dsimp only
   unfold d0 d1 d2 d3 at hQ;try dsimp only
   rw[e0,e1,e2,e3,e4,e5,e6,wC (k:=n%10000/1000) (by omega),wC (k:=n%10000/100%10) (by omega),wC (k:=n%10000/10%10) (by omega),wC (k:=n%10000%10) (by omega)];generalize Bc _=x0 at *;generalize Bc _=x1 at *;generalize Bc _=x2 at *;generalize Bc _=x3 at *;simp only[az,reduceCtorEq]
   (repeat' first|exact trivial|refine⟨?_,?_⟩|intro)<;>first|contradiction|omega|assumption|exact hQ|(exfalso;simp_all)
 . cases he
def Rh(a b n:Int):List UInt8:=[bif aa 0 a || aa 0 b then UInt8.ofNat 88 else d0 n,bif aa 1 a || aa 1 b then UInt8.ofNat 88 else d1 n,bif aa 2 a || aa 2 b then UInt8.ofNat 88 else d2 n,bif aa 3 a || aa 3 b then UInt8.ofNat 88 else d3 n]
def I3(n z0:Int):List UInt8:=[Bc (z0%9+1),d0 n,d1 n,d2 n,d3 n]
def gw(f n z0 z1:Int):List UInt8:=bif aa (f%6) 3 then Rh (z0%4) (z1%4) n else bif aa (f%6) 5 then(bif ab (z1%3) 0 then I3 n z0 else List.take (1+z1%5).toNat (I3 n z0))else[d0 n,d1 n,d2 n,d3 n]
def kQ(f z1:Int):Int:=bif aa (f%6) 5 then(bif ab (z1%3) 0 then 0 else 1+z1/16%11)else 0
def la(f n z0 z1:Int):Int:=bif aa (f%6) 4 then 1+z0%4 else bif aa (f%6) 5 then z0/16%(Int.ofNat (gw f n z0 z1).length+kQ f z1+1)else 0
def sY(f:Int):Bool:=aa (f%6) 5
def qV(f:Int)(ng:Bool)(n z0 z1:Int):Bool:=ng&&aV ng (sY f) (gw f n z0 z1) (kQ f z1) (la f n z0 z1)
def ZX:dP:=λargs=>match args with
 | [.h [.a .u8 f,.b ng,.a .u16 n,.a .u8 z0,.a .u8 z1]]=>some (aH [af .u8 f,af .u16 n,af .u8 z0,af .u8 z1] (.a0 (.h [.b (qV f ng n z0 z1),.b (sY f),.d (gw f n z0 z1),.a .i64 (kQ f z1),.a .i64 (la f n z0 z1)])))
 | _=>none
def S84:aQ:=bb (bb gZ 69 TH) 68 SX
theorem yG:ak Tryz.prog cfg S84:=Re (bm aW (MB 69 _ rfl))
theorem LX(h:0<=k/\k<=8):List.drop k.toNat (List.take (Int.add k 1).toNat [UInt8.ofNat 49,UInt8.ofNat 50,UInt8.ofNat 51,UInt8.ofNat 52,UInt8.ofNat 53,UInt8.ofNat 54,UInt8.ofNat 55,UInt8.ofNat 56,UInt8.ofNat 57])=[Bc (k+1)]:=by
 rcases tY ⟨h.1,by omega⟩with rfl|rfl|rfl|rfl|rfl|rfl|rfl|rfl|rfl|rfl<;>first|rfl|omega
theorem TO{b:Bool}:aa (bI b) 0=!b:=by cases b<;>rfl
theorem iq4:(aa 0 0/\aa 0 1=false/\aa 0 2=false/\aa 0 3=false)/\(aa 1 0=false/\aa 1 1/\aa 1 2=false/\aa 1 3=false)/\(aa 2 0=false/\aa 2 1=false/\aa 2 2/\aa 2 3=false)/\(aa 3 0=false/\aa 3 1=false/\aa 3 2=false/\aa 3 3=true):=by decide
theorem tm{a b:Int}(h:0<=a):Int.tmod a b=a%b:=Int.tmod_eq_emod_of_nonneg h
theorem td{a b:Int}(h:0<=a):Int.tdiv a b=a/b:=Int.tdiv_eq_ediv_of_nonneg h
theorem WB(hS:ak Tryz.prog cfg S):ak Tryz.prog cfg (bb S 34 ZX):=by
 refine au hS λargs t v he hv=>?_;unfold ZX at he;split at he
 . rename_i f ng n z0 z1;cases he;obtain⟨⟨h1,h2,h3,h4,-⟩,hv⟩:=aF hv;cases hv;rw[aE]at h1 h2 h3 h4;simp only[eH,eE]at h1 h2 h3 h4;have tf:Int.tmod f 6=f%6:=tm h1.1;have cf:f%6<=2\/f%6=3\/f%6=4\/f%6=5:=by omega
   rcases cf with cf|cf|cf|cf
   . refine nF yG ai (bE 100510005455800022000) (R:=λQ=>(λ(A C:AV)(B:Int)(E:List UInt8)=>(λ(F:Bool)=>ab 0 n/\ab n 65535/\aa B 3=false/\aa B 4=false/\aa B 5=false/\(F->Q (.h [C,C,.d E,A,A]))/\(F=false->Q (.h [.b ng,C,.d E,A,A]))) (aa (bI (aV ng false E 0 0)) 0)) (.a .i64 0) (.b false) (Int.tmod f 6) [d0 n,d1 n,d2 n,d3 n]) (λ_=>by kernel_rfl) λQ' hQ=>?_;try dsimp only
     have e3:aa (f%6) 3=false:=aw.mpr (by omega);have e4:aa (f%6) 4=false:=aw.mpr (by omega);have e5:aa (f%6) 5=false:=aw.mpr (by omega);simp only[qV,sY,gw,kQ,la,e3,e4,e5,cond_false]at hQ;try dsimp only
     rw[tf,e3,e4,e5,TO];generalize aV _ _ _ _ _=o at *;cases o<;>cases ng<;>simp only[az,reduceCtorEq]<;>(repeat' first|exact trivial|refine⟨?_,?_⟩|intro)<;>first|contradiction|omega|assumption|exact hQ
   . refine nF yG ai (bE 100510005466100510005400064376100510005466337000437610051000546633763370004375233100510005466100510005400064376100510005466337000437523310051000546610051000540006437523310051000545628610051000545628000432246100510005466337523310051000545628633224000432246100510005466337633752331005100054663375233100510005456286332246332240004322402525200022000) (R:=λQ=>(λ(A B H:AV)(u2 u3:Int)(F O P T U:UInt8)=>(λ(V u4 u5 u6 u7 ua ub:Bool)(uf ug uh ui uj uk ul um un uo:List UInt8)=>(λ(C E I u9 up uq ur us ut uu uv uw ux uy:Bool)(W Y Z u0 uc ud:Prop)=>(λ(G N u1 ue uz uA uB uC uD uE:Prop)=>(λ(uG:Prop->Prop)=>(λ(uF:Prop->Prop)=>ab 0 n/\ab n 65535/\aa (Int.tmod f 6) 3/\af .i64 u2/\af .i64 u3/\(u9->u9/\u9/\ua=false/\(aa 0 u3->(I->I/\I/\uc/\ud/\(C->uG (Y/\uF uz))/\(N->N/\N/\u4/\uA))/\(u1->u1/\u1/\u5/\uB))/\(aa 0 u3=false->(I->I/\I/\uc/\(ub->(C->uG (Y/\uF uC))/\(N->N/\N/\u4/\uD))/\(ud->(C->uG ((u6->uF uE)/\(Y->uF ((uv->Q (.h [B,B,.d ul,A,A]))/\(uv=false->Q (.h [H,B,.d ul,A,A]))))))/\(N->N/\N/\u4/\E/\E/\E/\Z/\(u7->uE)/\(u0->(uw->Q (.h [B,B,.d um,A,A]))/\(uw=false->Q (.h [H,B,.d um,A,A]))))))/\(u1->u1/\u1/\u5/\C/\uG ((u6->uD)/\(Y->E/\E/\E/\Z/\(u7->uC)/\(u0->(ux->Q (.h [B,B,.d un,A,A]))/\(ux=false->Q (.h [H,B,.d un,A,A]))))))))/\(ue->ue/\ue/\ua/\I/\I/\I/\uc/\(ub->uB)/\(ud->C/\uG ((u6->uA)/\(Y->E/\E/\E/\Z/\(u7->uz)/\(u0->(uy->Q (.h [B,B,.d uo,A,A]))/\(uy=false->Q (.h [H,B,.d uo,A,A])))))))) (λuH=>G/\G/\G/\V/\uH)) (λuH=>C/\C/\W/\uH)) (E=false) (C=false) (I=false) (u9=false) ((up->Q (.h [B,B,.d uf,A,A]))/\(up=false->Q (.h [H,B,.d uf,A,A]))) (E/\E/\E/\Z/\u0/\(uq->Q (.h [B,B,.d ug,A,A]))/\(uq=false->Q (.h [H,B,.d ug,A,A]))) (C/\C/\C/\W/\Y/\E/\E/\E/\Z/\u0/\(ur->Q (.h [B,B,.d uh,A,A]))/\(ur=false->Q (.h [H,B,.d uh,A,A]))) ((us->Q (.h [B,B,.d ui,A,A]))/\(us=false->Q (.h [H,B,.d ui,A,A]))) (E/\E/\E/\Z/\u0/\(ut->Q (.h [B,B,.d uj,A,A]))/\(ut=false->Q (.h [H,B,.d uj,A,A]))) ((uu->Q (.h [B,B,.d uk,A,A]))/\(uu=false->Q (.h [H,B,.d uk,A,A])))) (not u4) (not V) (not u5) (not ua) (aa (bI (aV ng false uf 0 0)) 0) (aa (bI (aV ng false ug 0 0)) 0) (aa (bI (aV ng false uh 0 0)) 0) (aa (bI (aV ng false ui 0 0)) 0) (aa (bI (aV ng false uj 0 0)) 0) (aa (bI (aV ng false uk 0 0)) 0) (aa (bI (aV ng false ul 0 0)) 0) (aa (bI (aV ng false um 0 0)) 0) (aa (bI (aV ng false un 0 0)) 0) (aa (bI (aV ng false uo 0 0)) 0) (u4=false) (u6=false) (V=false) (u7=false) (u5=false) (ub=false)) (aa 3 u2) (aa 2 u2) (aa 1 u2) (aa 2 u3) (aa 3 u3) (aa 0 u2) (aa 1 u3) [F,O,P,F] [F,O,F,T] [F,F,P,T] [U,F,P,F] [U,F,F,T] [U,O,F,F] [U,O,P,F] [U,O,F,T] [U,F,P,T] [F,O,P,T]) (.a .i64 0) (.b false) (.b ng) (Int.tmod z0 4) (Int.tmod z1 4) (UInt8.ofNat 88) (d1 n) (d2 n) (d3 n) (d0 n)) (λ_=>by kernel_rfl) λQ' hQ=>?_;try dsimp only
     have e3:aa (f%6) 3=true:=ao.mpr (by omega);have e4:aa (f%6) 4=false:=aw.mpr (by omega);have e5:aa (f%6) 5=false:=aw.mpr (by omega);simp only[qV,sY,gw,kQ,la,e3,e4,e5,zAj]at hQ;have ha:0<=z0%4/\z0%4<=3:=by omega
     have hb:0<=z1%4/\z1%4<=3:=by omega
     try dsimp only
     rw[tf,e3,tm (b:=4) h3.1,tm (b:=4) h4.1];generalize z0%4=a at *;generalize z1%4=b at *;have ca:a=0\/a=1\/a=2\/a=3:=by omega
     have cb:b=0\/b=1\/b=2\/b=3:=by omega
     rcases ca with rfl|rfl|rfl|rfl<;>rcases cb with rfl|rfl|rfl|rfl<;>simp only[Rh,TO,iq4,reduceCtorEq,Bool.or_true,Bool.true_or,Bool.or_false,zAj,Bool.not_true,Bool.not_false,zAh]at hQ ⊢<;>generalize aV _ _ _ _ _=o at *<;>cases o<;>cases ng<;>simp only[az,reduceCtorEq]<;>(repeat' first|exact trivial|refine⟨?_,?_⟩|intro)<;>first|contradiction|omega|assumption|exact hQ
   . refine nF yG ai (bE 100510005462252300022000) (R:=λQ=>(λ(A G:AV)(C E:Int)(F:List UInt8)=>(λ(B:Int)=>(λ(I:AV)(H:Bool)=>ab 0 n/\ab n 65535/\aa C 3=false/\aa C 4/\af .i64 E/\af .i64 B/\(H->Q (.h [A,A,.d F,G,I]))/\(H=false->Q (.h [.b ng,A,.d F,G,I]))) (.a .i64 B) (aa (bI (aV ng false F 0 B)) 0)) (Int.add 1 E)) (.b false) (.a .i64 0) (Int.tmod f 6) (Int.tmod z0 4) [d0 n,d1 n,d2 n,d3 n]) (λ_=>by kernel_rfl) λQ' hQ=>?_;try dsimp only
     have e3:aa (f%6) 3=false:=aw.mpr (by omega);have e4:aa (f%6) 4=true:=ao.mpr (by omega);have e5:aa (f%6) 5=false:=aw.mpr (by omega);simp only[qV,sY,gw,kQ,la,e3,e4,e5,zAj]at hQ;try dsimp only
     rw[tf,e3,e4,tm (b:=4) h3.1,TO];rw[show Int.add 1 (z0%4)=1+z0%4 from rfl];generalize aV _ _ _ _ _=o at *;cases o<;>cases ng<;>simp only[az,reduceCtorEq]<;>(repeat' first|exact trivial|refine⟨?_,?_⟩|intro)<;>first|contradiction|omega|assumption|exact hQ
   . have e3:aa (f%6) 3=false:=aw.mpr (by omega);have e4:aa (f%6) 4=false:=aw.mpr (by omega);have e5:aa (f%6) 5=true:=ao.mpr (by omega);have s9:=LX (k:=z0%9) (by omega);have m16:0<=z0/16/\z0/16<=15:=by omega
     by_cases h0:z1%3<=0
     . refine nF yG ai (bE 130005213000524130005210051000540255440022530520227623300022000) (R:=λQ=>(λ(P T:AV)(A B C:Int)=>(λ(E:Int)(U:Nat)=>(λ(F:Nat)=>(λ(V:List UInt8)=>(λ(G:List UInt8)=>(λ(W:Nat)=>(λ(Y:Bool)(H:Int)=>(λ(Z:Bool)(I O:Int)(N:Prop)=>(λ(u0 u2:Bool)(u1:Int)=>(λ(u4:AV)(u3:Bool)=>ab 0 n/\ab n 65535/\aa A 3=false/\aa A 4=false/\aa A 5/\af .u8 E/\ab 0 E/\Nat.ble F 9/\ab 0 B/\Nat.ble U F/\Nat.ble (HAdd.hAdd V.length 4) 1000000/\not (ab (Int.tmod z1 3) 0)=false/\af .u8 C/\af .i64 C/\(Z->(u0->Y/\(u3->Q (.h [.b false,P,.d G,T,u4]))/\(u3=false->Q (.h [.b ng,P,.d G,T,u4])))/\(u0=false->not (aa (IntKind.wrap .i64 I) 0)/\N))/\(Z=false->(u2->not (aa O 0)/\N)/\(u2=false->not (aa (IntKind.wrap .i64 O) 0)/\N))) (.a .i64 u1) (aa (bI (aV ng true G 0 u1)) 0)) (af .i64 I) (af .i64 O) (Int.tmod C I)) (af .i64 H) (Int.add H 1) (Int.add (IntKind.wrap .i64 H) 1) (Y=false/\False)) (Nat.ble W 1000) (Int.add (Int.ofNat W) 0)) G.length) (V++[d0 n,d1 n,d2 n,d3 n])) (List.drop U (List.take F [UInt8.ofNat 49,UInt8.ofNat 50,UInt8.ofNat 51,UInt8.ofNat 52,UInt8.ofNat 53,UInt8.ofNat 54,UInt8.ofNat 55,UInt8.ofNat 56,UInt8.ofNat 57]))) E.toNat) (Int.add B 1) B.toNat) (.b true) (.a .i64 0) (Int.tmod f 6) (Int.tmod z0 9) (Int.tdiv z0 16)) (λ_=>by kernel_rfl) λQ' hQ=>?_;try dsimp only
       have e0:ab (z1%3) 0=true:=aq.mpr h0;simp only[qV,sY,gw,kQ,la,I3,e0,e3,e4,e5,zAj]at hQ;try dsimp only
       rw[tf,e3,e4,e5,tm (b:=9) h3.1,tm (b:=3) h4.1,td (b:=16) h3.1,s9,e0,tm m16.1,TO];simp only[zAf,List.length_nil,List.cons_append,List.nil_append]at hQ ⊢;have ez:∀x:Nat,Int.add (Int.add (Int.ofNat x) 0) 1=Int.ofNat x+0+1:=λ_=>rfl;rw[ez];generalize hg:z0/16%(Int.ofNat _+0+1)=g at *;generalize aV _ _ _ _ _=o at *;generalize [Bc (z0%9+1),d0 n,d1 n,d2 n,d3 n]=L at *;cases o<;>cases ng<;>simp only[az,reduceCtorEq]<;>(repeat' first|exact trivial|refine⟨?_,?_⟩|intro)<;>first|contradiction|omega|assumption|exact hQ
     . refine nF yG ai (bE 1300052130005241300052100510005422000524400220522020570520520227623300022000) (R:=λQ=>(λ(V:AV)(C E F G U:Int)=>(λ(H Z:Int)(W Y:Nat)=>(λ(A:Int)(I:Nat)=>(λ(u2:AV)(u1:Bool)(u0:List UInt8)=>(λ(u3:List UInt8)=>(λ(N:List UInt8)=>(λ(u4:Nat)=>(λ(u5:Bool)(O:Int)=>(λ(u6:Bool)(B T:Int)(P:Prop)=>(λ(u7 ua:Bool)(u9:Int)=>(λ(uc:AV)(ub:Bool)=>ab 0 n/\ab n 65535/\aa C 3=false/\aa C 4=false/\aa C 5/\af .u8 H/\ab 0 H/\Nat.ble I 9/\ab 0 E/\Nat.ble W I/\Nat.ble (HAdd.hAdd u0.length 4) 1000000/\not (ab (Int.tmod z1 3) 0)/\af .u8 F/\ab 0 F/\Nat.ble Y u3.length/\af .u8 U/\af .i64 Z/\u1/\af .u8 G/\af .i64 G/\(u6->(u7->not (aa B 0)/\u5/\u1/\(ub->Q (.h [.b false,V,.d N,u2,uc]))/\(ub=false->Q (.h [.b ng,V,.d N,u2,uc])))/\(u7=false->not (aa (IntKind.wrap .i64 B) 0)/\P))/\(u6=false->(ua->not (aa T 0)/\P)/\(ua=false->not (aa (IntKind.wrap .i64 T) 0)/\P))) (.a .i64 u9) (aa (bI (aV ng true N A u9)) 0)) (af .i64 B) (af .i64 T) (Int.tmod G B)) (af .i64 O) (Int.add O 1) (Int.add (IntKind.wrap .i64 O) 1) (u5=false/\False)) (Nat.ble u4 1000) (Int.add (Int.ofNat u4) A)) N.length) (List.drop 0 (List.take Y u3))) (u0++[d0 n,d1 n,d2 n,d3 n])) (.a .i64 A) (af .i64 A) (List.drop W (List.take I [UInt8.ofNat 49,UInt8.ofNat 50,UInt8.ofNat 51,UInt8.ofNat 52,UInt8.ofNat 53,UInt8.ofNat 54,UInt8.ofNat 55,UInt8.ofNat 56,UInt8.ofNat 57]))) (Int.add 1 Z) H.toNat) (Int.add E 1) (Int.tmod U 11) E.toNat F.toNat) (.b true) (Int.tmod f 6) (Int.tmod z0 9) (Int.add 1 (Int.tmod z1 5)) (Int.tdiv z0 16) (Int.tdiv z1 16)) (λ_=>by kernel_rfl) λQ' hQ=>?_;try dsimp only
       have e0:ab (z1%3) 0=false:=bF.mpr (by omega);simp only[qV,sY,gw,kQ,la,I3,e0,e3,e4,e5,zAj]at hQ;have m5:0<=z1%5/\z1%5<=4:=by omega
       have m11:0<=z1/16%11/\z1/16%11<=10:=by omega
       try dsimp only
       rw[tf,e3,e4,e5,tm (b:=9) h3.1,tm (b:=3) h4.1,tm (b:=5) h4.1,td (b:=16) h3.1,td (b:=16) h4.1,s9,e0,tm m16.1,tm (a:=z1/16) (by omega),TO];rw[show Int.add 1 (z1%5)=1+z1%5 from rfl,show Int.add 1 (z1/16%11)=1+z1/16%11 from rfl];simp only[List.cons_append,List.nil_append,List.drop_zero]at hQ ⊢;have hl:(List.take (1+z1%5).toNat [Bc (z0%9+1),d0 n,d1 n,d2 n,d3 n]).length<=5:=by
        rw[List.length_take];exact Nat.min_le_right _ _
       have h5:(1+z1%5).toNat<=[Bc (z0%9+1),d0 n,d1 n,d2 n,d3 n].length:=by
        simp only[zAf,List.length_nil];omega
       have ez:∀x y:Int,Int.add (Int.add x y) 1=x+y+1:=λ_ _=>rfl;rw[ez];generalize hg:z0/16%(Int.ofNat _+_+1)=g at *;generalize aV _ _ _ _ _=o at *;generalize [Bc (z0%9+1),d0 n,d1 n,d2 n,d3 n]=L at *;generalize List.take (1+z1%5).toNat L=T at *;cases o<;>cases ng<;>simp only[az,reduceCtorEq]<;>(repeat' first|exact trivial|refine⟨?_,?_⟩|intro)<;>first|contradiction|omega|assumption|exact hQ|simp
 . cases he
def XN:List (List UInt8):=[[UInt8.ofNat 48,UInt8.ofNat 88],[UInt8.ofNat 49,UInt8.ofNat 88],[UInt8.ofNat 88,UInt8.ofNat 50],[UInt8.ofNat 88,UInt8.ofNat 88],[UInt8.ofNat 88,UInt8.ofNat 48],[UInt8.ofNat 88,UInt8.ofNat 57]]
def XO:List (List UInt8):=[[UInt8.ofNat 48,UInt8.ofNat 88],[UInt8.ofNat 49,UInt8.ofNat 88],[UInt8.ofNat 50,UInt8.ofNat 88],[UInt8.ofNat 51,UInt8.ofNat 88],[UInt8.ofNat 88,UInt8.ofNat 48],[UInt8.ofNat 88,UInt8.ofNat 49],[UInt8.ofNat 88,UInt8.ofNat 88],[UInt8.ofNat 88,UInt8.ofNat 56]]
def Av(k:Int):List UInt8:=bif aa k 0 then[]else bif ab k 12 then pZ k else bif ab k 33 then pZ (k+8)else XN.getD (k-34).toNat []
def WP(mo:List UInt8):Bool:=ae mo [UInt8.ofNat 48,UInt8.ofNat 52] || (ae mo [UInt8.ofNat 48,UInt8.ofNat 54] || (ae mo [UInt8.ofNat 48,UInt8.ofNat 57] || (ae mo [UInt8.ofNat 49,UInt8.ofNat 49] || ae mo [UInt8.ofNat 88,UInt8.ofNat 57])))
def moD(mo:List UInt8):Int:=bif ae mo [UInt8.ofNat 48,UInt8.ofNat 50]then 28 else bif WP mo then 30 else 31
def Gt(k:Int)(mo:List UInt8):List UInt8:=bif aa k 0 then[]else bif ab k 31 then pZ (gY k (moD mo))else XO.getD (bif ae mo [UInt8.ofNat 48,UInt8.ofNat 50]&&aa k 35 then 2 else(k-32).toNat) []
def YL:dP:=λargs=>match args with
 | [.h [.a .u8 f,.b ng,.a .u16 n,.a .u8 z0,.a .u8 z1,.a .u8 m,.a .u8 d,.a .u8 x,.a .u8 y,.a .u8 z]]=>some (aH [af .u8 m] (.a0 (.d (Av (m%40)))))
 | _=>none
def Y8:dP:=λargs=>match args with
 | [.h [.a .u8 f,.b ng,.a .u16 n,.a .u8 z0,.a .u8 z1,.a .u8 m,.a .u8 d,.a .u8 x,.a .u8 y,.a .u8 z],.d mo]=>some (aH [af .u8 d] (.a0 (.d (Gt (d%40) mo))))
 | _=>none
def YT:aQ:=bb gZ 70 QP
theorem Gb:ak Tryz.prog cfg YT:=bm aW (ML 70 _ rfl)
theorem QI(h:34<=k/\k<=39):List.getD [AV.d [UInt8.ofNat 48,UInt8.ofNat 88],AV.d [UInt8.ofNat 49,UInt8.ofNat 88],AV.d [UInt8.ofNat 88,UInt8.ofNat 50],AV.d [UInt8.ofNat 88,UInt8.ofNat 88],AV.d [UInt8.ofNat 88,UInt8.ofNat 48],AV.d [UInt8.ofNat 88,UInt8.ofNat 57]] (0+(Int.sub k 34).toNat*1) (AV.e [])=AV.d (XN.getD (k-34).toNat []):=by
 have:k=34\/k=35\/k=36\/k=37\/k=38\/k=39:=by omega
 rcases this with rfl|rfl|rfl|rfl|rfl|rfl<;>rfl
theorem Se(h:32<=k/\k<=39):List.getD [AV.d [UInt8.ofNat 48,UInt8.ofNat 88],AV.d [UInt8.ofNat 49,UInt8.ofNat 88],AV.d [UInt8.ofNat 50,UInt8.ofNat 88],AV.d [UInt8.ofNat 51,UInt8.ofNat 88],AV.d [UInt8.ofNat 88,UInt8.ofNat 48],AV.d [UInt8.ofNat 88,UInt8.ofNat 49],AV.d [UInt8.ofNat 88,UInt8.ofNat 88],AV.d [UInt8.ofNat 88,UInt8.ofNat 56]] (0+(Int.sub k 32).toNat*1) (AV.e [])=AV.d (XO.getD (k-32).toNat []):=by
 have:k=32\/k=33\/k=34\/k=35\/k=36\/k=37\/k=38\/k=39:=by omega
 rcases this with rfl|rfl|rfl|rfl|rfl|rfl|rfl|rfl<;>rfl
theorem AN{s:List UInt8}:C9 (.d s)=s:=rfl
theorem CA{s:List UInt8}:Iq (.d s)=true:=rfl
theorem VI(hS:ak Tryz.prog cfg S):ak Tryz.prog cfg (bb S 35 YL):=by
 refine au hS λargs t v he hv=>?_;unfold YL at he;split at he
 . rename_i f ng n z0 z1 m d x y z;cases he;obtain⟨h1,hv⟩:=bO hv;cases hv;rw[aE]at h1;simp only[eH,eE]at h1;have e:Int.tmod m 40=m%40:=tm h1.1;have hk:0<=m%40/\m%40<=39:=by omega
   refine nF Gb ai (bE 1271220241220414200) (R:=λQ=>(λ(A:Int)(B F:UInt8)=>(λ(G H:Bool)(C E:Int)=>(λ(I:Nat)=>(λ(N:AV)=>af .i64 A/\(aa A 0->Q (.d []))/\(aa A 0=false->(G->ab 0 A/\ab A 99/\Q (.d (pZ A)))/\(G=false->(H->af .i64 C/\ab 0 C/\ab C 99/\Q (.d (pZ C)))/\(H=false->af .i64 E/\ab 0 E/\aS I 6/\Iq N/\Q (.d (C9 N)))))) (List.getD [.d [F,B],.d [UInt8.ofNat 49,B],.d [B,UInt8.ofNat 50],.d [B,B],.d [B,F],.d [B,UInt8.ofNat 57]] (HAdd.hAdd 0 (HMul.hMul I 1)) (.e []))) E.toNat) (ab A 12) (ab A 33) (Int.add A 8) (Int.sub A 34)) (Int.tmod m 40) (UInt8.ofNat 88) (UInt8.ofNat 48)) (λ_=>by kernel_rfl) λQ' hQ=>?_;try dsimp only
   rw[e];unfold Av at hQ;generalize m%40=k at *;rw[show Int.add k 8=k+8 from rfl];by_cases h0:k=0
   . rw[ao.mpr h0]at hQ ⊢;simp only[reduceCtorEq,false_implies,true_implies,and_true,aE,eH,eE];exact⟨by omega,hQ⟩
   . rw[aw.mpr h0]at hQ ⊢;by_cases h12:k<=12
     . rw[aq.mpr h12]at hQ ⊢;simp only[reduceCtorEq,zAh,aE,eH,eE,aq];exact⟨by omega,by omega,by omega,hQ⟩
     . rw[bF.mpr (show 12<k by omega)]at hQ ⊢;by_cases h33:k<=33
       . rw[aq.mpr h33]at hQ ⊢;simp only[reduceCtorEq,zAh,aE,eH,eE,aq]
         (repeat' first|refine⟨?_,?_⟩|intro)<;>first|omega|exact hQ
       . rw[bF.mpr (show 33<k by omega)]at hQ ⊢;rw[QI (by omega),AN,CA];simp only[az,reduceCtorEq,zAh]
         (repeat' first|refine⟨?_,?_⟩|intro)<;>first|omega|exact hQ
 . cases he
theorem UF(hS:ak Tryz.prog cfg S):ak Tryz.prog cfg (bb S 37 Y8):=by
 refine au hS λargs t v he hv=>?_;unfold Y8 at he;split at he
 . rename_i f ng n z0 z1 m d x y z mo;cases he;obtain⟨h1,hv⟩:=bO hv;cases hv;rw[aE]at h1;simp only[eH,eE]at h1;have e:Int.tmod d 40=d%40:=tm h1.1;have hk:0<=d%40/\d%40<=39:=by omega
   refine nF Gb ai (bE 12703312715422412201220412202412202412202412202412204414200) (R:=λQ=>(λ(B:Int)(A C G Y Z:UInt8)=>(λ(u3:AV)(E N P T U u0 u1 u2:Bool)(I O V W:Int)=>(λ(u4:Nat)(F H:Prop)=>(λ(u5:AV)=>(λ(u6:Prop)=>af .i64 B/\(aa B 0->Q (.d []))/\(aa B 0=false->(u0->(E->ab 0 I/\ab I 99/\Q (.d (pZ I)))/\(H->(N->N/\F)/\(N=false->(P->P/\F)/\(P=false->(T->T/\F)/\(T=false->(U->U/\F)/\(U=false->(u1->F)/\(u1=false->ab 0 V/\ab V 99/\Q (.d (pZ V)))))))))/\(u0=false->(E->E/\E/\(u2->Q u3)/\(u2=false->u6))/\(H->H/\H/\u6)))) (af .i64 W/\ab 0 W/\aS u4 8/\Iq u5/\Q (.d (C9 u5)))) (List.getD [.d [C,A],.d [G,A],u3,.d [UInt8.ofNat 51,A],.d [A,C],.d [A,G],.d [A,A],.d [A,UInt8.ofNat 56]] (HAdd.hAdd 0 (HMul.hMul u4 1)) (.e []))) W.toNat (ab 0 O/\ab O 99/\Q (.d (pZ O))) (E=false)) (.d [Y,A]) (ae mo [C,Y]) (ae mo [C,UInt8.ofNat 52]) (ae mo [C,UInt8.ofNat 54]) (ae mo [C,Z]) (ae mo [G,G]) (ab B 31) (ae mo [A,Z]) (aa B 35) (gY B 28) (gY B 30) (gY B 31) (Int.sub B 32)) (Int.tmod d 40) (UInt8.ofNat 88) (UInt8.ofNat 48) (UInt8.ofNat 49) (UInt8.ofNat 50) (UInt8.ofNat 57)) (λ_=>by kernel_rfl) λQ' hQ=>?_;try dsimp only
   rw[e];unfold Gt moD WP at hQ;generalize d%40=k at *;by_cases h0:k=0
   . rw[ao.mpr h0]at hQ ⊢;simp only[reduceCtorEq,false_implies,true_implies,and_true,aE,eH,eE];exact⟨by omega,hQ⟩
   . rw[aw.mpr h0]at hQ ⊢;by_cases h31:k<=31
     . rw[aq.mpr h31]at hQ ⊢;have m1:gY k 28<=28/\0<=gY k 28:=by rw[EB];omega
       have m2:gY k 30<=30/\0<=gY k 30:=by rw[EB];omega
       have m3:gY k 31<=31/\0<=gY k 31:=by rw[EB];omega
       generalize ae mo [UInt8.ofNat 48,UInt8.ofNat 50]=b1 at *;generalize ae mo [UInt8.ofNat 48,UInt8.ofNat 52]=b2 at *;generalize ae mo [UInt8.ofNat 48,UInt8.ofNat 54]=b3 at *;generalize ae mo [UInt8.ofNat 48,UInt8.ofNat 57]=b4 at *;generalize ae mo [UInt8.ofNat 49,UInt8.ofNat 49]=b5 at *;generalize ae mo [UInt8.ofNat 88,UInt8.ofNat 57]=b6 at *;rw[aq.mpr m1.2,aq.mpr m2.2,aq.mpr m3.2,aq.mpr (show gY k 28<=99 by omega),aq.mpr (show gY k 30<=99 by omega),aq.mpr (show gY k 31<=99 by omega)];have hr:af .i64 k=true:=by rw[aE];simp only[eH,eE];omega
       cases b1<;>cases b2<;>cases b3<;>cases b4<;>cases b5<;>cases b6<;>simp only[reduceCtorEq,zAh]<;>exact⟨hr,hQ⟩
     . rw[bF.mpr (show 31<k by omega)]at hQ ⊢;rw[Se (by omega),AN,CA];generalize ae mo [UInt8.ofNat 48,UInt8.ofNat 50]=b1 at *;have i1:af .i64 k=true:=by rw[aE];simp only[eH,eE];omega
       have i2:af .i64 (Int.sub k 32)=true:=by rw[aE];simp only[eH,eE];show _<=k-32/\k-32<=_;omega
       have i3:ab 0 (Int.sub k 32)=true:=by rw[aq];show 0<=k-32;omega
       have i4:aS (Int.sub k 32).toNat 8=true:=by rw[aU];show(k-32).toNat<8;omega
       rw[i1,i2,i3,i4];cases h35:aa k 35<;>cases b1<;>rw[h35]at hQ<;>simp only[reduceCtorEq,zAh]<;>exact hQ
 . cases he
def jZ(f n z0 z1 m:Int):List UInt8:=bif aa (la f n z0 z1) 0 then Av (m%40)else[]
def nY(f n z0 z1 m d:Int):List UInt8:=bif !(ae (jZ f n z0 z1 m) [])&&aa (aR (jZ f n z0 z1 m)) 0 then Gt (d%40) (jZ f n z0 z1 m)else[]
def Em(c:Int)(i x:Int):Int:=bif ab c i then 0 else x%4
def X9:dP:=λargs=>match args with
 | [.h [.a .u8 f,.b ng,.a .u16 n,.a .u8 z0,.a .u8 z1,.a .u8 m,.a .u8 d,.a .u8 x,.a .u8 y,.a .u8 z]]=>some (aH [af .u8 f,af .u16 n,af .u8 z0,af .u8 z1,af .u8 m,af .u8 d,af .u8 x,af .u8 y,af .u8 z] (.a0 (.h [.b (qV f ng n z0 z1),.b (sY f),.d (gw f n z0 z1),.a .i64 (kQ f z1),.a .i64 (la f n z0 z1),.d (jZ f n z0 z1 m),.d (nY f n z0 z1 m d),.a .u8 (Em (dq (jZ f n z0 z1 m) (nY f n z0 z1 m d)) 0 x),.a .u8 (Em (dq (jZ f n z0 z1 m) (nY f n z0 z1 m d)) 1 y),.a .u8 (Em (dq (jZ f n z0 z1 m) (nY f n z0 z1 m d)) 2 z)])))
 | _=>none
def S36:aQ:=bb (bb (bb (bb (bb gZ 34 ZX) 35 YL) 36 Zt) 37 Y8) 38 YA
theorem RS:ak Tryz.prog cfg S36:=bm (UF (bm (VI (WB aW)) (MW 36 _ rfl))) (MW 38 _ rfl)
theorem UZ(hS:ak Tryz.prog cfg S):ak Tryz.prog cfg (bb S 14 X9):=by
 refine au hS λargs t v he hv=>?_;unfold X9 at he;split at he
 . rename_i f ng n z0 z1 m d x y z;cases he;obtain⟨⟨h1,h2,h3,h4,h5,h6,h7,h8,h9,-⟩,hv⟩:=aF hv;cases hv;refine nF RS ai (bE 1566666100610061006306640664066200068100610061006306640664066200610061006100630664066406620006200064220206400200640027005) (R:=λQ=>(λ(A B C E F G O T u0:AV)(Z:Int)(I:List UInt8)=>(λ(H N:AV)(P u1:Bool)(U:Int)(u2:List UInt8)=>(λ(Y:AV)(u3 u4:Bool)(V:Int)(W:Prop)=>(λ(u5 u6:Bool)(u7:Prop)=>af .u8 f/\af .u16 n/\af .u8 z0/\af .u8 z1/\(aa Z 0->af .u8 m/\(P->P/\P/\P/\(u1->af .u8 d/\not (ab V 0)/\(u5->(u6->not (ab V 3)=false/\Q (.h [B,C,E,F,H,N,Y,G,T,u0]))/\(u6=false->Q (.h [B,C,E,F,H,N,Y,G,T,A])))/\(u5=false->Q (.h [B,C,E,F,H,N,Y,G,A,A])))/\(u1=false->u7))/\(W->W/\W/\W/\u7))/\(aa Z 0=false->Q (.h [B,C,E,F,H,O,O,G,A,A]))) (not (ab V 1)) (not (ab V 2)) (not (ab U 0)/\(u3->(u4->not (ab U 3)=false/\Q (.h [B,C,E,F,H,N,O,G,T,u0]))/\(u4=false->Q (.h [B,C,E,F,H,N,O,G,T,A])))/\(u3=false->Q (.h [B,C,E,F,H,N,O,G,A,A])))) (.d u2) (not (ab U 1)) (not (ab U 2)) (dq I u2) (P=false)) (.a .i64 Z) (.d I) (not (ae I [])) (aa (aR I) 0) (dq I []) (Gt (HMod.hMod d 40) I)) (.a .u8 0) (.b (qV f ng n z0 z1)) (.b (sY f)) (.d (gw f n z0 z1)) (.a .i64 (kQ f z1)) (.a .u8 (Int.tmod x 4)) (.d []) (.a .u8 (Int.tmod y 4)) (.a .u8 (Int.tmod z 4)) (la f n z0 z1) (Av (HMod.hMod m 40))) (λ_=>by kernel_rfl) λQ' hQ=>?_;try dsimp only
   rw[aE]at h7 h8 h9;simp only[eH,eE]at h7 h8 h9;try dsimp only
   rw[h1,h2,h3,h4,h5,h6,tm (b:=4) h7.1,tm (b:=4) h8.1,tm (b:=4) h9.1];unfold nY jZ Em at hQ;have n0:aa (aR []) 0=true:=rfl;have n1:ae ([]:List UInt8) []=true:=rfl;generalize qV f ng n z0 z1=gn at *;generalize la f n z0 z1=gg at *;generalize Av (m%40)=M at *;have c1:=pr M (Gt (d%40) M);have c2:=pr M [];have c3:dq [] []=1:=rfl;have fin:∀C:Int,1<=C/\C<=3->(ab C 0=false)/\(ab C 3=true):=λC h=>⟨bF.mpr (by omega),aq.mpr h.2⟩;have lt:∀C:Int,1<=C/\C<=3->ab C 2=false->ab C 1=false:=λC h k=>by rw[bF]at k ⊢;omega
   cases hg:aa gg 0 with
   | false=>
     rw[hg]at hQ;simp only[cond_false,n1,c3,Bool.not_true,Bool.false_and]at hQ;simp only[reduceCtorEq,zAh];exact hQ
   | true=>
     rw[hg]at hQ;simp only[cond_true]at hQ;cases hM:ae M []with
     | true=>
       rw[hM]at hQ;simp only[Bool.not_true,Bool.false_and,cond_false]at hQ;rw[(fin _ c2).1]at hQ ⊢;rw[(fin _ c2).2];have:=lt _ c2;cases k1:ab (dq M []) 1<;>cases k2:ab (dq M []) 2<;>rw[k1,k2]at hQ<;>simp only[k1,k2,zAj,reduceCtorEq,zAh,Bool.not_true,Bool.not_false]at hQ this ⊢<;>exact hQ
     | false=>
       rw[hM]at hQ;simp only[Bool.not_false,Bool.true_and]at hQ;cases hs:aa (aR M) 0 with
       | false=>
         rw[hs,cond_false]at hQ;rw[(fin _ c2).1]at hQ ⊢;rw[(fin _ c2).2];have:=lt _ c2;cases k1:ab (dq M []) 1<;>cases k2:ab (dq M []) 2<;>rw[k1,k2]at hQ<;>simp only[k1,k2,zAj,reduceCtorEq,zAh,Bool.not_true,Bool.not_false]at hQ this ⊢<;>exact hQ
       | true=>
         rw[hs,cond_true]at hQ;generalize Gt (d%40) M=D at *;rw[(fin _ c1).1]at hQ ⊢;rw[(fin _ c1).2];have:=lt _ c1;cases k1:ab (dq M D) 1<;>cases k2:ab (dq M D) 2<;>rw[k1,k2]at hQ<;>simp only[k1,k2,zAj,reduceCtorEq,zAh,Bool.not_true,Bool.not_false]at hQ this ⊢<;>exact hQ
 . cases he
end Go.Ev
