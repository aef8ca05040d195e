import Derived.Test.YtoghlpcacfnjbaaGreatDoorP32
set_option linter.all false
set_option maxRecDepth 100000
set_option maxHeartbeats 4000000
namespace Go.Ev
open Go Go.Proofs
variable{k:Int}{S:aR}
theorem UP{rk a c:Int}{dz ft:Bool}:cA 2 0 0 dz 0 true 0 0 true true ft rk a c=0:=by
 unfold cA;rw[if_neg (by decide),if_neg (by decide),if_pos rfl,if_pos ⟨rfl,rfl,rfl⟩,if_pos rfl,if_pos ⟨rfl,rfl,rfl⟩]
abbrev Wo:List UInt8:=[UInt8.ofNat 48,UInt8.ofNat 49,UInt8.ofNat 50,UInt8.ofNat 51,UInt8.ofNat 52,UInt8.ofNat 53,UInt8.ofNat 54,UInt8.ofNat 55,UInt8.ofNat 56,UInt8.ofNat 57]
def Ax(k:Int):UInt8:=Wo.getD k.toNat 0
def d0(n:Int):UInt8:=Ax (n%10000/1000)
def d1(n:Int):UInt8:=Ax (n%10000/100%10)
def d2(n:Int):UInt8:=Ax (n%10000/10%10)
def d3(n:Int):UInt8:=Ax (n%10000%10)
def Sl:dJ:=λargs=>match args with
 | [.int .u16 n]=>some (aH [ab 0 n,ab n 65535] (.ret (.str [d0 n,d1 n,d2 n,d3 n])))
 | _=>none
theorem s5(h:0<=k/\k<=9):k=0\/k=1\/k=2\/k=3\/k=4\/k=5\/k=6\/k=7\/k=8\/k=9:=by omega
theorem wn(h:0<=k/\k<=9):List.drop k.toNat (List.take (Int.add k 1).toNat Wo)=[Ax k]:=by
 rcases s5 h with rfl|rfl|rfl|rfl|rfl|rfl|rfl|rfl|rfl|rfl<;>rfl
theorem oJ(h:0<=k/\k<=9):((Ax k).toNat:Int)=48+k:=by
 rcases s5 h with rfl|rfl|rfl|rfl|rfl|rfl|rfl|rfl|rfl|rfl<;>rfl
theorem Sw(hS:ak Tryz.prog cfg S):ak Tryz.prog cfg (aY S 68 Sl):=by
 refine au hS λargs t v he hv=>?_;unfold Sl at he;split at he
 . rename_i n;cases he;obtain⟨⟨h1,h2,-⟩,hv⟩:=aF hv;cases hv;rw[ao]at h1 h2;have e0:Int.tmod n 10000=n%10000:=Int.tmod_eq_emod_of_nonneg h1;have e1:Int.tdiv (n%10000) 1000=n%10000/1000:=Int.tdiv_eq_ediv_of_nonneg (by omega);have e2:Int.tdiv (n%10000) 100=n%10000/100:=Int.tdiv_eq_ediv_of_nonneg (by omega);have e3:Int.tdiv (n%10000) 10=n%10000/10:=Int.tdiv_eq_ediv_of_nonneg (by omega);have e4:Int.tmod (n%10000/100) 10=n%10000/100%10:=Int.tmod_eq_emod_of_nonneg (by omega);have e5:Int.tmod (n%10000/10) 10=n%10000/10%10:=Int.tmod_eq_emod_of_nonneg (by omega);have e6:Int.tmod (n%10000) 10=n%10000%10:=Int.tmod_eq_emod_of_nonneg (by omega);refine kP aV ag (bA 111142270042270200204227020020770200) (R:=λQ=>(λ(A:Int)(B:List UInt8)=>(λ(C E W Y:Int)=>(λ(Z u1 u2:Bool)(F G H I:Int)(u0 u3:Nat)=>(λ(O P:Int)(N T u4 u5:Nat)=>(λ(u6 u7:List UInt8)(U V:Nat)=>(λ(u8 u9:List UInt8)=>(λ(ua:Bool)(ub:List UInt8)=>(λ(uc:Bool)(ud:List UInt8)=>(λ(ue:Bool)=>Z/\Z/\ae .u16 F/\ab 0 F/\Nat.ble N 10/\ab 0 C/\Nat.ble u0 N/\u1/\u1/\ae .u16 O/\ab 0 O/\Nat.ble U 10/\ab 0 G/\Nat.ble u4 U/\(ua->u2/\u2/\ae .u16 P/\ab 0 P/\Nat.ble V 10/\ab 0 H/\Nat.ble u5 V/\(uc->ae .u16 I/\ab 0 I/\Nat.ble T 10/\ab 0 E/\Nat.ble u3 T/\(ue->Q (.str (ud++u7)))/\(ue=false->False))/\(uc=false->False))/\(ua=false->False)) (Nat.ble (HAdd.hAdd ud.length u7.length) 1000000)) (Nat.ble (HAdd.hAdd ub.length u9.length) 1000000) (ub++u9)) (Nat.ble (HAdd.hAdd u6.length u8.length) 1000000) (u6++u8)) (List.drop u4 (List.take U B)) (List.drop u5 (List.take V B))) (List.drop u0 (List.take N B)) (List.drop u3 (List.take T B)) O.toNat P.toNat) (Int.add G 1) (Int.add H 1) F.toNat I.toNat G.toNat H.toNat) (ae .u16 C) (ae .u16 W) (ae .u16 Y) (Int.add C 1) (Int.tmod W 10) (Int.tmod Y 10) (Int.add E 1) C.toNat E.toNat) (Int.tdiv A 1000) (Int.tmod A 10) (Int.tdiv A 100) (Int.tdiv A 10)) (Int.tmod n 10000) [UInt8.ofNat 48,UInt8.ofNat 49,UInt8.ofNat 50,UInt8.ofNat 51,UInt8.ofNat 52,UInt8.ofNat 53,UInt8.ofNat 54,UInt8.ofNat 55,UInt8.ofNat 56,UInt8.ofNat 57]) (λ_=>by kernel_rfl) λQ' hQ=>?_;try dsimp only
   unfold d0 d1 d2 d3 at hQ;try dsimp only
   rw[e0,e1,e2,e3,e4,e5,e6,wn (k:=n%10000/1000) (by omega),wn (k:=n%10000/100%10) (by omega),wn (k:=n%10000/10%10) (by omega),wn (k:=n%10000%10) (by omega)];generalize Ax _=x0 at *;generalize Ax _=x1 at *;generalize Ax _=x2 at *;generalize Ax _=x3 at *;simp only[az,reduceCtorEq]
   (repeat' first|exact trivial|refine⟨?_,?_⟩|intro)<;>first|contradiction|omega|assumption|exact hQ|(exfalso;simp_all)
 . cases he
def P0(a b n:Int):List UInt8:=[bif aa 0 a || aa 0 b then UInt8.ofNat 88 else d0 n,bif aa 1 a || aa 1 b then UInt8.ofNat 88 else d1 n,bif aa 2 a || aa 2 b then UInt8.ofNat 88 else d2 n,bif aa 3 a || aa 3 b then UInt8.ofNat 88 else d3 n]
def Ig(n z0:Int):List UInt8:=[Ax (z0%9+1),d0 n,d1 n,d2 n,d3 n]
def gA(f n z0 z1:Int):List UInt8:=bif aa (f%6) 3 then P0 (z0%4) (z1%4) n else bif aa (f%6) 5 then(bif ab (z1%3) 0 then Ig n z0 else List.take (1+z1%5).toNat (Ig n z0))else[d0 n,d1 n,d2 n,d3 n]
def kG(f z1:Int):Int:=bif aa (f%6) 5 then(bif ab (z1%3) 0 then 0 else 1+z1/16%11)else 0
def kE(f n z0 z1:Int):Int:=bif aa (f%6) 4 then 1+z0%4 else bif aa (f%6) 5 then z0/16%(Int.ofNat (gA f n z0 z1).length+kG f z1+1)else 0
def sw(f:Int):Bool:=aa (f%6) 5
def su(f:Int)(ng:Bool)(n z0 z1:Int):Bool:=ng&&aZ ng (sw f) (gA f n z0 z1) (kG f z1) (kE f n z0 z1)
def Y0:dJ:=λargs=>match args with
 | [.agg [.int .u8 f,.bool ng,.int .u16 n,.int .u8 z0,.int .u8 z1]]=>some (aH [ae .u8 f,ae .u16 n,ae .u8 z0,ae .u8 z1] (.ret (.agg [.bool (su f ng n z0 z1),.bool (sw f),.str (gA f n z0 z1),.int .i64 (kG f z1),.int .i64 (kE f n z0 z1)])))
 | _=>none
def S84:aR:=aY (aY gX 69 RU) 68 Sl
theorem yr:ak Tryz.prog cfg S84:=Sw (bm aV (Jo 69 _ rfl))
theorem L6(h:0<=k/\k<=8):List.drop k.toNat (List.take (Int.add k 1).toNat [UInt8.ofNat 49,UInt8.ofNat 50,UInt8.ofNat 51,UInt8.ofNat 52,UInt8.ofNat 53,UInt8.ofNat 54,UInt8.ofNat 55,UInt8.ofNat 56,UInt8.ofNat 57])=[Ax (k+1)]:=by
 rcases s5 ⟨h.1,by omega⟩with rfl|rfl|rfl|rfl|rfl|rfl|rfl|rfl|rfl|rfl<;>first|rfl|omega
theorem Wi{b:Bool}:aa (bI b) 0=!b:=by cases b<;>rfl
theorem iq4:(aa 0 0/\aa 0 1=false/\aa 0 2=false/\aa 0 3=false)/\(aa 1 0=false/\aa 1 1/\aa 1 2=false/\aa 1 3=false)/\(aa 2 0=false/\aa 2 1=false/\aa 2 2/\aa 2 3=false)/\(aa 3 0=false/\aa 3 1=false/\aa 3 2=false/\aa 3 3=true):=by decide
theorem tm{a b:Int}(h:0<=a):Int.tmod a b=a%b:=Int.tmod_eq_emod_of_nonneg h
theorem td{a b:Int}(h:0<=a):Int.tdiv a b=a/b:=Int.tdiv_eq_ediv_of_nonneg h
theorem VZ(hS:ak Tryz.prog cfg S):ak Tryz.prog cfg (aY S 34 Y0):=by
 refine au hS λargs t v he hv=>?_;unfold Y0 at he;split at he
 . rename_i f ng n z0 z1;cases he;obtain⟨⟨h1,h2,h3,h4,-⟩,hv⟩:=aF hv;cases hv;rw[aB]at h1 h2 h3 h4;simp only[dP,dR]at h1 h2 h3 h4;have tf:Int.tmod f 6=f%6:=tm h1.1;have cf:f%6<=2\/f%6=3\/f%6=4\/f%6=5:=by omega
   rcases cf with cf|cf|cf|cf
   . refine kP yr ag (bA 100510005455800022000) (R:=λQ=>(λ(A C:AV)(B:Int)(E:List UInt8)=>(λ(F:Bool)=>ab 0 n/\ab n 65535/\aa B 3=false/\aa B 4=false/\aa B 5=false/\(F->Q (.agg [C,C,.str E,A,A]))/\(F=false->Q (.agg [.bool ng,C,.str E,A,A]))) (aa (bI (aZ ng false E 0 0)) 0)) (.int .i64 0) (.bool false) (Int.tmod f 6) [d0 n,d1 n,d2 n,d3 n]) (λ_=>by kernel_rfl) λQ' hQ=>?_;try dsimp only
     have e3:aa (f%6) 3=false:=ay.mpr (by omega);have e4:aa (f%6) 4=false:=ay.mpr (by omega);have e5:aa (f%6) 5=false:=ay.mpr (by omega);simp only[su,sw,gA,kG,kE,e3,e4,e5,cond_false]at hQ;try dsimp only
     rw[tf,e3,e4,e5,Wi];generalize aZ _ _ _ _ _=o at *;cases o<;>cases ng<;>simp only[az,reduceCtorEq]<;>(repeat' first|exact trivial|refine⟨?_,?_⟩|intro)<;>first|contradiction|omega|assumption|exact hQ
   . refine kP yr ag (bA 100510005466100510005400064376100510005466337000437610051000546633763370004375233100510005466100510005400064376100510005466337000437523310051000546610051000540006437523310051000545628610051000545628000432246100510005466337523310051000545628633224000432246100510005466337633752331005100054663375233100510005456286332246332240004322402525200022000) (R:=λQ=>(λ(A B H:AV)(u2 u3:Int)(F O P T U:UInt8)=>(λ(V u4 u5 u6 u7 ua ub:Bool)(uf ug uh ui uj uk ul um un uo:List UInt8)=>(λ(C E I u9 up uq ur us ut uu uv uw ux uy:Bool)(W Y Z u0 uc ud:Prop)=>(λ(G N u1 ue uz uA uB uC uD uE:Prop)=>(λ(uG:Prop->Prop)=>(λ(uF:Prop->Prop)=>ab 0 n/\ab n 65535/\aa (Int.tmod f 6) 3/\ae .i64 u2/\ae .i64 u3/\(u9->u9/\u9/\ua=false/\(aa 0 u3->(I->I/\I/\uc/\ud/\(C->uG (Y/\uF uz))/\(N->N/\N/\u4/\uA))/\(u1->u1/\u1/\u5/\uB))/\(aa 0 u3=false->(I->I/\I/\uc/\(ub->(C->uG (Y/\uF uC))/\(N->N/\N/\u4/\uD))/\(ud->(C->uG ((u6->uF uE)/\(Y->uF ((uv->Q (.agg [B,B,.str ul,A,A]))/\(uv=false->Q (.agg [H,B,.str ul,A,A]))))))/\(N->N/\N/\u4/\E/\E/\E/\Z/\(u7->uE)/\(u0->(uw->Q (.agg [B,B,.str um,A,A]))/\(uw=false->Q (.agg [H,B,.str um,A,A]))))))/\(u1->u1/\u1/\u5/\C/\uG ((u6->uD)/\(Y->E/\E/\E/\Z/\(u7->uC)/\(u0->(ux->Q (.agg [B,B,.str un,A,A]))/\(ux=false->Q (.agg [H,B,.str un,A,A]))))))))/\(ue->ue/\ue/\ua/\I/\I/\I/\uc/\(ub->uB)/\(ud->C/\uG ((u6->uA)/\(Y->E/\E/\E/\Z/\(u7->uz)/\(u0->(uy->Q (.agg [B,B,.str uo,A,A]))/\(uy=false->Q (.agg [H,B,.str uo,A,A])))))))) (λuH=>G/\G/\G/\V/\uH)) (λuH=>C/\C/\W/\uH)) (E=false) (C=false) (I=false) (u9=false) ((up->Q (.agg [B,B,.str uf,A,A]))/\(up=false->Q (.agg [H,B,.str uf,A,A]))) (E/\E/\E/\Z/\u0/\(uq->Q (.agg [B,B,.str ug,A,A]))/\(uq=false->Q (.agg [H,B,.str ug,A,A]))) (C/\C/\C/\W/\Y/\E/\E/\E/\Z/\u0/\(ur->Q (.agg [B,B,.str uh,A,A]))/\(ur=false->Q (.agg [H,B,.str uh,A,A]))) ((us->Q (.agg [B,B,.str ui,A,A]))/\(us=false->Q (.agg [H,B,.str ui,A,A]))) (E/\E/\E/\Z/\u0/\(ut->Q (.agg [B,B,.str uj,A,A]))/\(ut=false->Q (.agg [H,B,.str uj,A,A]))) ((uu->Q (.agg [B,B,.str uk,A,A]))/\(uu=false->Q (.agg [H,B,.str uk,A,A])))) (not u4) (not V) (not u5) (not ua) (aa (bI (aZ ng false uf 0 0)) 0) (aa (bI (aZ ng false ug 0 0)) 0) (aa (bI (aZ ng false uh 0 0)) 0) (aa (bI (aZ ng false ui 0 0)) 0) (aa (bI (aZ ng false uj 0 0)) 0) (aa (bI (aZ ng false uk 0 0)) 0) (aa (bI (aZ ng false ul 0 0)) 0) (aa (bI (aZ ng false um 0 0)) 0) (aa (bI (aZ ng false un 0 0)) 0) (aa (bI (aZ ng false uo 0 0)) 0) (u4=false) (u6=false) (V=false) (u7=false) (u5=false) (ub=false)) (aa 3 u2) (aa 2 u2) (aa 1 u2) (aa 2 u3) (aa 3 u3) (aa 0 u2) (aa 1 u3) [F,O,P,F] [F,O,F,T] [F,F,P,T] [U,F,P,F] [U,F,F,T] [U,O,F,F] [U,O,P,F] [U,O,F,T] [U,F,P,T] [F,O,P,T]) (.int .i64 0) (.bool false) (.bool ng) (Int.tmod z0 4) (Int.tmod z1 4) (UInt8.ofNat 88) (d1 n) (d2 n) (d3 n) (d0 n)) (λ_=>by kernel_rfl) λQ' hQ=>?_;try dsimp only
     have e3:aa (f%6) 3=true:=al.mpr (by omega);have e4:aa (f%6) 4=false:=ay.mpr (by omega);have e5:aa (f%6) 5=false:=ay.mpr (by omega);simp only[su,sw,gA,kG,kE,e3,e4,e5,zAj]at hQ;have ha:0<=z0%4/\z0%4<=3:=by omega
     have hb:0<=z1%4/\z1%4<=3:=by omega
     try dsimp only
     rw[tf,e3,tm (b:=4) h3.1,tm (b:=4) h4.1];generalize z0%4=a at *;generalize z1%4=b at *;have ca:a=0\/a=1\/a=2\/a=3:=by omega
     have cb:b=0\/b=1\/b=2\/b=3:=by omega
     rcases ca with rfl|rfl|rfl|rfl<;>rcases cb with rfl|rfl|rfl|rfl<;>simp only[P0,Wi,iq4,reduceCtorEq,Bool.or_true,Bool.true_or,Bool.or_false,zAj,Bool.not_true,Bool.not_false,zAh]at hQ ⊢<;>generalize aZ _ _ _ _ _=o at *<;>cases o<;>cases ng<;>simp only[az,reduceCtorEq]<;>(repeat' first|exact trivial|refine⟨?_,?_⟩|intro)<;>first|contradiction|omega|assumption|exact hQ
   . refine kP yr ag (bA 100510005462252300022000) (R:=λQ=>(λ(A G:AV)(C E:Int)(F:List UInt8)=>(λ(B:Int)=>(λ(I:AV)(H:Bool)=>ab 0 n/\ab n 65535/\aa C 3=false/\aa C 4/\ae .i64 E/\ae .i64 B/\(H->Q (.agg [A,A,.str F,G,I]))/\(H=false->Q (.agg [.bool ng,A,.str F,G,I]))) (.int .i64 B) (aa (bI (aZ ng false F 0 B)) 0)) (Int.add 1 E)) (.bool false) (.int .i64 0) (Int.tmod f 6) (Int.tmod z0 4) [d0 n,d1 n,d2 n,d3 n]) (λ_=>by kernel_rfl) λQ' hQ=>?_;try dsimp only
     have e3:aa (f%6) 3=false:=ay.mpr (by omega);have e4:aa (f%6) 4=true:=al.mpr (by omega);have e5:aa (f%6) 5=false:=ay.mpr (by omega);simp only[su,sw,gA,kG,kE,e3,e4,e5,zAj]at hQ;try dsimp only
     rw[tf,e3,e4,tm (b:=4) h3.1,Wi];rw[show Int.add 1 (z0%4)=1+z0%4 from rfl];generalize aZ _ _ _ _ _=o at *;cases o<;>cases ng<;>simp only[az,reduceCtorEq]<;>(repeat' first|exact trivial|refine⟨?_,?_⟩|intro)<;>first|contradiction|omega|assumption|exact hQ
   . have e3:aa (f%6) 3=false:=ay.mpr (by omega);have e4:aa (f%6) 4=false:=ay.mpr (by omega);have e5:aa (f%6) 5=true:=al.mpr (by omega);have s9:=L6 (k:=z0%9) (by omega);have m16:0<=z0/16/\z0/16<=15:=by omega
     by_cases h0:z1%3<=0
     . refine kP yr ag (bA 130005213000524130005210051000540255440022530520227623300022000) (R:=λQ=>(λ(P T:AV)(A B C:Int)=>(λ(E:Int)(U:Nat)=>(λ(F:Nat)=>(λ(V:List UInt8)=>(λ(G:List UInt8)=>(λ(W:Nat)=>(λ(Y:Bool)(H:Int)=>(λ(Z:Bool)(I O:Int)(N:Prop)=>(λ(u0 u2:Bool)(u1:Int)=>(λ(u4:AV)(u3:Bool)=>ab 0 n/\ab n 65535/\aa A 3=false/\aa A 4=false/\aa A 5/\ae .u8 E/\ab 0 E/\Nat.ble F 9/\ab 0 B/\Nat.ble U F/\Nat.ble (HAdd.hAdd V.length 4) 1000000/\not (ab (Int.tmod z1 3) 0)=false/\ae .u8 C/\ae .i64 C/\(Z->(u0->Y/\(u3->Q (.agg [.bool false,P,.str G,T,u4]))/\(u3=false->Q (.agg [.bool ng,P,.str G,T,u4])))/\(u0=false->not (aa (IntKind.wrap .i64 I) 0)/\N))/\(Z=false->(u2->not (aa O 0)/\N)/\(u2=false->not (aa (IntKind.wrap .i64 O) 0)/\N))) (.int .i64 u1) (aa (bI (aZ ng true G 0 u1)) 0)) (ae .i64 I) (ae .i64 O) (Int.tmod C I)) (ae .i64 H) (Int.add H 1) (Int.add (IntKind.wrap .i64 H) 1) (Y=false/\False)) (Nat.ble W 1000) (Int.add (Int.ofNat W) 0)) G.length) (V++[d0 n,d1 n,d2 n,d3 n])) (List.drop U (List.take F [UInt8.ofNat 49,UInt8.ofNat 50,UInt8.ofNat 51,UInt8.ofNat 52,UInt8.ofNat 53,UInt8.ofNat 54,UInt8.ofNat 55,UInt8.ofNat 56,UInt8.ofNat 57]))) E.toNat) (Int.add B 1) B.toNat) (.bool true) (.int .i64 0) (Int.tmod f 6) (Int.tmod z0 9) (Int.tdiv z0 16)) (λ_=>by kernel_rfl) λQ' hQ=>?_;try dsimp only
       have e0:ab (z1%3) 0=true:=ao.mpr h0;simp only[su,sw,gA,kG,kE,Ig,e0,e3,e4,e5,zAj]at hQ;try dsimp only
       rw[tf,e3,e4,e5,tm (b:=9) h3.1,tm (b:=3) h4.1,td (b:=16) h3.1,s9,e0,tm m16.1,Wi];simp only[zAd,List.length_nil,List.cons_append,List.nil_append]at hQ ⊢;have ez:∀x:Nat,Int.add (Int.add (Int.ofNat x) 0) 1=Int.ofNat x+0+1:=λ_=>rfl;rw[ez];generalize hg:z0/16%(Int.ofNat _+0+1)=g at *;generalize aZ _ _ _ _ _=o at *;generalize [Ax (z0%9+1),d0 n,d1 n,d2 n,d3 n]=L at *;cases o<;>cases ng<;>simp only[az,reduceCtorEq]<;>(repeat' first|exact trivial|refine⟨?_,?_⟩|intro)<;>first|contradiction|omega|assumption|exact hQ
     . refine kP yr ag (bA 1300052130005241300052100510005422000524400220522020570520520227623300022000) (R:=λQ=>(λ(V:AV)(C E F G U:Int)=>(λ(H Z:Int)(W Y:Nat)=>(λ(A:Int)(I:Nat)=>(λ(u2:AV)(u1:Bool)(u0:List UInt8)=>(λ(u3:List UInt8)=>(λ(N:List UInt8)=>(λ(u4:Nat)=>(λ(u5:Bool)(O:Int)=>(λ(u6:Bool)(B T:Int)(P:Prop)=>(λ(u7 ua:Bool)(u9:Int)=>(λ(uc:AV)(ub:Bool)=>ab 0 n/\ab n 65535/\aa C 3=false/\aa C 4=false/\aa C 5/\ae .u8 H/\ab 0 H/\Nat.ble I 9/\ab 0 E/\Nat.ble W I/\Nat.ble (HAdd.hAdd u0.length 4) 1000000/\not (ab (Int.tmod z1 3) 0)/\ae .u8 F/\ab 0 F/\Nat.ble Y u3.length/\ae .u8 U/\ae .i64 Z/\u1/\ae .u8 G/\ae .i64 G/\(u6->(u7->not (aa B 0)/\u5/\u1/\(ub->Q (.agg [.bool false,V,.str N,u2,uc]))/\(ub=false->Q (.agg [.bool ng,V,.str N,u2,uc])))/\(u7=false->not (aa (IntKind.wrap .i64 B) 0)/\P))/\(u6=false->(ua->not (aa T 0)/\P)/\(ua=false->not (aa (IntKind.wrap .i64 T) 0)/\P))) (.int .i64 u9) (aa (bI (aZ ng true N A u9)) 0)) (ae .i64 B) (ae .i64 T) (Int.tmod G B)) (ae .i64 O) (Int.add O 1) (Int.add (IntKind.wrap .i64 O) 1) (u5=false/\False)) (Nat.ble u4 1000) (Int.add (Int.ofNat u4) A)) N.length) (List.drop 0 (List.take Y u3))) (u0++[d0 n,d1 n,d2 n,d3 n])) (.int .i64 A) (ae .i64 A) (List.drop W (List.take I [UInt8.ofNat 49,UInt8.ofNat 50,UInt8.ofNat 51,UInt8.ofNat 52,UInt8.ofNat 53,UInt8.ofNat 54,UInt8.ofNat 55,UInt8.ofNat 56,UInt8.ofNat 57]))) (Int.add 1 Z) H.toNat) (Int.add E 1) (Int.tmod U 11) E.toNat F.toNat) (.bool true) (Int.tmod f 6) (Int.tmod z0 9) (Int.add 1 (Int.tmod z1 5)) (Int.tdiv z0 16) (Int.tdiv z1 16)) (λ_=>by kernel_rfl) λQ' hQ=>?_;try dsimp only
       have e0:ab (z1%3) 0=false:=bY.mpr (by omega);simp only[su,sw,gA,kG,kE,Ig,e0,e3,e4,e5,zAj]at hQ;have m5:0<=z1%5/\z1%5<=4:=by omega
       have m11:0<=z1/16%11/\z1/16%11<=10:=by omega
       try dsimp only
       rw[tf,e3,e4,e5,tm (b:=9) h3.1,tm (b:=3) h4.1,tm (b:=5) h4.1,td (b:=16) h3.1,td (b:=16) h4.1,s9,e0,tm m16.1,tm (a:=z1/16) (by omega),Wi];rw[show Int.add 1 (z1%5)=1+z1%5 from rfl,show Int.add 1 (z1/16%11)=1+z1/16%11 from rfl];simp only[List.cons_append,List.nil_append,List.drop_zero]at hQ ⊢;have hl:(List.take (1+z1%5).toNat [Ax (z0%9+1),d0 n,d1 n,d2 n,d3 n]).length<=5:=by
        rw[List.length_take];exact Nat.min_le_right _ _
       have h5:(1+z1%5).toNat<=[Ax (z0%9+1),d0 n,d1 n,d2 n,d3 n].length:=by
        simp only[zAd,List.length_nil];omega
       have ez:∀x y:Int,Int.add (Int.add x y) 1=x+y+1:=λ_ _=>rfl;rw[ez];generalize hg:z0/16%(Int.ofNat _+_+1)=g at *;generalize aZ _ _ _ _ _=o at *;generalize [Ax (z0%9+1),d0 n,d1 n,d2 n,d3 n]=L at *;generalize List.take (1+z1%5).toNat L=T at *;cases o<;>cases ng<;>simp only[az,reduceCtorEq]<;>(repeat' first|exact trivial|refine⟨?_,?_⟩|intro)<;>first|contradiction|omega|assumption|exact hQ|simp
 . cases he
def W7:List (List UInt8):=[[UInt8.ofNat 48,UInt8.ofNat 88],[UInt8.ofNat 49,UInt8.ofNat 88],[UInt8.ofNat 88,UInt8.ofNat 50],[UInt8.ofNat 88,UInt8.ofNat 88],[UInt8.ofNat 88,UInt8.ofNat 48],[UInt8.ofNat 88,UInt8.ofNat 57]]
def Xa:List (List UInt8):=[[UInt8.ofNat 48,UInt8.ofNat 88],[UInt8.ofNat 49,UInt8.ofNat 88],[UInt8.ofNat 50,UInt8.ofNat 88],[UInt8.ofNat 51,UInt8.ofNat 88],[UInt8.ofNat 88,UInt8.ofNat 48],[UInt8.ofNat 88,UInt8.ofNat 49],[UInt8.ofNat 88,UInt8.ofNat 88],[UInt8.ofNat 88,UInt8.ofNat 56]]
def zt(k:Int):List UInt8:=bif aa k 0 then[]else bif ab k 12 then pL k else bif ab k 33 then pL (k+8)else W7.getD (k-34).toNat []
def Ut(mo:List UInt8):Bool:=af mo [UInt8.ofNat 48,UInt8.ofNat 52] || (af mo [UInt8.ofNat 48,UInt8.ofNat 54] || (af mo [UInt8.ofNat 48,UInt8.ofNat 57] || (af mo [UInt8.ofNat 49,UInt8.ofNat 49] || af mo [UInt8.ofNat 88,UInt8.ofNat 57])))
def ZK(mo:List UInt8):Int:=bif af mo [UInt8.ofNat 48,UInt8.ofNat 50]then 28 else bif Ut mo then 30 else 31
def FY(k:Int)(mo:List UInt8):List UInt8:=bif aa k 0 then[]else bif ab k 31 then pL (gQ k (ZK mo))else Xa.getD (bif af mo [UInt8.ofNat 48,UInt8.ofNat 50]&&aa k 35 then 2 else(k-32).toNat) []
def Zl:dJ:=λargs=>match args with
 | [.agg [.int .u8 f,.bool ng,.int .u16 n,.int .u8 z0,.int .u8 z1,.int .u8 m,.int .u8 d,.int .u8 x,.int .u8 y,.int .u8 z]]=>some (aH [ae .u8 m] (.ret (.str (zt (m%40)))))
 | _=>none
def Yg:dJ:=λargs=>match args with
 | [.agg [.int .u8 f,.bool ng,.int .u16 n,.int .u8 z0,.int .u8 z1,.int .u8 m,.int .u8 d,.int .u8 x,.int .u8 y,.int .u8 z],.str mo]=>some (aH [ae .u8 d] (.ret (.str (FY (d%40) mo))))
 | _=>none
def Yn:aR:=aY gX 70 Rv
theorem Fw:ak Tryz.prog cfg Yn:=bm aV (Ma 70 _ rfl)
theorem RY(h:34<=k/\k<=39):List.getD [AV.str [UInt8.ofNat 48,UInt8.ofNat 88],AV.str [UInt8.ofNat 49,UInt8.ofNat 88],AV.str [UInt8.ofNat 88,UInt8.ofNat 50],AV.str [UInt8.ofNat 88,UInt8.ofNat 88],AV.str [UInt8.ofNat 88,UInt8.ofNat 48],AV.str [UInt8.ofNat 88,UInt8.ofNat 57]] (0+(Int.sub k 34).toNat*1) (AV.tuple [])=AV.str (W7.getD (k-34).toNat []):=by
 have:k=34\/k=35\/k=36\/k=37\/k=38\/k=39:=by omega
 rcases this with rfl|rfl|rfl|rfl|rfl|rfl<;>rfl
theorem SG(h:32<=k/\k<=39):List.getD [AV.str [UInt8.ofNat 48,UInt8.ofNat 88],AV.str [UInt8.ofNat 49,UInt8.ofNat 88],AV.str [UInt8.ofNat 50,UInt8.ofNat 88],AV.str [UInt8.ofNat 51,UInt8.ofNat 88],AV.str [UInt8.ofNat 88,UInt8.ofNat 48],AV.str [UInt8.ofNat 88,UInt8.ofNat 49],AV.str [UInt8.ofNat 88,UInt8.ofNat 88],AV.str [UInt8.ofNat 88,UInt8.ofNat 56]] (0+(Int.sub k 32).toNat*1) (AV.tuple [])=AV.str (Xa.getD (k-32).toNat []):=by
 have:k=32\/k=33\/k=34\/k=35\/k=36\/k=37\/k=38\/k=39:=by omega
 rcases this with rfl|rfl|rfl|rfl|rfl|rfl|rfl|rfl<;>rfl
theorem zT{s:List UInt8}:CB (.str s)=s:=rfl
theorem CF{s:List UInt8}:G0 (.str s)=true:=rfl
theorem US(hS:ak Tryz.prog cfg S):ak Tryz.prog cfg (aY S 35 Zl):=by
 refine au hS λargs t v he hv=>?_;unfold Zl at he;split at he
 . rename_i f ng n z0 z1 m d x y z;cases he;obtain⟨h1,hv⟩:=bK hv;cases hv;rw[aB]at h1;simp only[dP,dR]at h1;have e:Int.tmod m 40=m%40:=tm h1.1;have hk:0<=m%40/\m%40<=39:=by omega
   refine kP Fw ag (bA 1271220241220414200) (R:=λQ=>(λ(A:Int)(B F:UInt8)=>(λ(G H:Bool)(C E:Int)=>(λ(I:Nat)=>(λ(N:AV)=>ae .i64 A/\(aa A 0->Q (.str []))/\(aa A 0=false->(G->ab 0 A/\ab A 99/\Q (.str (pL A)))/\(G=false->(H->ae .i64 C/\ab 0 C/\ab C 99/\Q (.str (pL C)))/\(H=false->ae .i64 E/\ab 0 E/\aW I 6/\G0 N/\Q (.str (CB N)))))) (List.getD [.str [F,B],.str [UInt8.ofNat 49,B],.str [B,UInt8.ofNat 50],.str [B,B],.str [B,F],.str [B,UInt8.ofNat 57]] (HAdd.hAdd 0 (HMul.hMul I 1)) (.tuple []))) E.toNat) (ab A 12) (ab A 33) (Int.add A 8) (Int.sub A 34)) (Int.tmod m 40) (UInt8.ofNat 88) (UInt8.ofNat 48)) (λ_=>by kernel_rfl) λQ' hQ=>?_;try dsimp only
   rw[e];unfold zt at hQ;generalize m%40=k at *;rw[show Int.add k 8=k+8 from rfl];by_cases h0:k=0
   . rw[al.mpr h0]at hQ ⊢;simp only[reduceCtorEq,false_implies,true_implies,and_true,aB,dP,dR];exact⟨by omega,hQ⟩
   . rw[ay.mpr h0]at hQ ⊢;by_cases h12:k<=12
     . rw[ao.mpr h12]at hQ ⊢;simp only[reduceCtorEq,zAh,aB,dP,dR,ao];exact⟨by omega,by omega,by omega,hQ⟩
     . rw[bY.mpr (show 12<k by omega)]at hQ ⊢;by_cases h33:k<=33
       . rw[ao.mpr h33]at hQ ⊢;simp only[reduceCtorEq,zAh,aB,dP,dR,ao]
         (repeat' first|refine⟨?_,?_⟩|intro)<;>first|omega|exact hQ
       . rw[bY.mpr (show 33<k by omega)]at hQ ⊢;rw[RY (by omega),zT,CF];simp only[az,reduceCtorEq,zAh]
         (repeat' first|refine⟨?_,?_⟩|intro)<;>first|omega|exact hQ
 . cases he
theorem Vw(hS:ak Tryz.prog cfg S):ak Tryz.prog cfg (aY S 37 Yg):=by
 refine au hS λargs t v he hv=>?_;unfold Yg at he;split at he
 . rename_i f ng n z0 z1 m d x y z mo;cases he;obtain⟨h1,hv⟩:=bK hv;cases hv;rw[aB]at h1;simp only[dP,dR]at h1;have e:Int.tmod d 40=d%40:=tm h1.1;have hk:0<=d%40/\d%40<=39:=by omega
   refine kP Fw ag (bA 12703312715422412201220412202412202412202412202412204414200) (R:=λQ=>(λ(B:Int)(A C G Y Z:UInt8)=>(λ(u3:AV)(E N P T U u0 u1 u2:Bool)(I O V W:Int)=>(λ(u4:Nat)(F H:Prop)=>(λ(u5:AV)=>(λ(u6:Prop)=>ae .i64 B/\(aa B 0->Q (.str []))/\(aa B 0=false->(u0->(E->ab 0 I/\ab I 99/\Q (.str (pL I)))/\(H->(N->N/\F)/\(N=false->(P->P/\F)/\(P=false->(T->T/\F)/\(T=false->(U->U/\F)/\(U=false->(u1->F)/\(u1=false->ab 0 V/\ab V 99/\Q (.str (pL V)))))))))/\(u0=false->(E->E/\E/\(u2->Q u3)/\(u2=false->u6))/\(H->H/\H/\u6)))) (ae .i64 W/\ab 0 W/\aW u4 8/\G0 u5/\Q (.str (CB u5)))) (List.getD [.str [C,A],.str [G,A],u3,.str [UInt8.ofNat 51,A],.str [A,C],.str [A,G],.str [A,A],.str [A,UInt8.ofNat 56]] (HAdd.hAdd 0 (HMul.hMul u4 1)) (.tuple []))) W.toNat (ab 0 O/\ab O 99/\Q (.str (pL O))) (E=false)) (.str [Y,A]) (af mo [C,Y]) (af mo [C,UInt8.ofNat 52]) (af mo [C,UInt8.ofNat 54]) (af mo [C,Z]) (af mo [G,G]) (ab B 31) (af mo [A,Z]) (aa B 35) (gQ B 28) (gQ B 30) (gQ B 31) (Int.sub B 32)) (Int.tmod d 40) (UInt8.ofNat 88) (UInt8.ofNat 48) (UInt8.ofNat 49) (UInt8.ofNat 50) (UInt8.ofNat 57)) (λ_=>by kernel_rfl) λQ' hQ=>?_;try dsimp only
   rw[e];unfold FY ZK Ut at hQ;generalize d%40=k at *;by_cases h0:k=0
   . rw[al.mpr h0]at hQ ⊢;simp only[reduceCtorEq,false_implies,true_implies,and_true,aB,dP,dR];exact⟨by omega,hQ⟩
   . rw[ay.mpr h0]at hQ ⊢;by_cases h31:k<=31
     . rw[ao.mpr h31]at hQ ⊢;have m1:gQ k 28<=28/\0<=gQ k 28:=by rw[DK];omega
       have m2:gQ k 30<=30/\0<=gQ k 30:=by rw[DK];omega
       have m3:gQ k 31<=31/\0<=gQ k 31:=by rw[DK];omega
       generalize af mo [UInt8.ofNat 48,UInt8.ofNat 50]=b1 at *;generalize af mo [UInt8.ofNat 48,UInt8.ofNat 52]=b2 at *;generalize af mo [UInt8.ofNat 48,UInt8.ofNat 54]=b3 at *;generalize af mo [UInt8.ofNat 48,UInt8.ofNat 57]=b4 at *;generalize af mo [UInt8.ofNat 49,UInt8.ofNat 49]=b5 at *;generalize af mo [UInt8.ofNat 88,UInt8.ofNat 57]=b6 at *;rw[ao.mpr m1.2,ao.mpr m2.2,ao.mpr m3.2,ao.mpr (show gQ k 28<=99 by omega),ao.mpr (show gQ k 30<=99 by omega),ao.mpr (show gQ k 31<=99 by omega)];have hr:ae .i64 k=true:=by rw[aB];simp only[dP,dR];omega
       cases b1<;>cases b2<;>cases b3<;>cases b4<;>cases b5<;>cases b6<;>simp only[reduceCtorEq,zAh]<;>exact⟨hr,hQ⟩
     . rw[bY.mpr (show 31<k by omega)]at hQ ⊢;rw[SG (by omega),zT,CF];generalize af mo [UInt8.ofNat 48,UInt8.ofNat 50]=b1 at *;have i1:ae .i64 k=true:=by rw[aB];simp only[dP,dR];omega
       have i2:ae .i64 (Int.sub k 32)=true:=by rw[aB];simp only[dP,dR];show _<=k-32/\k-32<=_;omega
       have i3:ab 0 (Int.sub k 32)=true:=by rw[ao];show 0<=k-32;omega
       have i4:aW (Int.sub k 32).toNat 8=true:=by rw[aS];show(k-32).toNat<8;omega
       rw[i1,i2,i3,i4];cases h35:aa k 35<;>cases b1<;>rw[h35]at hQ<;>simp only[reduceCtorEq,zAh]<;>exact hQ
 . cases he
def jY(f n z0 z1 m:Int):List UInt8:=bif aa (kE f n z0 z1) 0 then zt (m%40)else[]
def nF(f n z0 z1 m d:Int):List UInt8:=bif !(af (jY f n z0 z1 m) [])&&aa (aL (jY f n z0 z1 m)) 0 then FY (d%40) (jY f n z0 z1 m)else[]
def Dq(c:Int)(i x:Int):Int:=bif ab c i then 0 else x%4
def YB:dJ:=λargs=>match args with
 | [.agg [.int .u8 f,.bool ng,.int .u16 n,.int .u8 z0,.int .u8 z1,.int .u8 m,.int .u8 d,.int .u8 x,.int .u8 y,.int .u8 z]]=>some (aH [ae .u8 f,ae .u16 n,ae .u8 z0,ae .u8 z1,ae .u8 m,ae .u8 d,ae .u8 x,ae .u8 y,ae .u8 z] (.ret (.agg [.bool (su f ng n z0 z1),.bool (sw f),.str (gA f n z0 z1),.int .i64 (kG f z1),.int .i64 (kE f n z0 z1),.str (jY f n z0 z1 m),.str (nF f n z0 z1 m d),.int .u8 (Dq (df (jY f n z0 z1 m) (nF f n z0 z1 m d)) 0 x),.int .u8 (Dq (df (jY f n z0 z1 m) (nF f n z0 z1 m d)) 1 y),.int .u8 (Dq (df (jY f n z0 z1 m) (nF f n z0 z1 m d)) 2 z)])))
 | _=>none
def S36:aR:=aY (aY (aY (aY (aY gX 34 Y0) 35 Zl) 36 ZC) 37 Yg) 38 XY
theorem PY:ak Tryz.prog cfg S36:=bm (Vw (bm (US (VZ aV)) (Lo 36 _ rfl))) (Lo 38 _ rfl)
theorem Vq(hS:ak Tryz.prog cfg S):ak Tryz.prog cfg (aY S 14 YB):=by
 refine au hS λargs t v he hv=>?_;unfold YB at he;split at he
 . rename_i f ng n z0 z1 m d x y z;cases he;obtain⟨⟨h1,h2,h3,h4,h5,h6,h7,h8,h9,-⟩,hv⟩:=aF hv;cases hv;refine kP PY ag (bA 1566666100610061006306640664066200068100610061006306640664066200610061006100630664066406620006200064220206400200640027005) (R:=λQ=>(λ(A B C E F G O T u0:AV)(Z:Int)(I:List UInt8)=>(λ(H N:AV)(P u1:Bool)(U:Int)(u2:List UInt8)=>(λ(Y:AV)(u3 u4:Bool)(V:Int)(W:Prop)=>(λ(u5 u6:Bool)(u7:Prop)=>ae .u8 f/\ae .u16 n/\ae .u8 z0/\ae .u8 z1/\(aa Z 0->ae .u8 m/\(P->P/\P/\P/\(u1->ae .u8 d/\not (ab V 0)/\(u5->(u6->not (ab V 3)=false/\Q (.agg [B,C,E,F,H,N,Y,G,T,u0]))/\(u6=false->Q (.agg [B,C,E,F,H,N,Y,G,T,A])))/\(u5=false->Q (.agg [B,C,E,F,H,N,Y,G,A,A])))/\(u1=false->u7))/\(W->W/\W/\W/\u7))/\(aa Z 0=false->Q (.agg [B,C,E,F,H,O,O,G,A,A]))) (not (ab V 1)) (not (ab V 2)) (not (ab U 0)/\(u3->(u4->not (ab U 3)=false/\Q (.agg [B,C,E,F,H,N,O,G,T,u0]))/\(u4=false->Q (.agg [B,C,E,F,H,N,O,G,T,A])))/\(u3=false->Q (.agg [B,C,E,F,H,N,O,G,A,A])))) (.str u2) (not (ab U 1)) (not (ab U 2)) (df I u2) (P=false)) (.int .i64 Z) (.str I) (not (af I [])) (aa (aL I) 0) (df I []) (FY (HMod.hMod d 40) I)) (.int .u8 0) (.bool (su f ng n z0 z1)) (.bool (sw f)) (.str (gA f n z0 z1)) (.int .i64 (kG f z1)) (.int .u8 (Int.tmod x 4)) (.str []) (.int .u8 (Int.tmod y 4)) (.int .u8 (Int.tmod z 4)) (kE f n z0 z1) (zt (HMod.hMod m 40))) (λ_=>by kernel_rfl) λQ' hQ=>?_;try dsimp only
   rw[aB]at h7 h8 h9;simp only[dP,dR]at h7 h8 h9;try dsimp only
   rw[h1,h2,h3,h4,h5,h6,tm (b:=4) h7.1,tm (b:=4) h8.1,tm (b:=4) h9.1];unfold nF jY Dq at hQ;have n0:aa (aL []) 0=true:=rfl;have n1:af ([]:List UInt8) []=true:=rfl;generalize su f ng n z0 z1=gn at *;generalize kE f n z0 z1=gg at *;generalize zt (m%40)=M at *;have c1:=o_ M (FY (d%40) M);have c2:=o_ M [];have c3:df [] []=1:=rfl;have fin:∀C:Int,1<=C/\C<=3->(ab C 0=false)/\(ab C 3=true):=λC h=>⟨bY.mpr (by omega),ao.mpr h.2⟩;have lt:∀C:Int,1<=C/\C<=3->ab C 2=false->ab C 1=false:=λC h k=>by rw[bY]at k ⊢;omega
   cases hg:aa gg 0 with
   | false=>
     rw[hg]at hQ;simp only[cond_false,n1,c3,Bool.not_true,Bool.false_and]at hQ;simp only[reduceCtorEq,zAh];exact hQ
   | true=>
     rw[hg]at hQ;simp only[cond_true]at hQ;cases hM:af M []with
     | true=>
       rw[hM]at hQ;simp only[Bool.not_true,Bool.false_and,cond_false]at hQ;rw[(fin _ c2).1]at hQ ⊢;rw[(fin _ c2).2];have:=lt _ c2;cases k1:ab (df M []) 1<;>cases k2:ab (df M []) 2<;>rw[k1,k2]at hQ<;>simp only[k1,k2,zAj,reduceCtorEq,zAh,Bool.not_true,Bool.not_false]at hQ this ⊢<;>exact hQ
     | false=>
       rw[hM]at hQ;simp only[Bool.not_false,Bool.true_and]at hQ;cases hs:aa (aL M) 0 with
       | false=>
         rw[hs,cond_false]at hQ;rw[(fin _ c2).1]at hQ ⊢;rw[(fin _ c2).2];have:=lt _ c2;cases k1:ab (df M []) 1<;>cases k2:ab (df M []) 2<;>rw[k1,k2]at hQ<;>simp only[k1,k2,zAj,reduceCtorEq,zAh,Bool.not_true,Bool.not_false]at hQ this ⊢<;>exact hQ
       | true=>
         rw[hs,cond_true]at hQ;generalize FY (d%40) M=D at *;rw[(fin _ c1).1]at hQ ⊢;rw[(fin _ c1).2];have:=lt _ c1;cases k1:ab (df M D) 1<;>cases k2:ab (df M D) 2<;>rw[k1,k2]at hQ<;>simp only[k1,k2,zAj,reduceCtorEq,zAh,Bool.not_true,Bool.not_false]at hQ this ⊢<;>exact hQ
 . cases he
end Go.Ev
