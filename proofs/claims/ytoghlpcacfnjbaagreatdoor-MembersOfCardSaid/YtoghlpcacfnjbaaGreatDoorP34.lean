import Derived.Test.YtoghlpcacfnjbaaGreatDoorP33
set_option linter.all false
set_option maxRecDepth 100000
set_option maxHeartbeats 4000000
namespace Go.Ev
open Go Go.Proofs
variable{S:aR}{op:Int}
def Er:Int->List (Int×Int)->List Rn
 | _,[]=>[]
 | day,p::r=>⟨0,day,0,day+p.2⟩::Er (day+p.2+2+p.1) r
def Cf:List Rn->List Rn
 | []=>[]
 | r::rs=>⟨-1,0,r.c,r.d⟩::rs
def tS:List Rn->List Rn
 | []=>[]
 | [r]=>[⟨r.a,r.b,1,0⟩]
 | r::s::rs=>r::tS (s::rs)
def yu(fr ma:Int):List (Int×Int)->List Rn
 | []=>[⟨0,fr,0,fr+ma⟩]
 | p::r=>Er fr ((p::r).take 4)
def E4(b1 b2:Bool)(R:List Rn):List Rn:=bif b1 then Cf R else bif b2 then tS R else R
def eO(fr ma:Int)(b1 b2:Bool)(gs:List (Int×Int)):List Rn:=E4 b1 b2 (yu fr ma gs)
def mA(R:List Rn):Nat:=R.length
def CD:List (Int×Int)->eZ
 | []=>.known 1
 | _=>.rest 0
def Dh:List (Int×Int)->Option Nat
 | []=>none
 | _=>some 4
def jI:List (Int×Int)->List AV
 | []=>[]
 | p::r=>.int .u8 p.1::.int .u8 p.2::jI r
def p7:List AV->List (Int×Int)
 | .int .u8 a::.int .u8 b::r=>(a,b)::p7 r
 | _=>[]
def tg:List AV->Bool
 | []=>true
 | .int .u8 a::.int .u8 b::r=>ae .u8 a&&(ae .u8 b&&tg r)
 | _=>false
def zb(b n:Nat)(K:eZ):AV:=.agg [.int .u8 1,.slice b 0 n K,.bool false,.bool false,.str [],.int .i64 0,.int .i64 0,.str [],.str [],.int .u8 0,.int .u8 0,.int .u8 0,.int .u8 0,.int .i8 0,.int .i64 0,.int .i8 0,.int .i64 0]
def XV:lB:=λargs ws=>match args,ws with
 | [.agg [.int .u8 k,.int .u8 p,.int .u8 op,.int .u8 f,.bool ng,.int .u16 n,.int .u8 z0,.int .u8 z1,.int .u8 m,.int .u8 d,.int .u8 x,.int .u8 y,.int .u8 z,.int .i16 fr,.int .u8 ma,.nilslice]],[]=>some (aH [ae .u8 op,ae .i16 fr,ae .u8 ma] (.ret (zb 14 (mA (eO fr ma (aa (op%4) 1) (aa (op%4) 2) [])) (.known 1),[.cells (bB (eO fr ma (aa (op%4) 1) (aa (op%4) 2) [])) true none])))
 | [.agg [.int .u8 k,.int .u8 p,.int .u8 op,.int .u8 f,.bool ng,.int .u16 n,.int .u8 z0,.int .u8 z1,.int .u8 m,.int .u8 d,.int .u8 x,.int .u8 y,.int .u8 z,.int .i16 fr,.int .u8 ma,.slice 14 0 l K]],[.cells w false none]=>some (aH [ae .u8 op,ae .i16 fr,ae .u8 ma,tg w,Nat.beq (p7 w).length l] (.ret (zb 15 (mA (eO fr ma (aa (op%4) 1) (aa (op%4) 2) (p7 w))) (CD (p7 w)),[.cells (bB (eO fr ma (aa (op%4) 1) (aa (op%4) 2) (p7 w))) true (Dh (p7 w))])))
 | _,_=>none
theorem dL.lastW{ws:List aE}{v v':AV}{x:aE}{rest:List aE}{k n:Nat}(hw:∀x∈ws,cR 14 x)(hk:rest.length=k)(hn:n=k+1)(hx:cR (14+ws.length) x)(hv:kr (14+ws.length) [(14+ws.length+k,14+ws.length)] 20 v'=some v):dL ws v [x] (v',⟨n,x::rest,[]⟩):=by
 subst hn;have hv':kr ((Cw cfg ws).lo+0) (ia (Cw cfg ws).lo 0 [k]) 20 v'=some v:=hv;refine(pf dG.lv (C:=Cw cfg ws) (st:=⟨.node v' .nil .nil,1,⟨k+1,x::rest,[]⟩,[],none⟩) (kb:=0) (sel:=[k]) (ts':=.node v .nil .nil) (o':=⟨1,[x],[]⟩) (Bf hw) (Nat.zero_le _) (λs hs=>?_) (by simp) (λp hp=>by cases hp) rfl rfl rfl (λi hi=>absurd hi (Nat.not_lt_zero i)) (λt ht=>?_) ?_ (λd hd=>by cases hd) (λi hi=>by cases hi)).mono λs hs=>?_
 . simp only[zAf]at hs;subst hs;exact⟨Nat.zero_le _,Nat.lt_succ_self _⟩
 . have:t=0:=by simp at ht;omega
   subst this;refine .inl ⟨?_,?_⟩
   . show(⟨1,[x],[]⟩:aC).at 0=(⟨k+1,x::rest,[]⟩:aC).at k;unfold aC.at;simp
   . show cR (14+ws.length) ((⟨k+1,x::rest,[]⟩:aC).at k);unfold aC.at;simpa using hx
 . simp only[wy,hv',ob]
 . rw[hs];exact⟨rfl,rfl⟩
theorem oQ:∀{gs:List (Int×Int)},bz (jI gs)=[]
 | []=>rfl
 | p::r=>by simp only[jI,bz,aD,oQ (gs:=r),List.append_nil]
theorem xf:∀{w:List AV},tg w->w=jI (p7 w)/\∀p∈p7 w,(0<=p.1/\p.1<=255)/\(0<=p.2/\p.2<=255)
 | [],_=>⟨rfl,λp hp=>by cases hp⟩
 | .int .u8 a::.int .u8 b::r,h=>by
   simp only[tg,zAa,aB,dP,dR]at h;obtain⟨h1,h2⟩:=xf h.2.2;refine⟨by simp only[p7,jI];rw[<-h1],λp hp=>?_⟩;simp only[p7,List.mem_cons]at hp;rcases hp with rfl|hp
   . exact⟨h.1,h.2.1⟩
   . exact h2 p hp
theorem ZM{k p op f:Int}{ng:Bool}{n z0 z1 m d x y z fr ma:Int}{K:eZ}(ho:0<=op/\op<=255)(hfr : -32768<=fr/\fr<=32767)(hma:0<=ma/\ma<=255)(h12:¬(aa (op%4) 1/\aa (op%4) 2=true))(gs:List (Int×Int))(hin:∀p∈gs,(0<=p.1/\p.1<=255)/\(0<=p.2/\p.2<=255)):bt Tryz.prog cfg 17 [.agg [.int .u8 k,.int .u8 p,.int .u8 op,.int .u8 f,.bool ng,.int .u16 n,.int .u8 z0,.int .u8 z1,.int .u8 m,.int .u8 d,.int .u8 x,.int .u8 y,.int .u8 z,.int .i16 fr,.int .u8 ma,.slice 14 0 gs.length K]] [.cells (jI gs) false none] (zb 15 (mA (eO fr ma (aa (op%4) 1) (aa (op%4) 2) gs)) (CD gs)) [.cells (bB (eO fr ma (aa (op%4) 1) (aa (op%4) 2) gs)) true (Dh gs)]:=by
 have hw1:∀x∈[aE.cells (jI gs) false none],cR 14 x:=λx hx=>by
  simp only[zAf]at hx;subst hx;exact aO oQ
 match gs,hin with
 | [],hin=>
   refine BO aV ag (bA 1661005664001663005452255200) (R:=λQ=>(λ(G:aE)(A B E F O P:AV)(I N:Int)=>(λ(V:AV)(U:List AV)(T:Prop)=>(λ(C:aE)(H:AV)=>ae .i64 fr/\ae .i64 ma/\ae .i64 I/\(aa N 1->T/\Q (H,⟨4,[.cells [.int .i8 (Neg.neg 1),A,B,V] true none,C,C,G],[]⟩))/\(aa N 1=false->(aa N 2->Q (H,⟨4,[.cells [B,P,.int .i8 1,A] true none,C,C,G],[]⟩))/\(T->Q (H,⟨4,[.cells [B,P,B,V] true none,C,C,G],[]⟩)))) (.cells U true none) (.agg U)) (.int .i64 I) [.int .u8 1,.slice 18 0 1 (eZ.known 1),O,O,F,A,A,F,F,E,E,E,E,B,A,B,A] (aa N 2=false)) (.cells [.int .u8 k,.int .u8 p,.int .u8 op,.int .u8 f,.bool ng,.int .u16 n,.int .u8 z0,.int .u8 z1,.int .u8 m,.int .u8 d,.int .u8 x,.int .u8 y,.int .u8 z,.int .i16 fr,.int .u8 ma,.slice 14 0 0 K] true none) (.int .i64 0) (.int .i8 0) (.int .u8 0) (.str []) (.bool false) (.int .i64 fr) (Int.add fr ma) (Int.tmod op 4)) (λ_=>by kernel_rfl) λQ' hQ=>?_;try dsimp only
   try dsimp only
   rw[tm (b:=4) ho.1];generalize aa (op%4) 1=b1 at *;generalize aa (op%4) 2=b2 at *;have h3:=h12;clear h12;cases b1<;>cases b2<;>first|(exfalso;exact absurd h3 (by decide))|skip
   all_goals
    simp only[az,reduceCtorEq]
    (repeat' first|exact trivial|refine⟨?_,?_⟩|intro)<;>first|contradiction|omega|exact hQ _ (dL.lastW hw1 rfl rfl (aO rfl) rfl)
 | [(g0,l0)],hin=>
   have hp0:=hin (g0,l0) (by simp);refine BO aV ag (bA 16610056640016630054062200525522006200) (R:=λQ=>(λ(H:aE)(A B E G P T:AV)(F O:Int)=>(λ(Y:AV)(U:Int)(W:List AV)(V:Prop)=>(λ(C:aE)(I:AV)(Z:List AV)=>(λ(N:aE)=>ae .i64 fr/\ae .i64 l0/\ae .i64 F/\ae .i64 U/\ae .i64 g0/\ae .i64 (Int.add U g0)/\(aa O 1->V/\Q (I,⟨5,[.cells [.int .i8 (Neg.neg 1),A,B,Y] true (some 4),N,C,C,H],[]⟩))/\(aa O 1=false->(aa O 2->Q (I,⟨5,[.cells [B,T,.int .i8 1,A] true (some 4),N,C,C,H],[]⟩))/\(V->Q (I,⟨5,[.cells Z true (some 4),N,C,C,H],[]⟩)))) (.cells Z true none)) (.cells W true none) (.agg W) [B,T,B,Y]) (.int .i64 F) (Int.add F 2) [.int .u8 1,.slice 19 0 1 (eZ.rest 0),P,P,G,A,A,G,G,E,E,E,E,B,A,B,A] (aa O 2=false)) (.cells [.int .u8 k,.int .u8 p,.int .u8 op,.int .u8 f,.bool ng,.int .u16 n,.int .u8 z0,.int .u8 z1,.int .u8 m,.int .u8 d,.int .u8 x,.int .u8 y,.int .u8 z,.int .i16 fr,.int .u8 ma,.slice 14 0 1 K] true none) (.int .i64 0) (.int .i8 0) (.int .u8 0) (.str []) (.bool false) (.int .i64 fr) (Int.add fr l0) (Int.tmod op 4)) (λ_=>by kernel_rfl) λQ' hQ=>?_;try dsimp only
   try dsimp only
   rw[tm (b:=4) ho.1];generalize aa (op%4) 1=b1 at *;generalize aa (op%4) 2=b2 at *;have h3:=h12;clear h12;cases b1<;>cases b2<;>first|(exfalso;exact absurd h3 (by decide))|skip
   all_goals
    simp only[az,reduceCtorEq]
    (repeat' first|exact trivial|refine⟨?_,?_⟩|intro)<;>first|contradiction|omega|exact hQ _ (dL.lastW hw1 rfl rfl (aO rfl) rfl)
 | [(g0,l0),(g1,l1)],hin=>
   have hp0:=hin (g0,l0) (by simp);have hp1:=hin (g1,l1) (by simp);refine BO aV ag (bA 1661005664001663005406220052062200062200525522006200) (R:=λQ=>(λ(O:aE)(A B E I N u0:AV)(H Z:Int)=>(λ(F:AV)(u1:Int)(u3:List AV)(u2:Prop)=>(λ(C U:aE)(T:AV)(P:Int)=>(λ(G:AV)(V:Int)=>(λ(W:AV)(u4:Int)=>(λ(Y:aE)=>ae .i64 fr/\ae .i64 l0/\ae .i64 H/\ae .i64 u1/\ae .i64 g0/\ae .i64 P/\ae .i64 l1/\ae .i64 V/\ae .i64 u4/\ae .i64 g1/\ae .i64 (Int.add u4 g1)/\(aa Z 1->u2/\Q (T,⟨7,[.cells [.int .i8 (Neg.neg 1),B,A,F,A,G,A,W] true (some 4),Y,aE.dead,U,C,C,O],[]⟩))/\(aa Z 1=false->(aa Z 2->Q (T,⟨7,[.cells [A,N,A,F,A,G,.int .i8 1,B] true (some 4),Y,aE.dead,U,C,C,O],[]⟩))/\(u2->Q (T,⟨7,[.cells [A,N,A,F,A,G,A,W] true (some 4),Y,aE.dead,U,C,C,O],[]⟩)))) (.cells [A,G,A,W] true none)) (.int .i64 V) (Int.add V 2)) (.int .i64 P) (Int.add P l1)) (.cells u3 true none) (.cells [A,N,A,F] true none) (.agg u3) (Int.add u1 g0)) (.int .i64 H) (Int.add H 2) [.int .u8 1,.slice 21 0 2 (eZ.rest 0),u0,u0,I,B,B,I,I,E,E,E,E,A,B,A,B] (aa Z 2=false)) (.cells [.int .u8 k,.int .u8 p,.int .u8 op,.int .u8 f,.bool ng,.int .u16 n,.int .u8 z0,.int .u8 z1,.int .u8 m,.int .u8 d,.int .u8 x,.int .u8 y,.int .u8 z,.int .i16 fr,.int .u8 ma,.slice 14 0 2 K] true none) (.int .i8 0) (.int .i64 0) (.int .u8 0) (.str []) (.int .i64 fr) (.bool false) (Int.add fr l0) (Int.tmod op 4)) (λ_=>by kernel_rfl) λQ' hQ=>?_;try dsimp only
   try dsimp only
   rw[tm (b:=4) ho.1];generalize aa (op%4) 1=b1 at *;generalize aa (op%4) 2=b2 at *;have h3:=h12;clear h12;cases b1<;>cases b2<;>first|(exfalso;exact absurd h3 (by decide))|skip
   all_goals
    simp only[az,reduceCtorEq]
    (repeat' first|exact trivial|refine⟨?_,?_⟩|intro)<;>first|contradiction|omega|exact hQ _ (dL.lastW hw1 rfl rfl (aO rfl) rfl)
 | [(g0,l0),(g1,l1),(g2,l2)],hin=>
   have hp0:=hin (g0,l0) (by simp);have hp1:=hin (g1,l1) (by simp);have hp2:=hin (g2,l2) (by simp);refine BO aV ag (bA 166100566400166300540622005206220006220052062200062200525522006200) (R:=λQ=>(λ(T:aE)(A B E O P u5:AV)(N u4:Int)=>(λ(F:AV)(u6:Int)(u9:List AV)(u7:Prop)=>(λ(C W:aE)(V:AV)(U:Int)=>(λ(G:AV)(Y:Int)=>(λ(H:AV)(ua:Int)=>(λ(u0:aE)(Z:Int)=>(λ(I:AV)(u1:Int)=>(λ(u2:AV)(ub:Int)=>(λ(u3:aE)=>ae .i64 fr/\ae .i64 l0/\ae .i64 N/\ae .i64 u6/\ae .i64 g0/\ae .i64 U/\ae .i64 l1/\ae .i64 Y/\ae .i64 ua/\ae .i64 g1/\ae .i64 Z/\ae .i64 l2/\ae .i64 u1/\ae .i64 ub/\ae .i64 g2/\ae .i64 (Int.add ub g2)/\(aa u4 1->u7/\Q (V,⟨9,[.cells [.int .i8 (Neg.neg 1),B,A,F,A,G,A,H,A,I,A,u2] true (some 4),u3,aE.dead,u0,aE.dead,W,C,C,T],[]⟩))/\(aa u4 1=false->(aa u4 2->Q (V,⟨9,[.cells [A,P,A,F,A,G,A,H,A,I,.int .i8 1,B] true (some 4),u3,aE.dead,u0,aE.dead,W,C,C,T],[]⟩))/\(u7->Q (V,⟨9,[.cells [A,P,A,F,A,G,A,H,A,I,A,u2] true (some 4),u3,aE.dead,u0,aE.dead,W,C,C,T],[]⟩)))) (.cells [A,I,A,u2] true none)) (.int .i64 u1) (Int.add u1 2)) (.int .i64 Z) (Int.add Z l2)) (.cells [A,G,A,H] true none) (Int.add ua g1)) (.int .i64 Y) (Int.add Y 2)) (.int .i64 U) (Int.add U l1)) (.cells u9 true none) (.cells [A,P,A,F] true none) (.agg u9) (Int.add u6 g0)) (.int .i64 N) (Int.add N 2) [.int .u8 1,.slice 23 0 3 (eZ.rest 0),u5,u5,O,B,B,O,O,E,E,E,E,A,B,A,B] (aa u4 2=false)) (.cells [.int .u8 k,.int .u8 p,.int .u8 op,.int .u8 f,.bool ng,.int .u16 n,.int .u8 z0,.int .u8 z1,.int .u8 m,.int .u8 d,.int .u8 x,.int .u8 y,.int .u8 z,.int .i16 fr,.int .u8 ma,.slice 14 0 3 K] true none) (.int .i8 0) (.int .i64 0) (.int .u8 0) (.str []) (.int .i64 fr) (.bool false) (Int.add fr l0) (Int.tmod op 4)) (λ_=>by kernel_rfl) λQ' hQ=>?_;try dsimp only
   try dsimp only
   rw[tm (b:=4) ho.1];generalize aa (op%4) 1=b1 at *;generalize aa (op%4) 2=b2 at *;have h3:=h12;clear h12;cases b1<;>cases b2<;>first|(exfalso;exact absurd h3 (by decide))|skip
   all_goals
    simp only[az,reduceCtorEq]
    (repeat' first|exact trivial|refine⟨?_,?_⟩|intro)<;>first|contradiction|omega|exact hQ _ (dL.lastW hw1 rfl rfl (aO rfl) rfl)
 | (g0,l0)::(g1,l1)::(g2,l2)::(g3,l3)::r,hin=>
   have hp0:=hin (g0,l0) (by simp);have hp1:=hin (g1,l1) (by simp);have hp2:=hin (g2,l2) (by simp);have hp3:=hin (g3,l3) (by simp);refine BO aV ag (bA 1661005664001663005405331661005664001663005405224002200520622000622005206220006220052062200062200525522006200) (R:=λQ=>(λ(A B E U V ue:AV)(T ud:Int)(uc:Nat)=>(λ(W:aE)(G:AV)(F:Bool)(uf:Int)(uh:List AV)(ug:Prop)=>(λ(C u0:aE)(Z:AV)(Y:Int)(u1:Prop)=>(λ(H:AV)(u2:Int)=>(λ(I:AV)(ui:Int)=>(λ(u4:aE)(u3:Int)=>(λ(N:AV)(u5:Int)=>(λ(O:AV)(uj:Int)=>(λ(u7:aE)(u6:Int)=>(λ(P:AV)(u9:Int)=>(λ(ua:AV)(uk:Int)=>(λ(ub:aE)=>(λ(ul:Prop)=>ae .i64 fr/\ae .i64 l0/\ae .i64 T/\ae .i64 uf/\ae .i64 g0/\ae .i64 Y/\ae .i64 l1/\ae .i64 u2/\ae .i64 ui/\ae .i64 g1/\ae .i64 u3/\ae .i64 l2/\ae .i64 u5/\ae .i64 uj/\ae .i64 g2/\ae .i64 u6/\ae .i64 l3/\ae .i64 u9/\ae .i64 uk/\ae .i64 g3/\ae .i64 (Int.add uk g3)/\(F->F/\F/\ul)/\(u1->u1/\u1/\ul)) ((aa ud 1->ug/\Q (Z,⟨11,[.cells [.int .i8 (Neg.neg 1),B,A,G,A,H,A,I,A,N,A,O,A,P,A,ua] true (some 4),ub,aE.dead,u7,aE.dead,u4,aE.dead,u0,C,C,W],[]⟩))/\(aa ud 1=false->(aa ud 2->Q (Z,⟨11,[.cells [A,V,A,G,A,H,A,I,A,N,A,O,A,P,.int .i8 1,B] true (some 4),ub,aE.dead,u7,aE.dead,u4,aE.dead,u0,C,C,W],[]⟩))/\(ug->Q (Z,⟨11,[.cells [A,V,A,G,A,H,A,I,A,N,A,O,A,P,A,ua] true (some 4),ub,aE.dead,u7,aE.dead,u4,aE.dead,u0,C,C,W],[]⟩))))) (.cells [A,P,A,ua] true none)) (.int .i64 u9) (Int.add u9 2)) (.int .i64 u6) (Int.add u6 l3)) (.cells [A,N,A,O] true none) (Int.add uj g2)) (.int .i64 u5) (Int.add u5 2)) (.int .i64 u3) (Int.add u3 l2)) (.cells [A,H,A,I] true none) (Int.add ui g1)) (.int .i64 u2) (Int.add u2 2)) (.int .i64 Y) (Int.add Y l1)) (.cells uh true none) (.cells [A,V,A,G] true none) (.agg uh) (Int.add uf g0) (F=false)) (.cells [.int .u8 k,.int .u8 p,.int .u8 op,.int .u8 f,.bool ng,.int .u16 n,.int .u8 z0,.int .u8 z1,.int .u8 m,.int .u8 d,.int .u8 x,.int .u8 y,.int .u8 z,.int .i16 fr,.int .u8 ma,.slice 14 0 uc K] true none) (.int .i64 T) (not (ab (Int.ofNat uc) 4)) (Int.add T 2) [.int .u8 1,.slice 25 0 4 (eZ.rest 0),ue,ue,U,B,B,U,U,E,E,E,E,A,B,A,B] (aa ud 2=false)) (.int .i8 0) (.int .i64 0) (.int .u8 0) (.str []) (.int .i64 fr) (.bool false) (Int.add fr l0) (Int.tmod op 4) (HAdd.hAdd r.length 4)) (λ_=>by kernel_rfl) λQ' hQ=>?_;try dsimp only
   try dsimp only
   rw[tm (b:=4) ho.1];generalize aa (op%4) 1=b1 at *;generalize aa (op%4) 2=b2 at *;have h3:=h12;clear h12;cases b1<;>cases b2<;>first|(exfalso;exact absurd h3 (by decide))|skip
   all_goals
    simp only[az,reduceCtorEq]
    (repeat' first|exact trivial|refine⟨?_,?_⟩|intro)<;>first|contradiction|omega|exact hQ _ (dL.lastW hw1 rfl rfl (aO rfl) rfl)
def BN(i p:Int):Int:=bif aa p 3 then i else bif aa p 2 then jQ (cV i 12) (d_ i 12+1) 0 else jQ i 0 0
def BM(i p:Int):Int:=bif aa p 3 then i else bif aa p 2 then jV (cV i 12) (d_ i 12+1) 0 else jV i 0 0
def Yc:dJ:=λargs=>match args with
 | [.int .i64 i,.int .i64 p]=>some (aH [ab (-40000) i,ab i 40000,ab 1 p,ab p 3] (.ret (.tuple [.agg [.int .i8 0,.int .i64 (BN i p),.int .i8 0,.int .i64 (BM i p)],.int .i64 0])))
 | _=>none
def S75:aR:=aY (aY gX 43 Zb) 41 s9
theorem Ex:ak Tryz.prog cfg S75:=TN (bm aV (Fd 43 _ rfl))
theorem Vx(hS:ak Tryz.prog cfg S):ak Tryz.prog cfg (aY S 18 Yc):=by
 refine au hS λargs t v he hv=>?_;unfold Yc at he;split at he
 . rename_i i p;cases he;obtain⟨⟨h1,h2,h3,h4,-⟩,hv⟩:=aF hv;cases hv;rw[ao]at h1 h2 h3 h4;have hp:p=1\/p=2\/p=3:=by omega
   rcases hp with rfl|rfl|rfl
   . refine kP Ex ag (bA 10203322005) (R:=λQ=>(λ(B:AV)(A:Bool)=>(λ(C:Bool)=>C/\C/\A=false/\not (ab i 10000000000000000)=false/\nz i 0 0/\Q (.tuple [.agg [B,.int .i64 (jQ i 0 0),B,.int .i64 (jV i 0 0)],.int .i64 0])) (not A)) (.int .i8 0) (not (ab (Neg.neg 10000000000000000) i))) (λ_=>by kernel_rfl) λQ' hQ=>?_;try dsimp only
     have hQ:Q' (.tuple [.agg [.int .i8 0,.int .i64 (jQ i 0 0),.int .i8 0,.int .i64 (jV i 0 0)],.int .i64 0]):=hQ;have ok:nz i 0 0=true:=ku.2 ⟨by omega,by omega,.inl rfl⟩;try dsimp only
     rw[ok];simp only[az,reduceCtorEq]
     (repeat' first|exact trivial|refine⟨?_,?_⟩|intro)<;>first|contradiction|omega|exact hQ
   . refine kP Ex ag (bA 102033227020005) (R:=λQ=>(λ(C:AV)(A:Int)=>(λ(F:Bool)(E:Int)=>(λ(H:Bool)(G:Int)=>(λ(B:Int)=>ae .i64 i/\ae .i64 E/\ae .i64 G/\ae .i64 B/\H/\H/\F=false/\not (ab A 10000000000000000)=false/\nz A B 0/\Q (.tuple [.agg [C,.int .i64 (jQ A B 0),C,.int .i64 (jV A B 0)],.int .i64 0])) (Int.add G 1)) (not F) (Int.sub i E)) (not (ab (Neg.neg 10000000000000000) A)) (Int.mul 12 A)) (.int .i8 0) (cV i 12)) (λ_=>by kernel_rfl) λQ' hQ=>?_;try dsimp only
     have hQ:Q' (.tuple [.agg [.int .i8 0,.int .i64 (jQ (cV i 12) (d_ i 12+1) 0),.int .i8 0,.int .i64 (jV (cV i 12) (d_ i 12+1) 0)],.int .i64 0]):=hQ;have hf : -4000<=cV i 12/\cV i 12<=4000:=by unfold cV;omega
     have hm:i-12*cV i 12=d_ i 12:=by unfold cV d_;omega
     have hm2:0<=d_ i 12/\d_ i 12<=11:=by unfold d_;omega
     have hm3:Int.sub i (Int.mul 12 (cV i 12))=d_ i 12:=hm;have ok:nz (cV i 12) (d_ i 12+1) 0=true:=ku.2 ⟨by omega,by omega,.inr (.inl (by omega))⟩;try dsimp only
     rw[hm3];rw[show Int.add (d_ i 12) 1=d_ i 12+1 from rfl,ok];clear hm3;generalize d_ i 12=M at *;generalize cV i 12=Y at *;simp only[az,reduceCtorEq]
     (repeat' first|exact trivial|refine⟨?_,?_⟩|intro)<;>first|contradiction|omega|exact hQ
   . refine kP Ex ag (bA 10005) (R:=λQ=>Q (.tuple [.agg [.int .i8 0,.int .i64 i,.int .i8 0,.int .i64 i],.int .i64 0])) (λ_=>by kernel_rfl) λQ' hQ=>?_;try simp only[az,reduceCtorEq]
     (repeat' first|exact trivial|refine⟨?_,?_⟩|intro)<;>first|contradiction|omega|exact hQ
 . cases he
theorem So:¬(aa (op%4) 1/\aa (op%4) 2=true):=by rw[al,al];omega
theorem Xy{k p f:Int}{ng:Bool}{n z0 z1 m d x y z fr ma:Int}(ho:0<=op/\op<=255)(hfr : -32768<=fr/\fr<=32767)(hma:0<=ma/\ma<=255)(h12:¬(aa (op%4) 1/\aa (op%4) 2=true)):bt Tryz.prog cfg 17 [.agg [.int .u8 k,.int .u8 p,.int .u8 op,.int .u8 f,.bool ng,.int .u16 n,.int .u8 z0,.int .u8 z1,.int .u8 m,.int .u8 d,.int .u8 x,.int .u8 y,.int .u8 z,.int .i16 fr,.int .u8 ma,.nilslice]] [] (zb 14 (mA (eO fr ma (aa (op%4) 1) (aa (op%4) 2) [])) (.known 1)) [.cells (bB (eO fr ma (aa (op%4) 1) (aa (op%4) 2) [])) true none]:=by
 refine BO aV ag (bA 1661005664001663005452255200) (R:=λQ=>(λ(G:aE)(A B E F O P:AV)(I N:Int)=>(λ(V:AV)(U:List AV)(T:Prop)=>(λ(C:aE)(H:AV)=>ae .i64 fr/\ae .i64 ma/\ae .i64 I/\(aa N 1->T/\Q (H,⟨4,[.cells [.int .i8 (Neg.neg 1),A,B,V] true none,C,C,G],[]⟩))/\(aa N 1=false->(aa N 2->Q (H,⟨4,[.cells [B,P,.int .i8 1,A] true none,C,C,G],[]⟩))/\(T->Q (H,⟨4,[.cells [B,P,B,V] true none,C,C,G],[]⟩)))) (.cells U true none) (.agg U)) (.int .i64 I) [.int .u8 1,.slice 17 0 1 (eZ.known 1),O,O,F,A,A,F,F,E,E,E,E,B,A,B,A] (aa N 2=false)) (.cells [.int .u8 k,.int .u8 p,.int .u8 op,.int .u8 f,.bool ng,.int .u16 n,.int .u8 z0,.int .u8 z1,.int .u8 m,.int .u8 d,.int .u8 x,.int .u8 y,.int .u8 z,.int .i16 fr,.int .u8 ma,.nilslice] true none) (.int .i64 0) (.int .i8 0) (.int .u8 0) (.str []) (.bool false) (.int .i64 fr) (Int.add fr ma) (Int.tmod op 4)) (λ_=>by kernel_rfl) λQ' hQ=>?_;try dsimp only
 rw[tm (b:=4) ho.1];generalize aa (op%4) 1=b1 at *;generalize aa (op%4) 2=b2 at *;have h3:=h12;clear h12;cases b1<;>cases b2<;>first|(exfalso;exact absurd h3 (by decide))|skip
 all_goals
  simp only[az,reduceCtorEq]
  (repeat' first|exact trivial|refine⟨?_,?_⟩|intro)<;>first|contradiction|omega|exact hQ _ (dL.lastW (ws:=[]) (λx hx=>by cases hx) rfl rfl (aO rfl) rfl)
theorem f_{R:List Rn}{rw:Bool}{g:Option Nat}{b:Nat}:cR b (.cells (bB R) rw g):=aO rm
theorem Wl(hS:ak Tryz.prog cfg S):ak Tryz.prog cfg (fw S 17 (fy 14 [2] XV)):=by
 refine bm hS (ga dG.lv AD λargs ws t r he hr=>?_);unfold XV at he;split at he
 . cases he;replace hr:=aF hr;obtain⟨⟨h1,h2,h3,-⟩,hr⟩:=hr;rw[aB]at h1 h2 h3;simp only[dP,dR]at h1 h2 h3;cases hr;exact⟨Xy h1 h2 h3 So,λx hx=>by simp only[zAf]at hx;subst hx;exact f_⟩
 . rename_i k p op f ng n z0 z1 m d x y z fr ma l K w;cases he;replace hr:=aF hr;obtain⟨⟨h1,h2,h3,h4,h5,-⟩,hr⟩:=hr;rw[aB]at h1 h2 h3;simp only[dP,dR]at h1 h2 h3;rw[aK]at h5;subst h5;cases hr;obtain⟨e,hin⟩:=xf h4;have key:=@ZM k p op f ng n z0 z1 m d x y z fr ma K h1 h2 h3 So (p7 w) hin;rw[<-e]at key;exact⟨key,λx hx=>by simp only[zAf]at hx;subst hx;exact f_⟩
 . cases he
end Go.Ev
