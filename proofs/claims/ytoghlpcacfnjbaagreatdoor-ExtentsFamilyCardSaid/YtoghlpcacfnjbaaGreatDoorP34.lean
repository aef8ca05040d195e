import Derived.Test.YtoghlpcacfnjbaaGreatDoorP33
set_option linter.all false
set_option maxRecDepth 100000
set_option maxHeartbeats 4000000
namespace Go.Ev
open Go Go.Proofs
variable{S:aQ}{op:Int}
def EW:Int->List (Int×Int)->List Rn
 | _,[]=>[]
 | day,p::r=>⟨0,day,0,day+p.2⟩::EW (day+p.2+2+p.1) r
def El:List Rn->List Rn
 | []=>[]
 | r::rs=>⟨-1,0,r.c,r.d⟩::rs
def vO:List Rn->List Rn
 | []=>[]
 | [r]=>[⟨r.a,r.b,1,0⟩]
 | r::s::rs=>r::vO (s::rs)
def xu(fr ma:Int):List (Int×Int)->List Rn
 | []=>[⟨0,fr,0,fr+ma⟩]
 | p::r=>EW fr ((p::r).take 4)
def Hc(b1 b2:Bool)(R:List Rn):List Rn:=bif b1 then El R else bif b2 then vO R else R
def eT(fr ma:Int)(b1 b2:Bool)(gs:List (Int×Int)):List Rn:=Hc b1 b2 (xu fr ma gs)
def nK(R:List Rn):Nat:=R.length
def DS:List (Int×Int)->fg
 | []=>.b 1
 | _=>.a 0
def CP:List (Int×Int)->Option Nat
 | []=>none
 | _=>some 4
def js:List (Int×Int)->List AV
 | []=>[]
 | p::r=>.a .u8 p.1::.a .u8 p.2::js r
def qk:List AV->List (Int×Int)
 | .a .u8 a::.a .u8 b::r=>(a,b)::qk r
 | _=>[]
def vv:List AV->Bool
 | []=>true
 | .a .u8 a::.a .u8 b::r=>af .u8 a&&(af .u8 b&&vv r)
 | _=>false
def zC(b n:Nat)(K:fg):AV:=.h [.a .u8 1,.c b 0 n K,.b false,.b false,.d [],.a .i64 0,.a .i64 0,.d [],.d [],.a .u8 0,.a .u8 0,.a .u8 0,.a .u8 0,.a .i8 0,.a .i64 0,.a .i8 0,.a .i64 0]
def X4:kS:=λargs ws=>match args,ws with
 | [.h [.a .u8 k,.a .u8 p,.a .u8 op,.a .u8 f,.b ng,.a .u16 n,.a .u8 z0,.a .u8 z1,.a .u8 m,.a .u8 d,.a .u8 x,.a .u8 y,.a .u8 z,.a .i16 fr,.a .u8 ma,.f]],[]=>some (aH [af .u8 op,af .i16 fr,af .u8 ma] (.a0 (zC 14 (nK (eT fr ma (aa (op%4) 1) (aa (op%4) 2) [])) (.b 1),[.a (bh (eT fr ma (aa (op%4) 1) (aa (op%4) 2) [])) true none])))
 | [.h [.a .u8 k,.a .u8 p,.a .u8 op,.a .u8 f,.b ng,.a .u16 n,.a .u8 z0,.a .u8 z1,.a .u8 m,.a .u8 d,.a .u8 x,.a .u8 y,.a .u8 z,.a .i16 fr,.a .u8 ma,.c 14 0 l K]],[.a w false none]=>some (aH [af .u8 op,af .i16 fr,af .u8 ma,vv w,Nat.beq (qk w).length l] (.a0 (zC 15 (nK (eT fr ma (aa (op%4) 1) (aa (op%4) 2) (qk w))) (DS (qk w)),[.a (bh (eT fr ma (aa (op%4) 1) (aa (op%4) 2) (qk w))) true (CP (qk w))])))
 | _,_=>none
theorem dL.a0{ws:List aD}{v v':AV}{x:aD}{rest:List aD}{k n:Nat}(hw:∀x∈ws,cR 14 x)(hk:rest.length=k)(hn:n=k+1)(hx:cR (14+ws.length) x)(hv:kG (14+ws.length) [(14+ws.length+k,14+ws.length)] 20 v'=some v):dL ws v [x] (v',⟨n,x::rest,[]⟩):=by
 subst hn;have hv':kG ((Cw cfg ws).lo+0) (io (Cw cfg ws).lo 0 [k]) 20 v'=some v:=hv;refine(oX dI.lv (C:=Cw cfg ws) (st:=⟨.c0 v' .b0 .b0,1,⟨k+1,x::rest,[]⟩,[],none⟩) (kb:=0) (sel:=[k]) (ts':=.c0 v .b0 .b0) (o':=⟨1,[x],[]⟩) (B6 hw) (Nat.zero_le _) (λs hs=>?_) (by simp) (λp hp=>by cases hp) rfl rfl rfl (λi hi=>absurd hi (Nat.not_lt_zero i)) (λt ht=>?_) ?_ (λd hd=>by cases hd) (λi hi=>by cases hi)).b0 λs hs=>?_
 . simp only[zAe]at hs;subst hs;exact⟨Nat.zero_le _,Nat.lt_succ_self _⟩
 . have:t=0:=by simp at ht;omega
   subst this;refine .inl ⟨?_,?_⟩
   . show(⟨1,[x],[]⟩:aB).at 0=(⟨k+1,x::rest,[]⟩:aB).at k;unfold aB.at;simp
   . show cR (14+ws.length) ((⟨k+1,x::rest,[]⟩:aB).at k);unfold aB.at;simpa using hx
 . simp only[xB,hv',ob]
 . rw[hs];exact⟨rfl,rfl⟩
theorem pP:∀{gs:List (Int×Int)},bw (js gs)=[]
 | []=>rfl
 | p::r=>by simp only[js,bw,aC,pP (gs:=r),List.append_nil]
theorem x8:∀{w:List AV},vv w->w=js (qk w)/\∀p∈qk w,(0<=p.1/\p.1<=255)/\(0<=p.2/\p.2<=255)
 | [],_=>⟨rfl,λp hp=>by cases hp⟩
 | .a .u8 a::.a .u8 b::r,h=>by
   simp only[vv,zAa,aE,eH,eE]at h;obtain⟨h1,h2⟩:=x8 h.2.2;refine⟨by simp only[qk,js];rw[<-h1],λp hp=>?_⟩;simp only[qk,List.mem_cons]at hp;rcases hp with rfl|hp
   . exact⟨h.1,h.2.1⟩
   . exact h2 p hp
theorem f74{k p op f:Int}{ng:Bool}{n z0 z1 m d x y z fr ma:Int}{K:fg}(ho:0<=op/\op<=255)(hfr : -32768<=fr/\fr<=32767)(hma:0<=ma/\ma<=255)(h12:¬(aa (op%4) 1/\aa (op%4) 2=true))(gs:List (Int×Int))(hin:∀p∈gs,(0<=p.1/\p.1<=255)/\(0<=p.2/\p.2<=255)):bu Tryz.prog cfg 17 [.h [.a .u8 k,.a .u8 p,.a .u8 op,.a .u8 f,.b ng,.a .u16 n,.a .u8 z0,.a .u8 z1,.a .u8 m,.a .u8 d,.a .u8 x,.a .u8 y,.a .u8 z,.a .i16 fr,.a .u8 ma,.c 14 0 gs.length K]] [.a (js gs) false none] (zC 15 (nK (eT fr ma (aa (op%4) 1) (aa (op%4) 2) gs)) (DS gs)) [.a (bh (eT fr ma (aa (op%4) 1) (aa (op%4) 2) gs)) true (CP gs)]:=by
 have hw1:∀x∈[aD.a (js gs) false none],cR 14 x:=λx hx=>by
  simp only[zAe]at hx;subst hx;exact aO pP
 match gs,hin with
 | [],hin=>
   refine Cs aW ai (bE 1661005664001663005452255200) (R:=λQ=>(λ(G:aD)(A B E F O P:AV)(I N:Int)=>(λ(V:AV)(U:List AV)(T:Prop)=>(λ(C:aD)(H:AV)=>af .i64 fr/\af .i64 ma/\af .i64 I/\(aa N 1->T/\Q (H,⟨4,[.a [.a .i8 (Neg.neg 1),A,B,V] true none,C,C,G],[]⟩))/\(aa N 1=false->(aa N 2->Q (H,⟨4,[.a [B,P,.a .i8 1,A] true none,C,C,G],[]⟩))/\(T->Q (H,⟨4,[.a [B,P,B,V] true none,C,C,G],[]⟩)))) (.a U true none) (.h U)) (.a .i64 I) [.a .u8 1,.c 18 0 1 (fg.b 1),O,O,F,A,A,F,F,E,E,E,E,B,A,B,A] (aa N 2=false)) (.a [.a .u8 k,.a .u8 p,.a .u8 op,.a .u8 f,.b ng,.a .u16 n,.a .u8 z0,.a .u8 z1,.a .u8 m,.a .u8 d,.a .u8 x,.a .u8 y,.a .u8 z,.a .i16 fr,.a .u8 ma,.c 14 0 0 K] true none) (.a .i64 0) (.a .i8 0) (.a .u8 0) (.d []) (.b false) (.a .i64 fr) (Int.add fr ma) (Int.tmod op 4)) (λ_=>by kernel_rfl) λQ' hQ=>?_;try dsimp only
   try dsimp only
   rw[tm (b:=4) ho.1];generalize aa (op%4) 1=b1 at *;generalize aa (op%4) 2=b2 at *;have h3:=h12;clear h12;cases b1<;>cases b2<;>first|(exfalso;exact absurd h3 (by decide))|skip
   all_goals
    simp only[az,reduceCtorEq]
    (repeat' first|exact trivial|refine⟨?_,?_⟩|intro)<;>first|contradiction|omega|exact hQ _ (dL.a0 hw1 rfl rfl (aO rfl) rfl)
 | [(g0,l0)],hin=>
   have hp0:=hin (g0,l0) (by simp);refine Cs aW ai (bE 16610056640016630054062200525522006200) (R:=λQ=>(λ(H:aD)(A B E G P T:AV)(F O:Int)=>(λ(Y:AV)(U:Int)(W:List AV)(V:Prop)=>(λ(C:aD)(I:AV)(Z:List AV)=>(λ(N:aD)=>af .i64 fr/\af .i64 l0/\af .i64 F/\af .i64 U/\af .i64 g0/\af .i64 (Int.add U g0)/\(aa O 1->V/\Q (I,⟨5,[.a [.a .i8 (Neg.neg 1),A,B,Y] true (some 4),N,C,C,H],[]⟩))/\(aa O 1=false->(aa O 2->Q (I,⟨5,[.a [B,T,.a .i8 1,A] true (some 4),N,C,C,H],[]⟩))/\(V->Q (I,⟨5,[.a Z true (some 4),N,C,C,H],[]⟩)))) (.a Z true none)) (.a W true none) (.h W) [B,T,B,Y]) (.a .i64 F) (Int.add F 2) [.a .u8 1,.c 19 0 1 (fg.a 0),P,P,G,A,A,G,G,E,E,E,E,B,A,B,A] (aa O 2=false)) (.a [.a .u8 k,.a .u8 p,.a .u8 op,.a .u8 f,.b ng,.a .u16 n,.a .u8 z0,.a .u8 z1,.a .u8 m,.a .u8 d,.a .u8 x,.a .u8 y,.a .u8 z,.a .i16 fr,.a .u8 ma,.c 14 0 1 K] true none) (.a .i64 0) (.a .i8 0) (.a .u8 0) (.d []) (.b false) (.a .i64 fr) (Int.add fr l0) (Int.tmod op 4)) (λ_=>by kernel_rfl) λQ' hQ=>?_;try dsimp only
   try dsimp only
   rw[tm (b:=4) ho.1];generalize aa (op%4) 1=b1 at *;generalize aa (op%4) 2=b2 at *;have h3:=h12;clear h12;cases b1<;>cases b2<;>first|(exfalso;exact absurd h3 (by decide))|skip
   all_goals
    simp only[az,reduceCtorEq]
    (repeat' first|exact trivial|refine⟨?_,?_⟩|intro)<;>first|contradiction|omega|exact hQ _ (dL.a0 hw1 rfl rfl (aO rfl) rfl)
 | [(g0,l0),(g1,l1)],hin=>
   have hp0:=hin (g0,l0) (by simp);have hp1:=hin (g1,l1) (by simp);refine Cs aW ai (bE 1661005664001663005406220052062200062200525522006200) (R:=λQ=>(λ(O:aD)(A B E I N u0:AV)(H Z:Int)=>(λ(F:AV)(u1:Int)(u3:List AV)(u2:Prop)=>(λ(C U:aD)(T:AV)(P:Int)=>(λ(G:AV)(V:Int)=>(λ(W:AV)(u4:Int)=>(λ(Y:aD)=>af .i64 fr/\af .i64 l0/\af .i64 H/\af .i64 u1/\af .i64 g0/\af .i64 P/\af .i64 l1/\af .i64 V/\af .i64 u4/\af .i64 g1/\af .i64 (Int.add u4 g1)/\(aa Z 1->u2/\Q (T,⟨7,[.a [.a .i8 (Neg.neg 1),B,A,F,A,G,A,W] true (some 4),Y,aD.b,U,C,C,O],[]⟩))/\(aa Z 1=false->(aa Z 2->Q (T,⟨7,[.a [A,N,A,F,A,G,.a .i8 1,B] true (some 4),Y,aD.b,U,C,C,O],[]⟩))/\(u2->Q (T,⟨7,[.a [A,N,A,F,A,G,A,W] true (some 4),Y,aD.b,U,C,C,O],[]⟩)))) (.a [A,G,A,W] true none)) (.a .i64 V) (Int.add V 2)) (.a .i64 P) (Int.add P l1)) (.a u3 true none) (.a [A,N,A,F] true none) (.h u3) (Int.add u1 g0)) (.a .i64 H) (Int.add H 2) [.a .u8 1,.c 21 0 2 (fg.a 0),u0,u0,I,B,B,I,I,E,E,E,E,A,B,A,B] (aa Z 2=false)) (.a [.a .u8 k,.a .u8 p,.a .u8 op,.a .u8 f,.b ng,.a .u16 n,.a .u8 z0,.a .u8 z1,.a .u8 m,.a .u8 d,.a .u8 x,.a .u8 y,.a .u8 z,.a .i16 fr,.a .u8 ma,.c 14 0 2 K] true none) (.a .i8 0) (.a .i64 0) (.a .u8 0) (.d []) (.a .i64 fr) (.b false) (Int.add fr l0) (Int.tmod op 4)) (λ_=>by kernel_rfl) λQ' hQ=>?_;try dsimp only
   try dsimp only
   rw[tm (b:=4) ho.1];generalize aa (op%4) 1=b1 at *;generalize aa (op%4) 2=b2 at *;have h3:=h12;clear h12;cases b1<;>cases b2<;>first|(exfalso;exact absurd h3 (by decide))|skip
   all_goals
    simp only[az,reduceCtorEq]
    (repeat' first|exact trivial|refine⟨?_,?_⟩|intro)<;>first|contradiction|omega|exact hQ _ (dL.a0 hw1 rfl rfl (aO rfl) rfl)
 | [(g0,l0),(g1,l1),(g2,l2)],hin=>
   have hp0:=hin (g0,l0) (by simp);have hp1:=hin (g1,l1) (by simp);have hp2:=hin (g2,l2) (by simp);refine Cs aW ai (bE 166100566400166300540622005206220006220052062200062200525522006200) (R:=λQ=>(λ(T:aD)(A B E O P u5:AV)(N u4:Int)=>(λ(F:AV)(u6:Int)(u9:List AV)(u7:Prop)=>(λ(C W:aD)(V:AV)(U:Int)=>(λ(G:AV)(Y:Int)=>(λ(H:AV)(ua:Int)=>(λ(u0:aD)(Z:Int)=>(λ(I:AV)(u1:Int)=>(λ(u2:AV)(ub:Int)=>(λ(u3:aD)=>af .i64 fr/\af .i64 l0/\af .i64 N/\af .i64 u6/\af .i64 g0/\af .i64 U/\af .i64 l1/\af .i64 Y/\af .i64 ua/\af .i64 g1/\af .i64 Z/\af .i64 l2/\af .i64 u1/\af .i64 ub/\af .i64 g2/\af .i64 (Int.add ub g2)/\(aa u4 1->u7/\Q (V,⟨9,[.a [.a .i8 (Neg.neg 1),B,A,F,A,G,A,H,A,I,A,u2] true (some 4),u3,aD.b,u0,aD.b,W,C,C,T],[]⟩))/\(aa u4 1=false->(aa u4 2->Q (V,⟨9,[.a [A,P,A,F,A,G,A,H,A,I,.a .i8 1,B] true (some 4),u3,aD.b,u0,aD.b,W,C,C,T],[]⟩))/\(u7->Q (V,⟨9,[.a [A,P,A,F,A,G,A,H,A,I,A,u2] true (some 4),u3,aD.b,u0,aD.b,W,C,C,T],[]⟩)))) (.a [A,I,A,u2] true none)) (.a .i64 u1) (Int.add u1 2)) (.a .i64 Z) (Int.add Z l2)) (.a [A,G,A,H] true none) (Int.add ua g1)) (.a .i64 Y) (Int.add Y 2)) (.a .i64 U) (Int.add U l1)) (.a u9 true none) (.a [A,P,A,F] true none) (.h u9) (Int.add u6 g0)) (.a .i64 N) (Int.add N 2) [.a .u8 1,.c 23 0 3 (fg.a 0),u5,u5,O,B,B,O,O,E,E,E,E,A,B,A,B] (aa u4 2=false)) (.a [.a .u8 k,.a .u8 p,.a .u8 op,.a .u8 f,.b ng,.a .u16 n,.a .u8 z0,.a .u8 z1,.a .u8 m,.a .u8 d,.a .u8 x,.a .u8 y,.a .u8 z,.a .i16 fr,.a .u8 ma,.c 14 0 3 K] true none) (.a .i8 0) (.a .i64 0) (.a .u8 0) (.d []) (.a .i64 fr) (.b false) (Int.add fr l0) (Int.tmod op 4)) (λ_=>by kernel_rfl) λQ' hQ=>?_;try dsimp only
   try dsimp only
   rw[tm (b:=4) ho.1];generalize aa (op%4) 1=b1 at *;generalize aa (op%4) 2=b2 at *;have h3:=h12;clear h12;cases b1<;>cases b2<;>first|(exfalso;exact absurd h3 (by decide))|skip
   all_goals
    simp only[az,reduceCtorEq]
    (repeat' first|exact trivial|refine⟨?_,?_⟩|intro)<;>first|contradiction|omega|exact hQ _ (dL.a0 hw1 rfl rfl (aO rfl) rfl)
 | (g0,l0)::(g1,l1)::(g2,l2)::(g3,l3)::r,hin=>
   have hp0:=hin (g0,l0) (by simp);have hp1:=hin (g1,l1) (by simp);have hp2:=hin (g2,l2) (by simp);have hp3:=hin (g3,l3) (by simp);refine Cs aW ai (bE 1661005664001663005405331661005664001663005405224002200520622000622005206220006220052062200062200525522006200) (R:=λQ=>(λ(A B E U V ue:AV)(T ud:Int)(uc:Nat)=>(λ(W:aD)(G:AV)(F:Bool)(uf:Int)(uh:List AV)(ug:Prop)=>(λ(C u0:aD)(Z:AV)(Y:Int)(u1:Prop)=>(λ(H:AV)(u2:Int)=>(λ(I:AV)(ui:Int)=>(λ(u4:aD)(u3:Int)=>(λ(N:AV)(u5:Int)=>(λ(O:AV)(uj:Int)=>(λ(u7:aD)(u6:Int)=>(λ(P:AV)(u9:Int)=>(λ(ua:AV)(uk:Int)=>(λ(ub:aD)=>(λ(ul:Prop)=>af .i64 fr/\af .i64 l0/\af .i64 T/\af .i64 uf/\af .i64 g0/\af .i64 Y/\af .i64 l1/\af .i64 u2/\af .i64 ui/\af .i64 g1/\af .i64 u3/\af .i64 l2/\af .i64 u5/\af .i64 uj/\af .i64 g2/\af .i64 u6/\af .i64 l3/\af .i64 u9/\af .i64 uk/\af .i64 g3/\af .i64 (Int.add uk g3)/\(F->F/\F/\ul)/\(u1->u1/\u1/\ul)) ((aa ud 1->ug/\Q (Z,⟨11,[.a [.a .i8 (Neg.neg 1),B,A,G,A,H,A,I,A,N,A,O,A,P,A,ua] true (some 4),ub,aD.b,u7,aD.b,u4,aD.b,u0,C,C,W],[]⟩))/\(aa ud 1=false->(aa ud 2->Q (Z,⟨11,[.a [A,V,A,G,A,H,A,I,A,N,A,O,A,P,.a .i8 1,B] true (some 4),ub,aD.b,u7,aD.b,u4,aD.b,u0,C,C,W],[]⟩))/\(ug->Q (Z,⟨11,[.a [A,V,A,G,A,H,A,I,A,N,A,O,A,P,A,ua] true (some 4),ub,aD.b,u7,aD.b,u4,aD.b,u0,C,C,W],[]⟩))))) (.a [A,P,A,ua] true none)) (.a .i64 u9) (Int.add u9 2)) (.a .i64 u6) (Int.add u6 l3)) (.a [A,N,A,O] true none) (Int.add uj g2)) (.a .i64 u5) (Int.add u5 2)) (.a .i64 u3) (Int.add u3 l2)) (.a [A,H,A,I] true none) (Int.add ui g1)) (.a .i64 u2) (Int.add u2 2)) (.a .i64 Y) (Int.add Y l1)) (.a uh true none) (.a [A,V,A,G] true none) (.h uh) (Int.add uf g0) (F=false)) (.a [.a .u8 k,.a .u8 p,.a .u8 op,.a .u8 f,.b ng,.a .u16 n,.a .u8 z0,.a .u8 z1,.a .u8 m,.a .u8 d,.a .u8 x,.a .u8 y,.a .u8 z,.a .i16 fr,.a .u8 ma,.c 14 0 uc K] true none) (.a .i64 T) (not (ab (Int.ofNat uc) 4)) (Int.add T 2) [.a .u8 1,.c 25 0 4 (fg.a 0),ue,ue,U,B,B,U,U,E,E,E,E,A,B,A,B] (aa ud 2=false)) (.a .i8 0) (.a .i64 0) (.a .u8 0) (.d []) (.a .i64 fr) (.b false) (Int.add fr l0) (Int.tmod op 4) (HAdd.hAdd r.length 4)) (λ_=>by kernel_rfl) λQ' hQ=>?_;try dsimp only
   try dsimp only
   rw[tm (b:=4) ho.1];generalize aa (op%4) 1=b1 at *;generalize aa (op%4) 2=b2 at *;have h3:=h12;clear h12;cases b1<;>cases b2<;>first|(exfalso;exact absurd h3 (by decide))|skip
   all_goals
    simp only[az,reduceCtorEq]
    (repeat' first|exact trivial|refine⟨?_,?_⟩|intro)<;>first|contradiction|omega|exact hQ _ (dL.a0 hw1 rfl rfl (aO rfl) rfl)
def Cp(i p:Int):Int:=bif aa p 3 then i else bif aa p 2 then iO (dc i 12) (d8 i 12+1) 0 else iO i 0 0
def Cr(i p:Int):Int:=bif aa p 3 then i else bif aa p 2 then iD (dc i 12) (d8 i 12+1) 0 else iD i 0 0
def YO:dP:=λargs=>match args with
 | [.a .i64 i,.a .i64 p]=>some (aH [ab (-40000) i,ab i 40000,ab 1 p,ab p 3] (.a0 (.e [.h [.a .i8 0,.a .i64 (Cp i p),.a .i8 0,.a .i64 (Cr i p)],.a .i64 0])))
 | _=>none
def S75:aQ:=bb (bb gZ 43 ZP) 41 s9
theorem Ff:ak Tryz.prog cfg S75:=UJ (bm aW (FZ 43 _ rfl))
theorem U9(hS:ak Tryz.prog cfg S):ak Tryz.prog cfg (bb S 18 YO):=by
 refine au hS λargs t v he hv=>?_;unfold YO at he;split at he
 . rename_i i p;cases he;obtain⟨⟨h1,h2,h3,h4,-⟩,hv⟩:=aF hv;cases hv;rw[aq]at h1 h2 h3 h4;have hp:p=1\/p=2\/p=3:=by omega
   rcases hp with rfl|rfl|rfl
   . refine nF Ff ai (bE 10203322005) (R:=λQ=>(λ(B:AV)(A:Bool)=>(λ(C:Bool)=>C/\C/\A=false/\not (ab i 10000000000000000)=false/\kY i 0 0/\Q (.e [.h [B,.a .i64 (iO i 0 0),B,.a .i64 (iD i 0 0)],.a .i64 0])) (not A)) (.a .i8 0) (not (ab (Neg.neg 10000000000000000) i))) (λ_=>by kernel_rfl) λQ' hQ=>?_;try dsimp only
     have hQ:Q' (.e [.h [.a .i8 0,.a .i64 (iO i 0 0),.a .i8 0,.a .i64 (iD i 0 0)],.a .i64 0]):=hQ;have ok:kY i 0 0=true:=ju.2 ⟨by omega,by omega,.inl rfl⟩;try dsimp only
     rw[ok];simp only[az,reduceCtorEq]
     (repeat' first|exact trivial|refine⟨?_,?_⟩|intro)<;>first|contradiction|omega|exact hQ
   . refine nF Ff ai (bE 102033227020005) (R:=λQ=>(λ(C:AV)(A:Int)=>(λ(F:Bool)(E:Int)=>(λ(H:Bool)(G:Int)=>(λ(B:Int)=>af .i64 i/\af .i64 E/\af .i64 G/\af .i64 B/\H/\H/\F=false/\not (ab A 10000000000000000)=false/\kY A B 0/\Q (.e [.h [C,.a .i64 (iO A B 0),C,.a .i64 (iD A B 0)],.a .i64 0])) (Int.add G 1)) (not F) (Int.sub i E)) (not (ab (Neg.neg 10000000000000000) A)) (Int.mul 12 A)) (.a .i8 0) (dc i 12)) (λ_=>by kernel_rfl) λQ' hQ=>?_;try dsimp only
     have hQ:Q' (.e [.h [.a .i8 0,.a .i64 (iO (dc i 12) (d8 i 12+1) 0),.a .i8 0,.a .i64 (iD (dc i 12) (d8 i 12+1) 0)],.a .i64 0]):=hQ;have hf : -4000<=dc i 12/\dc i 12<=4000:=by unfold dc;omega
     have hm:i-12*dc i 12=d8 i 12:=by unfold dc d8;omega
     have hm2:0<=d8 i 12/\d8 i 12<=11:=by unfold d8;omega
     have hm3:Int.sub i (Int.mul 12 (dc i 12))=d8 i 12:=hm;have ok:kY (dc i 12) (d8 i 12+1) 0=true:=ju.2 ⟨by omega,by omega,.inr (.inl (by omega))⟩;try dsimp only
     rw[hm3];rw[show Int.add (d8 i 12) 1=d8 i 12+1 from rfl,ok];clear hm3;generalize d8 i 12=M at *;generalize dc i 12=Y at *;simp only[az,reduceCtorEq]
     (repeat' first|exact trivial|refine⟨?_,?_⟩|intro)<;>first|contradiction|omega|exact hQ
   . refine nF Ff ai (bE 10005) (R:=λQ=>Q (.e [.h [.a .i8 0,.a .i64 i,.a .i8 0,.a .i64 i],.a .i64 0])) (λ_=>by kernel_rfl) λQ' hQ=>?_;try simp only[az,reduceCtorEq]
     (repeat' first|exact trivial|refine⟨?_,?_⟩|intro)<;>first|contradiction|omega|exact hQ
 . cases he
theorem Tm:¬(aa (op%4) 1/\aa (op%4) 2=true):=by rw[ao,ao];omega
theorem X3{k p f:Int}{ng:Bool}{n z0 z1 m d x y z fr ma:Int}(ho:0<=op/\op<=255)(hfr : -32768<=fr/\fr<=32767)(hma:0<=ma/\ma<=255)(h12:¬(aa (op%4) 1/\aa (op%4) 2=true)):bu Tryz.prog cfg 17 [.h [.a .u8 k,.a .u8 p,.a .u8 op,.a .u8 f,.b ng,.a .u16 n,.a .u8 z0,.a .u8 z1,.a .u8 m,.a .u8 d,.a .u8 x,.a .u8 y,.a .u8 z,.a .i16 fr,.a .u8 ma,.f]] [] (zC 14 (nK (eT fr ma (aa (op%4) 1) (aa (op%4) 2) [])) (.b 1)) [.a (bh (eT fr ma (aa (op%4) 1) (aa (op%4) 2) [])) true none]:=by
 refine Cs aW ai (bE 1661005664001663005452255200) (R:=λQ=>(λ(G:aD)(A B E F O P:AV)(I N:Int)=>(λ(V:AV)(U:List AV)(T:Prop)=>(λ(C:aD)(H:AV)=>af .i64 fr/\af .i64 ma/\af .i64 I/\(aa N 1->T/\Q (H,⟨4,[.a [.a .i8 (Neg.neg 1),A,B,V] true none,C,C,G],[]⟩))/\(aa N 1=false->(aa N 2->Q (H,⟨4,[.a [B,P,.a .i8 1,A] true none,C,C,G],[]⟩))/\(T->Q (H,⟨4,[.a [B,P,B,V] true none,C,C,G],[]⟩)))) (.a U true none) (.h U)) (.a .i64 I) [.a .u8 1,.c 17 0 1 (fg.b 1),O,O,F,A,A,F,F,E,E,E,E,B,A,B,A] (aa N 2=false)) (.a [.a .u8 k,.a .u8 p,.a .u8 op,.a .u8 f,.b ng,.a .u16 n,.a .u8 z0,.a .u8 z1,.a .u8 m,.a .u8 d,.a .u8 x,.a .u8 y,.a .u8 z,.a .i16 fr,.a .u8 ma,.f] true none) (.a .i64 0) (.a .i8 0) (.a .u8 0) (.d []) (.b false) (.a .i64 fr) (Int.add fr ma) (Int.tmod op 4)) (λ_=>by kernel_rfl) λQ' hQ=>?_;try dsimp only
 rw[tm (b:=4) ho.1];generalize aa (op%4) 1=b1 at *;generalize aa (op%4) 2=b2 at *;have h3:=h12;clear h12;cases b1<;>cases b2<;>first|(exfalso;exact absurd h3 (by decide))|skip
 all_goals
  simp only[az,reduceCtorEq]
  (repeat' first|exact trivial|refine⟨?_,?_⟩|intro)<;>first|contradiction|omega|exact hQ _ (dL.a0 (ws:=[]) (λx hx=>by cases hx) rfl rfl (aO rfl) rfl)
theorem gf{R:List Rn}{rw:Bool}{g:Option Nat}{b:Nat}:cR b (.a (bh R) rw g):=aO sR
theorem Wi(hS:ak Tryz.prog cfg S):ak Tryz.prog cfg (eQ S 17 (fl 14 [2] X4)):=by
 refine bm hS (fW dI.lv Az λargs ws t r he hr=>?_);unfold X4 at he;split at he
 . cases he;replace hr:=aF hr;obtain⟨⟨h1,h2,h3,-⟩,hr⟩:=hr;rw[aE]at h1 h2 h3;simp only[eH,eE]at h1 h2 h3;cases hr;exact⟨X3 h1 h2 h3 Tm,λx hx=>by simp only[zAe]at hx;subst hx;exact gf⟩
 . rename_i k p op f ng n z0 z1 m d x y z fr ma l K w;cases he;replace hr:=aF hr;obtain⟨⟨h1,h2,h3,h4,h5,-⟩,hr⟩:=hr;rw[aE]at h1 h2 h3;simp only[eH,eE]at h1 h2 h3;rw[aJ]at h5;subst h5;cases hr;obtain⟨e,hin⟩:=x8 h4;have key:=@f74 k p op f ng n z0 z1 m d x y z fr ma K h1 h2 h3 Tm (qk w) hin;rw[<-e]at key;exact⟨key,λx hx=>by simp only[zAe]at hx;subst hx;exact gf⟩
 . cases he
end Go.Ev
