import Derived.Test.YtafekjglclnegaaGreatDoorP34
set_option linter.all false
set_option maxRecDepth 100000
set_option maxHeartbeats 4000000
namespace Go.Ev
open Go Go.Proofs
def xD(i p:Int):Int:=bif aa p 3 then i else bif aa p 2 then G7 (dH i 12) (eX i 12+1) 0 else G7 i 0 0
def xH(i p:Int):Int:=bif aa p 3 then i else bif aa p 2 then G8 (dH i 12) (eX i 12+1) 0 else G8 i 0 0
def Vl:dM:=λargs=>match args with
 | [.int .i64 i,.int .i64 p]=>some (aN [ab (-40000) i,ab i 40000,ab 1 p,ab p 3] (.ret (.tuple [.agg [.int .i8 0,.int .i64 (xD i p),.int .i8 0,.int .i64 (xH i p)],.int .i64 0])))
 | _=>none
def TK:bq:=bw (bw dF 78 Xf) 9 s9
theorem Uk(i:Int){Q:AV->Prop}:aO Q (pT TK aW 75 [.int .i64 i,.int .i64 1]) (b_ 110403322005)=((λ(u0:Bool)=>(λ(u1:Prop)=>u1/\u1/\u0=false/\not (ab i 10000000000000000)=false/\(x9 i 0 0=true->Q (AV.tuple [AV.agg [AV.int .i8 0,AV.int .i64 (G7 i 0 0),AV.int .i8 0,AV.int .i64 (G8 i 0 0)],AV.int .i64 0]))/\(x9 i 0 0=false->False)) (not u0=true)) (not (ab (Neg.neg 10000000000000000) i))):=by kernel_rfl
theorem VT(i:Int){Q:AV->Prop}:aO Q (pT TK aW 75 [.int .i64 i,.int .i64 2]) (b_ 1104033227020005)=((λ(u0:Int)=>(λ(u2:Bool)(u1:Int)=>(λ(u3:Int)(u4:Prop)=>(λ(u5:Bool)=>ae .i64 i=true/\ae .i64 u1=true/\ae .i64 (Int.sub i u1)=true/\ae .i64 u3=true/\u4/\u4/\u2=false/\not (ab u0 10000000000000000)=false/\(u5=true->Q (AV.tuple [AV.agg [AV.int .i8 0,AV.int .i64 (G7 u0 u3 0),AV.int .i8 0,AV.int .i64 (G8 u0 u3 0)],AV.int .i64 0]))/\(u5=false->False)) (x9 u0 u3 0)) (Int.add (Int.sub i u1) 1) (not u2=true)) (not (ab (Neg.neg 10000000000000000) u0)) (Int.mul 12 u0)) (dH i 12)):=by kernel_rfl
theorem Wd(i:Int){Q:AV->Prop}:aO Q (pT TK aW 75 [.int .i64 i,.int .i64 3]) (b_ 10005)=(Q (AV.tuple [AV.agg [AV.int .i8 0,AV.int .i64 i,AV.int .i8 0,AV.int .i64 i],AV.int .i64 0])):=by kernel_rfl
theorem zI:aH tab 75=some (bC 75,aE 75):=by kernel_rfl
theorem Af:az Tryz.prog cfg TK:=Xi (bK aT (Bu 78 _ rfl))
theorem Ss{S:bq}(hS:az Tryz.prog cfg S):az Tryz.prog cfg (bw S 75 Vl):=by
 refine aA hS λargs t v he hv=>?_
 unfold Vl at he
 split at he
 · rename_i i p
   cases he
   obtain⟨⟨h1,h2,h3,h4,-⟩,hv⟩:=aI hv
   cases hv
   rw[aK]at h1 h2 h3 h4
   have hp:p=1\/p=2\/p=3:=by omega
   rcases hp with rfl|rfl|rfl
   · refine cp Af (L:=aW) zI (by simp) ak (ap λQ' hQ=>al ((Uk i).mpr ?_)) (by simp[aq,bG])
     dsimp only
     have hQ:=hQ _ rfl
     have hQ:Q' (.tuple [.agg [.int .i8 0,.int .i64 (G7 i 0 0),.int .i8 0,.int .i64 (G8 i 0 0)],.int .i64 0]):=hQ
     have ok:x9 i 0 0=true:=rO.2 ⟨by omega,by omega,.inl rfl⟩
     try dsimp only
     rw[ok]
     simp only[aD,reduceCtorEq,bA,bB,ne_eq]
     (repeat' first|exact trivial|refine⟨?_,?_⟩|intro)<;>first|contradiction|omega|exact hQ
   · refine cp Af (L:=aW) zI (by simp) ak (ap λQ' hQ=>al ((VT i).mpr ?_)) (by simp[aq,bG])
     dsimp only
     have hQ:=hQ _ rfl
     have hQ:Q' (.tuple [.agg [.int .i8 0,.int .i64 (G7 (dH i 12) (eX i 12+1) 0),.int .i8 0,.int .i64 (G8 (dH i 12) (eX i 12+1) 0)],.int .i64 0]):=hQ
     have hf : -4000<=dH i 12/\dH i 12<=4000:=by unfold dH;omega
     have hm:i-12*dH i 12=eX i 12:=by unfold dH eX;omega
     have hm2:0<=eX i 12/\eX i 12<=11:=by unfold eX;omega
     have hm3:Int.sub i (Int.mul 12 (dH i 12))=eX i 12:=hm
     have ok:x9 (dH i 12) (eX i 12+1) 0=true:=rO.2 ⟨by omega,by omega,.inr (.inl (by omega))⟩
     try dsimp only
     rw[hm3]
     rw[show Int.add (eX i 12) 1=eX i 12+1 from rfl,ok]
     clear hm3
     generalize eX i 12=M at *
     generalize dH i 12=Y at *
     simp only[aD,reduceCtorEq,bA,bB,ne_eq]
     (repeat' first|exact trivial|refine⟨?_,?_⟩|intro)<;>first|contradiction|omega|exact hQ
   · refine cp Af (L:=aW) zI (by simp) ak (ap λQ' hQ=>al ((Wd i).mpr ?_)) (by simp[aq,bG])
     have hQ:=hQ _ rfl
     try simp only[aD,reduceCtorEq,bA,bB,ne_eq]
     (repeat' first|exact trivial|refine⟨?_,?_⟩|intro)<;>first|contradiction|omega|exact hQ
 · cases he
theorem Oc{op:Int}:¬(aa (op%4) 1=true/\aa (op%4) 2=true):=by rw[aS,aS];omega
theorem Wn{k p op f:Int}{ng:Bool}{n z0 z1 m d x y z fr ma:Int}(ho:0<=op/\op<=255)(hfr : -32768<=fr/\fr<=32767)(hma:0<=ma/\ma<=255)(h12:¬(aa (op%4) 1=true/\aa (op%4) 2=true)):bR Tryz.prog cfg 74 [.agg [.int .u8 k,.int .u8 p,.int .u8 op,.int .u8 f,.bool ng,.int .u16 n,.int .u8 z0,.int .u8 z1,.int .u8 m,.int .u8 d,.int .u8 x,.int .u8 y,.int .u8 z,.int .i16 fr,.int .u8 ma,.nilslice]] [] (tA 14 (fu (bY fr ma (aa (op%4) 1) (aa (op%4) 2) [])) (.known 1)) [.cells (aJ (bY fr ma (aa (op%4) 1) (aa (op%4) 2) [])) true none]:=by
 refine k7 aT (L:=aW) oY (by simp) ak (ap λQ' hQ=>al ((WI k p op f ng n z0 z1 m d x y z fr ma).mpr ?_))
 try dsimp only
 rw[tm (b:=4) ho.1]
 generalize aa (op%4) 1=b1 at *
 generalize aa (op%4) 2=b2 at *
 have h3:=h12
 clear h12
 cases b1<;>cases b2<;>first|(exfalso;exact absurd h3 (by decide))|skip
 all_goals
  simp only[aD,reduceCtorEq,bA,bB,ne_eq]
  (repeat' first|exact trivial|refine⟨?_,?_⟩|intro)<;>first|contradiction|omega|exact hQ _ (fH.lastW (ws:=[]) (λx hx=>by cases hx) rfl rfl (dw rfl) rfl)
theorem eT{R:List Rn}{rw:Bool}{g:Option Nat}{b:Nat}:eG b (.cells (aJ R) rw g):=dw kQ
theorem Rw{S:bq}(hS:az Tryz.prog cfg S):az Tryz.prog cfg (gu S 74 (gD 14 [2] WW)):=by
 refine bK hS (gy d4.lv zG λargs ws t r he hr=>?_)
 unfold WW at he
 split at he
 · cases he
   replace hr:=aI hr;obtain⟨⟨h1,h2,h3,-⟩,hr⟩:=hr
   rw[aQ]at h1 h2 h3
   simp only[bA,bB]at h1 h2 h3
   cases hr
   exact⟨Wn h1 h2 h3 Oc,λx hx=>by simp only[List.mem_singleton]at hx;subst hx;exact eT⟩
 · rename_i k p op f ng n z0 z1 m d x y z fr ma l K w
   cases he
   replace hr:=aI hr;obtain⟨⟨h1,h2,h3,h4,h5,-⟩,hr⟩:=hr
   rw[aQ]at h1 h2 h3
   simp only[bA,bB]at h1 h2 h3
   rw[bW]at h5
   subst h5
   cases hr
   obtain⟨e,hin⟩:=sK h4
   have key:=@XR k p op f ng n z0 z1 m d x y z fr ma K h1 h2 h3 Oc (gm w) hin
   rw[<-e]at key
   exact⟨key,λx hx=>by simp only[List.mem_singleton]at hx;subst hx;exact eT⟩
 · cases he
end Go.Ev
