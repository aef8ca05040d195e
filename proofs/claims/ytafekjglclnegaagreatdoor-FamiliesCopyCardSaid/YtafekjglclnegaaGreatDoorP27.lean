import Derived.Test.YtafekjglclnegaaGreatDoorP26
set_option linter.all false
set_option maxRecDepth 100000
set_option maxHeartbeats 4000000
namespace Go.Ev
open Go Go.Proofs
noncomputable def V2:bq:=gu V1 181 (gD 14 [1,1] LQ)
theorem p6:az Tryz.prog cfg V2:=HO F7
abbrev MM:List Nat:=[3,4,5,6,7,8,9,10,11,12,53,54,55,15,16,17,94,95,96]
def n9(nda sm:Bool)(mst cd d:Int):Bool:=ab d mst&&!(sm&&(nda&&!(ab cd d)))
def gS(nda sm:Bool)(mst cd:Int)(D:List Int):Option Int:=D.find? (n9 nda sm mst cd)
def oC(da:List UInt8):Bool:=!(af da [])
def GN(D:List Int):fp:=λvs o=>match vs,o with
 | [.ptr 16 0,.ptr 17 0,.ptr 18 0,.ptr 19 0,.bool false,.int .i64 1,.slice 14 0 n1 k1,.slice 15 0 n2 k2,.func 180 [] [.ptr 18 0],.int .i64 y,.slice 14 0 n1' k1',.int .i64 n1'',.int .i64 j,.int .i64 m,.bool sm,.int .i64 mst,.slice 15 0 n2' k2',.int .i64 n2'',.int .i64 i],
   ⟨4,[.cells [.int .i64 0,.int .i64 0,.int .i64 0] true none,.cells [.bool true] true none,.cells [.int .i64 cy,.int .i64 cm,.int .i64 cd] true none,
   .cells [.bool ng,.bool lg,.str s,.int .i64 e,.int .i64 g,.str mo,.str da,.int .u8 a,.int .u8 b,.int .u8 c,.slice 14 0 n1a k1a,.slice 15 0 n2a k2a] true none],[]⟩=>
   some (aN [Nat.ble n2 1000,Nat.beq D.length n2,Nat.beq n2' n2,aa n2'' (Int.ofNat n2),aa i 0] (.test (gH (gS (oC da) sm mst cd D)) λx=>bif x then
    .all λJ=>.ret (.ret,[.ptr 16 0,.ptr 17 0,.ptr 18 0,.ptr 19 0,.bool true,.int .i64 1,.slice 14 0 n1 k1,.slice 15 0 n2 k2,.func 180 [] [.ptr 18 0],.int .i64 y,.slice 14 0 n1' k1',.int .i64 n1'',.int .i64 j,.int .i64 m,.bool sm,.int .i64 mst,.slice 15 0 n2' k2',.int .i64 n2'',.any (J 0)],
     ⟨4,[.cells [.int .i64 y,.int .i64 m,.int .i64 (dp (gS (oC da) sm mst cd D))] true none,.cells [.bool true] true none,.cells [.int .i64 cy,.int .i64 cm,.int .i64 cd] true none,
   .cells [.bool ng,.bool lg,.str s,.int .i64 e,.int .i64 g,.str mo,.str da,.int .u8 a,.int .u8 b,.int .u8 c,.slice 14 0 n1a k1a,.slice 15 0 n2a k2a] true none],[]⟩)
    else .ret (.exit 4,[.ptr 16 0,.ptr 17 0,.ptr 18 0,.ptr 19 0,.bool false,.int .i64 1,.slice 14 0 n1 k1,.slice 15 0 n2 k2,.func 180 [] [.ptr 18 0],.int .i64 y,.slice 14 0 n1' k1',.int .i64 n1'',.int .i64 j,.int .i64 m,.bool sm,.int .i64 mst,.slice 15 0 n2' k2',.int .i64 n2'',.int .i64 n2''],o)))
 | _,_=>none
theorem wZ{α:Type}{p:α->Bool}{d:α}:∀{D:List α} {i:Nat},i<D.length->(∀k,k<i->p (D.getD k d)=false)->p (D.getD i d)=true->D.find? p=some (D.getD i d)
 | [],i,h,_,_=>by simp at h
 | x::D,0,_,_,h=>by
   have h:p x=true:=h
   rw[List.find?_cons,h];rfl
 | x::D,i+1,hi,hk,h=>by
   have h0:p x=false:=hk 0 (by omega)
   rw[List.find?_cons,h0]
   exact wZ (D:=D) (i:=i) (by simpa using hi) (λk hk'=>hk (k+1) (by omega)) h
theorem vQ{α:Type}{p:α->Bool}{d:α}{D:List α}(h:∀k,k<D.length->p (D.getD k d)=false):D.find? p=none:=by
 rw[List.find?_eq_none]
 intro x hx
 obtain⟨i,hi⟩:=List.getElem?_of_mem hx
 have hl:=(List.getElem?_eq_some_iff.1 hi).1
 have:=h i hl
 rw[List.getD_eq_getElem?_getD,hi]at this
 simpa using this
theorem AK{D:List Int}{i:Nat}(h:i<D.length):List.getD (dC D) (0+i*1) (AV.tuple [])=.int .i64 (D.getD i 0):=by
 unfold dC
 rw[Nat.zero_add,Nat.mul_one,List.getD_eq_getElem?_getD,List.getElem?_map,List.getD_eq_getElem?_getD,List.getElem?_eq_getElem h]
 rfl
theorem PD(ng lg:Bool)(s:List UInt8)(e g:Int)(mo da:List UInt8)(a b c:Int)(n1 n1' n2 n1a n2a:Nat)(k1 k2 k1' k2' k1a k2a:dv)(n1'' j cy cm cd:Int)(w1 w2:List AV)(y m mst:Int)(sm:Bool)(i:Nat)(J:Nat->Value){Q:VQ->Prop}:aO Q (rT V2 aW [.cells w1 false none,.cells w2 false none] 115 2 127 MM [.ptr 16 0,.ptr 17 0,.ptr 18 0,.ptr 19 0,.bool false,.int .i64 1,.slice 14 0 n1 k1,.slice 15 0 n2 k2,.func 180 [] [.ptr 18 0],.int .i64 y,.slice 14 0 n1' k1',.int .i64 n1'',.int .i64 j,.int .i64 m,.bool sm,.int .i64 mst,.slice 15 0 n2 k2',.int .i64 (Int.ofNat n2),.int .i64 (Int.ofNat i)] J ⟨4,[.cells [.int .i64 0,.int .i64 0,.int .i64 0] true none,.cells [.bool true] true none,.cells [.int .i64 cy,.int .i64 cm,.int .i64 cd] true none,.cells [.bool ng,.bool lg,.str s,.int .i64 e,.int .i64 g,.str mo,.str da,.int .u8 a,.int .u8 b,.int .u8 c,.slice 14 0 n1a k1a,.slice 15 0 n2a k2a] true none],[]⟩) (b_ 1112080533531002202052328100223238120227300033100273020002204052074270224244204)=((λ(um un:aw)(u1 u4 u5 u6 u7 u9 ua ub uc ud ue uf ug uh ui uj uk ul uo up:AV)(u3:Bool)(u0:Int)(u2 uq:Prop)=>(λ(uw:aw)(uu uv:AV)(ur:Bool)(us:Int)(ut ux:Prop)=>(λ(uz:Bool)(uy uA uB:Prop)=>(λ(uC uD uE:Prop)=>(ur=true->bm i n2=true/\(bM .i64 u1=true->(uy->uy/\(u2->u2/\u2/\u2/\uy/\u2/\uy/\(ut->ut/\ut/\ut/\ut/\(uC->uC/\uC/\uC/\uz=false/\uy/\ut/\uD)/\(uE->uE/\uE/\uE/\uz=true/\uy/\ut/\uy/\uy/\uA))/\(ux->ux/\ux/\ux/\ux/\uy/\ux/\uD))/\(uq->uq/\uq/\uq/\uy/\uq/\uy/\uy/\uD))/\(uB->uB/\uB/\uB/\uB/\uB/\uB/\uA))/\(bM .i64 u1=false->False))/\(ur=false->Q (AX.exit 4,([u4,u5,u6,u7,uo,ua,ub,uc,uu,ud,ue,uf,ug,uh,ui,uj,uk,ul,uv],{ n:=4,os:=[aw.cells [up,up,up] true Option.none,uw,um,un],le:=[] })))) (not uz=true) (uy/\uy/\Q (AX.ret,([u4,u5,u6,u7,u9,ua,ub,uc,uu,ud,ue,uf,ug,uh,ui,uj,uk,ul,uv],{ n:=4,os:=[aw.cells [ud,uh,AV.int .i64 us] true Option.none,uw,um,un],le:=[] }))) (not uz=false)) (not (ab cd us)) (ab us mst=true) (ae .i64 (Int.add u0 1)=true/\Q (AX.normal,([u4,u5,u6,u7,uo,ua,ub,uc,uu,ud,ue,uf,ug,uh,ui,uj,uk,ul,AV.int .i64 (Int.add u0 1)],{ n:=4,os:=[aw.cells [up,up,up] true Option.none,uw,um,un],le:=[] }))) (ab us mst=false)) (aw.cells [u9] true Option.none) (AV.func 180 [] [u6]) (AV.int .i64 u0) (not (ab (Int.ofNat n2) u0)) (bL u1) (u3=true) (u3=false)) (aw.cells [AV.int .i64 cy,AV.int .i64 cm,AV.int .i64 cd] true Option.none) (aw.cells [AV.bool ng,AV.bool lg,AV.str s,AV.int .i64 e,AV.int .i64 g,AV.str mo,AV.str da,AV.int .u8 a,AV.int .u8 b,AV.int .u8 c,AV.slice 14 0 n1a k1a,AV.slice 15 0 n2a k2a] true Option.none) (List.getD w2 (HAdd.hAdd 0 (HMul.hMul i 1)) (AV.tuple [])) (AV.ptr 16 0) (AV.ptr 17 0) (AV.ptr 18 0) (AV.ptr 19 0) (AV.bool true) (AV.int .i64 1) (AV.slice 14 0 n1 k1) (AV.slice 15 0 n2 k2) (AV.int .i64 y) (AV.slice 14 0 n1' k1') (AV.int .i64 n1'') (AV.int .i64 j) (AV.int .i64 m) (AV.bool sm) (AV.int .i64 mst) (AV.slice 15 0 n2 k2') (AV.int .i64 (Int.ofNat n2)) (AV.bool false) (AV.int .i64 0) (not (af da [])) (Int.ofNat i) (sm=true) (sm=false)):=by kernel_rfl
theorem IW:aH tab 115=some (bC 115,aE 115):=by kernel_rfl
theorem Gu:(bE (aE 115)).map (·.1)=[0,2,4]:=by kernel_rfl
theorem Nh(M:List AV)(D:List Int):dG Tryz.prog (dX cfg V2) (Cw cfg [.cells M false none,.cells (dC D) false none]) (lb 115 2) 127 MM (GN D):=by
 intro vs o t Q hv hq J
 unfold GN at hv
 split at hv
 · rename_i n1 k1 n2 k2 y n1' k1' n1'' j m sm mst n2' k2' n2'' i cy cm cd ng lg s e g mo da a b c n1a k1a n2a k2a
   cases hv
   replace hq:=eM hq;obtain⟨⟨h1,h2,h3,h4,h5,-⟩,hq⟩:=hq
   rw[aB]at h1
   rw[bW]at h2 h3
   rw[aS]at h4 h5
   subst h2 h3 h4 h5
   simp only[aN,Tr.wp]at hq
   refine j_ p6 rfl rfl ak (ι:={i:Nat // i<=D.length/\∀k,k<i->n9 (oC da) sm mst cd (D.getD k 0)=false}) (λx=>[.ptr 16 0,.ptr 17 0,.ptr 18 0,.ptr 19 0,.bool false,.int .i64 1,.slice 14 0 n1 k1,.slice 15 0 D.length k2,.func 180 [] [.ptr 18 0],.int .i64 y,.slice 14 0 n1' k1',.int .i64 n1'',.int .i64 j,.int .i64 m,.bool sm,.int .i64 mst,.slice 15 0 D.length k2',.int .i64 (Int.ofNat D.length),.int .i64 (Int.ofNat x.1)])
    (λ_=>⟨4,[.cells [.int .i64 0,.int .i64 0,.int .i64 0] true none,.cells [.bool true] true none,.cells [.int .i64 cy,.int .i64 cm,.int .i64 cd] true none,.cells [.bool ng,.bool lg,.str s,.int .i64 e,.int .i64 g,.str mo,.str da,.int .u8 a,.int .u8 b,.int .u8 c,.slice 14 0 n1a k1a,.slice 15 0 n2a k2a] true none],[]⟩) (λx=>D.length-x.1) 4 (λ_=>Nat.le_refl _) (λx J=>?_) (Nat.le_refl _) (λJ=>Wk.refl ⟨⟨0,Nat.zero_le _,λk hk=>absurd hk (Nat.not_lt_zero k)⟩,J,rfl⟩) J
   obtain⟨i,hi,hp⟩:=x
   dsimp only
   refine ap λQ' hQ=>al ((PD ng lg s e g mo da a b c n1 n1' D.length n1a n2a k1 k2 k1' k2' k1a k2a n1'' j cy cm cd M (dC D) y m mst sm i J).mpr ?_)
   dsimp only
   have yes:i<D.length->n9 (oC da) sm mst cd (D.getD i 0)=true->∀J:Nat->Value,Q (.ret,[.ptr 16 0,.ptr 17 0,.ptr 18 0,.ptr 19 0,.bool true,.int .i64 1,.slice 14 0 n1 k1,.slice 15 0 D.length k2,.func 180 [] [.ptr 18 0],.int .i64 y,.slice 14 0 n1' k1',.int .i64 n1'',.int .i64 j,.int .i64 m,.bool sm,.int .i64 mst,.slice 15 0 D.length k2',.int .i64 (Int.ofNat D.length),.any (J 0)],
    ⟨4,[.cells [.int .i64 y,.int .i64 m,.int .i64 (D.getD i 0)] true none,.cells [.bool true] true none,.cells [.int .i64 cy,.int .i64 cm,.int .i64 cd] true none,.cells [.bool ng,.bool lg,.str s,.int .i64 e,.int .i64 g,.str mo,.str da,.int .u8 a,.int .u8 b,.int .u8 c,.slice 14 0 n1a k1a,.slice 15 0 n2a k2a] true none],[]⟩):=λhlt hpick J2=>by
    have hf:gS (oC da) sm mst cd D=some (D.getD i 0):=wZ hlt hp hpick
    rw[hf]at hq
    exact hq J2
   have no:¬i<D.length->Q (.exit 4,[.ptr 16 0,.ptr 17 0,.ptr 18 0,.ptr 19 0,.bool false,.int .i64 1,.slice 14 0 n1 k1,.slice 15 0 D.length k2,.func 180 [] [.ptr 18 0],.int .i64 y,.slice 14 0 n1' k1',.int .i64 n1'',.int .i64 j,.int .i64 m,.bool sm,.int .i64 mst,.slice 15 0 D.length k2',.int .i64 (Int.ofNat D.length),.int .i64 (Int.ofNat D.length)],
    ⟨4,[.cells [.int .i64 0,.int .i64 0,.int .i64 0] true none,.cells [.bool true] true none,.cells [.int .i64 cy,.int .i64 cm,.int .i64 cd] true none,.cells [.bool ng,.bool lg,.str s,.int .i64 e,.int .i64 g,.str mo,.str da,.int .u8 a,.int .u8 b,.int .u8 c,.slice 14 0 n1a k1a,.slice 15 0 n2a k2a] true none],[]⟩):=λhge=>by
    have hf:gS (oC da) sm mst cd D=none:=vQ λk hk=>hp k (by omega)
    rw[hf]at hq
    exact hq
   have next:n9 (oC da) sm mst cd (D.getD i 0)=false->∀k,k<i+1->n9 (oC da) sm mst cd (D.getD k 0)=false:=λh k hk=>by
    by_cases e:k=i
    · subst e;exact h
    · exact hp k (by omega)
   by_cases hlt:i<D.length
   · rw[AK hlt]
     have yes:=yes hlt
     clear no
     have hpe:n9 (oC da) sm mst cd (D.getD i 0)=(ab (D.getD i 0) mst&&!(sm&&(!(af da [])&&!(ab cd (D.getD i 0))))):=rfl
     generalize D.getD i 0=d at *
     simp only[bM,bL,hU,nB]
     simp only[aD,reduceCtorEq,bA,bB,ne_eq]
     have hpi:n9 (oC da) sm mst cd d=true↔(d<=mst/\¬(sm=true/\af da []=false/\d<cd)):=by
      rw[hpe,Bool.and_eq_true,aK]
      refine and_congr_right λ_=>?_
      cases sm<;>cases af da []<;>cases hcd:ab cd d<;>first|(rw[aK]at hcd;simp;done)|(rw[dc]at hcd;simp;done)|(rw[aK]at hcd;simp;omega)|(rw[dc]at hcd;simp;omega)
     clear hpe
     generalize hpd:n9 (oC da) sm mst cd d=pd at *
     (repeat' first|exact trivial|refine⟨?_,?_⟩|intro)<;>first|omega|assumption|refine hQ _ ?_
     all_goals first
      | (refine⟨_,_,VW.any (.same (.same (.same (.same (.same (.same (.same (.same (.same (.same (.same (.same (.same (.same (.same (.same (.same (.same (.int .nil))))))))))))))))))) rfl,yes (hpi.2 ⟨by assumption,?_⟩) (jv [_])⟩;simp_all;done)
      | (refine⟨_,_,VW.any (.same (.same (.same (.same (.same (.same (.same (.same (.same (.same (.same (.same (.same (.same (.same (.same (.same (.same (.int .nil))))))))))))))))))) rfl,yes (hpi.2 ⟨by assumption,?_⟩) (jv [_])⟩;simp_all;omega)
      | (refine⟨⟨i+1,by omega,next ?_⟩,by dsimp only;omega,VW.of_eq rfl rfl⟩;rw[<-Bool.not_eq_true,hpi];simp_all;done)
      | (refine⟨⟨i+1,by omega,next ?_⟩,by dsimp only;omega,VW.of_eq rfl rfl⟩;rw[<-Bool.not_eq_true,hpi];simp_all;omega)
   · obtain rfl:i=D.length:=by omega
     have no2:=no hlt
     simp only[aD,reduceCtorEq,bA,bB,ne_eq]
     (repeat' first|exact trivial|refine⟨?_,?_⟩|intro)<;>first|omega|assumption|(exfalso;omega)|(refine hQ _ ?_;exact⟨_,_,VW.refl,no2⟩)
 · cases hv
abbrev Ls:List Nat:=[3,4,5,6,7,8,9,10,11,12,53,54,55]
def Lc(D:List Int):dx:=j7 aW 4 (fL 127 MM (GN D))
def XU(y cy cm:Int)(mo:List UInt8)(m:Int):Bool:=aa y cy&&(af mo [] || aa m cm)
def OI(y m:Int)(da:List UInt8):Int:=bif af da []then 0 else sV y m
def sA(y cy cm cd:Int)(mo da:List UInt8)(D:List Int)(m:Int):Option Int:=
 bif aa y cy&&(!(af mo [])&&!(ab cm m))then none else gS (oC da) (XU y cy cm mo m) (OI y m da) cd D
def q7(y cy cm cd:Int)(mo da:List UInt8)(D:List Int)(m:Int):Bool:=gH (sA y cy cm cd mo da D m)
def fF(y cy cm cd:Int)(mo da:List UInt8)(M D:List Int):Option Int:=M.find? (q7 y cy cm cd mo da D)
def okM(da:List UInt8)(m:Int):Bool:=af da [] || (ab 1 m&&ab m 12)
def E9(M D:List Int):fp:=λvs o=>match vs,o with
 | [.ptr 16 0,.ptr 17 0,.ptr 18 0,.ptr 19 0,.bool false,.int .i64 1,.slice 14 0 n1 k1,.slice 15 0 n2 k2,.func 180 [] [.ptr 18 0],.int .i64 y,.slice 14 0 n1' k1',.int .i64 n1'',.int .i64 j],
   ⟨4,[.cells [.int .i64 0,.int .i64 0,.int .i64 0] true none,.cells [.bool true] true none,.cells [.int .i64 cy,.int .i64 cm,.int .i64 cd] true none,
   .cells [.bool ng,.bool lg,.str s,.int .i64 e,.int .i64 g,.str mo,.str da,.int .u8 a,.int .u8 b,.int .u8 c,.slice 14 0 n1a k1a,.slice 15 0 n2a k2a] true none],[]⟩=>
   some (aN [Nat.ble n1 1000,Nat.beq M.length n1,Nat.beq n1' n1,aa n1'' (Int.ofNat n1),aa j 0,Nat.ble n2 1000,Nat.beq D.length n2,ab (-10000000000000000) y,ab y 10000000000000000,M.all (okM da)]
    (.test (gH (fF y cy cm cd mo da M D)) λx=>bif x then
    .all λJ=>.ret (.ret,[.ptr 16 0,.ptr 17 0,.ptr 18 0,.ptr 19 0,.bool true,.int .i64 1,.slice 14 0 n1 k1,.slice 15 0 n2 k2,.func 180 [] [.ptr 18 0],.int .i64 y,.slice 14 0 n1' k1',.int .i64 n1'',.any (J 0)],
     ⟨4,[.cells [.int .i64 y,.int .i64 (dp (fF y cy cm cd mo da M D)),.int .i64 (dp (sA y cy cm cd mo da D (dp (fF y cy cm cd mo da M D))))] true none,.cells [.bool true] true none,.cells [.int .i64 cy,.int .i64 cm,.int .i64 cd] true none,
   .cells [.bool ng,.bool lg,.str s,.int .i64 e,.int .i64 g,.str mo,.str da,.int .u8 a,.int .u8 b,.int .u8 c,.slice 14 0 n1a k1a,.slice 15 0 n2a k2a] true none],[]⟩)
    else .ret (.exit 2,[.ptr 16 0,.ptr 17 0,.ptr 18 0,.ptr 19 0,.bool false,.int .i64 1,.slice 14 0 n1 k1,.slice 15 0 n2 k2,.func 180 [] [.ptr 18 0],.int .i64 y,.slice 14 0 n1' k1',.int .i64 n1'',.int .i64 n1''],o)))
 | _,_=>none
theorem RI(ng lg:Bool)(s:List UInt8)(e g:Int)(mo da:List UInt8)(a b c:Int)(n1 n2 n1a n2a:Nat)(k1 k2 k1' k1a k2a:dv)(cy cm cd:Int)(w1 w2:List AV)(D:List Int)(y:Int)(j:Nat)(J:Nat->Value){Q:VQ->Prop}:aO Q (rT V2 (Lc D) [.cells w1 false none,.cells w2 false none] 115 1 127 Ls [.ptr 16 0,.ptr 17 0,.ptr 18 0,.ptr 19 0,.bool false,.int .i64 1,.slice 14 0 n1 k1,.slice 15 0 n2 k2,.func 180 [] [.ptr 18 0],.int .i64 y,.slice 14 0 n1 k1',.int .i64 (Int.ofNat n1),.int .i64 (Int.ofNat j)] J ⟨4,[.cells [.int .i64 0,.int .i64 0,.int .i64 0] true none,.cells [.bool true] true none,.cells [.int .i64 cy,.int .i64 cm,.int .i64 cd] true none,.cells [.bool ng,.bool lg,.str s,.int .i64 e,.int .i64 g,.str mo,.str da,.int .u8 a,.int .u8 b,.int .u8 c,.slice 14 0 n1a k1a,.slice 15 0 n2a k2a] true none],[]⟩) (b_ 111112140273353384422012140273353384006638111214027738220744220121402773822074056338120223000331112140227322022707442201214022732202270740562302000220405207422022404204)=((λ(um un:aw)(u1 ub uc ud ue uf ug uh ui uj uk ul uo up:AV)(u3 u4 ua:Bool)(u0:Int)(u2 u5 u6 u7 u9 uq ur us:Prop)=>(λ(uz:aw)(ux uy:AV)(ut:Bool)(uv:Int)(uC uD:Option Int)(uu uw uA uB:Prop)=>(λ(uH:AV)(uE:Bool)(uL:Int)(uG:List AV)(uF:Option Int)(uI uJ uK uM uN:Prop)=>(λ(uQ uS uT:Option Int)(uO uP uR:Prop)=>(ut=true->bm j n1=true/\(bM .i64 u1=true->(u2->u2/\u2/\u2/\u2/\(uu->uu/\uu/\uu/\uu/\(uO->uO/\uO/\uO/\uE=false/\uu/\(uw->u2/\u2/\u2/\u2/\u2/\uu/\uu/\uu/\uu/\u2/\u3=false/\u2/\u5/\u6/\u7/\u9/\(gH uF=true->(∀J1:Nat->Value,∀J2:Nat->Value,Q (AX.ret,(uG,{ n:=4,os:=[aw.cells [uj,uH,AV.int .i64 (dp uF)] true Option.none,uz,um,un],le:=[] }))))/\(gH uF=false->uP))/\(uA->uq/\ur/\(uJ->(uK->u2/\u2/\u2/\u2/\u2/\uu/\uu/\uu/\uu/\u2/\u3=false/\u2/\u5/\u6/\u7/\u9/\(gH uQ=true->(∀J1:Nat->Value,∀J2:Nat->Value,Q (AX.ret,(uG,{ n:=4,os:=[aw.cells [uj,uH,AV.int .i64 (dp uQ)] true Option.none,uz,um,un],le:=[] }))))/\(gH uQ=false->uP))/\uM)/\uN))/\(uR->uR/\uR/\uR/\uE=true/\uu/\uI))/\(uB->uB/\uB/\uB/\uB/\uB/\(uw->u2/\u2/\u2/\u2/\u2/\uB/\uB/\uB/\uB/\u2/\u3=true/\u2/\u5/\u6/\u7/\u9/\(gH uC=true->(∀J1:Nat->Value,∀J2:Nat->Value,Q (AX.ret,(uG,{ n:=4,os:=[aw.cells [uj,uH,AV.int .i64 (dp uC)] true Option.none,uz,um,un],le:=[] }))))/\(gH uC=false->uP))/\(uA->uq/\ur/\(uJ->(uK->u2/\u2/\u2/\u2/\u2/\uB/\uB/\uB/\uB/\u2/\u3=true/\u2/\u5/\u6/\u7/\u9/\(gH uS=true->(∀J1:Nat->Value,∀J2:Nat->Value,Q (AX.ret,(uG,{ n:=4,os:=[aw.cells [uj,uH,AV.int .i64 (dp uS)] true Option.none,uz,um,un],le:=[] }))))/\(gH uS=false->uP))/\uM)/\uN)))/\(us->us/\us/\us/\us/\(uw->us/\us/\us/\us/\us/\us/\us/\u5/\u6/\u7/\u9/\(gH uD=true->(∀J1:Nat->Value,∀J2:Nat->Value,Q (AX.ret,(uG,{ n:=4,os:=[aw.cells [uj,uH,AV.int .i64 (dp uD)] true Option.none,uz,um,un],le:=[] }))))/\(gH uD=false->uP))/\(uA->uq/\ur/\(uJ->(uK->us/\us/\us/\us/\us/\us/\us/\u5/\u6/\u7/\u9/\(gH uT=true->(∀J1:Nat->Value,∀J2:Nat->Value,Q (AX.ret,(uG,{ n:=4,os:=[aw.cells [uj,uH,AV.int .i64 (dp uT)] true Option.none,uz,um,un],le:=[] }))))/\(gH uT=false->uP))/\uM)/\uN)))/\(bM .i64 u1=false->False))/\(ut=false->Q (AX.exit 2,([ub,uc,ud,ue,uo,ug,uh,ui,ux,uj,uk,ul,uy],{ n:=4,os:=[aw.cells [up,up,up] true Option.none,uz,um,un],le:=[] })))) (gS ua (aa uv cm) uL cd D) (gS ua true uL cd D) (gS ua false uL cd D) (not uE=true) (∀J1:Nat->Value,uI) (not uE=false)) (AV.int .i64 uv) (not (ab cm uv)) (sV y uv) [ub,uc,ud,ue,uf,ug,uh,ui,ux,uj,uk,ul,uy] (gS ua (aa uv cm) 0 cd D) (ae .i64 (Int.add u0 1)=true/\Q (AX.normal,([ub,uc,ud,ue,uo,ug,uh,ui,ux,uj,uk,ul,AV.int .i64 (Int.add u0 1)],{ n:=4,os:=[aw.cells [up,up,up] true Option.none,uz,um,un],le:=[] }))) (ab 1 uv=true) (ab uv 12=true) (ab uv 12=false->False) (ab 1 uv=false->False)) (aw.cells [uf] true Option.none) (AV.func 180 [] [ud]) (AV.int .i64 u0) (not (ab (Int.ofNat n1) u0)) (bL u1) (gS ua true 0 cd D) (gS ua false 0 cd D) (not u3=true) (u4=true) (u4=false) (not u3=false)) (aw.cells [AV.int .i64 cy,AV.int .i64 cm,AV.int .i64 cd] true Option.none) (aw.cells [AV.bool ng,AV.bool lg,AV.str s,AV.int .i64 e,AV.int .i64 g,AV.str mo,AV.str da,AV.int .u8 a,AV.int .u8 b,AV.int .u8 c,AV.slice 14 0 n1a k1a,AV.slice 15 0 n2a k2a] true Option.none) (List.getD w1 (HAdd.hAdd 0 (HMul.hMul j 1)) (AV.tuple [])) (AV.ptr 16 0) (AV.ptr 17 0) (AV.ptr 18 0) (AV.ptr 19 0) (AV.bool true) (AV.int .i64 1) (AV.slice 14 0 n1 k1) (AV.slice 15 0 n2 k2) (AV.int .i64 y) (AV.slice 14 0 n1 k1') (AV.int .i64 (Int.ofNat n1)) (AV.bool false) (AV.int .i64 0) (af mo []) (af da []) (oC da) (Int.ofNat j) (aa y cy=true) (Nat.ble n2 1000=true) (Nat.beq (List.length D) n2=true) (Nat.beq n2 n2=true) (aa (Int.ofNat n2) (Int.ofNat n2)=true) (ab (Neg.neg 10000000000000000) y=true) (ab y 10000000000000000=true) (aa y cy=false)):=by kernel_rfl
theorem D8:((bE (lb 115 1)).getD 0 (0,.skip)).2=lb 115 2:=by kernel_rfl
theorem CC:(bE (lb 115 1)).map (·.1)=[4]:=by kernel_rfl
theorem Hc(M D:List Int):s8 Tryz.prog (dX cfg V2) (Cw cfg [.cells (dC M) false none,.cells (dC D) false none]) (Lc D) (lb 115 1):=by
 refine eC CC λi hi e he st Q hw=>?_
 have hi:i=0:=by simp at hi;omega
 subst hi
 cases he
 rw[D8]
 exact cR (cV.good p6) (by decide) rfl (Nh (dC M) D) hw
theorem KV{da:List UInt8}{M:List Int}{j:Nat}(h:M.all (okM da)=true)(hj:j<M.length):af da []=false->1<=M.getD j 0/\M.getD j 0<=12:=by
 intro hd
 have hx:M.getD j 0∈M:=by
  rw[List.getD_eq_getElem?_getD,List.getElem?_eq_getElem hj];exact List.getElem_mem hj
 have:=List.all_eq_true.1 h _ hx
 unfold okM at this
 rw[hd,Bool.false_or,Bool.and_eq_true,aK,aK]at this
 exact this
theorem Nm(M D:List Int):dG Tryz.prog (dX cfg V2) (Cw cfg [.cells (dC M) false none,.cells (dC D) false none]) (lb 115 1) 127 Ls (E9 M D):=by
 intro vs o t Q hv hq J
 unfold E9 at hv
 split at hv
 · rename_i n1 k1 n2 k2 y n1' k1' n1'' j cy cm cd ng lg s e g mo da a b c n1a k1a n2a k2a
   cases hv
   replace hq:=eM hq;obtain⟨⟨h1,h2,h3,h4,h5,h6,h7,h8,h9,h10,-⟩,hq⟩:=hq
   rw[aB]at h1 h6
   rw[bW]at h2 h3 h7
   rw[aS]at h4 h5
   rw[aK]at h8 h9
   subst h2 h3 h4 h5 h7
   simp only[aN,Tr.wp]at hq
   refine j_ p6 rfl rfl (Hc M D) (ι:={j:Nat // j<=M.length/\∀k,k<j->q7 y cy cm cd mo da D (M.getD k 0)=false}) (λx=>[.ptr 16 0,.ptr 17 0,.ptr 18 0,.ptr 19 0,.bool false,.int .i64 1,.slice 14 0 M.length k1,.slice 15 0 D.length k2,.func 180 [] [.ptr 18 0],.int .i64 y,.slice 14 0 M.length k1',.int .i64 (Int.ofNat M.length),.int .i64 (Int.ofNat x.1)])
    (λ_=>⟨4,[.cells [.int .i64 0,.int .i64 0,.int .i64 0] true none,.cells [.bool true] true none,.cells [.int .i64 cy,.int .i64 cm,.int .i64 cd] true none,.cells [.bool ng,.bool lg,.str s,.int .i64 e,.int .i64 g,.str mo,.str da,.int .u8 a,.int .u8 b,.int .u8 c,.slice 14 0 n1a k1a,.slice 15 0 n2a k2a] true none],[]⟩) (λx=>M.length-x.1) 4 (λ_=>Nat.le_refl _) (λx J=>?_) (Nat.le_refl _) (λJ=>Wk.refl ⟨⟨0,Nat.zero_le _,λk hk=>absurd hk (Nat.not_lt_zero k)⟩,J,rfl⟩) J
   obtain⟨j,hj,hp⟩:=x
   dsimp only
   refine ap λQ' hQ=>al ((RI ng lg s e g mo da a b c M.length D.length n1a n2a k1 k2 k1' k1a k2a cy cm cd (dC M) (dC D) D y j J).mpr ?_)
   dsimp only
   have yes:j<M.length->q7 y cy cm cd mo da D (M.getD j 0)=true->∀J:Nat->Value,Q (.ret,[.ptr 16 0,.ptr 17 0,.ptr 18 0,.ptr 19 0,.bool true,.int .i64 1,.slice 14 0 M.length k1,.slice 15 0 D.length k2,.func 180 [] [.ptr 18 0],.int .i64 y,.slice 14 0 M.length k1',.int .i64 (Int.ofNat M.length),.any (J 0)],
    ⟨4,[.cells [.int .i64 y,.int .i64 (M.getD j 0),.int .i64 (dp (sA y cy cm cd mo da D (M.getD j 0)))] true none,.cells [.bool true] true none,.cells [.int .i64 cy,.int .i64 cm,.int .i64 cd] true none,.cells [.bool ng,.bool lg,.str s,.int .i64 e,.int .i64 g,.str mo,.str da,.int .u8 a,.int .u8 b,.int .u8 c,.slice 14 0 n1a k1a,.slice 15 0 n2a k2a] true none],[]⟩):=λhlt hpick J2=>by
    have hf:fF y cy cm cd mo da M D=some (M.getD j 0):=wZ hlt hp hpick
    rw[hf]at hq
    exact hq J2
   have no:¬j<M.length->Q (.exit 2,[.ptr 16 0,.ptr 17 0,.ptr 18 0,.ptr 19 0,.bool false,.int .i64 1,.slice 14 0 M.length k1,.slice 15 0 D.length k2,.func 180 [] [.ptr 18 0],.int .i64 y,.slice 14 0 M.length k1',.int .i64 (Int.ofNat M.length),.int .i64 (Int.ofNat M.length)],
    ⟨4,[.cells [.int .i64 0,.int .i64 0,.int .i64 0] true none,.cells [.bool true] true none,.cells [.int .i64 cy,.int .i64 cm,.int .i64 cd] true none,.cells [.bool ng,.bool lg,.str s,.int .i64 e,.int .i64 g,.str mo,.str da,.int .u8 a,.int .u8 b,.int .u8 c,.slice 14 0 n1a k1a,.slice 15 0 n2a k2a] true none],[]⟩):=λhge=>by
    have hf:fF y cy cm cd mo da M D=none:=vQ λk hk=>hp k (by omega)
    rw[hf]at hq
    exact hq
   have next:q7 y cy cm cd mo da D (M.getD j 0)=false->∀k,k<j+1->q7 y cy cm cd mo da D (M.getD k 0)=false:=λh k hk=>by
    by_cases e:k=j
    · subst e;exact h
    · exact hp k (by omega)
   by_cases hlt:j<M.length
   · rw[AK hlt]
     have hok:=KV h10 hlt
     have yes:=yes hlt
     clear no hq hp h10
     have hmon:sA y cy cm cd mo da D (M.getD j 0)=(bif aa y cy&&(!(af mo [])&&!(ab cm (M.getD j 0)))then none else gS (oC da) (aa y cy&&(af mo [] || aa (M.getD j 0) cm)) (bif af da []then 0 else sV y (M.getD j 0)) cd D):=rfl
     rw[show q7 y cy cm cd mo da D (M.getD j 0)=gH (sA y cy cm cd mo da D (M.getD j 0))from rfl]at yes next
     generalize sA y cy cm cd mo da D (M.getD j 0)=mm at *
     generalize M.getD j 0=m at *
     simp only[bM,bL,hU,nB]
     generalize aa y cy=E at *
     generalize af mo []=Bm at *
     generalize ab cm m=Lm at *
     generalize af da []=Bd at *
     cases E<;>cases Bm<;>cases Lm<;>cases Bd<;>simp only[Bool.not_true,Bool.not_false,Bool.true_and,Bool.false_and,Bool.and_true,Bool.and_false,Bool.true_or,Bool.false_or,cond_true,cond_false]at hmon<;>subst hmon<;>simp only[aD,reduceCtorEq,bA,bB,ne_eq]<;>(repeat' first|exact trivial|refine⟨?_,?_⟩|intro)<;>first|contradiction|omega|assumption|(exfalso;have:=hok rfl;omega)|refine hQ _ ?_
     all_goals first
      | exact⟨_,_,VW.any (.same (.same (.same (.same (.same (.same (.same (.same (.same (.same (.same (.same (.int .nil))))))))))))) rfl,yes (by assumption) (jv [_])⟩
      | exact⟨⟨j+1,by omega,next (by first|assumption|rfl)⟩,by dsimp only;omega,VW.of_eq rfl rfl⟩
   · obtain rfl:j=M.length:=by omega
     have no2:=no hlt
     simp only[aD,reduceCtorEq,bA,bB,ne_eq]
     (repeat' first|exact trivial|refine⟨?_,?_⟩|intro)<;>first|omega|assumption|(exfalso;omega)|(refine hQ _ ?_;exact⟨_,_,VW.refl,no2⟩)
 · cases hv
abbrev Nt:List Nat:=[3,4,5,6,7,8,9,10,11,12,13]
def Lb(M D:List Int):dx:=j7 aW 2 (fL 127 Ls (E9 M D))
def rI(ng:Bool)(s:List UInt8)(e cy cm cd:Int)(mo da:List UInt8)(M D:List Int):Nat->Int->Bool->Option (Int×Int×Int)
 | 0,_,_=>none
 | f+1,y,ok=>bif ok then(match fF y cy cm cd mo da M D with
   | some m=>some (y,m,dp (sA y cy cm cd mo da D m))
   | none=>rI ng s e cy cm cd mo da M D f (yV ng s e (y+1) true) (yB ng s e (y+1) true))else none
def JQ(y:Int)(ok:Bool):Nat:=bif ok then(10000000000000001-y).toNat+1 else 0
def dN(ng:Bool)(s:List UInt8)(e cy cm cd:Int)(mo da:List UInt8)(M D:List Int)(y:Int)(ok:Bool):Option (Int×Int×Int):=rI ng s e cy cm cd mo da M D (JQ y ok+1) y ok
def CV(x:Option (Int×Int×Int)):Bool:=x.isSome
def p1(x:Option (Int×Int×Int)):Int:=(x.getD (0,0,0)).1
def p2(x:Option (Int×Int×Int)):Int:=(x.getD (0,0,0)).2.1
def p3(x:Option (Int×Int×Int)):Int:=(x.getD (0,0,0)).2.2
def Dk(M D:List Int):fp:=λvs o=>match vs,o with
 | [.ptr 16 0,.ptr 17 0,.ptr 18 0,.ptr 19 0,.bool false,.int .i64 1,.slice 14 0 n1 k1,.slice 15 0 n2 k2,.func 180 [] [.ptr 18 0],.int .i64 y,.bool ok],
   ⟨4,[.cells [.int .i64 0,.int .i64 0,.int .i64 0] true none,.cells [.bool true] true none,.cells [.int .i64 cy,.int .i64 cm,.int .i64 cd] true none,.cells [.bool ng,.bool lg,.str s,.int .i64 e,.int .i64 g,.str mo,.str da,.int .u8 a,.int .u8 b,.int .u8 c,.slice 14 0 n1' k1a,.slice 15 0 n2' k2a] true none],[]⟩=>
   some (aN [Nat.ble n1 1000,Nat.beq M.length n1,Nat.ble n2 1000,Nat.beq D.length n2,M.all (okM da),bD ng lg s e g,Nat.ble s.length 1000,Ap s,ab (-10000000000000000) y,ab y 10000000000000000,Nat.beq n1' n1,Nat.beq n2' n2]
    (.test (CV (dN ng s e cy cm cd mo da M D y ok)) λx=>bif x then
    .all λJ=>.ret (.ret,[.ptr 16 0,.ptr 17 0,.ptr 18 0,.ptr 19 0,.bool true,.int .i64 1,.slice 14 0 n1 k1,.slice 15 0 n2 k2,.func 180 [] [.ptr 18 0],.any (J 0),.any (J 1)],
     ⟨4,[.cells [.int .i64 (p1 (dN ng s e cy cm cd mo da M D y ok)),.int .i64 (p2 (dN ng s e cy cm cd mo da M D y ok)),.int .i64 (p3 (dN ng s e cy cm cd mo da M D y ok))] true none,.cells [.bool true] true none,.cells [.int .i64 cy,.int .i64 cm,.int .i64 cd] true none,.cells [.bool ng,.bool lg,.str s,.int .i64 e,.int .i64 g,.str mo,.str da,.int .u8 a,.int .u8 b,.int .u8 c,.slice 14 0 n1' k1a,.slice 15 0 n2' k2a] true none],[]⟩)
    else .all λJ=>.ret (.exit 0,[.ptr 16 0,.ptr 17 0,.ptr 18 0,.ptr 19 0,.bool false,.int .i64 1,.slice 14 0 n1 k1,.slice 15 0 n2 k2,.func 180 [] [.ptr 18 0],.any (J 0),.bool false],o)))
 | _,_=>none
theorem RE(ng lg:Bool)(s:List UInt8)(e g:Int)(mo da:List UInt8)(a b c:Int)(n1 n2:Nat)(k1 k2 k1a k2a:dv)(cy cm cd:Int)(w1 w2:List AV)(M D:List Int)(y:Int)(ok:Bool)(J:Nat->Value){Q:VQ->Prop}:aO Q (rT V2 (Lb M D) [.cells w1 false none,.cells w2 false none] 115 0 127 Nt [.ptr 16 0,.ptr 17 0,.ptr 18 0,.ptr 19 0,.bool false,.int .i64 1,.slice 14 0 n1 k1,.slice 15 0 n2 k2,.func 180 [] [.ptr 18 0],.int .i64 y,.bool ok] J ⟨4,[.cells [.int .i64 0,.int .i64 0,.int .i64 0] true none,.cells [.bool true] true none,.cells [.int .i64 cy,.int .i64 cm,.int .i64 cd] true none,.cells [.bool ng,.bool lg,.str s,.int .i64 e,.int .i64 g,.str mo,.str da,.int .u8 a,.int .u8 b,.int .u8 c,.slice 14 0 n1 k1a,.slice 15 0 n2 k2a] true none],[]⟩) (b_ 1111127444020006142270274)=((λ(ub uc:aw)(u1 u2 u3 u4 u5 u6 u7 u9 ua ug uh:AV)(ud:Int)(ue uf:Nat)(u0:Option Int)=>(λ(uj:aw)(ui:AV)(ul um:Bool)(uk:Prop)=>(λ(un:Bool)=>(ok=true->Nat.ble n1 1000=true/\Nat.beq (List.length M) n1=true/\Nat.beq n1 n1=true/\aa (Int.ofNat n1) (Int.ofNat n1)=true/\Nat.ble n2 1000=true/\Nat.beq (List.length D) n2=true/\ab (Neg.neg 10000000000000000) y=true/\ab y 10000000000000000=true/\List.all M (okM da)=true/\(gH u0=true->(∀J1:Nat->Value,∀J2:Nat->Value,Q (AX.ret,([u1,u2,u3,u4,u5,u6,u7,u9,ui,ua,AV.any (J2 13)],{ n:=4,os:=[aw.cells [ua,AV.int .i64 (dp u0),AV.int .i64 (dp (sA y cy cm cd mo da D (dp u0)))] true Option.none,uj,ub,uc],le:=[] }))))/\(gH u0=false->(∀J1:Nat->Value,uk/\(un=true->(ul=true->(um=true->uk/\bD ng lg s e g=true/\Nat.ble (List.length s) 1000=true/\Ap s=true/\Q (AX.normal,([u1,u2,u3,u4,ug,u6,u7,u9,ui,AV.int .i64 (yV ng s e ud true),AV.bool (yB ng s e ud true)],{ n:=4,os:=[aw.cells [uh,uh,uh] true Option.none,uj,ub,uc],le:=[] })))/\(um=false->False))/\(ul=false->False))/\(un=false->False))))/\(ok=false->Q (AX.exit 0,([u1,u2,u3,u4,ug,u6,u7,u9,ui,ua,AV.bool ok],{ n:=4,os:=[aw.cells [uh,uh,uh] true Option.none,uj,ub,uc],le:=[] })))) (and (and true (and (Nat.ble (HAdd.hAdd 0 ue) (List.length w1)) ul)) (and (Nat.ble (HAdd.hAdd 0 uf) (List.length w2)) um))) (aw.cells [u5] true Option.none) (AV.func 180 [] [u3]) (aG 14 (aY w1 0 ue)) (aG 14 (aY w2 0 uf)) (ae .i64 ud=true)) (aw.cells [AV.int .i64 cy,AV.int .i64 cm,AV.int .i64 cd] true Option.none) (aw.cells [AV.bool ng,AV.bool lg,AV.str s,AV.int .i64 e,AV.int .i64 g,AV.str mo,AV.str da,AV.int .u8 a,AV.int .u8 b,AV.int .u8 c,AV.slice 14 0 n1 k1a,AV.slice 15 0 n2 k2a] true Option.none) (AV.ptr 16 0) (AV.ptr 17 0) (AV.ptr 18 0) (AV.ptr 19 0) (AV.bool true) (AV.int .i64 1) (AV.slice 14 0 n1 k1) (AV.slice 15 0 n2 k2) (AV.int .i64 y) (AV.bool false) (AV.int .i64 0) (Int.add y 1) (HMul.hMul n1 1) (HMul.hMul n2 1) (fF y cy cm cd mo da M D)):=by kernel_rfl
theorem e_{M:List Int}:aG 14 (dC M)=true:=by
 unfold aG dC
 rw[List.all_map]
 exact List.all_eq_true.2 λx _=>rfl
theorem zl{M:List Int}:aY (dC M) 0 (M.length*1)=dC M:=by
 unfold aY
 rw[List.drop_zero,Nat.mul_one]
 exact List.take_of_length_le (by unfold dC;rw[List.length_map];exact Nat.le_refl _)
theorem kM{M:List Int}:(dC M).length=M.length:=by unfold dC;rw[List.length_map]
theorem nX{ng:Bool}{s:List UInt8}{e y:Int}(hy:y<=10000000000000000):JQ (yV ng s e (y+1) true) (yB ng s e (y+1) true)<JQ y true:=by
 unfold JQ
 cases h:yB ng s e (y+1) true with
 | true=>have:=Ro h;simp only[cond_true];omega
 | false=>simp only[cond_true,cond_false];omega
theorem sW{ng:Bool}{s:List UInt8}{lg:Bool}{e g cy cm cd:Int}{mo da:List UInt8}{M D:List Int}(ho:bD ng lg s e g=true):∀(f f':Nat) (y:Int) (ok:Bool),y<=10000000000000000->JQ y ok<f->JQ y ok<f'->rI ng s e cy cm cd mo da M D f y ok=rI ng s e cy cm cd mo da M D f' y ok
 | 0,_,_,_,_,h,_=>absurd h (Nat.not_lt_zero _)
 | _+1,0,_,_,_,_,h=>absurd h (Nat.not_lt_zero _)
 | f+1,f'+1,y,ok,hy,h1,h2=>by
   unfold rI
   cases ok with
   | false=>rfl
   | true=>
     rw[cond_true,cond_true]
     have hm:=nX (ng:=ng) (s:=s) (e:=e) hy
     cases fF y cy cm cd mo da M D with
     | some m=>rfl
     | none=>exact sW ho f f' _ _ (rQ ho).2 (by omega) (by omega)
theorem qU{ng:Bool}{s:List UInt8}{e cy cm cd:Int}{mo da:List UInt8}{M D:List Int}{y:Int}:dN ng s e cy cm cd mo da M D y false=none:=rfl
theorem s5{ng:Bool}{s:List UInt8}{e cy cm cd:Int}{mo da:List UInt8}{M D:List Int}{y m:Int}(h:fF y cy cm cd mo da M D=some m):dN ng s e cy cm cd mo da M D y true=some (y,m,dp (sA y cy cm cd mo da D m)):=by
 unfold dN rI
 rw[h];rfl
theorem sI{ng:Bool}{s:List UInt8}{lg:Bool}{e g cy cm cd:Int}{mo da:List UInt8}{M D:List Int}{y:Int}(ho:bD ng lg s e g=true)(hy:y<=10000000000000000)(h:fF y cy cm cd mo da M D=none):dN ng s e cy cm cd mo da M D y true=dN ng s e cy cm cd mo da M D (yV ng s e (y+1) true) (yB ng s e (y+1) true):=by
 have hm:=nX (ng:=ng) (s:=s) (e:=e) hy
 unfold dN
 rw[rI,h]
 exact sW ho _ _ _ _ (rQ ho).2 (by omega) (by omega)
theorem Cz:((bE (lb 115 0)).getD 0 (0,.skip)).2=lb 115 1:=by kernel_rfl
theorem Ax:(bE (lb 115 0)).map (·.1)=[2,4]:=by kernel_rfl
theorem Ja(M D:List Int):s8 Tryz.prog (dX cfg V2) (Cw cfg [.cells (dC M) false none,.cells (dC D) false none]) (Lb M D) (lb 115 0):=by
 refine eC Ax λi hi e he st Q hw=>?_
 have hi:i=0\/i=1:=by simp at hi;omega
 rcases hi with rfl|rfl
 · cases he
   rw[Cz]
   exact cR (cV.good p6) (by decide) rfl (Nm M D) hw
 · cases he
theorem M5(M D:List Int):dG Tryz.prog (dX cfg V2) (Cw cfg [.cells (dC M) false none,.cells (dC D) false none]) (lb 115 0) 127 Nt (Dk M D):=by
 intro vs o t Q hv hq J
 unfold Dk at hv
 split at hv
 · rename_i n1 k1 n2 k2 y ok cy cm cd ng lg s e g mo da a b c n1' k1a n2' k2a
   cases hv
   replace hq:=eM hq;obtain⟨⟨h1,h2,h3,h4,h5,h6,h7,h8,h9,h10,h11,h12,-⟩,hq⟩:=hq
   rw[aB]at h1 h3 h7
   rw[bW]at h2 h4 h11 h12
   rw[aK]at h9 h10
   subst h2 h4 h11 h12
   simp only[aN,Tr.wp]at hq
   refine j_ p6 rfl rfl (Ja M D) (ι:={x:Int×Bool // (-10000000000000000<=x.1/\x.1<=10000000000000000)/\dN ng s e cy cm cd mo da M D y ok=dN ng s e cy cm cd mo da M D x.1 x.2}) (λx=>[.ptr 16 0,.ptr 17 0,.ptr 18 0,.ptr 19 0,.bool false,.int .i64 1,.slice 14 0 M.length k1,.slice 15 0 D.length k2,.func 180 [] [.ptr 18 0],.int .i64 x.1.1,.bool x.1.2])
    (λ_=>⟨4,[.cells [.int .i64 0,.int .i64 0,.int .i64 0] true none,.cells [.bool true] true none,.cells [.int .i64 cy,.int .i64 cm,.int .i64 cd] true none,.cells [.bool ng,.bool lg,.str s,.int .i64 e,.int .i64 g,.str mo,.str da,.int .u8 a,.int .u8 b,.int .u8 c,.slice 14 0 M.length k1a,.slice 15 0 D.length k2a] true none],[]⟩) (λx=>JQ x.1.1 x.1.2) 4 (λ_=>Nat.le_refl _) (λx J=>?_) (Nat.le_refl _) (λJ=>Wk.refl ⟨⟨(y,ok),⟨h9,h10⟩,rfl⟩,J,rfl⟩) J
   obtain⟨⟨z,zk⟩,hz,hs⟩:=x
   dsimp only at hz hs ⊢
   refine ap λQ' hQ=>al ((RE ng lg s e g mo da a b c M.length D.length k1 k2 k1a k2a cy cm cd (dC M) (dC D) M D z zk J).mpr ?_)
   dsimp only
   have hs':=hs
   rw[hs]at hq
   clear hs h9 h10
   cases zk with
   | false=>
     rw[qU]at hq
     have hq:∀J:Nat->Value,Q (.exit 0,[.ptr 16 0,.ptr 17 0,.ptr 18 0,.ptr 19 0,.bool false,.int .i64 1,.slice 14 0 M.length k1,.slice 15 0 D.length k2,.func 180 [] [.ptr 18 0],.any (J 0),.bool false],⟨4,[.cells [.int .i64 0,.int .i64 0,.int .i64 0] true none,.cells [.bool true] true none,.cells [.int .i64 cy,.int .i64 cm,.int .i64 cd] true none,.cells [.bool ng,.bool lg,.str s,.int .i64 e,.int .i64 g,.str mo,.str da,.int .u8 a,.int .u8 b,.int .u8 c,.slice 14 0 M.length k1a,.slice 15 0 D.length k2a] true none],[]⟩):=hq
     simp only[aD,reduceCtorEq,bA,bB,ne_eq]
     (repeat' first|exact trivial|refine⟨?_,?_⟩|intro)<;>first|contradiction|omega|assumption|refine hQ _ ?_
     all_goals exact⟨_,_,VW.any (.same (.same (.same (.same (.same (.same (.same (.same (.same (.int (.same .nil))))))))))) rfl,hq (jv [_])⟩
   | true=>
     have yes:∀m,fF z cy cm cd mo da M D=some m->∀J:Nat->Value,Q (.ret,[.ptr 16 0,.ptr 17 0,.ptr 18 0,.ptr 19 0,.bool true,.int .i64 1,.slice 14 0 M.length k1,.slice 15 0 D.length k2,.func 180 [] [.ptr 18 0],.any (J 0),.any (J 1)],⟨4,[.cells [.int .i64 z,.int .i64 m,.int .i64 (dp (sA z cy cm cd mo da D m))] true none,.cells [.bool true] true none,.cells [.int .i64 cy,.int .i64 cm,.int .i64 cd] true none,.cells [.bool ng,.bool lg,.str s,.int .i64 e,.int .i64 g,.str mo,.str da,.int .u8 a,.int .u8 b,.int .u8 c,.slice 14 0 M.length k1a,.slice 15 0 D.length k2a] true none],[]⟩):=λm hf J2=>by
      rw[s5 hf]at hq
      exact hq J2
     have next:fF z cy cm cd mo da M D=none->dN ng s e cy cm cd mo da M D y ok=dN ng s e cy cm cd mo da M D (yV ng s e (z+1) true) (yB ng s e (z+1) true):=λhf=>hs'.trans (sI h6 hz.2 hf)
     clear hq
     have hmu:=nX (ng:=ng) (s:=s) (e:=e) hz.2
     have hbn:=rQ (n:=z+1) (up:=true) h6
     have hb1:aG 14 (aY (dC M) 0 (M.length*1))=true:=by rw[zl];exact e_
     have hb2:aG 14 (aY (dC D) 0 (D.length*1))=true:=by rw[zl];exact e_
     have hc1:Nat.ble (0+M.length*1) (dC M).length=true:=by rw[kM];simp
     have hc2:Nat.ble (0+D.length*1) (dC D).length=true:=by rw[kM];simp
     simp only[hb1,hb2,hc1,hc2,Bool.and_true,Bool.true_and]
     cases hf:fF z cy cm cd mo da M D with
     | some m=>
       have yes:=yes m hf
       clear next
       simp only[gH,dp,Option.isSome_some,Option.getD_some]
       simp only[aD,reduceCtorEq,bA,bB,ne_eq]
       (repeat' first|exact trivial|refine⟨?_,?_⟩|intro)<;>first|contradiction|omega|assumption|refine hQ _ ?_
       all_goals exact⟨_,_,VW.any (.same (.same (.same (.same (.same (.same (.same (.same (.same (.int (.same .nil))))))))))) rfl,yes (jv [_,_])⟩
     | none=>
       have next:=next hf
       clear yes
       simp only[gH,dp,Option.isSome_none]
       simp only[aD,reduceCtorEq,bA,bB,ne_eq]
       (repeat' first|exact trivial|refine⟨?_,?_⟩|intro)<;>first|contradiction|omega|assumption|refine hQ _ ?_
       all_goals exact⟨⟨(_,_),hbn,next⟩,hmu,VW.of_eq rfl rfl⟩
 · cases hv
end Go.Ev
