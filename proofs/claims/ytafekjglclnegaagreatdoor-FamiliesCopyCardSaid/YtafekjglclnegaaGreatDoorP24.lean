import Derived.Test.YtafekjglclnegaaGreatDoorP23
set_option linter.all false
set_option maxRecDepth 100000
set_option maxHeartbeats 4000000
namespace Go.Ev
open Go Go.Proofs Go.Proofs.YtafekjglclnegaaGreatDoor
def jP(n:Int):Int:=((10^n.toNat:Nat):Int)
def MG:fp:=λvs o=>match vs,o with
 | [.int .i64 p,.int .i64 n,.int .i64 i],⟨0,[],[]⟩=>some (aN [aa p 1,aa i 0,ab 0 n,ab n 18] (.ret (.exit 0,[.int .i64 (jP n),.int .i64 n,.int .i64 n],b7)))
 | _,_=>none
def Qz:dx:=j7 aW 0 (fL 16 [4,9,10] MG)
def OV:dM:=λargs=>match args with
 | [.int .i64 n]=>some (aN [ab 0 n,ab n 18] (.ret (.tuple [.int .i64 (jP n),.int .i64 0])))
 | _=>none
def WL:bq:=bw RJ 149 OV
def O3:dM:=λargs=>match args with
 | [.agg [.bool ng,.bool lg,.str s,.int .i64 e,.int .i64 g]]=>some (aN [fk s,bm 0 s.length,Nat.ble s.length 18,ab 0 e,ab e 16] (.test (magOk s e.toNat) λb=>bif b then .ret (.tuple [.int .i64 (Int.ofNat (eR s e.toNat)),.int .i64 0])else .ret (.tuple [.int .i64 0,.int .i64 6])))
 | _=>none
def TS:bq:=bw WL 148 O3
def p5(s:List UInt8)(e:Int):Bool:=decide (1<=s.length/\s.length<=17/\fk s=true/\(s.getD 0 0).toNat≠48/\0<=e/\e<=16/\¬(e=0/\s.length<5)/\magOk s e.toNat=true)
def PN:dM:=λargs=>match args with
 | [.agg [.bool ng,.bool lg,.str s,.int .i64 e,.int .i64 g]]=>some (.ret (.bool (p5 s e)))
 | _=>none
def M4:dM:=λargs=>match args with
 | [.agg [.bool ng,.bool lg,.str s,.int .i64 e,.int .i64 g]]=>some (.ret (.bool (!(Nat.beq (bz s 88 88) 0))))
 | _=>none
def VI:bq:=bw (bw TS 207 PN) 144 M4
def Re:dM:=λargs=>match args with
 | [.agg [.bool ng,.bool lg,.str s,.int .i64 e,.int .i64 g]]=>some (aN [Nat.ble s.length 1000] (.ret (.int .i64 (bif bD ng lg s e g then 0 else 6))))
 | _=>none
def IT:bq:=bw VI 143 Re
theorem WM(n p i:Int)(J:Nat->Value){Q:VQ->Prop}:aO Q (rT RJ aW [] 149 0 16 [4,9,10] [.int .i64 p,.int .i64 n,.int .i64 i] J b7) (b_ 1121244)=((λ(u3 u4:AV)(u0:Bool)(u1:Int)(u2:Prop)=>(u0=true->(ae .i64 u1=true->u2/\Q (AX.normal,([AV.int .i64 u1,u3,u4],{ n:=0,os:=[],le:=[] })))/\(ae .i64 u1=false->u2/\Q (AX.normal,([AV.int .i64 (IntKind.wrap .i64 u1),u3,u4],{ n:=0,os:=[],le:=[] }))))/\(u0=false->Q (AX.exit 0,([AV.int .i64 p,u3,AV.int .i64 i],{ n:=0,os:=[],le:=[] })))) (AV.int .i64 n) (AV.int .i64 (Int.add i 1)) (not (ab n i)) (Int.mul p 10) (ae .i64 (Int.add i 1)=true)):=by kernel_rfl
theorem V5(n:Int){Q:AV->Prop}:aO Q (pT RJ Qz 149 [.int .i64 n]) (b_ 1220033)=(not (ab 0 n)=false/\not (ab n 18)=false/\ab 0 n=true/\ab n 18=true/\(∀J1:Nat->Value,Q (AV.tuple [AV.int .i64 (jP n),AV.int .i64 0]))):=by kernel_rfl
theorem TU(ng lg:Bool)(s:List UInt8)(e g:Int){Q:AV->Prop}:aO Q (pT WL aW 148 [.agg [.bool ng,.bool lg,.str s,.int .i64 e,.int .i64 g]]) (b_ 11151140004440005220075)=((λ(u1:Bool)(u0:Int)(u2:Prop)=>(λ(u3:Int)=>(λ(u4 u5:Bool)=>fk s=true/\bm 0 (List.length s)=true/\Nat.ble (List.length s) 18=true/\ab 0 e=true/\ab e 18=true/\(ae .i64 u0=true->(u1=true->(u4=true->(u5=true->u2)/\(u5=false->Q (AV.tuple [AV.int .i64 u3,AV.int .i64 0])))/\(u4=false->u2))/\(u1=false->False))/\(ae .i64 u0=false->False)) (ab u3 9223372036854775807) (not (ab u3 10000000000000000))) (Int.mul u0 (jP e))) (ae .i64 (jP e)) (Int.ofNat (numL s)) (Q (AV.tuple [AV.int .i64 0,AV.int .i64 6]))):=by kernel_rfl
theorem Ua(ng lg:Bool)(s:List UInt8)(e g:Int){Q:AV->Prop}:aO Q (pT TS aW 207 [.agg [.bool ng,.bool lg,.str s,.int .i64 e,.int .i64 g]]) (b_ 16662315662815562815623316233102300811422700053323114227005143742202432024320243220202432020243240)=((λ(u1 u2 u3 u4 u7:Bool)(u0:Nat)(u5 u6 u8:Prop)=>(λ(u9:Int)(ua ub uc ud ue uf ug uh ui:Prop)=>(λ(uj uk ul:Bool)(um:Prop)=>(λ(un uo up uq:Prop)=>(un->un/\uj=false/\(uo->uo/\uo/\uo/\uk=false/\(ua->ua/\ua/\ub/\ua/\u1=false/\(uc->uc/\uc/\u2=false/\(ud->ud/\ud/\u3=false/\(ue->ue/\ue/\ue/\(u5->u5/\ue/\u5/\u4=false/\(ul=true->u6)/\(ul=false->um))/\(u8->u8/\ue/\u8/\u4=false/\um))/\(uf->uf/\uf/\uf/\uf/\u4=true/\u6))/\(ug->ug/\ug/\u3=true/\u6))/\(uh->uh/\uh/\u2=true/\u6))/\(ui->ui/\ui/\ui/\u1=true/\u6))/\(up->up/\up/\up/\uk=true/\u6))/\(uq->uq/\uj=true/\u6)) (not uj=true) (not uk=true) (not uk=false) (not uj=false)) (not (ab 1 u9)) (not (ab u9 17)) (not (ab 5 u9)) (fk s=true/\ub/\Nat.ble u0 18=true/\ab 0 e=true/\ab e 16=true/\(u7=true->Q (AV.bool true))/\(u7=false->u6))) (Int.ofNat u0) (not u1=true) (bm 0 u0=true) (not u2=true) (not u3=true) (not u4=true) (not u4=false) (not u3=false) (not u2=false) (not u1=false)) (not (fk s)) (aa (Int.ofNat (UInt8.toNat (List.getD s 0 (UInt8.ofNat 0)))) 48) (not (ab 0 e)) (not (ab e 16)) (magOk s (Int.toNat e)) (List.length s) (aa e 0=true) (Q (AV.bool false)) (aa e 0=false)):=by kernel_rfl
theorem UE(ng lg:Bool)(s:List UInt8)(e g:Int){Q:AV->Prop}:aO Q (pT TS aW 144 [.agg [.bool ng,.bool lg,.str s,.int .i64 e,.int .i64 g]]) (b_ 1000)=(Q (AV.bool (not (Nat.beq (bz s 88 88) 0)))):=by kernel_rfl
theorem Ws(ng lg:Bool)(s:List UInt8)(e g:Int){Q:AV->Prop}:aO Q (pT VI aW 143 [.agg [.bool ng,.bool lg,.str s,.int .i64 e,.int .i64 g]]) (b_ 10056100623310233881143211432420702202432024005400566810056100623310233881143211432420702202432024005400668100561006233102338811432114324207022024320240054068533133707022022051006233133707022022320240054000303100623310233881143707022024320241006233102338811437070220243202400540002002054052232810056100623310233881143707022024320240054080081337070220220510062331337070220223202400540223231006233102338811437070220243202410062331023388114370702202432024005402702054220247700202420242202420020240)=((λ(u4 u5 u7 u8 uc:Bool)(u0:Int)(u1 u2 u3 u6 u9 ua ub ud ue uf:Prop)=>(λ(um:Int)(ug uh ui uj uk ul un uo up uq ur us ut uu:Prop)=>(λ(uw uz:Bool)(uv ux uy:Prop)=>(λ(uA uB:Prop)=>(λ(uC uD uE:Prop)=>(λ(uF:Prop)=>(λ(uG:Prop)=>(ug->ug/\ug/\ug/\(u1->u1/\u1/\u1/\(u2->u2/\u2/\(u3->u3/\u3/\Nat.ble (List.length s) 1000000=true/\u3/\u2/\u3/\u2/\u2/\(uh->uh/\uh/\uh/\(ui->ui/\uh/\ui/\uh/\uh/\uG)/\(us->us/\uh/\us/\uh/\uh/\uD))/\(ut->ut/\ut/\ut/\ut/\ut/\ut/\uF/\(ub->u9)))/\(ud->ud/\ud/\ud/\u2/\ud/\u2/\u2/\(ui->ui/\ui/\uG)/\(us->us/\us/\uD)))/\(ue->ue/\ue/\ue/\ue/\ue/\uE))/\(uf->uf/\uf/\uf/\uE))/\(uu->uu/\uu/\uu/\uE)) (uF/\(ub->(uq->uq/\uq/\uc=false/\uC)/\(ur->ur/\ur/\uc=true/\u9)))) (u6->(uj->uj/\uj/\uk/\uC)/\uy)) ((ul->ul/\ul/\ul/\ul/\ul/\ul/\ul/\uv/\uA)/\ux) ((u6->(uj->uj/\uj/\uk/\uB)/\uy)/\(ub->uB)) ((u6->(uj->uj/\uj/\uk/\(ul->ul/\ul/\ul/\ul/\ul/\ul/\ul/\(uv->uA)/\(ae .i64 um=false->ul/\un/\(uz=true->u9)/\(uz=false->ua)))/\ux)/\uy)/\(ub->u9))) (ul/\un/\(uw=true->u9)/\(uw=false->ua)) (ul/\ul/\ul/\ul/\ul/\ul/\ul/\ul/\uv/\ul/\un/\uw=false/\ua)) (not (ab g um)) (not (ab g (IntKind.wrap .i64 um))) (ae .i64 um=true) (uo->uo/\uo/\uo/\uo/\uo/\uo/\uo/\uo/\u8=true/\u9) (up->up/\up/\u7=true/\u9)) (Int.add u0 e) (aa u0 4=true) (u4=true) (u5=true) (not u7=true) (u7=false) (not u8=true) (u8=false) (not u8=false) (not u7=false) (not uc=true) (not uc=false) (u5=false) (u4=false) (aa u0 4=false)) (not (af (xA s) [])) (not (aa g 0)) (not (p5 s e)) (not (ab 0 g)) (not (not (not (Nat.beq (bz s 88 88) 0)))) (Int.ofNat (List.length s)) (tu s=true) (aa e 0=true) (ng=true) (lg=true) (Q (AV.int .i64 6)) (Q (AV.int .i64 0)) (lg=false) (ng=false) (aa e 0=false) (tu s=false)):=by kernel_rfl
theorem H0:aH tab 149=some (bC 149,aE 149):=by kernel_rfl
theorem Iw:aH tab 148=some (bC 148,aE 148):=by kernel_rfl
theorem IU:aH tab 207=some (bC 207,aE 207):=by kernel_rfl
theorem I0:aH tab 144=some (bC 144,aE 144):=by kernel_rfl
theorem IF:aH tab 143=some (bC 143,aE 143):=by kernel_rfl
theorem EN:(bE (aE 149)).map (·.1)=[0]:=by kernel_rfl
theorem K4(i:Nat):jP ((i:Int)+1)=jP (i:Int)*10:=by
 unfold jP
 rw[show((i:Int)+1).toNat=i+1 by omega,show((i:Int)).toNat=i by omega,Nat.pow_succ];omega
theorem xr{n:Int}(h:n<=18):1<=jP n/\jP n<=1000000000000000000:=by
 unfold jP
 have h1:10^n.toNat<=10^18:=Nat.pow_le_pow_right (by decide) (by omega)
 have h2:0<10^n.toNat:=Nat.pow_pos (by decide)
 have h3:(10:Nat)^18=1000000000000000000:=by decide
 omega
theorem To:dG Tryz.prog (dX cfg RJ) (Cw cfg []) (lb 149 0) 16 [4,9,10] MG:=by
 intro vs o t Q hv hq J
 unfold MG at hv
 split at hv
 · rename_i p n i
   cases hv
   obtain⟨h1,hq1⟩:=cS hq
   obtain⟨h2,hq2⟩:=cS hq1
   obtain⟨h3,hq3⟩:=cS hq2
   obtain⟨h4,hq4⟩:=cS hq3
   clear hq hq1 hq2 hq3
   rw[aS]at h1 h2
   rw[aK]at h3 h4
   subst h1 h2
   have hq:Q (.exit 0,[.int .i64 (jP n),.int .i64 n,.int .i64 n],b7):=hq4
   refine j_ w_ rfl rfl ak (ι:={i:Nat // (i:Int)<=n}) (λx=>[.int .i64 (jP (x.1:Int)),.int .i64 n,.int .i64 (x.1:Int)]) (λ_=>b7) (λx=>n.toNat-x.1) 0 (λ_=>Nat.zero_le _) (λx J=>?_) (Nat.le_refl _) (λJ=>Wk.refl ⟨⟨0,h3⟩,J,rfl⟩) J
   obtain⟨i,hi⟩:=x
   dsimp only
   refine ap λQ' hQ=>al ((WM n (jP (i:Int)) i J).mpr ?_)
   dsimp only
   have e:=K4 i
   have go:(i:Int)<n->Q' (.normal,[.int .i64 (jP (i:Int)*10),.int .i64 n,.int .i64 ((i:Int)+1)],b7):=λh=>
    hQ (.normal,_,_) ⟨⟨i+1,by omega⟩,by dsimp only;omega,VW.of_eq (by rw[<-e];rfl) rfl⟩
   have fin:¬(i:Int)<n->Q' (.exit 0,[.int .i64 (jP (i:Int)),.int .i64 n,.int .i64 (i:Int)],b7):=λh=>by
    have e:(i:Int)=n:=by omega
    exact hQ (.exit 0,_,_) ⟨_,_,VW.of_eq (by rw[e]) rfl,hq⟩
   have b:(i:Int)<n->jP (i:Int)*10<=1000000000000000000:=λh=>by
    have:=xr (n:=(i:Int)+1) (by omega);omega
   have b0:=xr (n:=(i:Int)) (by omega)
   clear hQ hq hq4 e
   generalize jP (i:Int)=p at *
   simp only[aD,reduceCtorEq,bA,bB,ne_eq]
   (repeat' first|exact trivial|refine⟨?_,?_⟩|intro)<;>first|omega|exact go (by omega)|exact fin (by omega)
 · cases hv
theorem EH:az Tryz.prog cfg WL:=by
 refine aA w_ λargs t v he hv=>?_
 unfold OV at he
 split at he
 · rename_i n
   cases he
   obtain⟨⟨h1,h2,-⟩,hv⟩:=aI hv
   rw[aK]at h1 h2
   cases hv
   refine cp w_ (L:=Qz) H0 (by simp) (eC EN λi hi e he st Q hw=>?_) (ap λQ' hQ=>al ((V5 n).mpr ?_)) (by simp[aq,bG])
   · have hi:i=0:=by simp at hi;omega
     subst hi
     cases he
     exact cR (cV.good w_) (by decide) rfl To hw
   · simp only[aD,reduceCtorEq,bA,bB,ne_eq]
     (repeat' first|exact trivial|refine⟨?_,?_⟩|intro)<;>first|omega|exact hQ _ rfl
 · cases he
theorem zM:az Tryz.prog cfg TS:=by
 refine aA EH λargs t v he hv=>?_
 unfold O3 at he
 split at he
 · rename_i ng lg s e g
   cases he
   obtain⟨⟨h1,h2,h3,h4,h5,-⟩,hv⟩:=aI hv
   rw[wb]at h2
   rw[aB]at h3
   rw[aK]at h4 h5
   have hv':Tr.run (bif magOk s e.toNat then .ret (.tuple [.int .i64 (Int.ofNat (eR s e.toNat)),.int .i64 0])else .ret (.tuple [.int .i64 0,.int .i64 6]))=some v:=hv
   have ids:aq v=[]:=by
    cases hb:magOk s e.toNat<;>rw[hb]at hv'<;>cases hv'<;>simp[aq,bG]
   refine cp EH (L:=aW) Iw (by simp) ak (ap λQ' hQ=>al ((TU ng lg s e g).mpr ?_)) ids
   dsimp only
   have nb:Go.Ev.numL s<10^s.length:=by
    have:=Go.Proofs.YtafekjglclnegaaGreatDoor.numL_lt s (by rw[qL];exact h1)
    rwa [wG]at this
   have nb2:10^s.length<=10^18:=Nat.pow_le_pow_right (by decide) h3
   have nb3:(10:Nat)^18=1000000000000000000:=by decide
   have pb:=xr (n:=e) (by omega)
   have em:Int.mul (Int.ofNat (Go.Ev.numL s)) (jP e)=Int.ofNat (eR s e.toNat):=by
    show((Go.Ev.numL s:Nat):Int)*((10^e.toNat:Nat):Int)=((Go.Ev.numL s*10^e.toNat:Nat):Int)
    exact(Int.natCast_mul _ _).symm
   have yes:eR s e.toNat<=10000000000000000->Q' (.tuple [.int .i64 (Int.ofNat (eR s e.toNat)),.int .i64 0]):=λh=>by
    have hb:magOk s e.toNat=true:=by unfold magOk;rw[aB];exact h
    rw[hb]at hv';cases hv';exact hQ _ rfl
   have no:¬eR s e.toNat<=10000000000000000->Q' (.tuple [.int .i64 0,.int .i64 6]):=λh=>by
    have hb:magOk s e.toNat=false:=by unfold magOk;rw[wS];omega
    rw[hb]at hv';cases hv';exact hQ _ rfl
   rw[em]
   clear hQ hv hv' ids em
   have yes:eR s e.toNat<=10000000000000000->Q' (.tuple [.int .i64 ((eR s e.toNat:Nat):Int),.int .i64 0]):=yes
   generalize eR s e.toNat=mv at *
   generalize jP e=pe at *
   generalize Go.Ev.numL s=nl at *
   simp only[aD,reduceCtorEq,bA,bB,ne_eq]
   (repeat' first|exact trivial|refine⟨?_,?_⟩|intro)<;>first|omega|assumption|exact yes (by omega)|exact no (by omega)
 · cases he
theorem tO{s:List UInt8}{e:Int}:p5 s e=true↔1<=s.length/\s.length<=17/\fk s=true/\(s.getD 0 0).toNat≠48/\0<=e/\e<=16/\¬(e=0/\s.length<5)/\magOk s e.toNat=true:=by unfold p5;rw[decide_eq_true_eq]
theorem Al:az Tryz.prog cfg VI:=by
 refine aA (aA zM λargs t v he hv=>?_) λargs t v he hv=>?_
 · unfold PN at he
   split at he
   · rename_i ng lg s e g
     cases he
     cases hv
     refine cp zM (L:=aW) IU (by simp) ak (ap λQ' hQ=>al ((Ua ng lg s e g).mpr ?_)) (by simp[aq])
     dsimp only
     have li:=@tO s e
     have yes:p5 s e=true->Q' (.bool true):=λh=>hQ _ (by rw[h])
     have no:¬p5 s e=true->Q' (.bool false):=λh=>hQ _ (by rw[Bool.not_eq_true]at h;rw[h])
     rw[li]at yes no
     clear hQ li
     simp only[aD,reduceCtorEq,bA,bB,ne_eq]at yes no ⊢
     generalize fk s=dg at *
     generalize magOk s e.toNat=mk at *
     generalize (s.getD 0 0).toNat=c0 at *
     generalize s.length=n at *
     (repeat' first|exact trivial|refine⟨?_,?_⟩|intro)<;>first|omega|assumption|(apply yes;grind)|(apply no;grind)|grind
   · cases he
 · unfold M4 at he
   split at he
   · rename_i ng lg s e g
     cases he
     cases hv
     exact cp zM (L:=aW) I0 (by simp) ak (ap λQ' hQ=>al ((UE ng lg s e g).mpr (hQ _ rfl))) (by simp[aq])
   · cases he
def eW(ng:Bool)(s:List UInt8)(e:Int):Int:=bif ng then -(eR s e.toNat:Int)else eR s e.toNat
def H_:dM:=λargs=>match args with
 | [.agg [.bool ng,.bool lg,.str s,.int .i64 e,.int .i64 g]]=>some (aN [Nat.ble s.length 1000] (.test (bD ng lg s e g&&Nat.beq (bz s 88 88) 0) λb=>bif b then .ret (.tuple [.int .i64 (eW ng s e),.int .i64 0])else .ret (.tuple [.int .i64 0,.int .i64 6])))
 | _=>none
theorem Xq(ng lg:Bool)(s:List UInt8)(e g:Int){Q:AV->Prop}:aO Q (pT IT aW 154 [.agg [.bool ng,.bool lg,.str s,.int .i64 e,.int .i64 g]]) (b_ 10231111111040111440444444005143020542005)=((λ(u3:AV)(u1 u2 u4:Bool)(u5:Int)(u0:Nat)=>(λ(u8:Bool)(u9:Int)(u6 u7 ua:Prop)=>Nat.ble u0 1000=true/\(u6->u6/\u1=false/\(u2=true->u7)/\(u2=false->(fk s=true->(bm 0 u0=true->(u8=true->(ab 0 e=true->(ab e 16=true->(u4=true->(ng=true->(ae .i64 u9=true->Q (AV.tuple [AV.int .i64 u9,u3]))/\(ae .i64 u9=false->Q (AV.tuple [AV.int .i64 (IntKind.wrap .i64 u9),u3])))/\(ng=false->Q (AV.tuple [AV.int .i64 u5,u3])))/\(u4=false->(ng=true->u7)/\(ng=false->u7)))/\(ab e 16=false->False))/\(ab 0 e=false->False))/\(u8=false->False))/\(bm 0 u0=false->False))/\(fk s=false->False)))/\(ua->ua/\u1=true/\u7)) (Nat.ble u0 18) (Int.sub 0 u5) (not u1=true) (Q (AV.tuple [u3,AV.int .i64 6])) (not u1=false)) (AV.int .i64 0) (not (aa (cond (bD ng lg s e g) 0 6) 0)) (not (Nat.beq (bz s 88 88) 0)) (magOk s (Int.toNat e)) (Int.ofNat (eR s (Int.toNat e))) (List.length s)):=by kernel_rfl
theorem HI:aH tab 154=some (bC 154,aE 154):=by kernel_rfl
theorem Mb{s:List UInt8}:(tu s=true)=(bz s 48 57+bz s 88 88=s.length):=by unfold tu;rw[bW]
theorem NE{s:List UInt8}:(tu s=false)=(bz s 48 57+bz s 88 88≠s.length):=by unfold tu;rw[jn]
theorem KS{s:List UInt8}:af (xA s) []=Nat.beq (bz s 48 48) s.length:=by
 rw[cF,Bool.eq_iff_iff,beq_iff_eq,bW,<-Up,<-trim_zer,List.isEmpty_iff];rfl
theorem Jc(s:List UInt8):bz s 48 57+bz s 88 88<=s.length:=by
 induction s with
 | nil=>simp[bz]
 | cons c s ih=>rw[f_,f_,List.length_cons];(repeat' split)<;>omega
theorem CG{s:List UInt8}{e:Int}:p5 s e=true↔1<=s.length/\s.length<=17/\bz s 48 57=s.length/\(s.getD 0 0).toNat≠48/\0<=e/\e<=16/\¬(e=0/\s.length<5)/\magOk s e.toNat=true:=by rw[tO,VS]
theorem jT:az Tryz.prog cfg IT:=by
 refine aA Al λargs t v he hv=>?_
 unfold Re at he
 split at he
 · rename_i ng lg s e g
   cases he
   obtain⟨h1,hv⟩:=bU hv
   rw[aB]at h1
   cases hv
   refine cp Al (L:=aW) IF (by simp) ak (ap λQ' hQ=>al ((Ws ng lg s e g).mpr ?_)) (by simp[aq])
   have yes:bD ng lg s e g=true->Q' (.int .i64 0):=λh=>hQ _ (by rw[h];rfl)
   have no:¬bD ng lg s e g=true->Q' (.int .i64 6):=λh=>hQ _ (by rw[Bool.not_eq_true]at h;rw[h];rfl)
   unfold bD at yes no
   rw[decide_eq_true_eq]at yes no
   have hs:=Jc s
   have li:=@CG s e
   clear hQ
   rw[KS]
   generalize p5 s e=lr at *
   generalize magOk s e.toNat=mk at *
   generalize (s.getD 0 0).toNat=c0 at *
   simp only[aD,Mb,NE,reduceCtorEq,bA,bB,ne_eq]at yes no ⊢
   generalize bz s 48 57=a at *
   generalize bz s 88 88=x at *
   generalize bz s 48 48=z at *
   generalize s.length=n at *
   (repeat' first|exact trivial|refine⟨?_,?_⟩|intro)<;>first|omega|assumption|(apply yes;grind)|(apply no;grind)|grind
 · cases he
theorem xp{ng lg:Bool}{s:List UInt8}{e g:Int}(h:bD ng lg s e g=true)(hx:bz s 88 88=0):(0<=e/\e<=16)/\(1<=s.length/\s.length<=17)/\fk s=true/\magOk s e.toNat=true/\eR s e.toNat<=10000000000000000:=by
 unfold bD at h
 rw[decide_eq_true_eq]at h
 have hd:fk s=true:=ol (by omega)
 have hm:magOk s e.toNat=true:=by
  rcases h with⟨k1,k2,⟨l1,l2,l3,l4⟩|⟨l1,l2,l3,l4,l5,l6,l7,l8,l9,l10⟩⟩
  · have nb:Go.Ev.numL s<10^s.length:=by
     have:=Go.Proofs.YtafekjglclnegaaGreatDoor.numL_lt s (by rw[qL];exact hd)
     rwa [wG]at this
    have:(10:Nat)^4=10000:=by decide
    rw[l2]at nb
    unfold magOk
    rw[aB,eR,l3]
    simp only[Int.toNat_zero,Nat.pow_zero,Nat.mul_one]
    omega
  · exact l10
 exact⟨by omega,by omega,hd,hm,by unfold magOk at hm;rwa [aB]at hm⟩
theorem Fg{S:bq}(hS:az Tryz.prog cfg S):az Tryz.prog cfg (bw S 154 H_):=by
 refine aA hS λargs t v he hv=>?_
 unfold H_ at he
 split at he
 · rename_i ng lg s e g
   cases he
   obtain⟨h1,hv⟩:=bU hv
   rw[aB]at h1
   have hv':Tr.run (bif bD ng lg s e g&&Nat.beq (bz s 88 88) 0 then .ret (.tuple [.int .i64 (eW ng s e),.int .i64 0])else .ret (.tuple [.int .i64 0,.int .i64 6]))=some v:=hv
   have ids:aq v=[]:=by
    cases hb:bD ng lg s e g&&Nat.beq (bz s 88 88) 0<;>rw[hb]at hv'<;>cases hv'<;>simp[aq,bG]
   refine cp jT (L:=aW) HI (by simp) ak (ap λQ' hQ=>al ((Xq ng lg s e g).mpr ?_)) ids
   dsimp only
   have no:(bD ng lg s e g&&Nat.beq (bz s 88 88) 0)=false->Q' (.tuple [.int .i64 0,.int .i64 6]):=λh=>by
    rw[h]at hv';cases hv';exact hQ _ rfl
   have yes:(bD ng lg s e g&&Nat.beq (bz s 88 88) 0)=true->Q' (.tuple [.int .i64 (eW ng s e),.int .i64 0]):=λh=>by
    rw[h]at hv';cases hv';exact hQ _ rfl
   clear hQ hv hv' ids
   cases ho:bD ng lg s e g with
   | false=>
     rw[ho]at no
     have no:=no rfl
     clear yes
     simp only[cond_false,aD,reduceCtorEq,bA,bB,ne_eq]
     (repeat' first|exact trivial|refine⟨?_,?_⟩|intro)<;>first|omega|exact no
   | true=>
     rw[ho]at no yes
     by_cases hx:bz s 88 88=0
     · obtain⟨k1,k2,k3,k4,k5⟩:=xp ho hx
       have yes:=yes (by rw[hx];rfl)
       have ev:eW ng s e=if ng=true then -(eR s e.toNat:Int)else(eR s e.toNat:Int):=by unfold eW;cases ng<;>rfl
       rw[ev]at yes
       rw[k3,k4]
       clear no ev
       generalize eR s e.toNat=mv at *
       cases ng<;>simp only[cond_true,aD,reduceCtorEq,bA,bB,ne_eq,if_true,Bool.false_eq_true,if_false]at yes ⊢<;>(repeat' first|exact trivial|refine⟨?_,?_⟩|intro)<;>first|omega|exact yes|(rw[Int.zero_sub];exact yes)|(exfalso;omega)
     · have no:=no (by rw[jn.mpr hx];rfl)
       clear yes
       simp only[cond_true,aD,reduceCtorEq,bA,bB,ne_eq]
       (repeat' first|exact trivial|refine⟨?_,?_⟩|intro)<;>first|omega|exact no
 · cases he
def KM:fp:=λvs o=>match vs,o with
 | [.str [c0,c1],.int .i64 g,.int .i64 n,.bool r],⟨0,[],[]⟩=>some (aN [aa n 1,aL r false,ab 0 g,ab g 99] (.test (dD [c0,c1] g.toNat) λb=>bif b then .all λJ=>.ret (.ret,[.str [c0,c1],.int .i64 g,.any (J 0),.bool true],b7)else .ret (.exit 0,[.str [c0,c1],.int .i64 g,.int .i64 (Int.add g 1),.bool false],b7)))
 | _,_=>none
def Hy:dx:=j7 aW 0 (fL 46 [0,1,5,4] KM)
def ON:dM:=λargs=>match args with
 | [.str s,.int .i64 g]=>some (aN [ab 0 g,ab g 99] (.ret (.bool (dD s g.toNat))))
 | _=>none
def Tl:dM:=λargs=>match args with
 | [.agg [.bool ng,.bool lg,.str s,.int .i64 e,.int .i64 g,.str mo,.str da,.int .u8 a,.int .u8 b,.int .u8 c]]=>some (.ret (.int .i64 (cO mo da)))
 | _=>none
def OM:dM:=λargs=>match args with
 | [.agg [.int .u8 a,.int .u8 b,.int .u8 c],.int .i64 n]=>some (aN [ae .u8 a,ae .u8 b,ae .u8 c,ab 1 n,ab n 3] (.ret (.int .i64 (errMk a b c n))))
 | _=>none
def XQ:bq:=bw (bw (bw IT 174 ON) 176 Tl) 175 OM
theorem Vm(c0 c1:UInt8)(g n:Int)(J:Nat->Value){Q:VQ->Prop}:aO Q (rT IT aW [] 174 0 46 [0,1,5,4] [.str [c0,c1],.int .i64 g,.int .i64 n,.bool false] J b7) (b_ 110020381214030202002002400523812033058107381214232202002002422002432020020024000220704)=((λ(u4 u5 u6:AV)(u0 u1 u2 u3:Int)=>(λ(u8 u9:Bool)(u7:Int)=>(λ(ua ub uc ud ue uf ug uh:Prop)=>(λ(ui:Prop)=>(ab n g=true->ae .i64 u0=true/\ae .u8 u0=true/\ae .u8 u7=true/\ae .u8 (Int.tmod n 10)=true/\ae .u8 u1=true/\(ua->ua/\ua/\ua/\ua/\u8=false/\(ub->ub/\ub/\ub/\(uc->uc/\uc/\uc/\uc/\ub/\u9=false/\ub/\ui)/\(uf->uf/\uf/\uf/\uf/\ub/\u9=true/\ub/\ud))/\(ug->ug/\ug/\ug/\ug/\ug/\ue))/\(uh->uh/\uh/\uh/\uh/\u8=true/\(uc->uc/\uc/\uc/\uc/\u9=false/\ui)/\(uf->uf/\uf/\uf/\uf/\u9=true/\ud)))/\(ab n g=false->Q (AX.exit 0,([u4,u5,AV.int .i64 n,u6],{ n:=0,os:=[],le:=[] })))) ((aa u3 u1=true->ud)/\(aa u3 u1=false->ue))) (not u8=true) (aa u2 u7=true) (not u9=true) (Q (AX.ret,([u4,u5,AV.int .i64 n,AV.bool true],{ n:=1,os:=[aw.cells [AV.int .u8 u7,AV.int .u8 u1] true Option.none],le:=[] }))) (ae .i64 (Int.add n 1)=true/\Q (AX.normal,([u4,u5,AV.int .i64 (Int.add n 1),u6],{ n:=1,os:=[aw.cells [AV.int .u8 u7,AV.int .u8 u1] true Option.none],le:=[] }))) (not u9=false) (aa u2 u7=false) (not u8=false)) (aa u2 88) (aa u3 88) (Int.add 48 u0)) (AV.str [c0,c1]) (AV.int .i64 g) (AV.bool false) (Int.tdiv n 10) (Int.add 48 (Int.tmod n 10)) (Int.ofNat (UInt8.toNat c0)) (Int.ofNat (UInt8.toNat c1))):=by kernel_rfl
theorem PE(c0 c1:UInt8)(g:Int){Q:AV->Prop}:aO Q (pT IT Hy 174 [.str [c0,c1],.int .i64 g]) (b_ 11422000)=((λ(u0:Bool)=>ab 0 g=true/\ab g 99=true/\(u0=true->(∀J1:Nat->Value,∀J2:Nat->Value,Q (AV.bool true)))/\(u0=false->(∀J1:Nat->Value,Q (AV.bool false)))) (dD [c0,c1] (Int.toNat g))):=by kernel_rfl
theorem O0(s:List UInt8)(g:Int){Q:AV->Prop}:aO Q (pT IT Hy 174 [.str s,.int .i64 g]) (.t .z)=(not (aa (Int.ofNat (List.length s)) 2)=true/\Q (AV.bool false)):=by kernel_rfl
theorem Uq(a b c n:Int){Q:AV->Prop}:aO Q (pT IT aW 175 [.agg [.int .u8 a,.int .u8 b,.int .u8 c],.int .i64 n]) (b_ 1530310014020245164000530310014020225164051402024516400053033516400053322)=((λ(u0 u1 u4 u6 u7 ua:Bool)(u2 u3 u5 u9 ub uc ud:Prop)=>(λ(ue uf ug:Prop)=>ue/\ue/\u0=false/\not (ab n 3)=false/\(u1=true->u2)/\(u1=false->u3/\u3/\u3/\(u4=true->u2)/\(u4=false->(u5->u5/\u5/\(u6=true->u2)/\(u6=false->uf/\(u7=false->u9/\ug)))/\(uc->uc/\uc/\uf/\(u7=false->(u9->ug)/\(ud->ud/\ud/\ub)))))) (not u0=true) (u7=true->u2) (u9/\u9/\(ua=true->u2)/\(ua=false->ub))) (not (ab 1 n)) (not (ab a 3)) (not (ab b 3)) (not (aa b 0)) (not (ab c 3)) (not (aa c 0)) (Q (AV.int .i64 9)) (ab n 0=false) (ab n 1=true) (ab n 2=true) (Q (AV.int .i64 0)) (ab n 1=false) (ab n 2=false)):=by kernel_rfl
theorem Uf(ng lg:Bool)(s:List UInt8)(e g:Int)(mo da:List UInt8)(a b c:Int){Q:AV->Prop}:aO Q (pT IT aW 176 [.agg [.bool ng,.bool lg,.str s,.int .i64 e,.int .i64 g,.str mo,.str da,.int .u8 a,.int .u8 b,.int .u8 c]]) (b_ 1001000405100100040054005)=((λ(u0 u1:Bool)(u2:Prop)=>(u0=true->(u1=true->Q (AV.int .i64 3))/\(u1=false->u2))/\(u0=false->(u1=true->u2)/\(u1=false->Q (AV.int .i64 1)))) (not (af mo [])) (not (af da [])) (Q (AV.int .i64 2))):=by kernel_rfl
theorem BJ:aH tab 174=some (bC 174,aE 174):=by kernel_rfl
theorem In:aH tab 175=some (bC 175,aE 175):=by kernel_rfl
theorem Id:aH tab 176=some (bC 176,aE 176):=by kernel_rfl
theorem y6:(bE (aE 174)).map (·.1)=[0]:=by kernel_rfl
theorem Yu{C:bg}{kb tn:Nat}{rel:List Nat}{vs vs' vs'':List AV}{o o' o'':aC}(h1:VW cfg C kb tn rel vs o vs' o')(h2:VW cfg C kb tn rel vs' o' vs'' o''):VW cfg C kb tn rel vs o vs'' o'':=λJ=>(h1 J).trans λs ⟨J',e⟩=>by rw[e];exact h2 J'
theorem XM{tn:Nat}{rel:List Nat}{vs vs':List AV}{o:aC}(hle:o.le=[])(hvs:s_ (jB 14 [] 20) vs=some vs'):VW cfg (Cw cfg []) 0 tn rel vs o vs' b7:=
 VW.move d4.lv (C:=Cw cfg []) (kb:=0) (sel:=[]) Di (Nat.zero_le _) (λs hs=>by cases hs) List.nodup_nil (λp hp=>by rw[hle]at hp;cases hp) hle.symm rfl rfl (λi hi=>absurd hi (Nat.not_lt_zero i)) (λt ht=>absurd ht (Nat.not_lt_zero t)) hvs
theorem Da{c0 c1:UInt8}{n:Int}:agr [c0,c1] n=true↔(c0.toNat=88\/(c0.toNat:Int)=48+n/10)/\(c1.toNat=88\/(c1.toNat:Int)=48+n%10):=by
 unfold agr
 rw[Bool.and_eq_true,Bool.and_eq_true,decide_eq_true_eq,lF,lF]
 exact⟨λh=>h.2,λh=>⟨rfl,h⟩⟩
theorem J4:dG Tryz.prog (dX cfg IT) (Cw cfg []) (lb 174 0) 46 [0,1,5,4] KM:=by
 intro vs o t Q hv hq J
 unfold KM at hv
 split at hv
 · rename_i c0 c1 g n r
   cases hv
   obtain⟨h1,hq1⟩:=cS hq
   obtain⟨h2,hq2⟩:=cS hq1
   obtain⟨h3,hq3⟩:=cS hq2
   obtain⟨h4,hq4⟩:=cS hq3
   clear hq hq1 hq2 hq3
   rw[aS]at h1
   rw[FT]at h2
   rw[aK]at h3 h4
   subst h1 h2
   have hq:Tr.wp Q (bif dD [c0,c1] g.toNat then .all λJ=>.ret (.ret,[.str [c0,c1],.int .i64 g,.any (J 0),.bool true],b7)else .ret (.exit 0,[.str [c0,c1],.int .i64 g,.int .i64 (g+1),.bool false],b7)):=hq4
   refine j_ jT rfl rfl ak (ι:={i:Nat // i<=g.toNat/\∀k,k<i->agr [c0,c1] ((k:Int)+1)=false}) (λx=>[.str [c0,c1],.int .i64 g,.int .i64 ((x.1:Int)+1),.bool false]) (λ_=>b7) (λx=>g.toNat-x.1) 0 (λ_=>Nat.le_refl _) (λx J=>?_) (Nat.le_refl _) (λJ=>Wk.refl ⟨⟨0,Nat.zero_le _,λk hk=>absurd hk (Nat.not_lt_zero k)⟩,J,rfl⟩) J
   obtain⟨i,hi,hp⟩:=x
   dsimp only
   refine ap λQ' hQ=>al ((Vm c0 c1 g ((i:Int)+1) J).mpr ?_)
   dsimp only
   have t1:((i:Int)+1).tdiv 10=((i:Int)+1)/10:=Int.tdiv_eq_ediv_of_nonneg (by omega)
   have t2:((i:Int)+1).tmod 10=((i:Int)+1)%10:=Int.tmod_eq_emod_of_nonneg (by omega)
   have yes:i<g.toNat->agr [c0,c1] ((i:Int)+1)=true->Q' (.ret,[.str [c0,c1],.int .i64 g,.int .i64 ((i:Int)+1),.bool true],⟨1,[.cells [.int .u8 (48+((i:Int)+1)/10),.int .u8 (48+((i:Int)+1)%10)] true none],[]⟩):=λh ha=>by
    rw[BF h ha,cond_true]at hq
    exact hQ (.ret,_,_) ⟨_,_,Yu (XM rfl rfl) (VW.any (.same (.same (.int (.same .nil)))) rfl),hq (jv [_])⟩
   have no:i<g.toNat->¬agr [c0,c1] ((i:Int)+1)=true->Q' (.normal,[.str [c0,c1],.int .i64 g,.int .i64 ((i:Int)+1+1),.bool false],⟨1,[.cells [.int .u8 (48+((i:Int)+1)/10),.int .u8 (48+((i:Int)+1)%10)] true none],[]⟩):=λh ha=>
    hQ (.normal,_,_) ⟨⟨i+1,by omega,λk hk=>by
     rw[Bool.not_eq_true]at ha
     by_cases e:k=i
     · subst e;exact ha
     · exact hp k (by omega)⟩,by dsimp only;omega,XM rfl rfl⟩
   have fin:¬i<g.toNat->Q' (.exit 0,[.str [c0,c1],.int .i64 g,.int .i64 ((i:Int)+1),.bool false],b7):=λh=>by
    obtain rfl:i=g.toNat:=by omega
    rw[vY.2 hp,cond_false]at hq
    exact hQ (.exit 0,_,_) ⟨_,_,VW.of_eq (by rw[Int.toNat_of_nonneg h3]) rfl,hq⟩
   rw[Da]at yes no
   clear hQ hq hq4 hp
   rw[t1,t2]
   simp only[aD,reduceCtorEq,bA,bB,ne_eq]
   (repeat' first|exact trivial|refine⟨?_,?_⟩|intro)<;>first|omega|exact fin (by omega)|exact yes (by omega) (by omega)|exact no (by omega) (by omega)
 · cases hv
theorem Lw:az Tryz.prog cfg XQ:=by
 refine aA (aA (aA jT λargs t v he hv=>?_) λargs t v he hv=>?_) λargs t v he hv=>?_
 · unfold ON at he
   split at he
   · rename_i s g
     cases he
     obtain⟨⟨h1,h2,-⟩,hv⟩:=aI hv
     rw[aK]at h1 h2
     cases hv
     by_cases hs:s.length=2
     · match s,hs with
       | [c0,c1],_=>
         refine cp jT (L:=Hy) BJ (by simp) (eC y6 λi hi e he st Q hw=>?_) (ap λQ' hQ=>al ((PE c0 c1 g).mpr ?_)) (by simp[aq])
         · have hi:i=0:=by simp at hi;omega
           subst hi
           cases he
           exact cR (cV.good jT) (by decide) rfl J4 hw
         · have fin:∀b:Bool,b=dD [c0,c1] g.toNat->Q' (.bool b):=λb h=>hQ _ (by rw[h])
           clear hQ
           generalize dD [c0,c1] g.toNat=sa at *
           simp only[aD,reduceCtorEq,bA,bB,ne_eq]
           (repeat' first|exact trivial|refine⟨?_,?_⟩|intro)<;>first|omega|(apply fin;symm;assumption)
     · refine cp jT (L:=Hy) BJ (by simp) (eC y6 λi hi e he st Q hw=>?_) (ap λQ' hQ=>al ((O0 s g).mpr ?_)) (by simp[aq])
       · have hi:i=0:=by simp at hi;omega
         subst hi
         cases he
         exact cR (cV.good jT) (by decide) rfl J4 hw
       · have sn:dD s g.toNat=false:=vY.2 λk hk=>by unfold agr;rw[decide_eq_false hs];rfl
         simp only[aD,reduceCtorEq,bA,bB,ne_eq]
         exact⟨by omega,hQ _ (by rw[sn])⟩
   · cases he
 · unfold Tl at he
   split at he
   · rename_i ng lg s e g mo da a b c
     cases he
     cases hv
     refine cp jT (L:=aW) Id (by simp) ak (ap λQ' hQ=>al ((Uf ng lg s e g mo da a b c).mpr ?_)) (by simp[aq])
     dsimp only
     unfold cO at hQ
     generalize af mo []=p at *
     generalize af da []=q at *
     cases p<;>cases q<;>(repeat' first|exact trivial|refine⟨?_,?_⟩|intro)<;>first|exact hQ _ rfl|(exfalso;simp_all;done)
   · cases he
 · unfold OM at he
   split at he
   · rename_i a b c n
     cases he
     obtain⟨⟨h1,h2,h3,h4,h5,-⟩,hv⟩:=aI hv
     rw[aQ]at h1 h2 h3
     simp only[bA,bB]at h1 h2 h3
     rw[aK]at h4 h5
     cases hv
     refine cp jT (L:=aW) In (by simp) ak (ap λQ' hQ=>al ((Uq a b c n).mpr ?_)) (by simp[aq])
     dsimp only
     have fin:∀v:Int,v=errMk a b c n->Q' (.int .i64 v):=λv h=>hQ _ (by rw[h])
     clear hQ
     unfold errMk at fin
     simp only[aD,reduceCtorEq,bA,bB,ne_eq]
     (repeat' first|exact trivial|refine⟨?_,?_⟩|intro)<;>first|omega|(apply fin;(repeat' split)<;>omega)
   · cases he
end Go.Ev
