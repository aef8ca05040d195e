import Derived.Test.YtafekjglclnegaaGreatDoorP33
set_option linter.all false
set_option maxRecDepth 100000
set_option maxHeartbeats 4000000
namespace Go.Ev
open Go Go.Proofs
def TQ:List (List UInt8):=[[UInt8.ofNat 48,UInt8.ofNat 88],[UInt8.ofNat 49,UInt8.ofNat 88],[UInt8.ofNat 88,UInt8.ofNat 50],[UInt8.ofNat 88,UInt8.ofNat 88],[UInt8.ofNat 88,UInt8.ofNat 48],[UInt8.ofNat 88,UInt8.ofNat 57]]
def TL:List (List UInt8):=[[UInt8.ofNat 48,UInt8.ofNat 88],[UInt8.ofNat 49,UInt8.ofNat 88],[UInt8.ofNat 50,UInt8.ofNat 88],[UInt8.ofNat 51,UInt8.ofNat 88],[UInt8.ofNat 88,UInt8.ofNat 48],[UInt8.ofNat 88,UInt8.ofNat 49],[UInt8.ofNat 88,UInt8.ofNat 88],[UInt8.ofNat 88,UInt8.ofNat 56]]
def vm(k:Int):List UInt8:=bif aa k 0 then[]else bif ab k 12 then mA k else bif ab k 33 then mA (k+8)else TQ.getD (k-34).toNat []
def Tt(mo:List UInt8):Bool:=af mo [UInt8.ofNat 48,UInt8.ofNat 52] || (af mo [UInt8.ofNat 48,UInt8.ofNat 54] || (af mo [UInt8.ofNat 48,UInt8.ofNat 57] || (af mo [UInt8.ofNat 49,UInt8.ofNat 49] || af mo [UInt8.ofNat 88,UInt8.ofNat 57])))
def XZ(mo:List UInt8):Int:=bif af mo [UInt8.ofNat 48,UInt8.ofNat 50]then 28 else bif Tt mo then 30 else 31
def Ba(k:Int)(mo:List UInt8):List UInt8:=bif aa k 0 then[]else bif ab k 31 then mA (ja k (XZ mo))else TL.getD (bif af mo [UInt8.ofNat 48,UInt8.ofNat 50]&&aa k 35 then 2 else(k-32).toNat) []
def Vz:dM:=λargs=>match args with
 | [.agg [.int .u8 f,.bool ng,.int .u16 n,.int .u8 z0,.int .u8 z1,.int .u8 m,.int .u8 d,.int .u8 x,.int .u8 y,.int .u8 z]]=>some (aN [ae .u8 m] (.ret (.str (vm (m%40)))))
 | _=>none
def UR:dM:=λargs=>match args with
 | [.agg [.int .u8 f,.bool ng,.int .u16 n,.int .u8 z0,.int .u8 z1,.int .u8 m,.int .u8 d,.int .u8 x,.int .u8 y,.int .u8 z],.str mo]=>some (aN [ae .u8 d] (.ret (.str (Ba (d%40) mo))))
 | _=>none
def Mc:bq:=bw dF 133 NB
theorem Ys(f:Int)(ng:Bool)(n z0 z1 m d x y z:Int){Q:AV->Prop}:aO Q (pT Mc aW 85 [.agg [.int .u8 f,.bool ng,.int .u16 n,.int .u8 z0,.int .u8 z1,.int .u8 m,.int .u8 d,.int .u8 x,.int .u8 y,.int .u8 z]]) (b_ 11471220241220414200)=((λ(u0:Int)(u1 u2:UInt8)=>(λ(u3 u4:Int)=>(λ(u5:AV)=>ae .i64 u0=true/\(aa u0 0=true->Q (AV.str []))/\(aa u0 0=false->(ab u0 12=true->ab 0 u0=true/\ab u0 99=true/\Q (AV.str (mA u0)))/\(ab u0 12=false->(ab u0 33=true->ae .i64 u3=true/\ab 0 u3=true/\ab u3 99=true/\Q (AV.str (mA u3)))/\(ab u0 33=false->ae .i64 u4=true/\ab 0 u4=true/\bm (Int.toNat u4) 6=true/\(xR u5=true->Q (AV.str (yU u5)))/\(xR u5=false->False))))) (List.getD [AV.str [u1,u2],AV.str [UInt8.ofNat 49,u2],AV.str [u2,UInt8.ofNat 50],AV.str [u2,u2],AV.str [u2,u1],AV.str [u2,UInt8.ofNat 57]] (HAdd.hAdd 0 (HMul.hMul (Int.toNat u4) 1)) (AV.tuple []))) (Int.add u0 8) (Int.sub u0 34)) (Int.tmod m 40) (UInt8.ofNat 48) (UInt8.ofNat 88)):=by kernel_rfl
theorem Yt(f:Int)(ng:Bool)(n z0 z1 m d x y z:Int)(mo:List UInt8){Q:AV->Prop}:aO Q (pT Mc aW 87 [.agg [.int .u8 f,.bool ng,.int .u16 n,.int .u8 z0,.int .u8 z1,.int .u8 m,.int .u8 d,.int .u8 x,.int .u8 y,.int .u8 z],.str mo]) (b_ 114703311471542241114401114404111440241114402411144024111440241114404414200)=((λ(u0:Int)(u1 u2 u3 u4 u5:UInt8)=>(λ(ug:AV)(u6 u9 ub uc ud ue:Bool)(u7 ua uf uh:Int)=>(λ(ul:AV)(ui uj uk:Prop)=>(λ(um:Prop)=>ae .i64 u0=true/\(aa u0 0=true->Q (AV.str []))/\(aa u0 0=false->(ab u0 31=true->(ui->(ab 0 u7=true->(ab u7 99=true->Q (AV.str (mA u7)))/\(ab u7 99=false->False))/\(ab 0 u7=false->False))/\(uj->(u9=true->u9=true/\uk)/\(u9=false->(ub=true->ub=true/\uk)/\(ub=false->(uc=true->uc=true/\uk)/\(uc=false->(ud=true->ud=true/\uk)/\(ud=false->(ue=true->uk)/\(ue=false->(ab 0 uf=true->(ab uf 99=true->Q (AV.str (mA uf)))/\(ab uf 99=false->False))/\(ab 0 uf=false->False))))))))/\(ab u0 31=false->(ui->ui/\ui/\(aa u0 35=true->Q ug)/\(aa u0 35=false->um))/\(uj->uj/\uj/\um)))) (ae .i64 uh=true/\ab 0 uh=true/\bm (Int.toNat uh) 8=true/\(xR ul=true->Q (AV.str (yU ul)))/\(xR ul=false->False))) (List.getD [AV.str [u1,u5],AV.str [u4,u5],ug,AV.str [UInt8.ofNat 51,u5],AV.str [u5,u1],AV.str [u5,u4],AV.str [u5,u5],AV.str [u5,UInt8.ofNat 56]] (HAdd.hAdd 0 (HMul.hMul (Int.toNat uh) 1)) (AV.tuple [])) (u6=true) (u6=false) ((ab 0 ua=true->(ab ua 99=true->Q (AV.str (mA ua)))/\(ab ua 99=false->False))/\(ab 0 ua=false->False))) (AV.str [u2,u5]) (af mo [u1,u2]) (af mo [u1,UInt8.ofNat 52]) (af mo [u1,UInt8.ofNat 54]) (af mo [u1,u3]) (af mo [u4,u4]) (af mo [u5,u3]) (ja u0 28) (ja u0 30) (ja u0 31) (Int.sub u0 32)) (Int.tmod d 40) (UInt8.ofNat 48) (UInt8.ofNat 50) (UInt8.ofNat 57) (UInt8.ofNat 49) (UInt8.ofNat 88)):=by kernel_rfl
theorem LZ:aH tab 85=some (bC 85,aE 85):=by kernel_rfl
theorem Lx:aH tab 87=some (bC 87,aE 87):=by kernel_rfl
theorem Bt:az Tryz.prog cfg Mc:=bK aT (Dd 133 _ rfl)
theorem NH{k:Int}(h:34<=k/\k<=39):List.getD [AV.str [UInt8.ofNat 48,UInt8.ofNat 88],AV.str [UInt8.ofNat 49,UInt8.ofNat 88],AV.str [UInt8.ofNat 88,UInt8.ofNat 50],AV.str [UInt8.ofNat 88,UInt8.ofNat 88],AV.str [UInt8.ofNat 88,UInt8.ofNat 48],AV.str [UInt8.ofNat 88,UInt8.ofNat 57]] (0+(Int.sub k 34).toNat*1) (AV.tuple [])=AV.str (TQ.getD (k-34).toNat []):=by
 have:k=34\/k=35\/k=36\/k=37\/k=38\/k=39:=by omega
 rcases this with rfl|rfl|rfl|rfl|rfl|rfl<;>rfl
theorem KJ{k:Int}(h:32<=k/\k<=39):List.getD [AV.str [UInt8.ofNat 48,UInt8.ofNat 88],AV.str [UInt8.ofNat 49,UInt8.ofNat 88],AV.str [UInt8.ofNat 50,UInt8.ofNat 88],AV.str [UInt8.ofNat 51,UInt8.ofNat 88],AV.str [UInt8.ofNat 88,UInt8.ofNat 48],AV.str [UInt8.ofNat 88,UInt8.ofNat 49],AV.str [UInt8.ofNat 88,UInt8.ofNat 88],AV.str [UInt8.ofNat 88,UInt8.ofNat 56]] (0+(Int.sub k 32).toNat*1) (AV.tuple [])=AV.str (TL.getD (k-32).toNat []):=by
 have:k=32\/k=33\/k=34\/k=35\/k=36\/k=37\/k=38\/k=39:=by omega
 rcases this with rfl|rfl|rfl|rfl|rfl|rfl|rfl|rfl<;>rfl
theorem tM{s:List UInt8}:yU (.str s)=s:=rfl
theorem yk{s:List UInt8}:xR (.str s)=true:=rfl
theorem Ru{S:bq}(hS:az Tryz.prog cfg S):az Tryz.prog cfg (bw S 85 Vz):=by
 refine aA hS λargs t v he hv=>?_
 unfold Vz at he
 split at he
 · rename_i f ng n z0 z1 m d x y z
   cases he
   obtain⟨h1,hv⟩:=bU hv
   cases hv
   rw[aQ]at h1
   simp only[bA,bB]at h1
   have e:Int.tmod m 40=m%40:=tm h1.1
   have hk:0<=m%40/\m%40<=39:=by omega
   refine cp Bt (L:=aW) LZ (by simp) ak (ap λQ' hQ=>al ((Ys f ng n z0 z1 m d x y z).mpr ?_)) (by simp[aq,bG])
   dsimp only
   have hQ:=hQ _ rfl
   try dsimp only
   rw[e]
   unfold vm at hQ
   generalize m%40=k at *
   rw[show Int.add k 8=k+8 from rfl]
   by_cases h0:k=0
   · rw[aS.mpr h0]at hQ ⊢
     simp only[reduceCtorEq,false_implies,true_implies,and_true,aQ,bA,bB]
     exact⟨by omega,hQ⟩
   · rw[aF.mpr h0]at hQ ⊢
     by_cases h12:k<=12
     · rw[aK.mpr h12]at hQ ⊢
       simp only[reduceCtorEq,false_implies,true_implies,and_true,true_and,aQ,bA,bB,aK]
       exact⟨by omega,by omega,by omega,hQ⟩
     · rw[dc.mpr (show 12<k by omega)]at hQ ⊢
       by_cases h33:k<=33
       · rw[aK.mpr h33]at hQ ⊢
         simp only[reduceCtorEq,false_implies,true_implies,and_true,true_and,aQ,bA,bB,aK]
         (repeat' first|refine⟨?_,?_⟩|intro)<;>first|omega|exact hQ
       · rw[dc.mpr (show 33<k by omega)]at hQ ⊢
         rw[NH (by omega),tM,yk]
         simp only[aD,reduceCtorEq,bA,bB,ne_eq,false_implies,true_implies,and_true,true_and]
         (repeat' first|refine⟨?_,?_⟩|intro)<;>first|omega|exact hQ
 · cases he
theorem SH{S:bq}(hS:az Tryz.prog cfg S):az Tryz.prog cfg (bw S 87 UR):=by
 refine aA hS λargs t v he hv=>?_
 unfold UR at he
 split at he
 · rename_i f ng n z0 z1 m d x y z mo
   cases he
   obtain⟨h1,hv⟩:=bU hv
   cases hv
   rw[aQ]at h1
   simp only[bA,bB]at h1
   have e:Int.tmod d 40=d%40:=tm h1.1
   have hk:0<=d%40/\d%40<=39:=by omega
   refine cp Bt (L:=aW) Lx (by simp) ak (ap λQ' hQ=>al ((Yt f ng n z0 z1 m d x y z mo).mpr ?_)) (by simp[aq,bG])
   dsimp only
   have hQ:=hQ _ rfl
   try dsimp only
   rw[e]
   unfold Ba XZ Tt at hQ
   generalize d%40=k at *
   by_cases h0:k=0
   · rw[aS.mpr h0]at hQ ⊢
     simp only[reduceCtorEq,false_implies,true_implies,and_true,aQ,bA,bB]
     exact⟨by omega,hQ⟩
   · rw[aF.mpr h0]at hQ ⊢
     by_cases h31:k<=31
     · rw[aK.mpr h31]at hQ ⊢
       have m1:ja k 28<=28/\0<=ja k 28:=by rw[rF];omega
       have m2:ja k 30<=30/\0<=ja k 30:=by rw[rF];omega
       have m3:ja k 31<=31/\0<=ja k 31:=by rw[rF];omega
       generalize af mo [UInt8.ofNat 48,UInt8.ofNat 50]=b1 at *
       generalize af mo [UInt8.ofNat 48,UInt8.ofNat 52]=b2 at *
       generalize af mo [UInt8.ofNat 48,UInt8.ofNat 54]=b3 at *
       generalize af mo [UInt8.ofNat 48,UInt8.ofNat 57]=b4 at *
       generalize af mo [UInt8.ofNat 49,UInt8.ofNat 49]=b5 at *
       generalize af mo [UInt8.ofNat 88,UInt8.ofNat 57]=b6 at *
       rw[aK.mpr m1.2,aK.mpr m2.2,aK.mpr m3.2,aK.mpr (show ja k 28<=99 by omega),aK.mpr (show ja k 30<=99 by omega),aK.mpr (show ja k 31<=99 by omega)]
       have hr:ae .i64 k=true:=by rw[aQ];simp only[bA,bB];omega
       cases b1<;>cases b2<;>cases b3<;>cases b4<;>cases b5<;>cases b6<;>simp only[reduceCtorEq,false_implies,true_implies,and_true,true_and]<;>exact⟨hr,hQ⟩
     · rw[dc.mpr (show 31<k by omega)]at hQ ⊢
       rw[KJ (by omega),tM,yk]
       generalize af mo [UInt8.ofNat 48,UInt8.ofNat 50]=b1 at *
       have i1:ae .i64 k=true:=by rw[aQ];simp only[bA,bB];omega
       have i2:ae .i64 (Int.sub k 32)=true:=by rw[aQ];simp only[bA,bB];show _<=k-32/\k-32<=_;omega
       have i3:ab 0 (Int.sub k 32)=true:=by rw[aK];show 0<=k-32;omega
       have i4:bm (Int.sub k 32).toNat 8=true:=by rw[ba];show(k-32).toNat<8;omega
       rw[i1,i2,i3,i4]
       cases h35:aa k 35<;>cases b1<;>rw[h35]at hQ<;>simp only[reduceCtorEq,false_implies,true_implies,and_true,true_and]<;>exact hQ
 · cases he
def iI(f n z0 z1 m:Int):List UInt8:=bif aa (iF f n z0 z1) 0 then vm (m%40)else[]
def kC(f n z0 z1 m d:Int):List UInt8:=bif !(af (iI f n z0 z1 m) [])&&aa (cg (iI f n z0 z1 m)) 0 then Ba (d%40) (iI f n z0 z1 m)else[]
def zj(c:Int)(i x:Int):Int:=bif ab c i then 0 else x%4
abbrev vD(f:Int)(ng:Bool)(n z0 z1 m d x y z:Int):AV:=.agg [.int .u8 f,.bool ng,.int .u16 n,.int .u8 z0,.int .u8 z1,.int .u8 m,.int .u8 d,.int .u8 x,.int .u8 y,.int .u8 z]
def VC:dM:=λargs=>match args with
 | [.agg [.int .u8 f,.bool ng,.int .u16 n,.int .u8 z0,.int .u8 z1,.int .u8 m,.int .u8 d,.int .u8 x,.int .u8 y,.int .u8 z]]=>some (aN [ae .u8 f,ae .u16 n,ae .u8 z0,ae .u8 z1,ae .u8 m,ae .u8 d,ae .u8 x,ae .u8 y,ae .u8 z] (.ret (.agg [.bool (p9 f ng n z0 z1),.bool (pD f),.str (fN f n z0 z1),.int .i64 (jx f z1),.int .i64 (iF f n z0 z1),.str (iI f n z0 z1 m),.str (kC f n z0 z1 m d),.int .u8 (zj (cO (iI f n z0 z1 m) (kC f n z0 z1 m d)) 0 x),.int .u8 (zj (cO (iI f n z0 z1 m) (kC f n z0 z1 m d)) 1 y),.int .u8 (zj (cO (iI f n z0 z1 m) (kC f n z0 z1 m d)) 2 z)])))
 | _=>none
def X4:bq:=bw (bw (bw (bw (bw dF 84 Wg) 85 Vz) 86 Um) 87 UR) 88 WZ
theorem YB(f:Int)(ng:Bool)(n z0 z1 m d x y z:Int){Q:AV->Prop}:aO Q (pT X4 aW 36 [vD f ng n z0 z1 m d x y z]) (b_ 1566666100610061006306640664066200068100610061006306640664066200610061006100630664066406620006200064220206400200640027005)=((λ(u2 u3 u4 u5 u6 u7 u8 u9 ua ub:AV)(u0:Bool)(u1:List UInt8)=>(λ(uf:AV)(uc ud:Bool)(ug:Int)(ue:List UInt8)=>(λ(uj:AV)(uk ul:Bool)(ui:Int)(uh um:Prop)=>(λ(un uo:Bool)(up:Prop)=>ae .u8 f=true/\ae .u16 n=true/\ae .u8 z0=true/\ae .u8 z1=true/\(u0=true->ae .u8 m=true/\(uh->uh/\uh/\uh/\(ud=true->ae .u8 d=true/\not (ab ui 0)=true/\(un=true->(uo=true->not (ab ui 3)=false/\Q (AV.agg [u2,u3,u4,u5,u6,uf,uj,u7,u8,u9]))/\(uo=false->Q (AV.agg [u2,u3,u4,u5,u6,uf,uj,u7,u8,ua])))/\(un=false->Q (AV.agg [u2,u3,u4,u5,u6,uf,uj,u7,ua,ua])))/\(ud=false->up))/\(um->um/\um/\um/\up))/\(u0=false->Q (AV.agg [u2,u3,u4,u5,u6,ub,ub,u7,ua,ua]))) (not (ab ui 1)) (not (ab ui 2)) (not (ab ug 0)=true/\(uk=true->(ul=true->not (ab ug 3)=false/\Q (AV.agg [u2,u3,u4,u5,u6,uf,ub,u7,u8,u9]))/\(ul=false->Q (AV.agg [u2,u3,u4,u5,u6,uf,ub,u7,u8,ua])))/\(uk=false->Q (AV.agg [u2,u3,u4,u5,u6,uf,ub,u7,ua,ua])))) (AV.str ue) (not (ab ug 1)) (not (ab ug 2)) (cO u1 ue) (uc=true) (uc=false)) (AV.str u1) (not (af u1 [])) (aa (cg u1) 0) (cO u1 []) (Ba (HMod.hMod d 40) u1)) (AV.bool (p9 f ng n z0 z1)) (AV.bool (pD f)) (AV.str (fN f n z0 z1)) (AV.int .i64 (jx f z1)) (AV.int .i64 (iF f n z0 z1)) (AV.int .u8 (Int.tmod x 4)) (AV.int .u8 (Int.tmod y 4)) (AV.int .u8 (Int.tmod z 4)) (AV.int .u8 0) (AV.str []) (aa (iF f n z0 z1) 0) (vm (HMod.hMod m 40))):=by kernel_rfl
theorem Mg:aH tab 36=some (bC 36,aE 36):=by kernel_rfl
theorem Ma:az Tryz.prog cfg X4:=bK (SH (bK (Ru (Sd aT)) (AW 86 _ rfl))) (AW 88 _ rfl)
theorem PW{S:bq}(hS:az Tryz.prog cfg S):az Tryz.prog cfg (bw S 36 VC):=by
 refine aA hS λargs t v he hv=>?_
 unfold VC at he
 split at he
 · rename_i f ng n z0 z1 m d x y z
   cases he
   obtain⟨⟨h1,h2,h3,h4,h5,h6,h7,h8,h9,-⟩,hv⟩:=aI hv
   cases hv
   refine cp Ma (L:=aW) Mg (by simp) ak (ap λQ' hQ=>al ((YB f ng n z0 z1 m d x y z).mpr ?_)) (by simp[aq,bG])
   dsimp only
   have hQ:=hQ _ rfl
   rw[aQ]at h7 h8 h9
   simp only[bA,bB]at h7 h8 h9
   try dsimp only
   rw[h1,h2,h3,h4,h5,h6,tm (b:=4) h7.1,tm (b:=4) h8.1,tm (b:=4) h9.1]
   unfold kC iI zj at hQ
   have n0:aa (cg []) 0=true:=rfl
   have n1:af ([]:List UInt8) []=true:=rfl
   generalize p9 f ng n z0 z1=gn at *
   generalize iF f n z0 z1=gg at *
   generalize vm (m%40)=M at *
   have c1:=lR M (Ba (d%40) M)
   have c2:=lR M []
   have c3:cO [] []=1:=rfl
   have fin:∀C:Int,1<=C/\C<=3->(ab C 0=false)/\(ab C 3=true):=λC h=>⟨dc.mpr (by omega),aK.mpr h.2⟩
   have lt:∀C:Int,1<=C/\C<=3->ab C 2=false->ab C 1=false:=λC h k=>by rw[dc]at k ⊢;omega
   cases hg:aa gg 0 with
   | false=>
     rw[hg]at hQ
     simp only[cond_false,n1,c3,Bool.not_true,Bool.false_and]at hQ
     simp only[reduceCtorEq,false_implies,true_implies,and_true,true_and]
     exact hQ
   | true=>
     rw[hg]at hQ
     simp only[cond_true]at hQ
     cases hM:af M []with
     | true=>
       rw[hM]at hQ
       simp only[Bool.not_true,Bool.false_and,cond_false]at hQ
       rw[(fin _ c2).1]at hQ ⊢
       rw[(fin _ c2).2]
       have:=lt _ c2
       cases k1:ab (cO M []) 1<;>cases k2:ab (cO M []) 2<;>rw[k1,k2]at hQ<;>simp only[k1,k2,cond_true,cond_false,reduceCtorEq,false_implies,true_implies,and_true,true_and,Bool.not_true,Bool.not_false]at hQ this ⊢<;>exact hQ
     | false=>
       rw[hM]at hQ
       simp only[Bool.not_false,Bool.true_and]at hQ
       cases hs:aa (cg M) 0 with
       | false=>
         rw[hs,cond_false]at hQ
         rw[(fin _ c2).1]at hQ ⊢
         rw[(fin _ c2).2]
         have:=lt _ c2
         cases k1:ab (cO M []) 1<;>cases k2:ab (cO M []) 2<;>rw[k1,k2]at hQ<;>simp only[k1,k2,cond_true,cond_false,reduceCtorEq,false_implies,true_implies,and_true,true_and,Bool.not_true,Bool.not_false]at hQ this ⊢<;>exact hQ
       | true=>
         rw[hs,cond_true]at hQ
         generalize Ba (d%40) M=D at *
         rw[(fin _ c1).1]at hQ ⊢
         rw[(fin _ c1).2]
         have:=lt _ c1
         cases k1:ab (cO M D) 1<;>cases k2:ab (cO M D) 2<;>rw[k1,k2]at hQ<;>simp only[k1,k2,cond_true,cond_false,reduceCtorEq,false_implies,true_implies,and_true,true_and,Bool.not_true,Bool.not_false]at hQ this ⊢<;>exact hQ
 · cases he
def Ai:Int->List (Int×Int)->List Rn
 | _,[]=>[]
 | day,p::r=>⟨0,day,0,day+p.2⟩::Ai (day+p.2+2+p.1) r
def yQ:List Rn->List Rn
 | []=>[]
 | r::rs=>⟨-1,0,r.c,r.d⟩::rs
def qa:List Rn->List Rn
 | []=>[]
 | [r]=>[⟨r.a,r.b,1,0⟩]
 | r::s::rs=>r::qa (s::rs)
def sR(fr ma:Int):List (Int×Int)->List Rn
 | []=>[⟨0,fr,0,fr+ma⟩]
 | p::r=>Ai fr ((p::r).take 4)
def AT(b1 b2:Bool)(R:List Rn):List Rn:=bif b1 then yQ R else bif b2 then qa R else R
def bY(fr ma:Int)(b1 b2:Bool)(gs:List (Int×Int)):List Rn:=AT b1 b2 (sR fr ma gs)
def fu(R:List Rn):Nat:=R.length
def x6:List (Int×Int)->dv
 | []=>.known 1
 | _=>.rest 0
def yN:List (Int×Int)->Option Nat
 | []=>none
 | _=>some 4
def eZ:List (Int×Int)->List AV
 | []=>[]
 | p::r=>.int .u8 p.1::.int .u8 p.2::eZ r
def gm:List AV->List (Int×Int)
 | .int .u8 a::.int .u8 b::r=>(a,b)::gm r
 | _=>[]
def d_:List AV->Bool
 | []=>true
 | .int .u8 a::.int .u8 b::r=>ae .u8 a&&(ae .u8 b&&d_ r)
 | _=>false
def tA(b n:Nat)(K:dv):AV:=.agg [.int .u8 1,.slice b 0 n K,.bool false,.bool false,.str [],.int .i64 0,.int .i64 0,.str [],.str [],.int .u8 0,.int .u8 0,.int .u8 0,.int .u8 0,.int .i8 0,.int .i64 0,.int .i8 0,.int .i64 0]
def WW:lq:=λargs ws=>match args,ws with
 | [.agg [.int .u8 k,.int .u8 p,.int .u8 op,.int .u8 f,.bool ng,.int .u16 n,.int .u8 z0,.int .u8 z1,.int .u8 m,.int .u8 d,.int .u8 x,.int .u8 y,.int .u8 z,.int .i16 fr,.int .u8 ma,.nilslice]],[]=>some (aN [ae .u8 op,ae .i16 fr,ae .u8 ma] (.ret (tA 14 (fu (bY fr ma (aa (op%4) 1) (aa (op%4) 2) [])) (.known 1),[.cells (aJ (bY fr ma (aa (op%4) 1) (aa (op%4) 2) [])) true none])))
 | [.agg [.int .u8 k,.int .u8 p,.int .u8 op,.int .u8 f,.bool ng,.int .u16 n,.int .u8 z0,.int .u8 z1,.int .u8 m,.int .u8 d,.int .u8 x,.int .u8 y,.int .u8 z,.int .i16 fr,.int .u8 ma,.slice 14 0 l K]],[.cells w false none]=>some (aN [ae .u8 op,ae .i16 fr,ae .u8 ma,d_ w,Nat.beq (gm w).length l] (.ret (tA 15 (fu (bY fr ma (aa (op%4) 1) (aa (op%4) 2) (gm w))) (x6 (gm w)),[.cells (aJ (bY fr ma (aa (op%4) 1) (aa (op%4) 2) (gm w))) true (yN (gm w))])))
 | _,_=>none
theorem WI(k p op f:Int)(ng:Bool)(n z0 z1 m d x y z fr ma:Int){Q:EQ->Prop}:aO Q (bT dF aW [] 74 [.agg [.int .u8 k,.int .u8 p,.int .u8 op,.int .u8 f,.bool ng,.int .u16 n,.int .u8 z0,.int .u8 z1,.int .u8 m,.int .u8 d,.int .u8 x,.int .u8 y,.int .u8 z,.int .i16 fr,.int .u8 ma,.nilslice]]) (b_ 1661005664001663005452255200)=((λ(u9:aw)(u2 u3 u4 u5 u6 u7 ua:AV)(u0 u1:Bool)=>(λ(ub:List AV)=>(λ(ud:aw)(uc:AV)=>ae .i64 fr=true/\ae .i64 ma=true/\ae .i64 (Int.add fr ma)=true/\(u0=true->u1=false/\Q (uc,{ n:=4,os:=[aw.cells [AV.int .i8 (Neg.neg 1),u4,u6,u7] true Option.none,ud,ud,u9],le:=[] }))/\(u0=false->(u1=true->Q (uc,{ n:=4,os:=[aw.cells [u6,ua,AV.int .i8 1,u4] true Option.none,ud,ud,u9],le:=[] }))/\(u1=false->Q (uc,{ n:=4,os:=[aw.cells [u6,ua,u6,u7] true Option.none,ud,ud,u9],le:=[] })))) (aw.cells ub true Option.none) (AV.agg ub)) [AV.int .u8 1,AV.slice 17 0 1 (dv.known 1),u2,u2,u3,u4,u4,u3,u3,u5,u5,u5,u5,u6,u4,u6,u4]) (aw.cells [AV.int .u8 k,AV.int .u8 p,AV.int .u8 op,AV.int .u8 f,AV.bool ng,AV.int .u16 n,AV.int .u8 z0,AV.int .u8 z1,AV.int .u8 m,AV.int .u8 d,AV.int .u8 x,AV.int .u8 y,AV.int .u8 z,AV.int .i16 fr,AV.int .u8 ma,AV.nilslice] true Option.none) (AV.bool false) (AV.str []) (AV.int .i64 0) (AV.int .u8 0) (AV.int .i8 0) (AV.int .i64 (Int.add fr ma)) (AV.int .i64 fr) (aa (Int.tmod op 4) 1) (aa (Int.tmod op 4) 2)):=by kernel_rfl
theorem O9(k p op f:Int)(ng:Bool)(n z0 z1 m d x y z fr ma:Int)(K:dv){Q:EQ->Prop}:aO Q (bT dF aW [.cells [] false none] 74 [.agg [.int .u8 k,.int .u8 p,.int .u8 op,.int .u8 f,.bool ng,.int .u16 n,.int .u8 z0,.int .u8 z1,.int .u8 m,.int .u8 d,.int .u8 x,.int .u8 y,.int .u8 z,.int .i16 fr,.int .u8 ma,.slice 14 0 0 K]]) (b_ 1661005664001663005452255200)=((λ(u9:aw)(u2 u3 u4 u5 u6 u7 ua:AV)(u0 u1:Bool)=>(λ(ub:List AV)=>(λ(ud:aw)(uc:AV)=>ae .i64 fr=true/\ae .i64 ma=true/\ae .i64 (Int.add fr ma)=true/\(u0=true->u1=false/\Q (uc,{ n:=4,os:=[aw.cells [AV.int .i8 (Neg.neg 1),u4,u6,u7] true Option.none,ud,ud,u9],le:=[] }))/\(u0=false->(u1=true->Q (uc,{ n:=4,os:=[aw.cells [u6,ua,AV.int .i8 1,u4] true Option.none,ud,ud,u9],le:=[] }))/\(u1=false->Q (uc,{ n:=4,os:=[aw.cells [u6,ua,u6,u7] true Option.none,ud,ud,u9],le:=[] })))) (aw.cells ub true Option.none) (AV.agg ub)) [AV.int .u8 1,AV.slice 18 0 1 (dv.known 1),u2,u2,u3,u4,u4,u3,u3,u5,u5,u5,u5,u6,u4,u6,u4]) (aw.cells [AV.int .u8 k,AV.int .u8 p,AV.int .u8 op,AV.int .u8 f,AV.bool ng,AV.int .u16 n,AV.int .u8 z0,AV.int .u8 z1,AV.int .u8 m,AV.int .u8 d,AV.int .u8 x,AV.int .u8 y,AV.int .u8 z,AV.int .i16 fr,AV.int .u8 ma,AV.slice 14 0 0 K] true Option.none) (AV.bool false) (AV.str []) (AV.int .i64 0) (AV.int .u8 0) (AV.int .i8 0) (AV.int .i64 (Int.add fr ma)) (AV.int .i64 fr) (aa (Int.tmod op 4) 1) (aa (Int.tmod op 4) 2)):=by kernel_rfl
theorem TH(k p op f:Int)(ng:Bool)(n z0 z1 m d x y z fr ma g0 l0:Int)(K:dv){Q:EQ->Prop}:aO Q (bT dF aW [.cells [.int .u8 g0,.int .u8 l0] false none] 74 [.agg [.int .u8 k,.int .u8 p,.int .u8 op,.int .u8 f,.bool ng,.int .u16 n,.int .u8 z0,.int .u8 z1,.int .u8 m,.int .u8 d,.int .u8 x,.int .u8 y,.int .u8 z,.int .i16 fr,.int .u8 ma,.slice 14 0 1 K]]) (b_ 16610056640016630054062200525522006200)=((λ(ua:aw)(u3 u4 u5 u6 u7 u9:AV)(u1 u2:Bool)(u0:Int)=>(λ(uc:AV)(ub:List AV)=>(λ(uf:aw)(ud:AV)(ue:List AV)=>(λ(ug:aw)=>ae .i64 fr=true/\ae .i64 l0=true/\ae .i64 u0=true/\ae .i64 (Int.add u0 2)=true/\ae .i64 g0=true/\ae .i64 (Int.add (Int.add u0 2) g0)=true/\(u1=true->u2=false/\Q (ud,{ n:=5,os:=[aw.cells [AV.int .i8 (Neg.neg 1),u5,u7,uc] true (Option.some 4),ug,uf,uf,ua],le:=[] }))/\(u1=false->(u2=true->Q (ud,{ n:=5,os:=[aw.cells [u7,u9,AV.int .i8 1,u5] true (Option.some 4),ug,uf,uf,ua],le:=[] }))/\(u2=false->Q (ud,{ n:=5,os:=[aw.cells ue true (Option.some 4),ug,uf,uf,ua],le:=[] })))) (aw.cells ue true Option.none)) (aw.cells ub true Option.none) (AV.agg ub) [u7,u9,u7,uc]) (AV.int .i64 u0) [AV.int .u8 1,AV.slice 19 0 1 (dv.rest 0),u3,u3,u4,u5,u5,u4,u4,u6,u6,u6,u6,u7,u5,u7,u5]) (aw.cells [AV.int .u8 k,AV.int .u8 p,AV.int .u8 op,AV.int .u8 f,AV.bool ng,AV.int .u16 n,AV.int .u8 z0,AV.int .u8 z1,AV.int .u8 m,AV.int .u8 d,AV.int .u8 x,AV.int .u8 y,AV.int .u8 z,AV.int .i16 fr,AV.int .u8 ma,AV.slice 14 0 1 K] true Option.none) (AV.bool false) (AV.str []) (AV.int .i64 0) (AV.int .u8 0) (AV.int .i8 0) (AV.int .i64 fr) (aa (Int.tmod op 4) 1) (aa (Int.tmod op 4) 2) (Int.add fr l0)):=by kernel_rfl
theorem Q9(k p op f:Int)(ng:Bool)(n z0 z1 m d x y z fr ma g0 l0 g1 l1:Int)(K:dv){Q:EQ->Prop}:aO Q (bT dF aW [.cells [.int .u8 g0,.int .u8 l0,.int .u8 g1,.int .u8 l1] false none] 74 [.agg [.int .u8 k,.int .u8 p,.int .u8 op,.int .u8 f,.bool ng,.int .u16 n,.int .u8 z0,.int .u8 z1,.int .u8 m,.int .u8 d,.int .u8 x,.int .u8 y,.int .u8 z,.int .i16 fr,.int .u8 ma,.slice 14 0 2 K]]) (b_ 1661005664001663005406220052062200062200525522006200)=((λ(ua:aw)(u3 u4 u5 u6 u7 u9:AV)(u1 u2:Bool)(u0:Int)=>(λ(ud:AV)(ub:Int)(uc:List AV)=>(λ(uh ui:aw)(uf ug:AV)(ue:Int)=>(λ(uj:AV)=>(λ(uk:aw)=>ae .i64 fr=true/\ae .i64 l0=true/\ae .i64 u0=true/\ae .i64 (Int.add u0 2)=true/\ae .i64 g0=true/\ae .i64 ub=true/\ae .i64 l1=true/\ae .i64 ue=true/\ae .i64 (Int.add ue 2)=true/\ae .i64 g1=true/\ae .i64 (Int.add (Int.add ue 2) g1)=true/\(u1=true->u2=false/\Q (uf,{ n:=7,os:=[aw.cells [AV.int .i8 (Neg.neg 1),u5,u7,ud,u7,ug,u7,uj] true (Option.some 4),uk,aw.dead,uh,ui,ui,ua],le:=[] }))/\(u1=false->(u2=true->Q (uf,{ n:=7,os:=[aw.cells [u7,u9,u7,ud,u7,ug,AV.int .i8 1,u5] true (Option.some 4),uk,aw.dead,uh,ui,ui,ua],le:=[] }))/\(u2=false->Q (uf,{ n:=7,os:=[aw.cells [u7,u9,u7,ud,u7,ug,u7,uj] true (Option.some 4),uk,aw.dead,uh,ui,ui,ua],le:=[] })))) (aw.cells [u7,ug,u7,uj] true Option.none)) (AV.int .i64 ue)) (aw.cells [u7,u9,u7,ud] true Option.none) (aw.cells uc true Option.none) (AV.agg uc) (AV.int .i64 ub) (Int.add ub l1)) (AV.int .i64 u0) (Int.add (Int.add u0 2) g0) [AV.int .u8 1,AV.slice 21 0 2 (dv.rest 0),u3,u3,u4,u5,u5,u4,u4,u6,u6,u6,u6,u7,u5,u7,u5]) (aw.cells [AV.int .u8 k,AV.int .u8 p,AV.int .u8 op,AV.int .u8 f,AV.bool ng,AV.int .u16 n,AV.int .u8 z0,AV.int .u8 z1,AV.int .u8 m,AV.int .u8 d,AV.int .u8 x,AV.int .u8 y,AV.int .u8 z,AV.int .i16 fr,AV.int .u8 ma,AV.slice 14 0 2 K] true Option.none) (AV.bool false) (AV.str []) (AV.int .i64 0) (AV.int .u8 0) (AV.int .i8 0) (AV.int .i64 fr) (aa (Int.tmod op 4) 1) (aa (Int.tmod op 4) 2) (Int.add fr l0)):=by kernel_rfl
theorem PY(k p op f:Int)(ng:Bool)(n z0 z1 m d x y z fr ma g0 l0 g1 l1 g2 l2:Int)(K:dv){Q:EQ->Prop}:aO Q (bT dF aW [.cells [.int .u8 g0,.int .u8 l0,.int .u8 g1,.int .u8 l1,.int .u8 g2,.int .u8 l2] false none] 74 [.agg [.int .u8 k,.int .u8 p,.int .u8 op,.int .u8 f,.bool ng,.int .u16 n,.int .u8 z0,.int .u8 z1,.int .u8 m,.int .u8 d,.int .u8 x,.int .u8 y,.int .u8 z,.int .i16 fr,.int .u8 ma,.slice 14 0 3 K]]) (b_ 166100566400166300540622005206220006220052062200062200525522006200)=((λ(ua:aw)(u3 u4 u5 u6 u7 u9:AV)(u1 u2:Bool)(u0:Int)=>(λ(ud:AV)(ub:Int)(uc:List AV)=>(λ(uh ui:aw)(uf ug:AV)(ue:Int)=>(λ(uk:AV)(uj:Int)=>(λ(un:aw)(um:AV)(ul:Int)=>(λ(uo:AV)=>(λ(up:aw)=>ae .i64 fr=true/\ae .i64 l0=true/\ae .i64 u0=true/\ae .i64 (Int.add u0 2)=true/\ae .i64 g0=true/\ae .i64 ub=true/\ae .i64 l1=true/\ae .i64 ue=true/\ae .i64 (Int.add ue 2)=true/\ae .i64 g1=true/\ae .i64 uj=true/\ae .i64 l2=true/\ae .i64 ul=true/\ae .i64 (Int.add ul 2)=true/\ae .i64 g2=true/\ae .i64 (Int.add (Int.add ul 2) g2)=true/\(u1=true->u2=false/\Q (uf,{ n:=9,os:=[aw.cells [AV.int .i8 (Neg.neg 1),u5,u7,ud,u7,ug,u7,uk,u7,um,u7,uo] true (Option.some 4),up,aw.dead,un,aw.dead,uh,ui,ui,ua],le:=[] }))/\(u1=false->(u2=true->Q (uf,{ n:=9,os:=[aw.cells [u7,u9,u7,ud,u7,ug,u7,uk,u7,um,AV.int .i8 1,u5] true (Option.some 4),up,aw.dead,un,aw.dead,uh,ui,ui,ua],le:=[] }))/\(u2=false->Q (uf,{ n:=9,os:=[aw.cells [u7,u9,u7,ud,u7,ug,u7,uk,u7,um,u7,uo] true (Option.some 4),up,aw.dead,un,aw.dead,uh,ui,ui,ua],le:=[] })))) (aw.cells [u7,um,u7,uo] true Option.none)) (AV.int .i64 ul)) (aw.cells [u7,ug,u7,uk] true Option.none) (AV.int .i64 uj) (Int.add uj l2)) (AV.int .i64 ue) (Int.add (Int.add ue 2) g1)) (aw.cells [u7,u9,u7,ud] true Option.none) (aw.cells uc true Option.none) (AV.agg uc) (AV.int .i64 ub) (Int.add ub l1)) (AV.int .i64 u0) (Int.add (Int.add u0 2) g0) [AV.int .u8 1,AV.slice 23 0 3 (dv.rest 0),u3,u3,u4,u5,u5,u4,u4,u6,u6,u6,u6,u7,u5,u7,u5]) (aw.cells [AV.int .u8 k,AV.int .u8 p,AV.int .u8 op,AV.int .u8 f,AV.bool ng,AV.int .u16 n,AV.int .u8 z0,AV.int .u8 z1,AV.int .u8 m,AV.int .u8 d,AV.int .u8 x,AV.int .u8 y,AV.int .u8 z,AV.int .i16 fr,AV.int .u8 ma,AV.slice 14 0 3 K] true Option.none) (AV.bool false) (AV.str []) (AV.int .i64 0) (AV.int .u8 0) (AV.int .i8 0) (AV.int .i64 fr) (aa (Int.tmod op 4) 1) (aa (Int.tmod op 4) 2) (Int.add fr l0)):=by kernel_rfl
theorem PV(k p op f:Int)(ng:Bool)(n z0 z1 m d x y z fr ma g0 l0 g1 l1 g2 l2 g3 l3:Int)(w:List AV)(l:Nat)(K:dv){Q:EQ->Prop}:aO Q (bT dF aW [.cells (.int .u8 g0::.int .u8 l0::.int .u8 g1::.int .u8 l1::.int .u8 g2::.int .u8 l2::.int .u8 g3::.int .u8 l3::w) false none] 74 [.agg [.int .u8 k,.int .u8 p,.int .u8 op,.int .u8 f,.bool ng,.int .u16 n,.int .u8 z0,.int .u8 z1,.int .u8 m,.int .u8 d,.int .u8 x,.int .u8 y,.int .u8 z,.int .i16 fr,.int .u8 ma,.slice 14 0 (l+4) K]]) (b_ 1661005664001663005405331661005664001663005405224002200520622000622005206220006220052062200062200525522006200)=((λ(ub:aw)(u4 u5 u6 u7 u9 ua:AV)(u1 u2 u3:Bool)(u0:Int)=>(λ(uf:AV)(uc:Int)(ue:List AV)(ud ug:Prop)=>(λ(uk ul:aw)(ui uj:AV)(uh:Int)=>(λ(un:AV)(um:Int)=>(λ(uq:aw)(up:AV)(uo:Int)=>(λ(us:AV)(ur:Int)=>(λ(uv:aw)(uu:AV)(ut:Int)=>(λ(uw:AV)=>(λ(ux:aw)=>(λ(uy:Prop)=>ae .i64 fr=true/\ae .i64 l0=true/\ae .i64 u0=true/\ae .i64 (Int.add u0 2)=true/\ae .i64 g0=true/\ae .i64 uc=true/\ae .i64 l1=true/\ae .i64 uh=true/\ae .i64 (Int.add uh 2)=true/\ae .i64 g1=true/\ae .i64 um=true/\ae .i64 l2=true/\ae .i64 uo=true/\ae .i64 (Int.add uo 2)=true/\ae .i64 g2=true/\ae .i64 ur=true/\ae .i64 l3=true/\ae .i64 ut=true/\ae .i64 (Int.add ut 2)=true/\ae .i64 g3=true/\ae .i64 (Int.add (Int.add ut 2) g3)=true/\(ud->ud/\ud/\uy)/\(ug->ug/\ug/\uy)) ((u2=true->u3=false/\Q (ui,{ n:=11,os:=[aw.cells [AV.int .i8 (Neg.neg 1),u6,u9,uf,u9,uj,u9,un,u9,up,u9,us,u9,uu,u9,uw] true (Option.some 4),ux,aw.dead,uv,aw.dead,uq,aw.dead,uk,ul,ul,ub],le:=[] }))/\(u2=false->(u3=true->Q (ui,{ n:=11,os:=[aw.cells [u9,ua,u9,uf,u9,uj,u9,un,u9,up,u9,us,u9,uu,AV.int .i8 1,u6] true (Option.some 4),ux,aw.dead,uv,aw.dead,uq,aw.dead,uk,ul,ul,ub],le:=[] }))/\(u3=false->Q (ui,{ n:=11,os:=[aw.cells [u9,ua,u9,uf,u9,uj,u9,un,u9,up,u9,us,u9,uu,u9,uw] true (Option.some 4),ux,aw.dead,uv,aw.dead,uq,aw.dead,uk,ul,ul,ub],le:=[] }))))) (aw.cells [u9,uu,u9,uw] true Option.none)) (AV.int .i64 ut)) (aw.cells [u9,up,u9,us] true Option.none) (AV.int .i64 ur) (Int.add ur l3)) (AV.int .i64 uo) (Int.add (Int.add uo 2) g2)) (aw.cells [u9,uj,u9,un] true Option.none) (AV.int .i64 um) (Int.add um l2)) (AV.int .i64 uh) (Int.add (Int.add uh 2) g1)) (aw.cells [u9,ua,u9,uf] true Option.none) (aw.cells ue true Option.none) (AV.agg ue) (AV.int .i64 uc) (Int.add uc l1)) (AV.int .i64 u0) (Int.add (Int.add u0 2) g0) [AV.int .u8 1,AV.slice 25 0 4 (dv.rest 0),u4,u4,u5,u6,u6,u5,u5,u7,u7,u7,u7,u9,u6,u9,u6] (u1=true) (u1=false)) (aw.cells [AV.int .u8 k,AV.int .u8 p,AV.int .u8 op,AV.int .u8 f,AV.bool ng,AV.int .u16 n,AV.int .u8 z0,AV.int .u8 z1,AV.int .u8 m,AV.int .u8 d,AV.int .u8 x,AV.int .u8 y,AV.int .u8 z,AV.int .i16 fr,AV.int .u8 ma,AV.slice 14 0 (HAdd.hAdd l 4) K] true Option.none) (AV.bool false) (AV.str []) (AV.int .i64 0) (AV.int .u8 0) (AV.int .i8 0) (AV.int .i64 fr) (not (ab (Int.ofNat (HAdd.hAdd l 4)) 4)) (aa (Int.tmod op 4) 1) (aa (Int.tmod op 4) 2) (Int.add fr l0)):=by kernel_rfl
theorem oY:aH tab 74=some (bC 74,aE 74):=by kernel_rfl
theorem fH.lastW{ws:List aw}{v v':AV}{x:aw}{rest:List aw}{k n:Nat}(hw:∀x∈ws,eG 14 x)(hk:rest.length=k)(hn:n=k+1)(hx:eG (14+ws.length) x)(hv:jB (14+ws.length) [(14+ws.length+k,14+ws.length)] 20 v'=some v):fH ws v [x] (v',⟨n,x::rest,[]⟩):=by
 subst hn
 have hv':jB ((Cw cfg ws).lo+0) (gL (Cw cfg ws).lo 0 [k]) 20 v'=some v:=hv
 refine(qI d4.lv (C:=Cw cfg ws) (st:=⟨.node v' .nil .nil,1,⟨k+1,x::rest,[]⟩,[],none⟩) (kb:=0) (sel:=[k]) (ts':=.node v .nil .nil) (o':=⟨1,[x],[]⟩) (xm hw) (Nat.zero_le _) (λs hs=>?_) (by simp) (λp hp=>by cases hp) rfl rfl rfl (λi hi=>absurd hi (Nat.not_lt_zero i)) (λt ht=>?_) ?_ (λd hd=>by cases hd) (λi hi=>by cases hi)).mono λs hs=>?_
 · simp only[List.mem_singleton]at hs;subst hs;exact⟨Nat.zero_le _,Nat.lt_succ_self _⟩
 · have:t=0:=by simp at ht;omega
   subst this
   refine .inl ⟨?_,?_⟩
   · show(⟨1,[x],[]⟩:aC).at 0=(⟨k+1,x::rest,[]⟩:aC).at k
     unfold aC.at
     simp
   · show eG (14+ws.length) ((⟨k+1,x::rest,[]⟩:aC).at k)
     unfold aC.at
     simpa using hx
 · simp only[tz,hv',ob]
 · rw[hs];exact⟨rfl,rfl⟩
theorem jm:∀{gs:List (Int×Int)},bG (eZ gs)=[]
 | []=>rfl
 | p::r=>by simp only[eZ,bG,aq,jm (gs:=r),List.append_nil]
theorem sK:∀{w:List AV},d_ w=true->w=eZ (gm w)/\∀p∈gm w,(0<=p.1/\p.1<=255)/\(0<=p.2/\p.2<=255)
 | [],_=>⟨rfl,λp hp=>by cases hp⟩
 | .int .u8 a::.int .u8 b::r,h=>by
   simp only[d_,Bool.and_eq_true,aQ,bA,bB]at h
   obtain⟨h1,h2⟩:=sK h.2.2
   refine⟨by simp only[gm,eZ];rw[<-h1],λp hp=>?_⟩
   simp only[gm,List.mem_cons]at hp
   rcases hp with rfl|hp
   · exact⟨h.1,h.2.1⟩
   · exact h2 p hp
theorem XR{k p op f:Int}{ng:Bool}{n z0 z1 m d x y z fr ma:Int}{K:dv}(ho:0<=op/\op<=255)(hfr : -32768<=fr/\fr<=32767)(hma:0<=ma/\ma<=255)(h12:¬(aa (op%4) 1=true/\aa (op%4) 2=true))(gs:List (Int×Int))(hin:∀p∈gs,(0<=p.1/\p.1<=255)/\(0<=p.2/\p.2<=255)):bR Tryz.prog cfg 74 [.agg [.int .u8 k,.int .u8 p,.int .u8 op,.int .u8 f,.bool ng,.int .u16 n,.int .u8 z0,.int .u8 z1,.int .u8 m,.int .u8 d,.int .u8 x,.int .u8 y,.int .u8 z,.int .i16 fr,.int .u8 ma,.slice 14 0 gs.length K]] [.cells (eZ gs) false none] (tA 15 (fu (bY fr ma (aa (op%4) 1) (aa (op%4) 2) gs)) (x6 gs)) [.cells (aJ (bY fr ma (aa (op%4) 1) (aa (op%4) 2) gs)) true (yN gs)]:=by
 have hw1:∀x∈[aw.cells (eZ gs) false none],eG 14 x:=λx hx=>by
  simp only[List.mem_singleton]at hx;subst hx;exact dw jm
 match gs,hin with
 | [],hin=>
   refine k7 aT (L:=aW) oY (by simp) ak (ap λQ' hQ=>al ((O9 k p op f ng n z0 z1 m d x y z fr ma K).mpr ?_))
   dsimp only
   try dsimp only
   rw[tm (b:=4) ho.1]
   generalize aa (op%4) 1=b1 at *
   generalize aa (op%4) 2=b2 at *
   have h3:=h12
   clear h12
   cases b1<;>cases b2<;>first|(exfalso;exact absurd h3 (by decide))|skip
   all_goals
    simp only[aD,reduceCtorEq,bA,bB,ne_eq]
    (repeat' first|exact trivial|refine⟨?_,?_⟩|intro)<;>first|contradiction|omega|exact hQ _ (fH.lastW hw1 rfl rfl (dw rfl) rfl)
 | [(g0,l0)],hin=>
   have hp0:=hin (g0,l0) (by simp)
   refine k7 aT (L:=aW) oY (by simp) ak (ap λQ' hQ=>al ((TH k p op f ng n z0 z1 m d x y z fr ma g0 l0 K).mpr ?_))
   dsimp only
   try dsimp only
   rw[tm (b:=4) ho.1]
   generalize aa (op%4) 1=b1 at *
   generalize aa (op%4) 2=b2 at *
   have h3:=h12
   clear h12
   cases b1<;>cases b2<;>first|(exfalso;exact absurd h3 (by decide))|skip
   all_goals
    simp only[aD,reduceCtorEq,bA,bB,ne_eq]
    (repeat' first|exact trivial|refine⟨?_,?_⟩|intro)<;>first|contradiction|omega|exact hQ _ (fH.lastW hw1 rfl rfl (dw rfl) rfl)
 | [(g0,l0),(g1,l1)],hin=>
   have hp0:=hin (g0,l0) (by simp)
   have hp1:=hin (g1,l1) (by simp)
   refine k7 aT (L:=aW) oY (by simp) ak (ap λQ' hQ=>al ((Q9 k p op f ng n z0 z1 m d x y z fr ma g0 l0 g1 l1 K).mpr ?_))
   dsimp only
   try dsimp only
   rw[tm (b:=4) ho.1]
   generalize aa (op%4) 1=b1 at *
   generalize aa (op%4) 2=b2 at *
   have h3:=h12
   clear h12
   cases b1<;>cases b2<;>first|(exfalso;exact absurd h3 (by decide))|skip
   all_goals
    simp only[aD,reduceCtorEq,bA,bB,ne_eq]
    (repeat' first|exact trivial|refine⟨?_,?_⟩|intro)<;>first|contradiction|omega|exact hQ _ (fH.lastW hw1 rfl rfl (dw rfl) rfl)
 | [(g0,l0),(g1,l1),(g2,l2)],hin=>
   have hp0:=hin (g0,l0) (by simp)
   have hp1:=hin (g1,l1) (by simp)
   have hp2:=hin (g2,l2) (by simp)
   refine k7 aT (L:=aW) oY (by simp) ak (ap λQ' hQ=>al ((PY k p op f ng n z0 z1 m d x y z fr ma g0 l0 g1 l1 g2 l2 K).mpr ?_))
   dsimp only
   try dsimp only
   rw[tm (b:=4) ho.1]
   generalize aa (op%4) 1=b1 at *
   generalize aa (op%4) 2=b2 at *
   have h3:=h12
   clear h12
   cases b1<;>cases b2<;>first|(exfalso;exact absurd h3 (by decide))|skip
   all_goals
    simp only[aD,reduceCtorEq,bA,bB,ne_eq]
    (repeat' first|exact trivial|refine⟨?_,?_⟩|intro)<;>first|contradiction|omega|exact hQ _ (fH.lastW hw1 rfl rfl (dw rfl) rfl)
 | (g0,l0)::(g1,l1)::(g2,l2)::(g3,l3)::r,hin=>
   have hp0:=hin (g0,l0) (by simp)
   have hp1:=hin (g1,l1) (by simp)
   have hp2:=hin (g2,l2) (by simp)
   have hp3:=hin (g3,l3) (by simp)
   refine k7 aT (L:=aW) oY (by simp) ak (ap λQ' hQ=>al ((PV k p op f ng n z0 z1 m d x y z fr ma g0 l0 g1 l1 g2 l2 g3 l3 (eZ r) r.length K).mpr ?_))
   dsimp only
   try dsimp only
   rw[tm (b:=4) ho.1]
   generalize aa (op%4) 1=b1 at *
   generalize aa (op%4) 2=b2 at *
   have h3:=h12
   clear h12
   cases b1<;>cases b2<;>first|(exfalso;exact absurd h3 (by decide))|skip
   all_goals
    simp only[aD,reduceCtorEq,bA,bB,ne_eq]
    (repeat' first|exact trivial|refine⟨?_,?_⟩|intro)<;>first|contradiction|omega|exact hQ _ (fH.lastW hw1 rfl rfl (dw rfl) rfl)
end Go.Ev
