import Derived.Test.YtcffhjfdlflbgaaGreatDoorP17
set_option linter.all false
open Int renaming ofNat->ν,tmod_eq_emod_of_nonneg->ξ,add->ο
open List renaming pairwise_lt_range->π,range->ς
set_option linter.all false
set_option maxRecDepth 100000
set_option maxHeartbeats 4000000
section
namespace Go.Proofs.YtcffhjfdlflbgaaGreatDoor
open Go.RowKit
theorem masks_filled_d(s:ByteArray)(w:World)(hs2:s.size<=18)(hm:∀(i:Nat) (h:i<s.size),48<=s[i].toNat/\s[i].toNat<=57) :
 Calls Tryz.prog 217 #[.string s,.int .u8 0] w λe w'=>e=.returned (.int .i64 (fillv 48 s.data.toList))/\Below w.heap.size w w':=by
 have HM:=Lib.hid hm;obtain⟨C,w2,hconv,hcell,hB2,hz2⟩:=conv_bytes w s;have HC:=Lib.hid hcell;have BD:=Lib.hid (fillv_bd18 (x:=48) (by omega) s hs2 (λi h=>.inr (hm i h)));clear hm hcell;go_enter Tryz.func217,Tryz.ntmps217
 go_wp2;go_loop [5,11] (λn i=>∃k:Nat,k<=s.size/\i=.int .i64 k/\n=.int .i64 (fillv 48 (s.data.toList.take k))) (λ_ i=>s.size-(intOf i).toNat)
 case atStart=>exact⟨0,by omega,rfl,rfl⟩
 case round=>
  obtain⟨k,hk,rfl,rfl⟩:=hrel;by_cases hlt:k<s.size
  . obtain⟨b1,b2⟩:=BD.out k hlt;have hc0:=HC.out k hlt;obtain⟨hb1,hb2⟩:=HM.out k hlt;have S:=Lib.hid (show fillv 48 (s.data.toList.take (k+1))=10*fillv 48 (s.data.toList.take k)+dig 48 s[k]by rw[take_snocB s k hlt,fillv_snoc]);generalize s[k]=c at *;have t0:((c.toNat:Int)==88)=false:=by simp;omega
    go_wp2;go_round
    case rel=>exact⟨k+1,by omega,by go_num,by rw[S.out,dig_D (by omega)]⟩
    case measure=>simp[intOf];omega
  . go_wp2;go_ret
    exact⟨ret_int (by rw[List.take_of_length_le (by simp;have e:s.data.size=s.size:=rfl;omega)]),bC⟩
theorem masks_value(s:ByteArray)(a b c d:Int)(w:World)(hs:s.size=4)(ha:48<=a/\a<=57)(hb:48<=b/\b<=57)(hc:48<=c/\c<=57)(hd:48<=d/\d<=57) :
 Calls Tryz.prog 277 #[.string s,.agg (dArr a b c d)] w λe w'=>e=.returned (.int .i64 (1000*(a-48)+100*(b-48)+10*(c-48)+(d-48)))/\Below w.heap.size w w':=by
 have hs2:(s.size:Int)=4:=by omega
 have byt:∀z:Int,48<=z/\z<=57->∃x:UInt8,(x.toNat:Int)=z/\48<=x.toNat/\x.toNat<=57:=by
  intro z hz;refine⟨UInt8.ofNat z.toNat,?_⟩;have:(UInt8.ofNat z.toNat).toNat=z.toNat:=by simp;omega
  rw[this];omega
 obtain⟨x0,rfl,p0⟩:=byt a ha;obtain⟨x1,rfl,p1⟩:=byt b hb;obtain⟨x2,rfl,p2⟩:=byt c hc;obtain⟨x3,rfl,p3⟩:=byt d hd;have hv:fillv 48 [x0,x1,x2,x3]=1000*((x0.toNat:Int)-48)+100*((x1.toNat:Int)-48)+10*((x2.toNat:Int)-48)+((x3.toNat:Int)-48):=by
  simp only[fillv,List.foldl_cons,List.foldl_nil];rw[dig_D (by omega),dig_D (by omega),dig_D (by omega),dig_D (by omega)];omega
 have HF:=Lib.hid (λW:World=>masks_filled_d ⟨#[x0,x1,x2,x3]⟩ W (show 4<=18 by decide) (λi h=>by
  have h4:i<4:=h;have:i=0\/i=1\/i=2\/i=3:=by omega
  rcases this with rfl|rfl|rfl|rfl
  . exact p0
  . exact p1
  . exact p2
  . exact p3))
 go_enter Tryz.func277,Tryz.ntmps277
 go_upto_region 1 with fail
 have cl:∀(j:Nat) (hj:j<[x0,x1,x2,x3].length),(w.alloc (.cells (dArr x0.toNat x1.toNat x2.toNat x3.toNat) 303)).cell? (Addr.add ⟨w.heap.size,0,none⟩ j)=some (.int .u8 (([x0,x1,x2,x3][j].toNat:Nat):Int)):=by
  intro j hj;have hadd:(⟨w.heap.size,0,none⟩:Addr).add j=⟨w.heap.size,j,none⟩:=by unfold Addr.add;split<;>simp_all
  rw[hadd,cell_of_row _ _ j _ _ (0,0) (heap_alloc_last w _)];have h4:j<4:=hj;have:j=0\/j=1\/j=2\/j=3:=by omega
  rcases this with rfl|rfl|rfl|rfl<;>rfl
 have cv:=run_convert_bytes_back (P:=Tryz.prog) (w.alloc (.cells (dArr x0.toNat x1.toNat x2.toNat x3.toNat) 303)) 207 9 5 ⟨w.heap.size,0,none⟩ 18 [x0,x1,x2,x3] Tryz.underlying207 Tryz.underlying5 Tryz.underlying9 cl;clear cl;have cv2:(convert 207 9 (.slice (some ⟨w.heap.size,0,none⟩) 4 18)).run Tryz.prog (w.alloc (.cells (dArr x0.toNat x1.toNat x2.toNat x3.toNat) 303))=.ok (.string ⟨#[x0,x1,x2,x3]⟩) (w.alloc (.cells (dArr x0.toNat x1.toNat x2.toNat x3.toNat) 303)):=cv;clear cv;generalize hD:dArr x0.toNat x1.toNat x2.toNat x3.toNat=D at *;generalize hS:(⟨#[x0,x1,x2,x3]⟩:ByteArray)=S at *;have hl:S.data.toList=[x0,x1,x2,x3]:=by rw[<-hS]
 have V:=Lib.hid (show fillv 48 S.data.toList=1000*((x0.toNat:Int)-48)+100*((x1.toNat:Int)-48)+10*((x2.toNat:Int)-48)+((x3.toNat:Int)-48)by rw[hl,hv]);clear hl hv hS hD;go_wp2_with (first|(go_at_call 217;refine(HF.out _).mono ?_;rintro e w1 ⟨rfl,hb⟩;obtain⟨hc,hf⟩:=bcell hb;have hz:=hb.size;(try simp only[World.size_alloc,World.size_setCell,World.size_drew]at hz hc hf);(try have⟨hl0,hc0,hf0⟩:=bk hc hf hz (w.heap.size) (by omega));(try have⟨hl1,hc1,hf1⟩:=bk hc hf hz (w.heap.size+1) (by omega));(try have⟨hl2,hc2,hf2⟩:=bk hc hf hz (w.heap.size+2) (by omega));(try have⟨hl3,hc3,hf3⟩:=bk hc hf hz (w.heap.size+3) (by omega));(try have⟨hl4,hc4,hf4⟩:=bk hc hf hz (w.heap.size+4) (by omega))))
 go_ret
 exact⟨by rw[<-V.out];simp,bC⟩
end Go.Proofs.YtcffhjfdlflbgaaGreatDoor
end
section
namespace Go.Ev
open Go Go.Proofs
variable{n:Int}{c0 c1 c2 c3:UInt8}{v:AV}
def dg(n:Int)(i:Nat):Int:=n/10^(3-i)%10
abbrev X0:List AV:=[.a .u8 0,.a .u8 0,.a .u8 0,.a .u8 0,.a .u8 0,.a .u8 0,.a .u8 0,.a .u8 0,.a .u8 0,.a .u8 0,.a .u8 0,.a .u8 0,.a .u8 0,.a .u8 0]
def Wq:dP:=λ
 | [.e [c0,c1,c2,c3],.a .i64 n]=>some (aH [ab 0 n,ab n 9999] (.a0 (.h (.a .u8 (ο 48 (dg n 0))::.a .u8 (ο 48 (dg n 1))::.a .u8 (ο 48 (dg n 2))::.a .u8 (ο 48 (dg n 3))::X0))))
 | _=>none
def U1:aQ:=d5 T9 276 Wq
def SH(v:Int):Bool:=ab 48 v&&ab v 57
def db(a b c d:Int):Int:=1000*(a-48)+100*(b-48)+10*(c-48)+(d-48)
def WJ:dP:=λ
 | [.e [c0,c1,c2,c3],.h (.a .u8 a::.a .u8 b::.a .u8 c::.a .u8 d::[.a .u8 0,.a .u8 0,.a .u8 0,.a .u8 0,.a .u8 0,.a .u8 0,.a .u8 0,.a .u8 0,.a .u8 0,.a .u8 0,.a .u8 0,.a .u8 0,.a .u8 0,.a .u8 0])]=>some (aH [SH a,SH b,SH c,SH d] (.a0 (.a .i64 (db a b c d))))
 | _=>none
def U2:aQ:=d5 U1 277 WJ
theorem Yj(h:0<=n):dg n 0=n/1000%10/\dg n 1=n/100%10/\dg n 2=n/10%10/\dg n 3=n%10:=by
 refine⟨rfl,rfl,rfl,?_⟩;show n/1%10=n%10;simp
theorem OW:ec tab 277=some (dH 277,aL 277):=by rfl
theorem V0:ak Tryz.prog cfg U1:=by
 refine au gx λargs t v he hv=>?_;unfold Wq at he;split at he
 . rename_i c0 c1 c2 c3 n;cases he;obtain⟨⟨h1,h2,-⟩,hv⟩:=aF hv;rw[aq]at h1 h2;cases hv;refine jD gx ai (bE 1000662522000252200025220002522000) (R:=λQ=>(λ(A:AV)(B C:Int)=>(λ(E F:Int)=>(λ(G H:Int)=>(λ(I:Int)=>af .i64 B/\af .u8 B/\af .i64 C/\af .i64 E/\af .u8 E/\af .i64 F/\af .i64 G/\af .u8 G/\af .i64 H/\af .i64 I/\af .u8 I/\af .i64 (Int.tdiv H 10)/\Q (.h [.a .u8 I,.a .u8 G,.a .u8 E,.a .u8 B,A,A,A,A,A,A,A,A,A,A,A,A,A,A])) (ο 48 (Int.tmod H 10))) (ο 48 (Int.tmod F 10)) (Int.tdiv F 10)) (ο 48 (Int.tmod C 10)) (Int.tdiv C 10)) (.a .u8 0) (ο 48 (Int.tmod n 10)) (Int.tdiv n 10)) (λ_=>by kernel_rfl) (hi:=(by rfl)) λQ' hQ=>?_;try dsimp only
   have e1:n.tdiv 10=n/10:=Int.tdiv_eq_ediv_of_nonneg h1;have e2:(n/10).tdiv 10=n/100:=by grind
   have e3:(n/100).tdiv 10=n/1000:=by grind
   have e4:(n/1000).tdiv 10=n/10000:=by grind
   have m1:n.tmod 10=n%10:=ξ h1;have m2:(n/10).tmod 10=n/10%10:=ξ (by omega);have m3:(n/100).tmod 10=n/100%10:=ξ (by omega);have m4:(n/1000).tmod 10=n/1000%10:=ξ (by omega);simp_all [Yj,az];omega
 grind
theorem L0:ak Tryz.prog cfg U2:=by
 refine au V0 λargs t v he hv=>?_;unfold WJ at he;split at he
 . rename_i c0 c1 c2 c3 a b c d;cases he;obtain⟨⟨h1,h2,h3,h4,-⟩,hv⟩:=aF hv;unfold SH at h1 h2 h3 h4;rw[zAa,aq,aq]at h1 h2 h3 h4;cases hv;refine dy OW (by rfl) λm w hG=>?_;have:=Go.Proofs.YtcffhjfdlflbgaaGreatDoor.masks_value ⟨⟨[c0,c1,c2,c3]⟩⟩ a b c d w rfl h1 h2 h3 h4;simp_all [ap,aj,db]
 grind
def mt(c:UInt8)(k:Int):Prop:=c.toNat=88\/(c.toNat:Int)=48+k
instance (c:UInt8) (k:Int):Decidable (mt c k):=by unfold mt;infer_instance
def nS(c0 c1 c2 c3:UInt8)(k:Int):Prop:=0<=k/\k<=9999/\mt c0 (k/1000)/\mt c1 (k/100%10)/\mt c2 (k/10%10)/\mt c3 (k%10)
instance (c0 c1 c2 c3:UInt8) (k:Int):Decidable (nS c0 c1 c2 c3 k):=by unfold nS;infer_instance
def c_(c0 c1 c2 c3:UInt8)(n:Int):Option Int:=((ς 10000).map ν).find? λk=>decide (n<=k)&&decide (nS c0 c1 c2 c3 k)
def cV(c0 c1 c2 c3:UInt8)(n:Int):Option Int:=((ς 10000).map λi=>9999-ν i).find? λk=>decide (k<=n)&&decide (nS c0 c1 c2 c3 k)
theorem nJ:c_ c0 c1 c2 c3 n=none↔∀k,nS c0 c1 c2 c3 k->k<n:=by
 unfold c_;rw[List.find?_eq_none];constructor
 . intro h k hk;have:=h k (List.mem_map.2 ⟨k.toNat,List.mem_range.2 (by have:=hk.2.1;omega),Int.toNat_of_nonneg hk.1⟩);grind
 grind
theorem gF{v:Int}:c_ c0 c1 c2 c3 n=some v↔nS c0 c1 c2 c3 v/\n<=v/\∀k,nS c0 c1 c2 c3 k->n<=k->v<=k:=by
 unfold c_;have inc:∀(l:List Nat),l.Pairwise (· < ·)->∀(p:Int->Bool) (v:Int),(l.map ν).find? p=some v->p v/\v∈l.map ν/\∀k∈l.map ν,p k->v<=k:=by
  intro l hl p;induction l<;>grind [List.pairwise_cons]
 have mem:∀k,nS c0 c1 c2 c3 k->k∈(ς 10000).map ν:=λk hk=>List.mem_map.2 ⟨k.toNat,List.mem_range.2 (by have:=hk.2.1;omega),Int.toNat_of_nonneg hk.1⟩;constructor
 . grind [π]
 . rintro⟨h1,h2,h3⟩;cases hf:((ς 10000).map ν).find? (λk=>decide (n<=k)&&decide (nS c0 c1 c2 c3 k))<;>grind [π]
theorem nu:cV c0 c1 c2 c3 n=none↔∀k,nS c0 c1 c2 c3 k->n<k:=by
 unfold cV;rw[List.find?_eq_none];constructor
 . intro h k hk;have:=h k (List.mem_map.2 ⟨(9999-k).toNat,List.mem_range.2 (by have:=hk.1;omega),by have:=hk.2.1;grind⟩);grind
 grind
theorem pw{k0 k1 k2 k3:Int}(h0:0<=k0/\k0<=9)(h1:0<=k1/\k1<=9)(h2:0<=k2/\k2<=9)(h3:0<=k3/\k3<=9):nS c0 c1 c2 c3 (1000*k0+100*k1+10*k2+k3)↔mt c0 k0/\mt c1 k1/\mt c2 k2/\mt c3 k3:=by
 grind [nS]
theorem abJ{k:Int}(h:nS c0 c1 c2 c3 k):∃k0 k1 k2 k3:Int,(0<=k0/\k0<=9)/\(0<=k1/\k1<=9)/\(0<=k2/\k2<=9)/\(0<=k3/\k3<=9)/\k=1000*k0+100*k1+10*k2+k3/\mt c0 k0/\mt c1 k1/\mt c2 k2/\mt c3 k3:=by
 obtain⟨h1,h2,h3⟩:=h;exact⟨k/1000,k/100%10,k/10%10,k%10,by omega,by omega,by omega,by omega,by omega,h3⟩
def fC(c:UInt8):Bool:=Nat.beq c.toNat 88 || (Nat.ble 48 c.toNat&&Nat.ble c.toNat 57)
theorem dD{c:UInt8}:fC c=true↔c.toNat=88\/48<=c.toNat/\c.toNat<=57:=by
 unfold fC;simp
def za(x:Option Int):Bool:=x.isSome
def kp(x:Option Int):Int:=x.getD 0
def Et(x:Option Int):Tr AV:=.d0 (za x) λb=>bif b then .a0 (.d [.a .i64 (kp x),.a .i64 0])else .a0 (.d [.a .i64 0,.a .i64 16])
theorem PG(hn:0<=n/\n<=9999)(hc0:c0.toNat=88\/48<=c0.toNat/\c0.toNat<=57)(hc1:c1.toNat=88\/48<=c1.toNat/\c1.toNat<=57)(hc2:c2.toNat=88\/48<=c2.toNat/\c2.toNat<=57)(hc3:c3.toNat=88\/48<=c3.toNat/\c3.toNat<=57)(hv:(Et (c_ c0 c1 c2 c3 n)).b0=some v):bu Tryz.prog cfg 219 [.e [c0,c1,c2,c3],.a .i64 n,.b true] [] v []:=by
 obtain⟨d0,d1,d2,d3⟩:=Yj hn.1;have hv':Tr.b0 (bif za (c_ c0 c1 c2 c3 n)then .a0 (.d [.a .i64 (kp (c_ c0 c1 c2 c3 n)),.a .i64 0])else .a0 (.d [.a .i64 0,.a .i64 16]))=some v:=hv;have ids:aC v=[]:=by
  cases hb:za (c_ c0 c1 c2 c3 n)<;>rw[hb]at hv'<;>cases hv'<;>simp[aC,bw]
 have g0:0<=dg n 0/\dg n 0<=9:=by omega
 have g1:0<=dg n 1/\dg n 1<=9:=by omega
 have g2:0<=dg n 2/\dg n 2<=9:=by omega
 have g3:0<=dg n 3/\dg n 3<=9:=by omega
 have hn2:n=1000*dg n 0+100*dg n 1+10*dg n 2+dg n 3:=by omega
 refine jD L0 ai (bE 10662088127000663551001200200066300062000620006254702002251202200066300062000625470200225127000663000625470200225400515564030202002200224062088127000661070056646355100122020006610202005664630006200062547020022512700066107005664630006254702002254005106620881270006635510012202000663630006200062547020022512700066363000625470200220588540051556403020200220022455403020200220022406208812700066107005664612022000661002200566400064635510012700066107005664612022000661002200566400064630006254702002254005106620881270006635510012022000663000626300062547020022058851270006630006254702002254005155640302020022002240620881270006610700566463551001270006610700566463630006254702002205885400510662088127000663551001270006636363000625470200220588058854005155640302020022002245540302020022002245540302020022002240620881270006610700566461202200066100220056640006461220200066102020056646120020006610002005664000640006463551004005106620881270006635510008851202200066300062000625470200225127000663000625470200225400515564030202002200224062088127000661070056646355100088512700066107005664630006254702002254005106620881270006635510008851270006636300062547020022058854005155640302020022002245540302020022002240620881270006610700566461202200066100220056640006463551000885400510662088127000663551000880588512700066300062547020022540051556403020200220022406208812700066107005664635510008805885400510662088127000663551000880588058854005155640302020022002245540302020022002245540302020022002245540302020022002246662200) (R:=λQ=>(λ(I:AV)(P T U V u2 u5 ug uF:Int)=>(λ(B C F W Z u0 u3 u4 u7 u8 u9 un uo up ur ux uz uG uH uJ uK:Bool)(u6 um uq:Int)(uy uI:Prop)=>(λ(A H Y ua uh ui uA uB:Bool)(E G O ub uc ud uj us ut uu uL:Prop)=>(λ(N u1 ue uk ul uv uw uC uM uN uO uP uQ uR:Prop)=>(λ(uf uD uE uS uT uU:Prop)=>(λ(v5:Prop->Prop->Prop)=>(λ(v4:Prop->Prop)=>(λ(v3:Prop->Prop)=>(λ(v2:Prop->Prop)=>(λ(v1:Prop->Prop)=>(λ(v0:Prop->Prop)=>(λ(uZ:Prop->Prop)=>(λ(uY:Prop->Prop)=>(λ(uX:Prop->Prop)=>(λ(uW:Prop->Prop)=>(λ(uV:Prop->Prop)=>ab 0 n/\ab n 9999/\(ua->v5 ua (ub/\(uG->(Y->v4 ((ux->(H->uY ((un->(A->uV (ud->(u7->v5 E uD)/\ue))/\uf)/\(us->(uo->uD)/\uv)))/\(N->uZ ((A->uV (ud->(u7->uX (ut->uD))/\ue))/\uf)))/\(uL->(uz->uC)/\uM)))/\(u1->v3 ((H->uY ((un->(A->uV (ud->(u7->v0 uE)/\ue))/\uf)/\(us->(uo->v1 (v1 (uT/\uE)))/\uv)))/\(N->uZ ((A->uV (ud->(u7->uX (ut->v1 (v1 (uO/\uE))))/\ue))/\uf)))))/\(uG=false->(uK->uy)/\(uK=false->ub/\(C->(F->(Z->u8/\Q (.d [.a .i64 (db u2 48 48 48),I]))/\(O->u8/\W/\Q (.d [.a .i64 (db u2 48 48 P),I])))/\(E->(Z->u8/\u0/\Q (.d [.a .i64 (db u2 48 T 48),I]))/\(O->u8/\u0/\W/\Q (.d [.a .i64 (db u2 48 T P),I]))))/\(G->(F->(Z->u8/\u3/\Q (.d [.a .i64 (db u2 V 48 48),I]))/\(O->u8/\u3/\W/\Q (.d [.a .i64 (db u2 V 48 P),I])))/\(E->(Z->u8/\u3/\u0/\Q (.d [.a .i64 (db u2 V T 48),I]))/\(O->u8/\u3/\u0/\W/\Q (.d [.a .i64 (db u2 V T P),I]))))))))/\(ul->v5 ul (B/\(Y->v4 ((ux->(H->uY ((un->(A->uV (ud->(u7->v5 E (uW ((u9->uh/\G/\E/\O/\uP)/\uj)))/\ue))/\uf)/\(us->(uo->uW ((u9->uh/\G/\E/\uU)/\uj))/\uv)))/\(N->uZ ((A->uV (ud->(u7->uX (ut->uW ((u9->uh/\G/\F/\O/\uQ)/\uj)))/\ue))/\uf)))/\(uL->(uz->v2 (v2 ((u9->uh/\G/\(F->(Z->ui/\u3/\Q (.d [.a .i64 (db u6 V 48 48),I]))/\(O->uQ))/\(E->uU))/\uj)))/\uM)))/\(u1->v3 ((H->uY ((un->(A->uV (ud->(u7->v0 (uu->v2 (v2 ((u9->uh/\C/\E/\O/\uR)/\uj))))/\ue))/\uf)/\(us->(uo->v1 (v1 (uT/\(uu->v2 (v2 ((u9->uh/\C/\E/\(Z->ui/\u0/\Q (.d [.a .i64 (db u6 48 T 48),I]))/\(O->uR))/\uj))))))/\uv)))/\(N->uZ ((A->uV (ud->(u7->uX (ut->v1 (v1 (uO/\(uu->v2 (v2 ((u9->uh/\C/\F/\O/\ui/\W/\Q (.d [.a .i64 (db u6 48 48 P),I]))/\uj)))))))/\ue))/\uf))))))) (λv6=>v5 A (O/\uc/\v6))) (λv6=>v5 G (v2 (v2 v6)))) (λv6=>v5 F (uw/\v6))) (λv6=>v5 H (E/\v6))) (λv6=>v5 N (F/\v6))) (λv6=>v5 E (v1 (v1 (uS/\v6))))) (λv6=>C/\C/\C/\v6)) (λv6=>B/\B/\B/\v6)) (λv6=>v5 u1 (C/\v6))) (λv6=>v5 Y (G/\v6))) (λv6 v7=>v6/\v6/\v6/\v6/\v6/\v6/\v7)) (uk->uk/\uk/\uk/\uk/\uk/\uk/\Z/\uI) (G/\G/\G/\G/\G/\G/\uC) (uu->uC) (ur->uA/\E/\O/\uN) (ur->uA/\E/\(Z->u4/\uB/\u0/\Q (.d [.a .i64 (db U um T 48),I]))/\(O->uN)) ((Z->ui/\u3/\u0/\Q (.d [.a .i64 (db u6 V T 48),I]))/\(O->uP))) (H=false) (Y=false) (u7=false->O/\u4/\up/\and (ab 48 ug) (ab ug 57)/\W/\Q (.d [.a .i64 (db U u5 ug P),I])) (A=false) (ua=false) (uo=false->E/\(Z->u4/\up/\u0/\Q (.d [.a .i64 (db U u5 T 48),I]))/\(O->u4/\up/\u0/\W/\Q (.d [.a .i64 (db U u5 T P),I]))) (uJ->af .u8 uq/\O/\u4/\up/\and (ab 48 uq) (ab uq 57)/\W/\Q (.d [.a .i64 (db U u5 uq P),I])) (ub/\ub/\ub/\ub/\ub/\ub/\uy) (uz=false->G/\(F->(Z->u4/\u3/\Q (.d [.a .i64 (db U V 48 48),I]))/\(O->u4/\u3/\W/\Q (.d [.a .i64 (db U V 48 P),I])))/\(E->(Z->u4/\u3/\u0/\Q (.d [.a .i64 (db U V T 48),I]))/\(O->u4/\u3/\u0/\W/\Q (.d [.a .i64 (db U V T P),I])))) (u4/\uB/\u0/\W/\Q (.d [.a .i64 (db U um T P),I])) (ur->uA/\F/\O/\u4/\uB/\W/\Q (.d [.a .i64 (db U um 48 P),I])) (ui/\u3/\u0/\W/\Q (.d [.a .i64 (db u6 V T P),I])) (ui/\u3/\W/\Q (.d [.a .i64 (db u6 V 48 P),I])) (ui/\u0/\W/\Q (.d [.a .i64 (db u6 48 T P),I]))) (not Z) (not F) (not C) (not B) (af .u8 u6) (and (ab 48 u6) (ab u6 57)) (af .u8 um) (and (ab 48 um) (ab um 57)) (F=false) (C=false) (Z=false) (B=false) (uH->uI) (uH=false) (u9=false->uy) (un=false) (uJ=false) (ur=false) (ux=false)) (aa u2 88) (aa V 88) (aa T 88) (and (ab 48 P) (ab P 57)) (aa P 88) (and (ab 48 T) (ab T 57)) (and (ab 48 V) (ab V 57)) (and (ab 48 U) (ab U 57)) (not (bQ (not (ab P uF)) true)) (and (ab 48 u2) (ab u2 57)) (not (aa U 57)) (aa T ug) (not (bQ (not (ab T ug)) true)) (and (ab 48 u5) (ab u5 57)) (not (aa u5 57)) (aa V u5) (not (bQ (not (ab V u5)) true)) (aa u2 U) (aa P uF) (not (aa ug 57)) (not (bQ (not (ab u2 U)) true)) (ο U 1) (ο u5 1) (ο ug 1) (Q (.d [I,.a .i64 16])) (Q (.d [.a .i64 n,I]))) (.a .i64 0) (ν c3.toNat) (ν c2.toNat) (ο 48 (dg n 0)) (ν c1.toNat) (ν c0.toNat) (ο 48 (dg n 1)) (ο 48 (dg n 2)) (ο 48 (dg n 3))) (λ_=>by kernel_rfl) (hi:=ids) λQ' hQ=>?_;try dsimp only
 have yes:∀u,c_ c0 c1 c2 c3 n=some u->Q' (.d [.a .i64 u,.a .i64 0]):=λu hu=>by
  rw[hu]at hv';cases hv';exact hQ _ rfl
 have no:c_ c0 c1 c2 c3 n=none->Q' (.d [.a .i64 0,.a .i64 16]):=λhu=>by
  rw[hu]at hv';cases hv';grind
 generalize dg n 0=e0 at *;generalize dg n 1=e1 at *;generalize dg n 2=e2 at *;generalize dg n 3=e3 at *;clear d0 d1 d2 d3 hv hv' hQ ids;have all:∀(a b c d:Int),(48<=a/\a<=57)->(48<=b/\b<=57)->(48<=c/\c<=57)->(48<=d/\d<=57)->(c0.toNat=88\/(c0.toNat:Int)=a)->(c1.toNat=88\/(c1.toNat:Int)=b)->(c2.toNat=88\/(c2.toNat:Int)=c)->(c3.toNat=88\/(c3.toNat:Int)=d)->
  1000*e0+100*e1+10*e2+e3<=1000*(a-48)+100*(b-48)+10*(c-48)+(d-48)->
  (∀k0 k1 k2 k3:Int,(0<=k0/\k0<=9)->(0<=k1/\k1<=9)->(0<=k2/\k2<=9)->(0<=k3/\k3<=9)->(c0.toNat=88\/(c0.toNat:Int)=48+k0)->(c1.toNat=88\/(c1.toNat:Int)=48+k1)->(c2.toNat=88\/(c2.toNat:Int)=48+k2)->(c3.toNat=88\/(c3.toNat:Int)=48+k3)->
    1000*e0+100*e1+10*e2+e3<=1000*k0+100*k1+10*k2+k3->1000*(a-48)+100*(b-48)+10*(c-48)+(d-48)<=1000*k0+100*k1+10*k2+k3)->Q' (.d [.a .i64 (db a b c d),.a .i64 0]):=by
  intro a b c d ha hb hc hd m0 m1 m2 m3 hle hmin;refine yes _ (gF.2 ⟨?_,?_,λk hk hnk=>?_⟩)
  . unfold db;rw[pw (by omega) (by omega) (by omega) (by omega)];unfold mt;exact⟨by omega,by omega,by omega,by omega⟩
  . unfold db;omega
  . obtain⟨k0,k1,k2,k3,a1,a2,a3,a4,rfl,b1,b2,b3,b4⟩:=abJ hk;unfold db;exact hmin k0 k1 k2 k3 a1 a2 a3 a4 b1 b2 b3 b4 (by omega)
 have same:(c0.toNat=88\/(c0.toNat:Int)=48+e0)->(c1.toNat=88\/(c1.toNat:Int)=48+e1)->(c2.toNat=88\/(c2.toNat:Int)=48+e2)->(c3.toNat=88\/(c3.toNat:Int)=48+e3)->Q' (.d [.a .i64 n,.a .i64 0]):=λm0 m1 m2 m3=>by
  refine yes _ (gF.2 ⟨?_,Int.le_refl _,λk hk hnk=>hnk⟩);rw[hn2,pw g0 g1 g2 g3];exact⟨m0,m1,m2,m3⟩
 have non:(∀k0 k1 k2 k3:Int,(0<=k0/\k0<=9)->(0<=k1/\k1<=9)->(0<=k2/\k2<=9)->(0<=k3/\k3<=9)->(c0.toNat=88\/(c0.toNat:Int)=48+k0)->(c1.toNat=88\/(c1.toNat:Int)=48+k1)->(c2.toNat=88\/(c2.toNat:Int)=48+k2)->(c3.toNat=88\/(c3.toNat:Int)=48+k3)->
       1000*k0+100*k1+10*k2+k3<1000*e0+100*e1+10*e2+e3)->Q' (.d [.a .i64 0,.a .i64 16]):=λh=>by
  refine no (nJ.2 λk hk=>?_);obtain⟨k0,k1,k2,k3,a1,a2,a3,a4,rfl,b1,b2,b3,b4⟩:=abJ hk;have:=h k0 k1 k2 k3 a1 a2 a3 a4 b1 b2 b3 b4;omega
 clear yes no;simp only[az,reduceCtorEq]
 (repeat' first|exact trivial|refine⟨?_,?_⟩|intro)<;>first|omega|(refine same ?_ ?_ ?_ ?_<;>omega)|(refine all _ _ _ _ ?_ ?_ ?_ ?_ ?_ ?_ ?_ ?_ ?_ ?_<;>(intros;omega))|(refine non ?_;intros;omega)
def anI:dP:=λ
 | [.e [c0,c1,c2,c3],.a .i64 n,.b true]=>some (aH [fC c0,fC c1,fC c2,fC c3,ab 0 n,ab n 9999] (Et (c_ c0 c1 c2 c3 n)))
 | _=>none
def XJ:dP:=λ
 | [.e [c0,c1,c2,c3]]=>some (aH [fC c0,fC c1,fC c2,fC c3] (.a0 (.a .i64 0)))
 | _=>none
def lL(c:UInt8)(x:Int):Int:=(bif Nat.beq c.toNat 88 then x else(c.toNat:Int))-48
def gu(c0 c1 c2 c3:UInt8)(x:Int):Int:=1000*lL c0 x+100*lL c1 x+10*lL c2 x+lL c3 x
def WF:dP:=λ
 | [.e [c0,c1,c2,c3],.a .u8 x]=>some (aH [fC c0,fC c1,fC c2,fC c3,SH x] (.a0 (.a .i64 (gu c0 c1 c2 c3 x))))
 | _=>none
def U3:aQ:=d5 (d5 (d5 U2 219 anI) 216 XJ) 217 WF
def Ub:dP:=λ
 | [.e [c0,c1,c2,c3],.a .i64 n]=>some (aH [fC c0,fC c1,fC c2,fC c3] (Et (c_ c0 c1 c2 c3 n)))
 | _=>none
def U4:aQ:=d5 U3 139 Ub
theorem OJ:ec tab 216=some (dH 216,aL 216):=by rfl
theorem M6:ec tab 217=some (dH 217,aL 217):=by rfl
theorem JR(h0:fC c0)(h1:fC c1)(h2:fC c2)(h3:fC c3):∀(i:Nat) (h:i<(ByteArray.mk ⟨[c0,c1,c2,c3]⟩).size),Go.Proofs.YtcffhjfdlflbgaaGreatDoor.mb (ByteArray.mk ⟨[c0,c1,c2,c3]⟩)[i]:=by
 intro i h;rw[dD]at h0 h1 h2 h3;have hs:(ByteArray.mk ⟨[c0,c1,c2,c3]⟩).size=4:=rfl;have:i=0\/i=1\/i=2\/i=3:=by omega
 rcases this with rfl|rfl|rfl|rfl
 . exact h0
 . exact h1
 . exact h2
 . exact h3
theorem Pv:ak Tryz.prog cfg U3:=by
 refine au (au (au L0 λargs t v he hv=>?_) λargs t v he hv=>?_) λargs t v he hv=>?_
 . unfold anI at he;split at he
   . cases he;obtain⟨⟨h0,h1,h2,h3,h4,h5,-⟩,hv⟩:=aF hv;grind [aq,PG,dD]
   grind
 . unfold XJ at he;split at he
   . rename_i c0 c1 c2 c3;cases he;obtain⟨⟨h0,h1,h2,h3,-⟩,hv⟩:=aF hv;cases hv;refine dy OJ (by rfl) λm w hG=>?_;have:=Go.Proofs.YtcffhjfdlflbgaaGreatDoor.masks_Check ⟨⟨[c0,c1,c2,c3]⟩⟩ w (by show 1<=4;decide) (by show 4<=18;decide) (JR h0 h1 h2 h3);grind [ap,aj]
   grind
 . unfold WF at he;split at he
   . rename_i c0 c1 c2 c3 x;cases he;obtain⟨⟨h0,h1,h2,h3,h4,-⟩,hv⟩:=aF hv;unfold SH at h4;rw[zAa,aq,aq]at h4;cases hv;refine dy M6 (by rfl) λm w hG=>?_;have:=Go.Proofs.YtcffhjfdlflbgaaGreatDoor.masks_filled ⟨⟨[c0,c1,c2,c3]⟩⟩ x w h4 (by show 4<=18;decide) (JR h0 h1 h2 h3);grind [Go.Proofs.YtcffhjfdlflbgaaGreatDoor.fillv,gu,Go.Proofs.YtcffhjfdlflbgaaGreatDoor.dig,lL,gm,ic,ap,aj]
   grind
theorem Iv(h0:fC c0)(h1:fC c1)(h2:fC c2)(h3:fC c3)(hn:n<=0):c_ c0 c1 c2 c3 n=some (gu c0 c1 c2 c3 48):=by
 rw[dD]at h0 h1 h2 h3;have ed:∀c:UInt8,(c.toNat=88\/48<=c.toNat/\c.toNat<=57)->0<=lL c 48/\lL c 48<=9/\mt c (lL c 48)/\∀k,mt c k->0<=k->lL c 48<=k:=λc h=>by
  grind [lL,mt,gm,ic]
 obtain⟨a0,b0,m0,l0⟩:=ed c0 h0;obtain⟨a1,b1,m1,l1⟩:=ed c1 h1;obtain⟨a2,b2,m2,l2⟩:=ed c2 h2;obtain⟨a3,b3,m3,l3⟩:=ed c3 h3;rw[gF];unfold gu;refine⟨(pw ⟨a0,b0⟩ ⟨a1,b1⟩ ⟨a2,b2⟩ ⟨a3,b3⟩).2 ⟨m0,m1,m2,m3⟩,by omega,λk hk _=>?_⟩;obtain⟨k0,k1,k2,k3,x0,x1,x2,x3,rfl,y0,y1,y2,y3⟩:=abJ hk;have:=l0 k0 y0 x0.1;have:=l1 k1 y1 x1.1;have:=l2 k2 y2 x2.1;have:=l3 k3 y3 x3.1;omega
theorem PE:ak Tryz.prog cfg U4:=by
 refine au Pv λargs t v he hv=>?_;unfold Ub at he;split at he
 . rename_i c0 c1 c2 c3 n;cases he;obtain⟨⟨h0,h1,h2,h3,-⟩,hv⟩:=aF hv;have hv':Tr.b0 (bif za (c_ c0 c1 c2 c3 n)then .a0 (.d [.a .i64 (kp (c_ c0 c1 c2 c3 n)),.a .i64 0])else .a0 (.d [.a .i64 0,.a .i64 16]))=some v:=hv;have ids:aC v=[]:=by
    cases hb:za (c_ c0 c1 c2 c3 n)<;>rw[hb]at hv'<;>cases hv'<;>simp[aC,bw]
   have yes:∀u,c_ c0 c1 c2 c3 n=some u->v=(.d [.a .i64 u,.a .i64 0]):=λu hu=>by
    rw[hu]at hv';cases hv';rfl
   have no:c_ c0 c1 c2 c3 n=none->v=(.d [.a .i64 0,.a .i64 16]):=λhu=>by
    rw[hu]at hv';cases hv';rfl
   refine jD Pv ai (bE 114770142200562710270027040270) (R:=λQ=>(λ(G:AV)(A B C E F H:Bool)(I:Option Int)=>(λ(N:Bool)(O:Prop)=>(λ(P:Prop->Prop)=>P ((N->P (P (Q (.d [.a .i64 (gu c0 c1 c2 c3 48),G]))))/\(N=false->A/\A/\A/\A/\A/\A/\(H->O)/\(H=false->P (A/\ab n 9999/\(za I->Q (.d [.a .i64 (kp I),G]))/\(za I=false->O)))))) (λu0=>B/\C/\E/\F/\u0)) (not A) (Q (.d [G,.a .i64 16]))) (.a .i64 0) (ab 0 n) (fC c0) (fC c1) (fC c2) (fC c3) (not (not (ab 10000 n))) (c_ c0 c1 c2 c3 n)) (λ_=>by rfl) (hi:=ids) λQ' hQ=>?_;simp only[az,reduceCtorEq];have hle:∀k,nS c0 c1 c2 c3 k->k<=9999:=λk hk=>hk.2.1
   (repeat' first|exact trivial|refine⟨?_,?_⟩|intro)<;>first|omega|assumption|refine hQ _ ?_
   . grind [Iv]
   . grind [nJ]
   . rename_i hs;obtain⟨u,hu⟩:=Option.isSome_iff_exists.1 hs;rw[yes u hu,hu];rfl
   . rename_i hs;exact(no (by cases hx:c_ c0 c1 c2 c3 n with
      | none=>rfl
      | some u=>rw[hx]at hs;cases hs)).symm
 grind
theorem fb{v:Int}:cV c0 c1 c2 c3 n=some v↔nS c0 c1 c2 c3 v/\v<=n/\∀k,nS c0 c1 c2 c3 k->k<=n->k<=v:=by
 unfold cV;have dec:∀(l:List Nat),l.Pairwise (· < ·)->∀(p:Int->Bool) (v:Int),(l.map λi=>9999-ν i).find? p=some v->p v/\v∈l.map (λi=>9999-ν i)/\∀k∈l.map (λi=>9999-ν i),p k->k<=v:=by
  intro l hl p;induction l<;>grind [List.pairwise_cons]
 have mem:∀k,nS c0 c1 c2 c3 k->k∈(ς 10000).map (λi=>9999-ν i):=λk hk=>List.mem_map.2 ⟨(9999-k).toNat,List.mem_range.2 (by have:=hk.1;omega),by have:=hk.2.1;grind⟩;constructor
 . grind [π]
 . rintro⟨h1,h2,h3⟩;cases hf:((ς 10000).map λi=>9999-ν i).find? (λk=>decide (k<=n)&&decide (nS c0 c1 c2 c3 k))<;>grind [π]
theorem anv(hn:0<=n/\n<=9999)(hc0:c0.toNat=88\/48<=c0.toNat/\c0.toNat<=57)(hc1:c1.toNat=88\/48<=c1.toNat/\c1.toNat<=57)(hc2:c2.toNat=88\/48<=c2.toNat/\c2.toNat<=57)(hc3:c3.toNat=88\/48<=c3.toNat/\c3.toNat<=57)(hv:(Et (cV c0 c1 c2 c3 n)).b0=some v):bu Tryz.prog cfg 219 [.e [c0,c1,c2,c3],.a .i64 n,.b false] [] v []:=by
 obtain⟨d0,d1,d2,d3⟩:=Yj hn.1;have hv':Tr.b0 (bif za (cV c0 c1 c2 c3 n)then .a0 (.d [.a .i64 (kp (cV c0 c1 c2 c3 n)),.a .i64 0])else .a0 (.d [.a .i64 0,.a .i64 16]))=some v:=hv;have ids:aC v=[]:=by
  cases hb:za (cV c0 c1 c2 c3 n)<;>rw[hb]at hv'<;>cases hv'<;>simp[aC,bw]
 have g0:0<=dg n 0/\dg n 0<=9:=by omega
 have g1:0<=dg n 1/\dg n 1<=9:=by omega
 have g2:0<=dg n 2/\dg n 2<=9:=by omega
 have g3:0<=dg n 3/\dg n 3<=9:=by omega
 have hn2:n=1000*dg n 0+100*dg n 1+10*dg n 2+dg n 3:=by omega
 refine jD L0 ai (bE 10662088127000663551001200200066300062000620006254702002251202200066300062000625470200225127000663000625470200225400515564030202002200224062088127000661070056646355100122020006610202005664630006200062547020022512700066107005664630006254702002254005106620881270006635510012202000663630006200062547020022512700066363000625470200220588540051556403020200220022455403020200220022406208812700066107005664612022000661002200566400064635510012700066107005664612022000661002200566400064630006254702002254005106620881270006635510012022000663000626300062547020022058851270006630006254702002254005155640302020022002240620881270006610700566463551001270006610700566463630006254702002205885400510662088127000663551001270006636363000625470200220588058854005155640302020022002245540302020022002245540302020022002240620881270006610700566461202200066100220056640006461220200066102020056646120020006610002005664000640006463551004005106620881270006635510008851202200066300062000625470200225127000663000625470200225400515564030202002200224062088127000661070056646355100088512700066107005664630006254702002254005106620881270006635510008851270006636300062547020022058854005155640302020022002245540302020022002240620881270006610700566461202200066100220056640006463551000885400510662088127000663551000880588512700066300062547020022540051556403020200220022406208812700066107005664635510008805885400510662088127000663551000880588058854005155640302020022002245540302020022002245540302020022002245540302020022002246662200) (R:=λQ=>(λ(I:AV)(P T U V u2 u5 ug uF:Int)=>(λ(B C F W Z u0 u3 u4 u7 u8 u9 un uo up ur ux uz uG uH uJ uK:Bool)(u6 um uq:Int)(uy uI:Prop)=>(λ(A H Y ua uh ui uA uB:Bool)(E G O ub uc ud uj us ut uu uL:Prop)=>(λ(N u1 ue uk ul uv uw uC uM uN uO uP uQ uR:Prop)=>(λ(uf uD uE uS uT uU:Prop)=>(λ(v5:Prop->Prop->Prop)=>(λ(v4:Prop->Prop)=>(λ(v3:Prop->Prop)=>(λ(v2:Prop->Prop)=>(λ(v1:Prop->Prop)=>(λ(v0:Prop->Prop)=>(λ(uZ:Prop->Prop)=>(λ(uY:Prop->Prop)=>(λ(uX:Prop->Prop)=>(λ(uW:Prop->Prop)=>(λ(uV:Prop->Prop)=>ab 0 n/\ab n 9999/\(ua->v5 ua (ub/\(uG->(Y->v4 ((ux->(H->uY ((un->(A->uV (ud->(u7->v5 E uD)/\ue))/\uf)/\(us->(uo->uD)/\uv)))/\(N->uZ ((A->uV (ud->(u7->uX (ut->uD))/\ue))/\uf)))/\(uL->(uz->uC)/\uM)))/\(u1->v3 ((H->uY ((un->(A->uV (ud->(u7->v0 uE)/\ue))/\uf)/\(us->(uo->v1 (v1 (uT/\uE)))/\uv)))/\(N->uZ ((A->uV (ud->(u7->uX (ut->v1 (v1 (uO/\uE))))/\ue))/\uf)))))/\(uG=false->(uK->uy)/\(uK=false->ub/\(C->(F->(Z->u8/\Q (.d [.a .i64 (db u2 57 57 57),I]))/\(O->u8/\W/\Q (.d [.a .i64 (db u2 57 57 P),I])))/\(E->(Z->u8/\u0/\Q (.d [.a .i64 (db u2 57 T 57),I]))/\(O->u8/\u0/\W/\Q (.d [.a .i64 (db u2 57 T P),I]))))/\(G->(F->(Z->u8/\u3/\Q (.d [.a .i64 (db u2 V 57 57),I]))/\(O->u8/\u3/\W/\Q (.d [.a .i64 (db u2 V 57 P),I])))/\(E->(Z->u8/\u3/\u0/\Q (.d [.a .i64 (db u2 V T 57),I]))/\(O->u8/\u3/\u0/\W/\Q (.d [.a .i64 (db u2 V T P),I]))))))))/\(ul->v5 ul (B/\(Y->v4 ((ux->(H->uY ((un->(A->uV (ud->(u7->v5 E (uW ((u9->uh/\G/\E/\O/\uP)/\uj)))/\ue))/\uf)/\(us->(uo->uW ((u9->uh/\G/\E/\uU)/\uj))/\uv)))/\(N->uZ ((A->uV (ud->(u7->uX (ut->uW ((u9->uh/\G/\F/\O/\uQ)/\uj)))/\ue))/\uf)))/\(uL->(uz->v2 (v2 ((u9->uh/\G/\(F->(Z->ui/\u3/\Q (.d [.a .i64 (db u6 V 57 57),I]))/\(O->uQ))/\(E->uU))/\uj)))/\uM)))/\(u1->v3 ((H->uY ((un->(A->uV (ud->(u7->v0 (uu->v2 (v2 ((u9->uh/\C/\E/\O/\uR)/\uj))))/\ue))/\uf)/\(us->(uo->v1 (v1 (uT/\(uu->v2 (v2 ((u9->uh/\C/\E/\(Z->ui/\u0/\Q (.d [.a .i64 (db u6 57 T 57),I]))/\(O->uR))/\uj))))))/\uv)))/\(N->uZ ((A->uV (ud->(u7->uX (ut->v1 (v1 (uO/\(uu->v2 (v2 ((u9->uh/\C/\F/\O/\ui/\W/\Q (.d [.a .i64 (db u6 57 57 P),I]))/\uj)))))))/\ue))/\uf))))))) (λv6=>v5 A (O/\uc/\v6))) (λv6=>v5 G (v2 (v2 v6)))) (λv6=>v5 F (uw/\v6))) (λv6=>v5 H (E/\v6))) (λv6=>v5 N (F/\v6))) (λv6=>v5 E (v1 (v1 (uS/\v6))))) (λv6=>C/\C/\C/\v6)) (λv6=>B/\B/\B/\v6)) (λv6=>v5 u1 (C/\v6))) (λv6=>v5 Y (G/\v6))) (λv6 v7=>v6/\v6/\v6/\v6/\v6/\v6/\v7)) (uk->uk/\uk/\uk/\uk/\uk/\uk/\Z/\uI) (G/\G/\G/\G/\G/\G/\uC) (uu->uC) (ur->uA/\E/\O/\uN) (ur->uA/\E/\(Z->u4/\uB/\u0/\Q (.d [.a .i64 (db U um T 57),I]))/\(O->uN)) ((Z->ui/\u3/\u0/\Q (.d [.a .i64 (db u6 V T 57),I]))/\(O->uP))) (H=false) (Y=false) (u7=false->O/\u4/\up/\and (ab 48 ug) (ab ug 57)/\W/\Q (.d [.a .i64 (db U u5 ug P),I])) (A=false) (ua=false) (uo=false->E/\(Z->u4/\up/\u0/\Q (.d [.a .i64 (db U u5 T 57),I]))/\(O->u4/\up/\u0/\W/\Q (.d [.a .i64 (db U u5 T P),I]))) (uJ->af .u8 uq/\O/\u4/\up/\and (ab 48 uq) (ab uq 57)/\W/\Q (.d [.a .i64 (db U u5 uq P),I])) (ub/\ub/\ub/\ub/\ub/\ub/\uy) (uz=false->G/\(F->(Z->u4/\u3/\Q (.d [.a .i64 (db U V 57 57),I]))/\(O->u4/\u3/\W/\Q (.d [.a .i64 (db U V 57 P),I])))/\(E->(Z->u4/\u3/\u0/\Q (.d [.a .i64 (db U V T 57),I]))/\(O->u4/\u3/\u0/\W/\Q (.d [.a .i64 (db U V T P),I])))) (u4/\uB/\u0/\W/\Q (.d [.a .i64 (db U um T P),I])) (ur->uA/\F/\O/\u4/\uB/\W/\Q (.d [.a .i64 (db U um 57 P),I])) (ui/\u3/\u0/\W/\Q (.d [.a .i64 (db u6 V T P),I])) (ui/\u3/\W/\Q (.d [.a .i64 (db u6 V 57 P),I])) (ui/\u0/\W/\Q (.d [.a .i64 (db u6 57 T P),I]))) (not Z) (not F) (not C) (not B) (af .u8 u6) (and (ab 48 u6) (ab u6 57)) (af .u8 um) (and (ab 48 um) (ab um 57)) (F=false) (C=false) (Z=false) (B=false) (uH->uI) (uH=false) (u9=false->uy) (un=false) (uJ=false) (ur=false) (ux=false)) (aa u2 88) (aa V 88) (aa T 88) (and (ab 48 P) (ab P 57)) (aa P 88) (and (ab 48 T) (ab T 57)) (and (ab 48 V) (ab V 57)) (and (ab 48 U) (ab U 57)) (not (bQ (not (ab P uF)) false)) (and (ab 48 u2) (ab u2 57)) (not (aa U 48)) (aa T ug) (not (bQ (not (ab T ug)) false)) (and (ab 48 u5) (ab u5 57)) (not (aa u5 48)) (aa V u5) (not (bQ (not (ab V u5)) false)) (aa u2 U) (aa P uF) (not (aa ug 48)) (not (bQ (not (ab u2 U)) false)) (Int.sub U 1) (Int.sub u5 1) (Int.sub ug 1) (Q (.d [I,.a .i64 16])) (Q (.d [.a .i64 n,I]))) (.a .i64 0) (ν c3.toNat) (ν c2.toNat) (ο 48 (dg n 0)) (ν c1.toNat) (ν c0.toNat) (ο 48 (dg n 1)) (ο 48 (dg n 2)) (ο 48 (dg n 3))) (λ_=>by kernel_rfl) (hi:=ids) λQ' hQ=>?_;try dsimp only
 have yes:∀u,cV c0 c1 c2 c3 n=some u->Q' (.d [.a .i64 u,.a .i64 0]):=λu hu=>by
  rw[hu]at hv';cases hv';exact hQ _ rfl
 have no:cV c0 c1 c2 c3 n=none->Q' (.d [.a .i64 0,.a .i64 16]):=λhu=>by
  rw[hu]at hv';cases hv';grind
 generalize dg n 0=e0 at *;generalize dg n 1=e1 at *;generalize dg n 2=e2 at *;generalize dg n 3=e3 at *;clear d0 d1 d2 d3 hv hv' hQ ids;have all:∀(a b c d:Int),(48<=a/\a<=57)->(48<=b/\b<=57)->(48<=c/\c<=57)->(48<=d/\d<=57)->(c0.toNat=88\/(c0.toNat:Int)=a)->(c1.toNat=88\/(c1.toNat:Int)=b)->(c2.toNat=88\/(c2.toNat:Int)=c)->(c3.toNat=88\/(c3.toNat:Int)=d)->
  1000*(a-48)+100*(b-48)+10*(c-48)+(d-48)<=1000*e0+100*e1+10*e2+e3->
  (∀k0 k1 k2 k3:Int,(0<=k0/\k0<=9)->(0<=k1/\k1<=9)->(0<=k2/\k2<=9)->(0<=k3/\k3<=9)->(c0.toNat=88\/(c0.toNat:Int)=48+k0)->(c1.toNat=88\/(c1.toNat:Int)=48+k1)->(c2.toNat=88\/(c2.toNat:Int)=48+k2)->(c3.toNat=88\/(c3.toNat:Int)=48+k3)->
    1000*k0+100*k1+10*k2+k3<=1000*e0+100*e1+10*e2+e3->1000*k0+100*k1+10*k2+k3<=1000*(a-48)+100*(b-48)+10*(c-48)+(d-48))->Q' (.d [.a .i64 (db a b c d),.a .i64 0]):=by
  intro a b c d ha hb hc hd m0 m1 m2 m3 hle hmin;refine yes _ (fb.2 ⟨?_,?_,λk hk hnk=>?_⟩)
  . unfold db;rw[pw (by omega) (by omega) (by omega) (by omega)];unfold mt;exact⟨by omega,by omega,by omega,by omega⟩
  . unfold db;omega
  . obtain⟨k0,k1,k2,k3,a1,a2,a3,a4,rfl,b1,b2,b3,b4⟩:=abJ hk;unfold db;exact hmin k0 k1 k2 k3 a1 a2 a3 a4 b1 b2 b3 b4 (by omega)
 have same:(c0.toNat=88\/(c0.toNat:Int)=48+e0)->(c1.toNat=88\/(c1.toNat:Int)=48+e1)->(c2.toNat=88\/(c2.toNat:Int)=48+e2)->(c3.toNat=88\/(c3.toNat:Int)=48+e3)->Q' (.d [.a .i64 n,.a .i64 0]):=λm0 m1 m2 m3=>by
  refine yes _ (fb.2 ⟨?_,Int.le_refl _,λk hk hnk=>hnk⟩);rw[hn2,pw g0 g1 g2 g3];exact⟨m0,m1,m2,m3⟩
 have non:(∀k0 k1 k2 k3:Int,(0<=k0/\k0<=9)->(0<=k1/\k1<=9)->(0<=k2/\k2<=9)->(0<=k3/\k3<=9)->(c0.toNat=88\/(c0.toNat:Int)=48+k0)->(c1.toNat=88\/(c1.toNat:Int)=48+k1)->(c2.toNat=88\/(c2.toNat:Int)=48+k2)->(c3.toNat=88\/(c3.toNat:Int)=48+k3)->
       1000*e0+100*e1+10*e2+e3<1000*k0+100*k1+10*k2+k3)->Q' (.d [.a .i64 0,.a .i64 16]):=λh=>by
  refine no (nu.2 λk hk=>?_);obtain⟨k0,k1,k2,k3,a1,a2,a3,a4,rfl,b1,b2,b3,b4⟩:=abJ hk;have:=h k0 k1 k2 k3 a1 a2 a3 a4 b1 b2 b3 b4;omega
 clear yes no;simp only[az,reduceCtorEq]
 (repeat' first|exact trivial|refine⟨?_,?_⟩|intro)<;>first|omega|(refine same ?_ ?_ ?_ ?_<;>omega)|(refine all _ _ _ _ ?_ ?_ ?_ ?_ ?_ ?_ ?_ ?_ ?_ ?_<;>(intros;omega))|(refine non ?_;intros;omega)
end Go.Ev
end
