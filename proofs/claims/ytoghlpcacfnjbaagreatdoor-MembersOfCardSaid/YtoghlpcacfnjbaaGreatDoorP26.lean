import Derived.Test.YtoghlpcacfnjbaaGreatDoorP25
set_option linter.all false
set_option maxRecDepth 100000
set_option maxHeartbeats 4000000
section
namespace Go.Ev
open Go Go.Proofs
variable{s da:List UInt8}{ng lg:Bool}{e g b c:Int}{S:aR}{o:aC}
noncomputable def V3:aR:=fw V2 83 (fy 14 [1,1] Pt)
theorem GC:ak Tryz.prog cfg V3:=Rt rL
def Bx(s:List UInt8)(g:Nat):List Int:=match s with|[c0,c1]=>aw c0 c1 g|_=>[]
def Pj(ng:Bool)(s:List UInt8)(e:Int)(mo da:List UInt8):Bool:=wh (cP ng s e (-9223372036854775808) 0 0 mo da (Bx mo 12) (Bx da 31) (yV ng s e (-9223372036854775808) true) (yB ng s e (-9223372036854775808) true))
def bJ(ng lg:Bool)(s:List UInt8)(e g:Int)(mo da:List UInt8)(a b c:Int):Int:=
 bif aa (nh ng lg s e g mo da a b c) 0 then(bif af da []then 0 else bif Pj ng s e mo da then 0 else 8)else nh ng lg s e g mo da a b c
def SW:dJ:=λargs=>match args with
 | [.agg [.bool ng,.bool lg,.str s,.int .i64 e,.int .i64 g,.str mo,.str da,.int .u8 a,.int .u8 b,.int .u8 c]]=>some (aH [Nat.ble s.length 1000,Nat.ble mo.length 1000,Nat.ble da.length 1000,ae .i64 e,ae .i64 g,ae .u8 a,ae .u8 b,ae .u8 c] (.ret (.int .i64 (bJ ng lg s e g mo da a b c))))
 | _=>none
theorem FG{c:UInt8}{d:Int}(h:c.toNat=88\/(c.toNat:Int)=48+d)(h0:0<=d)(h1:d<=9):cg c=true:=by
 rw[dp];omega
theorem oD{g:Nat}(hg:g<=99)(h:eW s g):∃c0 c1,s=[c0,c1]/\cg c0/\cg c1/\aw c0 c1 g≠[]:=by
 unfold eW at h;obtain⟨k,hk,ha⟩:=List.any_eq_true.1 h;rw[List.mem_range]at hk
 match s,ha with
 | [c0,c1],ha=>
   have hi:=Ga.1 ha;refine⟨c0,c1,rfl,FG hi.1 (by omega) (by omega),FG hi.2 (by omega) (by omega),λhn=>?_⟩;have:((k:Int)+1)∈aw c0 c1 g:=iy.2 ⟨by omega,ha⟩;rw[hn]at this;cases this
 | [],ha=>simp[agr]at ha
 | [_],ha=>simp[agr]at ha
 | _::_::_::_,ha=>simp[agr]at ha
theorem LK(h:aZ ng lg s e g):k_ s=true:=by
 unfold aZ at h;rw[zAb]at h;unfold k_;by_cases hx:aT s 88 88=0
 . rw[gb hx];rfl
 . rw[g7 hx,Bool.false_or];have h4:s.length=4:=by omega
   have hm:=(Ti s).2 h.1
   match s,h4,hm with
   | [c0,c1,c2,c3],_,hm=>
     simp only[Go.Proofs.YtoghlpcacfnjbaaGreatDoor.mskB,List.all_cons,List.all_nil,Bool.and_true,zAa,zAb,Go.Proofs.YtoghlpcacfnjbaaGreatDoor.mb]at hm;simp only[zAa,dp];exact⟨of_decide_eq_true hm.1,of_decide_eq_true hm.2.1,of_decide_eq_true hm.2.2.1,of_decide_eq_true hm.2.2.2⟩
theorem fm{mo:List UInt8}{a:Int}(h:nh ng lg s e g mo da a b c=0)(hc:0<=errMk a b c (df mo da)):aZ ng lg s e g/\k_ s/\¬(0<g/\af mo []=false)/\(af mo []=false/\aL mo=0->eW mo 12=true)/\(af da []=false->af mo []=false/\aL mo=0/\eW da 31=true):=by
 have hn:=yc mo;unfold nh at h;by_cases h1:nP ng lg s e g mo=false
 . rw[if_pos h1]at h;omega
 . rw[if_neg h1]at h;by_cases h2:af mo []=false/\aL mo=0/\eW mo 12=false
   . rw[if_pos h2]at h;omega
   . rw[if_neg h2]at h;by_cases h3:af da []=false/\(af mo []\/0<aL mo\/eW da 31=false)
     . rw[if_pos h3]at h;omega
     . rw[Bool.not_eq_false]at h1;unfold nP at h1;rw[zAb]at h1;refine⟨h1.1,LK h1.1,h1.2.1,λ⟨k1,k2⟩=>?_,λhd=>⟨?_,?_,?_⟩⟩
       . rw[<-Bool.not_eq_false];exact λk3=>h2 ⟨k1,k2,k3⟩
       . rw[<-Bool.not_eq_true];exact λk=>h3 ⟨hd,.inl k⟩
       . have:¬0<aL mo:=λk=>h3 ⟨hd,.inr (.inl k)⟩;omega
       . rw[<-Bool.not_eq_false];exact λk=>h3 ⟨hd,.inr (.inr k)⟩
theorem fo{a n:Int}:0<=errMk a b c n:=by unfold errMk;(repeat' split)<;>omega
theorem iT{mo:List UInt8}{a:Int}(h:nh ng lg s e g mo da a b c=0)(hd:af da []=false) :
 ∃m0 m1 d0 d1,mo=[m0,m1]/\da=[d0,d1]/\cg m0/\cg m1/\cg d0/\cg d1/\aw m0 m1 12≠[]/\aw d0 d1 31≠[]/\aL mo=0/\aZ ng lg s e g/\k_ s/\g=0:=by
 obtain⟨h1,h2,h3,h4,h5⟩:=fm h fo;obtain⟨k1,k2,k3⟩:=h5 hd;obtain⟨m0,m1,rfl,a1,a2,a3⟩:=oD (by decide) (h4 ⟨k1,k2⟩);obtain⟨d0,d1,rfl,b1,b2,b3⟩:=oD (by decide) k3;have hg:0<=g:=by
  have:=h1;unfold aZ at this;rw[zAb]at this;exact this.2.1
 refine⟨m0,m1,d0,d1,rfl,rfl,a1,a2,b1,b2,a3,b3,k2,h1,h2,?_⟩;have:¬0<g:=λk=>h3 ⟨k,k1⟩;omega
theorem jo{M:List Int}:gE (aQ M)=M:=by
 unfold gE aQ;rw[List.map_map];exact List.map_id' M
theorem gR{M:List Int}:(aQ M).all (cq .i64)=true:=by
 unfold aQ;rw[List.all_map];exact List.all_eq_true.2 λx _=>rfl
theorem oZ{c0 c1:UInt8}:mN da (aw c0 c1 12)=true:=by
 unfold mN;rw[List.all_eq_true];intro x hx;have:=iy.1 hx;unfold okM;rw[Bool.or_eq_true,zAa,ao,ao];right;omega
theorem ZD{mo:List UInt8}{a:Int}(hs:s.length<=1000)(hmo:mo.length<=1000)(hda:da.length<=1000)(he : -9223372036854775808<=e/\e<=9223372036854775807)(hg : -9223372036854775808<=g/\g<=9223372036854775807)(ha:0<=a/\a<=255)(hb:0<=b/\b<=255)(hc:0<=c/\c<=255) :
 bt Tryz.prog cfg 47 [.agg [.bool ng,.bool lg,.str s,.int .i64 e,.int .i64 g,.str mo,.str da,.int .u8 a,.int .u8 b,.int .u8 c]] [] (.int .i64 (bJ ng lg s e g mo da a b c)) []:=by
 unfold bJ;cases hE:aa (nh ng lg s e g mo da a b c) 0 with
 | false=>
   refine iI GC ag (bA 1777006) (R:=λQ=>(λ(A:Int)=>Nat.ble s.length 1000/\Nat.ble mo.length 1000/\Nat.ble da.length 1000/\ae .i64 e/\ae .i64 g/\ae .u8 a/\ae .u8 b/\ae .u8 c/\not (aa A 0)/\Q (.int .i64 A)) (nh ng lg s e g mo da a b c)) (λ_=>by kernel_rfl) λQ' hQ=>?_;try dsimp only
   rw[cond_false]at hQ;have hQ:=hQ _ rfl;rw[ay]at hE;generalize nh ng lg s e g mo da a b c=r at *;simp only[az,reduceCtorEq]
   (repeat' first|exact trivial|refine⟨?_,?_⟩|intro)<;>first|contradiction|omega|assumption
 | true=>
   rw[cond_true];cases hd:af da []with
   | true=>
     refine iI GC ag (bA 12032277006) (R:=λQ=>Nat.ble s.length 1000/\Nat.ble mo.length 1000/\Nat.ble da.length 1000/\ae .i64 e/\ae .i64 g/\ae .u8 a/\ae .u8 b/\ae .u8 c/\not (aa (nh ng lg s e g mo da a b c) 0)=false/\af da []/\Q (.int .i64 0)) (λ_=>by kernel_rfl) λQ' hQ=>?_;rw[cond_true]at hQ;have hQ:=hQ _ rfl;rw[al]at hE;generalize nh ng lg s e g mo da a b c=r at *;simp only[az,reduceCtorEq]
     (repeat' first|exact trivial|refine⟨?_,?_⟩|intro)<;>first|contradiction|omega|assumption
   | false=>
     have hE':=al.mp hE;obtain⟨m0,m1,d0,d1,rfl,rfl,h0,h1,h2,h3,k1,k2,hse,ho,hx,hg0⟩:=iT hE' hd;have n1:g9 (aw m0 m1 12)=false:=by unfold g9;cases h:aw m0 m1 12 with|nil=>exact absurd h k1|cons x xs=>rfl
     have n2:g9 (aw d0 d1 31)=false:=by unfold g9;cases h:aw d0 d1 31 with|nil=>exact absurd h k2|cons x xs=>rfl
     refine iI GC ag (bA 11407022770563002205300225322700200056663227002006) (R:=λQ=>(λ(C:Bool)(G H:List Int)(E F:List UInt8)=>(λ(I N:Nat)=>(λ(O P:Nat)=>(λ(A B:List AV)=>(λ(T:Bool)=>(λ(U:Prop->Prop)=>U (not (aa (nh ng lg s e g E F a b c) 0)=false/\U (not (aa (aL E) 0)=false/\cg m0/\cg m1/\g9 G=false/\cg d0/\cg d1/\g9 H=false/\and (and true (and (Nat.ble (HAdd.hAdd 0 O) (List.length (aQ G))) (bw 14 A))) (and (Nat.ble (HAdd.hAdd 0 P) (List.length (aQ H))) (bw 14 B))/\List.all A (cq .i64)/\List.all B (cq .i64)/\Nat.beq A.length I/\Nat.beq B.length N/\Nat.ble I 1000/\Nat.ble N 1000/\mN F (gE A)/\aZ ng lg s e g/\C/\k_ s/\(T->Q (.int .i64 8))/\(T=false->Q (.int .i64 0))))) (λu0=>C/\ae .i64 e/\ae .i64 g/\ae .u8 a/\ae .u8 b/\ae .u8 c/\u0)) (not (wh (cP ng s e (Neg.neg 9223372036854775808) 0 0 E F (gE A) (gE B) (yV ng s e (Neg.neg 9223372036854775808) true) (yB ng s e (Neg.neg 9223372036854775808) true))))) (cN (aQ G) 0 O) (cN (aQ H) 0 P)) (HMul.hMul I 1) (HMul.hMul N 1)) (dy G) (dy H)) (Nat.ble s.length 1000) (aw m0 m1 12) (aw d0 d1 31) [m0,m1] [d0,d1]) (λ_=>by kernel_rfl) λQ' hQ=>?_;try dsimp only
     rw[cond_false]at hQ;have w1:cN (aQ (aw m0 m1 12)) 0 (dy (aw m0 m1 12)*1)=aQ (aw m0 m1 12):=ta;have w2:cN (aQ (aw d0 d1 31)) 0 (dy (aw d0 d1 31)*1)=aQ (aw d0 d1 31):=ta;have l1:dy (aw m0 m1 12)=(aw m0 m1 12).length:=rfl;have l2:dy (aw d0 d1 31)=(aw d0 d1 31).length:=rfl;have z1:=eU m0 m1 12;have z2:=eU d0 d1 31;have hF:Pj ng s e [m0,m1] [d0,d1]=wh (cP ng s e (-9223372036854775808) 0 0 [m0,m1] [d0,d1] (aw m0 m1 12) (aw d0 d1 31) (yV ng s e (-9223372036854775808) true) (yB ng s e (-9223372036854775808) true)):=rfl;rw[hF]at hQ;have aM:mN [d0,d1] (aw m0 m1 12)=true:=oZ;have aX:∀M:List Int,Nat.ble (0+M.length*1) M.length=true:=λM=>by simp
     simp only[l1,l2,@ta,jo,gR,dF,cZ,aM,aX,Bool.and_true,Bool.true_and];generalize wh (cP ng s e (-9223372036854775808) 0 0 [m0,m1] [d0,d1] (aw m0 m1 12) (aw d0 d1 31) (yV ng s e (-9223372036854775808) true) (yB ng s e (-9223372036854775808) true))=r at *;rw[al]at hE;clear hF aM w1 w2 hE';generalize nh ng lg s e g [m0,m1] [d0,d1] a b c=er at *;generalize aL [m0,m1]=se at *;generalize aw m0 m1 12=M at *;generalize aw d0 d1 31=D at *;have h8:r=false->Q' (.int .i64 8):=λh=>hQ _ (by rw[h];rfl);have h9:r->Q' (.int .i64 0):=λh=>hQ _ (by rw[h];rfl);clear hQ;simp only[az,reduceCtorEq]
     (repeat' first|exact trivial|refine⟨?_,?_⟩|intro)<;>first|contradiction|omega|assumption|(exact h8 (by assumption))|(exact h9 (by assumption))
theorem Gy(hS:ak Tryz.prog cfg S):ak Tryz.prog cfg (aY S 47 SW):=au hS λargs t v he hv=>by
 unfold SW at he;split at he
 . cases he;obtain⟨⟨h1,h2,h3,h4,h5,h6,h7,h8,-⟩,hv⟩:=aF hv;rw[aq]at h1 h2 h3;rw[aB]at h4 h5 h6 h7 h8;simp only[dP,dR]at h4 h5 h6 h7 h8;cases hv;exact ZD h1 h2 h3 h4 h5 h6 h7 h8
 . cases he
theorem iO{a d:Int}:a_ a b c d=0↔(a=0\/a = -1/\b=0)/\(c=0\/c=1/\d=0)/\(a<c\/a=c/\b<=d):=by
 have h1:=wT a b c d;have h2:=@FZ a b;have h3:=@FZ c d;unfold a_;constructor
 . intro h;by_cases hc:cw a b=0/\cw c d=0
   . rw[if_pos hc]at h;have e1:=h2.1 hc.1;have e2:=h3.1 hc.2;by_cases h4:0<a\/c<0
     . rw[if_pos h4]at h;omega
     . rw[if_neg h4]at h;by_cases h5:0<cK a b c d
       . rw[if_pos h5]at h;omega
       . omega
   . rw[if_neg hc]at h;omega
 . intro h;have e1:cw a b=0:=h2.2 (by omega);have e2:cw c d=0:=h3.2 (by omega);rw[if_pos ⟨e1,e2⟩,if_neg (by omega),if_neg (by omega)]
def S8:aR:=S7
theorem Ke:ak Tryz.prog cfg S8:=tK
structure Rn where
 a:Int
 b:Int
 c:Int
 d:Int
def j7:Rn:=⟨0,0,0,0⟩
def bB:List Rn->List AV
 | []=>[]
 | r::rs=>.int .i8 r.a::.int .i64 r.b::.int .i8 r.c::.int .i64 r.d::bB rs
def tC(f:Nat->Int):Nat->Nat->Int
 | _,0=>0
 | i,n+1=>if f i=0 then tC f (i+1) n else f i
def KS(q r:Rn)(i:Nat):Int:=if a_ r.a r.b r.c r.d=0 then(if 0<i/\(0<GU q.a q.b q.c q.d r.a r.b r.c r.d\/s7 q.a q.b q.c q.d r.a r.b r.c r.d=true)then 12 else 0)else a_ r.a r.b r.c r.d
def pR(R:List Rn)(i:Nat):Int:=KS (R.getD (i-1) j7) (R.getD i j7) i
def ip(R:List Rn):Int:=tC (pR R) 0 R.length
def YQ(R:List Rn):d9:=λvs o=>match vs,o with
 | [.slice 14 0 n k,.int .i64 z,.slice 14 0 n' k',.int .i64 n'',.int .i64 i],⟨0,[],[]⟩=>some (aH [Nat.ble n 1000,Nat.beq R.length n,Nat.beq n' n,aa n'' (Int.ofNat n),aa i 0,aa z 0] (.test (aa (ip R) 0) λb=>bif b then .ret (.exit 0,[.slice 14 0 n k,.int .i64 0,.slice 14 0 n' k',.int .i64 n'',.int .i64 n''],dO)else .all λJ=>.ret (.ret,[.slice 14 0 n k,.int .i64 (ip R),.slice 14 0 n' k',.int .i64 n'',.any (J 0)],dO)))
 | _,_=>none
def L58(R:List Rn):cz:=iz io 0 (eb 43 [0,2,9,10,11] (YQ R))
theorem VW.trans{C:bg}{kb tn:Nat}{rel:List Nat}{vs vs' vs'':List AV}{o' o'':aC}(h1:VW cfg C kb tn rel vs o vs' o')(h2:VW cfg C kb tn rel vs' o' vs'' o''):VW cfg C kb tn rel vs o vs'' o'':=λJ=>(h1 J).trans λs ⟨J',e⟩=>by rw[e];exact h2 J'
theorem FW{ws:List aE}{tn:Nat}{rel:List Nat}{vs vs':List AV}(hw:∀x∈ws,cR 14 x)(hle:o.le=[])(hvs:xE (kr (14+ws.length+0) [] 20) vs=some vs'):VW cfg (Cw cfg ws) 0 tn rel vs o vs' dO:=
 VW.move dG.lv (C:=Cw cfg ws) (kb:=0) (sel:=[]) (Bf hw) (Nat.zero_le _) (λs hs=>by cases hs) List.nodup_nil (λp hp=>by rw[hle]at hp;cases hp) hle.symm rfl rfl (λi hi=>absurd hi (Nat.not_lt_zero i)) (λt ht=>absurd ht (Nat.not_lt_zero t)) hvs
theorem Al{f:Nat->Int}:∀{n i k:Nat},(∀j,i<=j->j<k->f j=0)->i<=k->k<i+n->f k≠0->tC f i n=f k
 | 0,i,k,_,h1,h2,_=>by omega
 | n+1,i,k,h,h1,h2,h3=>by
   rw[tC];by_cases e:i=k
   . subst e;rw[if_neg h3]
   . rw[if_pos (h i (Nat.le_refl _) (by omega))];exact Al (λj hj hk=>h j (by omega) hk) (by omega) (by omega) h3
theorem xQ{f:Nat->Int}:∀{n i:Nat},(∀j,i<=j->j<i+n->f j=0)->tC f i n=0
 | 0,_,_=>rfl
 | n+1,i,h=>by
   rw[tC,if_pos (h i (Nat.le_refl _) (by omega))];exact xQ λj hj hk=>h j (by omega) (by omega)
theorem px{r:Rn}{rs:List Rn}{n:Nat}{v:AV}:(bB (r::rs)).getD (n+4) v=(bB rs).getD n v:=rfl
theorem BK{R:List Rn}{i:Nat}(h:i<R.length):(bB R).getD (i*4) (.tuple [])=.int .i8 (R.getD i j7).a/\(bB R).getD (i*4+1) (.tuple [])=.int .i64 (R.getD i j7).b/\(bB R).getD (i*4+2) (.tuple [])=.int .i8 (R.getD i j7).c/\(bB R).getD (i*4+3) (.tuple [])=.int .i64 (R.getD i j7).d:=by
 induction R generalizing i with
 | nil=>exact absurd h (Nat.not_lt_zero _)
 | cons r rs ih=>
   cases i with
   | zero=>exact⟨rfl,rfl,rfl,rfl⟩
   | succ i=>
     obtain⟨h1,h2,h3,h4⟩:=ih (i:=i) (by simpa using h);rw[show(i+1)*4=i*4+4 by omega,show i*4+4+1=i*4+1+4 by omega,show i*4+4+2=i*4+2+4 by omega,show i*4+4+3=i*4+3+4 by omega,px,px,px,px];exact⟨h1,h2,h3,h4⟩
theorem Pg{j:Nat}:Int.toNat (Int.sub (Int.ofNat (j+1)) 1)=j:=by
 show((j:Int)+1-1).toNat=j;omega
theorem rm:∀{R:List Rn},bz (bB R)=[]
 | []=>rfl
 | r::rs=>by simp only[bB,bz,aD,List.nil_append];exact rm
theorem jk{R:List Rn}:∀x∈[aE.cells (bB R) false none],cR 14 x:=λx hx=>by
 simp only[zAf]at hx;subst hx;refine⟨rfl,λi hi=>?_⟩;exfalso;simp only[Ho,rm]at hi;cases hi
theorem YE{R:List Rn}(hR:∀i,i<R.length->GV (R.getD i j7).d):cx Tryz.prog (cH cfg S8) (Cw cfg [.cells (bB R) false none]) (lb 46 0) 43 [0,2,9,10,11] (YQ R):=by
 have hw:=@jk R;intro vs o t Q hv hq J;unfold YQ at hv;split at hv
 . rename_i n k z n' k' n'' i;cases hv;replace hq:=cL hq;obtain⟨⟨h1,h2,h3,h4,h5,h6,-⟩,hq⟩:=hq;rw[aq]at h1;rw[aK]at h2 h3;rw[al]at h4 h5 h6;subst h2 h3 h4 h5 h6;simp only[aH,Tr.wp]at hq;refine im Ke rfl rfl ag (ι:={i:Nat // i<=R.length/\∀j,j<i->pR R j=0}) (λx=>[.slice 14 0 R.length k,.int .i64 0,.slice 14 0 R.length k',.int .i64 (Int.ofNat R.length),.int .i64 (Int.ofNat x.1)]) (λ_=>dO) (λx=>R.length-x.1) 0 (λ_=>Nat.le_refl _) (λx J=>?_) (Nat.le_refl _) (λJ=>Wk.refl ⟨⟨0,Nat.zero_le _,λj hj=>absurd hj (Nat.not_lt_zero j)⟩,J,rfl⟩) J;obtain⟨i,hi,hz⟩:=x;dsimp only;refine jT (bA 1120330005338810788121423275777747577774140522704) (R:=λQ=>(λ(C I N u2:AV)(G u0:Int)(u1:Nat)=>(λ(O V u4:AV)(A u3:Bool)(W u6:Int)(u5:Nat)=>(λ(u7:AV)(u9:Bool)(P:Int)(u8 ua:Nat)(B:Prop)=>(λ(ub uc:AV)(T:Int)(ud:Nat)=>(λ(ue:AV)(H U:Int)(uf:Nat)=>(λ(ui:AV)(uh:Bool)(ug:Int)(uj:Nat)(uk ul:Prop)=>(λ(uo up:AV)(um un:Bool)=>(λ(uq ur:Bool)(Y:Int)=>(λ(Z us:Bool)=>(λ(E:Bool)=>(λ(F:Prop)=>(λ(ut:Prop->Prop)=>(u3->aW i R.length/\cq .i8 u4/\cq .i64 u7/\cq .i8 ub/\cq .i64 uc/\(um->Q (.ret,[I,.int .i64 ug,N,O,V],⟨1,[.cells [.int .i8 P,.int .i64 T,.int .i8 U,.int .i64 H] true none],[]⟩))/\(um=false->(A->A/\A/\u9/\A/\ut (A/\uh/\un/\uq/\ur/\A/\A/\A/\A/\(E->E/\E/\u9/\E/\ut (E/\uh/\un/\uq/\ur/\E/\E/\ae .i64 Y/\ae .i64 H/\A/\Z=false/\A/\(us->uk)/\(us=false->ul)))/\(F->F/\F/\F/\F/\F/\F/\A/\Z/\A/\uk)))/\(B->B/\B/\B/\B/\B/\B/\B/\B/\B/\B/\ul)))/\(u3=false->Q (.exit 0,[I,u2,N,O,V],⟨0,[],[]⟩))) (λuu=>ab 0 W/\aW ua R.length/\uu)) (E=false)) (not Z)) (not (ab (GU (bC ue) (bC ui) (bC uo) Y P T U H) 0)) (s7 (bC ue) (bC ui) (bC uo) Y P T U H)) (cq .i8 uo) (cq .i64 up) (bC up)) (List.getD (bB R) uj C) (List.getD (bB R) (HAdd.hAdd uj 1) C) (not (aa ug 0)) (cq .i64 ui)) (List.getD (bB R) uf C) (cq .i8 ue) (a_ P T U H) (HAdd.hAdd uf 1) (Q (.ret,[I,.int .i64 12,N,O,V],⟨1,[.cells [.int .i8 P,.int .i64 T,.int .i8 U,.int .i64 H] true none],[]⟩)) (ae .i64 u6/\Q (.normal,[I,u2,N,O,.int .i64 u6],⟨1,[.cells [.int .i8 P,.int .i64 T,.int .i8 U,.int .i64 H] true none],[]⟩))) (List.getD (bB R) ud C) (bC uc) (bC ub) (HAdd.hAdd ud 1)) (List.getD (bB R) u8 C) (List.getD (bB R) (HAdd.hAdd u8 1) C) (bC u7) (HAdd.hAdd 0 (HMul.hMul ua 4))) (List.getD (bB R) u5 C) (ae .i64 W) (bC u4) (HAdd.hAdd u5 1) W.toNat (A=false)) (.int .i64 u0) (.int .i64 G) (List.getD (bB R) u1 C) (not (ab G 0)) (not (ab u0 G)) (Int.sub G 1) (Int.add G 1) (HAdd.hAdd u1 1)) (.tuple []) (.slice 14 0 R.length k) (.slice 14 0 R.length k') (.int .i64 0) (Int.ofNat i) (Int.ofNat R.length) (HAdd.hAdd 0 (HMul.hMul i 4))) (λ_=>by kernel_rfl) λQ' hQ=>?_;try dsimp only
   have yes:i<R.length->∀e,pR R i=e->e≠0->∀J:Nat->Value,Q (.ret,[.slice 14 0 R.length k,.int .i64 e,.slice 14 0 R.length k',.int .i64 (Int.ofNat R.length),.any (J 0)],dO):=λhlt e he hne J2=>by
    have hc:ip R=e:=he▸Al (λj _ hj=>hz j hj) (Nat.zero_le _) (by omega) (he.symm▸hne);rw[hc,ay.mpr hne]at hq;exact hq J2
   have no:i=R.length->Q (.exit 0,[.slice 14 0 R.length k,.int .i64 0,.slice 14 0 R.length k',.int .i64 (Int.ofNat R.length),.int .i64 (Int.ofNat R.length)],dO):=λhe=>by
    subst he;have hc:ip R=0:=xQ λj _ hj=>hz j (by omega);rw[hc]at hq;exact hq
   have next:pR R i=0->∀j,j<i+1->pR R j=0:=λh j hj=>by
    by_cases e:j=i
    . subst e;exact h
    . exact hz j (by omega)
   clear hq;by_cases hlt:i<R.length
   . obtain⟨f1,f2,f3,f4⟩:=BK hlt;have b1:=hR i hlt;have ret:∀(e:Int) (o:aC),o.le=[]->pR R i=e->e≠0->∃vs2 o2,VW cfg (Cw cfg [.cells (bB R) false none]) 0 43 [0,2,9,10,11] [.slice 14 0 R.length k,.int .i64 e,.slice 14 0 R.length k',.int .i64 (Int.ofNat R.length),.int .i64 (Int.ofNat i)] o vs2 o2/\Q (.ret,vs2,o2):=λe o ho he hne=>
      ⟨_,_,(FW hw ho rfl).trans (VW.any (.same (.same (.same (.same (.int .nil))))) rfl),yes hlt e he hne (jv [_])⟩
     have go:∀(o:aC),o.le=[]->pR R i=0->∃y:{i:Nat // i<=R.length/\∀j,j<i->pR R j=0},R.length-y.1<R.length-i/\VW cfg (Cw cfg [.cells (bB R) false none]) 0 43 [0,2,9,10,11] [.slice 14 0 R.length k,.int .i64 0,.slice 14 0 R.length k',.int .i64 (Int.ofNat R.length),.int .i64 (Int.add (Int.ofNat i) 1)] o [.slice 14 0 R.length k,.int .i64 0,.slice 14 0 R.length k',.int .i64 (Int.ofNat R.length),.int .i64 (Int.ofNat y.1)] dO:=λo ho h0=>
      ⟨⟨i+1,by omega,next h0⟩,by dsimp only;omega,FW hw ho rfl⟩
     have hE:pR R i=KS (R.getD (i-1) j7) (R.getD i j7) i:=rfl;rw[hE]at ret go;clear yes no next hz hE;cases i with
     | zero=>
       clear hR;simp only[Nat.add_assoc,Nat.reduceAdd,Nat.zero_add,Nat.add_zero,f1,f2,f3,f4,cq,bC,gN,kS]at *;generalize R.getD 0 j7=r at *;unfold KS at ret go;simp only[az,reduceCtorEq]
       (repeat' first|exact trivial|refine⟨?_,?_⟩|intro)<;>first|contradiction|omega|assumption|refine hQ _ ?_
       . exact ret _ _ rfl (by rw[if_neg (by assumption)]) (by assumption)
       . exact go _ rfl (by rw[if_pos (by assumption),if_neg (by omega)])
     | succ j=>
       obtain⟨g1,g2,g3,g4⟩:=BK (R:=R) (i:=j) (by omega);have b2:=hR j (by omega);clear hR;rw[show j+1-1=j by omega]at ret go;simp only[Pg,Nat.add_assoc,Nat.reduceAdd,Nat.zero_add,Nat.add_zero,f1,f2,f3,f4,g1,g2,g3,g4,cq,bC,gN,kS]at *;generalize R.getD (j+1) j7=r at *;generalize R.getD j j7=q at *;unfold KS at ret go;unfold GV at b1 b2;simp only[az,reduceCtorEq]
       (repeat' first|exact trivial|refine⟨?_,?_⟩|intro)<;>first|contradiction|omega|assumption|refine hQ _ ?_
       all_goals first
        | exact ret _ _ rfl (by rw[if_neg (by assumption)]) (by assumption)
        | exact ret 12 _ rfl (by rw[if_pos (by assumption),if_pos ⟨by omega,.inl (by assumption)⟩]) (by decide)
        | exact ret 12 _ rfl (by rw[if_pos (by assumption),if_pos ⟨by omega,.inr (by assumption)⟩]) (by decide)
        | exact go _ rfl (by rw[if_pos (by assumption),if_neg (by rintro⟨_,h|h⟩<;>simp_all<;>omega)])
   . obtain rfl:i=R.length:=by omega
     have no:=no rfl;simp only[az,reduceCtorEq]
     (repeat' first|exact trivial|refine⟨?_,?_⟩|intro)<;>first|contradiction|omega|assumption|(refine hQ _ ?_;exact⟨_,_,VW.refl,no⟩)
 . cases hv
def jD:List AV->List Rn
 | .int .i8 a::.int .i64 b::.int .i8 c::.int .i64 d::r=>⟨a,b,c,d⟩::jD r
 | _=>[]
def eQ:List AV->Bool
 | []=>true
 | .int .i8 _::.int .i64 b::.int .i8 _::.int .i64 d::r=>ae .i64 b&&(ae .i64 d&&eQ r)
 | _=>false
theorem iH:∀{w:List AV},eQ w->bB (jD w)=w
 | [],_=>rfl
 | .int .i8 a::.int .i64 b::.int .i8 c::.int .i64 d::r,h=>by
   simp only[eQ,zAa]at h;simp only[jD,bB,iH h.2.2]
theorem Gb:∀{w:List AV},eQ w->∀i,i<(jD w).length->GV ((jD w).getD i j7).d
 | [],_,i,hi=>absurd hi (Nat.not_lt_zero _)
 | .int .i8 a::.int .i64 b::.int .i8 c::.int .i64 d::r,h,i,hi=>by
   simp only[eQ,zAa,aB,dP,dR]at h;cases i with
   | zero=>exact h.2.1
   | succ i=>exact Gb h.2.2 i (by simpa [jD]using hi)
def SC:bh tab 46=some (dC 46,aN 46):=by kernel_rfl
def NZ:(bj (aN 46)).map (·.1)=[0]:=by kernel_rfl
theorem ZG{R:List Rn}{k:eZ}(hR:∀i,i<R.length->GV (R.getD i j7).d)(hn:R.length<=1000):bt Tryz.prog cfg 46 [.slice 14 0 R.length k] [.cells (bB R) false none] (.int .i64 (ip R)) []:=by
 refine zh Ke (L:=L58 R) jk SC (by simp) (dv NZ λi hi e he st Q hw=>?_) (jT (bA 11400273) (R:=λQ=>(λ(B:Bool)(A:Int)=>not (ab A 4096)=false/\Nat.ble R.length 1000/\Nat.beq R.length R.length/\Nat.beq R.length R.length/\aa A A/\(B->(∀J1:Nat->Value,Q (.int .i64 0)))/\(B=false->(∀J1 J2:Nat->Value,Q (.int .i64 (ip R))))) (aa (ip R) 0) (Int.ofNat R.length)) (λ_=>by kernel_rfl) λQ' hQ=>?_) (by simp[aD])
 . have hi:i=0:=by simp at hi;omega
   subst hi;cases he;exact b7 (cF.good Ke) (by decide) rfl (YE hR) hw
 . have h0:ip R=0->Q' (.int .i64 0):=λh=>hQ _ (by rw[h]);simp only[az,reduceCtorEq]
   (repeat' first|exact trivial|refine⟨?_,?_⟩|intro)<;>first|contradiction|omega|assumption|(exact h0 (by assumption))|exact hQ _ rfl
def XH:lB:=λargs ws=>match args,ws with
 | [.slice 14 0 n k],[.cells w false none]=>some (aH [eQ w,Nat.beq (jD w).length n,Nat.ble n 1000] (.ret (.int .i64 (ip (jD w)),[])))
 | _,_=>none
theorem UH(hS:ak Tryz.prog cfg S):ak Tryz.prog cfg (fw S 46 (fy 14 [4] XH)):=by
 refine bm hS (ga dG.lv AD λargs ws t r he hr=>?_);unfold XH at he;split at he
 . rename_i n k w;cases he;replace hr:=aF hr;obtain⟨⟨h1,h2,h3,-⟩,hr⟩:=hr;rw[aK]at h2;rw[aq]at h3;subst h2;cases hr;have key:=ZG (R:=jD w) (k:=k) (Gb h1) h3;rw[iH h1]at key;exact⟨key,λx hx=>by cases hx⟩
 . cases he
end Go.Ev
end
section
namespace Go.Ev
open Go Go.Proofs Go.Proofs.YtoghlpcacfnjbaaGreatDoor
def aJ(d:Int):Int:=yOf d
def bu(d:Int):Int:=mOf d
def bR(d:Int):Bool:=ab (-3652425000000000000) d&&ab d 3652425000000000365
theorem Rf:yst (-10000000000000000) = -3652425000000000000:=by decide
theorem KR:yst 10000000000000001=3652425000000000366:=by decide
theorem pq{d:Int}:okY (yOf d)↔bR d=true:=by
 obtain⟨h1,h2⟩:=yOf_spec d;unfold bR okY;rw[zAa,ao,ao,<-Rf];have e:∀x:Int,x<=3652425000000000365↔x<yst 10000000000000001:=λx=>by rw[KR];omega
 rw[e];generalize yOf d=y at *;constructor
 . rintro⟨a,b⟩;have:=yst_le a;have:=yst_le (show y+1<=10000000000000001 by omega);omega
 . rintro⟨a,b⟩;refine⟨?_,?_⟩
   . have:=λh:y+1<=-10000000000000000=>yst_le h;omega
   . have:=λh:10000000000000001<=y=>yst_le h;omega
def Qf:dJ:=λargs=>match args with
 | [.int .i64 d]=>some (aH [ae .i64 d] (.test (bR d) λb=>bif b then .ret (.tuple [.int .i64 (aJ d),.int .i64 0])else .ret (.tuple [.int .i64 0,.int .i64 6])))
 | _=>none
def Ve:aR:=aY ZQ 164 Qf
def QX:d9:=λvs o=>match vs,o with
 | [.int .i64 y,.int .i64 l,.int .i64 i,.int .i64 a,.int .i64 b],⟨0,[],[]⟩=>some (aH [eB y,aa i 0,aa a 0,aa b 0,ab 0 l,Bool.not (ab (365+ii y) l)] (.all λJ=>.ret (.ret,[.int .i64 y,.any (J 0),.any (J 1),.int .i64 (mOfL y l),.int .i64 0],dO)))
 | _,_=>none
def PE:dJ:=λargs=>match args with
 | [.int .i64 d]=>some (aH [ae .i64 d] (.test (bR d) λb=>bif b then .ret (.tuple [.int .i64 (aJ d),.int .i64 (bu d),.int .i64 0])else .ret (.tuple [.int .i64 0,.int .i64 0,.int .i64 6])))
 | _=>none
def XI:cz:=iz io 0 (eb 43 [2,7,26,3,4] QX)
def Nx:bh tab 154=some (dC 154,aN 154):=by kernel_rfl
def E2:bh tab 164=some (dC 164,aN 164):=by kernel_rfl
def JU:(bj (aN 154)).map (·.1)=[0]:=by kernel_rfl
theorem wg:ak Tryz.prog cfg Ve:=by
 refine au JM λargs t v he hv=>?_;unfold Qf at he;split at he
 . rename_i d;cases he;obtain⟨h1,hv⟩:=bK hv;rw[aB]at h1;simp only[dP,dR]at h1;have hv':Tr.run (bif bR d then Tr.ret (AV.tuple [.int .i64 (aJ d),.int .i64 0])else Tr.ret (AV.tuple [.int .i64 0,.int .i64 6]))=some v:=hv;cases hc:bR d with
   | true=>
     rw[hc]at hv';cases hv';refine dq E2 (by simp[aD,bz]) λm w hG=>?_;simpa [ap,aj,aJ]using years_Of_ok d w hG h1.1 h1.2 (pq.2 hc)
   | false=>
     rw[hc]at hv';cases hv';refine dq E2 (by simp[aD,bz]) λm w hG=>?_;simpa [ap,aj,aJ]using years_Of_no d w hG h1.1 h1.2 (λh=>by rw[pq.1 h]at hc;cases hc)
 . cases he
theorem Qt(y:Int):mcum y 1=0:=by unfold mcum;rw[if_pos (by decide)]
theorem Vd:cx Tryz.prog (cH cfg Ve) (Cw cfg []) (lb 154 0) 43 [2,7,26,3,4] QX:=by
 intro vs o t Q hv hq J;unfold QX at hv;split at hv
 . rename_i y l i a b;cases hv;obtain⟨h1,hq1⟩:=cY hq;obtain⟨h2,hq2⟩:=cY hq1;obtain⟨h3,hq3⟩:=cY hq2;obtain⟨h4,hq4⟩:=cY hq3;obtain⟨h5,hq5⟩:=cY hq4;obtain⟨h6,hq6⟩:=cY hq5;clear hq hq1 hq2 hq3 hq4 hq5;rw[al]at h2 h3 h4;rw[ao]at h5;rw[mr,bY]at h6;subst h2 h3 h4;have hy:=bV.1 h1;have hq:∀J:Nat->Value,Q (.ret,[.int .i64 y,.any (J 0),.any (J 1),.int .i64 (mOfL y l),.int .i64 0],dO):=hq6;have hs:=mOfL_spec y l h5 h6;have h13:=mcum_13 y;refine im wg rfl rfl ag (ι:={i:Nat // (i:Int)+1<=mOfL y l}) (λx=>[.int .i64 y,.int .i64 (l-mcum y ((x.1:Int)+1)),.int .i64 (x.1:Int),.int .i64 0,.int .i64 0]) (λ_=>dO) (λx=>12-x.1) 0 (λ_=>Nat.zero_le _) (λx J=>?_) (Nat.le_refl _) (λJ=>Wk.refl ⟨⟨0,by simp;omega⟩,J,by
    have e:l-mcum y (((0:Nat):Int)+1)=l:=by rw[show((0:Nat):Int)+1=1 from rfl,Qt];omega
    dsimp only;rw[e];rfl⟩) J
   obtain⟨i,hi⟩:=x;dsimp only;refine jT (bA 1212412422022) (R:=λQ=>(λ(B E:AV)(A:Int)=>(λ(F:AV)(C H:Bool)(G:Int)=>(λ(I:Bool)=>not (ab 12 i)/\C/\and (ab (Neg.neg 10000000000000000) y) (ab y 10000000000000000)/\and (ab 1 A) (ab A 12)/\(H->C/\Q (.ret,[E,.int .i64 (l-mcum y ((i:Int)+1)),.int .i64 i,F,B],⟨0,[],[]⟩))/\(H=false->(I->C/\Q (.normal,[E,.int .i64 G,F,B,B],⟨0,[],[]⟩))/\(I=false->C/\Q (.normal,[E,.int .i64 (IntKind.wrap .i64 G),F,B,B],⟨0,[],[]⟩)))) (ae .i64 G)) (.int .i64 A) (ae .i64 A) (not (ab (dX y A) (l-mcum y ((i:Int)+1)))) (Int.sub (l-mcum y ((i:Int)+1)) (dX y A))) (.int .i64 0) (.int .i64 y) (Int.add i 1)) (λ_=>by kernel_rfl) λQ' hQ=>?_;try dsimp only
   have e:=mcum_succ y ((i:Int)+1) (by omega) (by omega);have m1:=mcum_mono y (a:=(i:Int)+1) (b:=mOfL y l) (by omega) hi;have m2:¬(i:Int)+1=mOfL y l->mcum y ((i:Int)+1+1)<=mcum y (mOfL y l):=λh=>mcum_mono y (by omega) (by omega);have m3:(i:Int)+1=mOfL y l->mcum y ((i:Int)+1+1)=mcum y (mOfL y l+1):=λh=>by rw[h]
   have b2:=iF y ((i:Int)+1);have b3:=mcum_bd y ((i:Int)+1) (by omega) (by omega);have em:dX y ((i:Int)+1)=mlen y ((i:Int)+1):=rfl;have l2:0<=ii y/\ii y<=1:=lp_01 y;have go:mcum y ((i:Int)+1+1)<=l->Q' (.normal,[.int .i64 y,.int .i64 (l-mcum y ((i:Int)+1)-dX y ((i:Int)+1)),.int .i64 ((i:Int)+1),.int .i64 0,.int .i64 0],dO):=λh=>
    hQ (.normal,_,_) ⟨⟨i+1,by
     have:¬(i:Int)+1=mOfL y l:=λh'=>by have:=m3 h';omega
     simp;omega⟩,by dsimp only;omega,VW.of_eq (by
     have:l-mcum y ((i:Int)+1)-dX y ((i:Int)+1)=l-mcum y (((i+1:Nat):Int)+1):=by rw[show(((i+1:Nat):Int)+1)=(i:Int)+1+1 by omega,e,em];omega
     rw[this];rfl) rfl⟩
   have fin:l<mcum y ((i:Int)+1+1)->Q' (.ret,[.int .i64 y,.int .i64 (l-mcum y ((i:Int)+1)),.int .i64 (i:Int),.int .i64 ((i:Int)+1),.int .i64 0],dO):=λh=>by
    have e2:(i:Int)+1=mOfL y l:=by
     refine Classical.byContradiction λh'=>?_;have:=m2 h';omega
    refine hQ (.ret,_,_) ⟨_,_,VW.any (.same (.int (.int (.same (.same .nil))))) rfl,?_⟩;rw[e2];exact hq (jv [_,_])
   clear hQ hq hq6;rw[<-em]at e;simp only[az,reduceCtorEq];have om:qD ((i:Int)+1)=true:=gz.2 (by omega);generalize dX y ((i:Int)+1)=ml at *;generalize mcum y ((i:Int)+1+1)=c2 at *;generalize mcum y ((i:Int)+1)=c1 at *
   (repeat' first|exact trivial|refine⟨?_,?_⟩|intro)<;>first|omega|exact go (by omega)|exact fin (by omega)
 . cases hv
theorem RW{S:aR}(hS:ak Tryz.prog cfg S):ak Tryz.prog cfg (aY S 154 PE):=by
 refine au hS λargs t v he hv=>?_;unfold PE at he;split at he
 . rename_i d;cases he;obtain⟨h1,hv⟩:=bK hv;rw[aB]at h1;simp only[dP,dR]at h1;have hv':Tr.run (bif bR d then Tr.ret (AV.tuple [.int .i64 (aJ d),.int .i64 (bu d),.int .i64 0])else Tr.ret (AV.tuple [.int .i64 0,.int .i64 0,.int .i64 6]))=some v:=hv;have ids:aD v=[]:=by
    cases hb:bR d<;>rw[hb]at hv'<;>cases hv'<;>simp[aD,bz]
   refine kw wg (L:=XI) Nx (by simp) (dv JU λi hi e he st Q hw=>?_) (jT (bA 1011114400021114400024400420) (R:=λQ=>(λ(C:AV)(A:Int)=>(λ(H:AV)(E:Bool)(B G:Int)=>(λ(I N:Bool)(F:Int)=>(λ(O:Bool)=>ae .i64 d/\(bR d->(E->(I->E/\(ab 0 B->(N->(∀J1 J2:Nat->Value,Q (.tuple [H,.int .i64 (mOfL A B),C])))/\(N=false->False))/\(ab 0 B=false->False))/\(I=false->E/\(ab 0 F->(O->(∀J1 J2:Nat->Value,Q (.tuple [H,.int .i64 (mOfL A F),C])))/\(O=false->False))/\(ab 0 F=false->False)))/\(E=false->False))/\(bR d=false->Q (.tuple [C,C,.int .i64 6]))) (not (ab G F))) (ae .i64 B) (not (ab G B)) (IntKind.wrap .i64 B)) (.int .i64 A) (and (ab (Neg.neg 10000000000000000) A) (ab A 10000000000000000)) (Int.sub d (bf A)) (HAdd.hAdd 365 (ii A))) (.int .i64 0) (aJ d)) (λ_=>by kernel_rfl) λQ' hQ=>?_) ids
   . have hi:i=0:=by simp at hi;omega
     subst hi;cases he;exact b7 (cF.good wg) (by decide) rfl Vd hw
   . dsimp only;obtain⟨y1,y2⟩:=yOf_spec d;rw[yst_succ]at y2;have yes:bR d->Q' (.tuple [.int .i64 (aJ d),.int .i64 (mOfL (aJ d) (d-bf (aJ d))),.int .i64 0]):=λh=>by
      rw[h]at hv';cases hv';exact hQ _ rfl
     have no:bR d=false->Q' (.tuple [.int .i64 0,.int .i64 0,.int .i64 6]):=λh=>by
      rw[h]at hv';cases hv';exact hQ _ rfl
     have yb:bR d->-10000000000000000<=aJ d/\aJ d<=10000000000000000:=λh=>pq.2 h;have y1:bf (aJ d)<=d:=y1;have y2:d<bf (aJ d)+365+ii (aJ d):=y2;have l2:0<=ii (aJ d)/\ii (aJ d)<=1:=lp_01 _;clear hQ hv hv' ids;cases hc:bR d with
     | true=>
       have yes:=yes hc;obtain⟨c1,c2⟩:=yb hc;have c3:=qK (y:=aJ d) c1 (by omega);clear no yb;generalize bf (aJ d)=ys at *;generalize aJ d=yy at *;generalize ii yy=ll at *;simp only[az,reduceCtorEq]
       (repeat' first|exact trivial|refine⟨?_,?_⟩|intro)<;>first|omega|exact yes|(exfalso;assumption)|(rename_i h;cases h)
     | false=>
       have no:=no hc;simp only[az,reduceCtorEq]
       (repeat' first|exact trivial|refine⟨?_,?_⟩|intro)<;>first|omega|contradiction|exact no
 . cases he
end Go.Ev
end
section
namespace Go.Ev
open Go Go.Proofs
def Zb:dJ:=λargs=>match args with
 | [.int .i64 a,.int .i64 b]=>some (aH [ae .i64 a,aa b 400 || (aa b 146097 || aa b 12)] (.ret (.int .i64 (cV a b))))
 | _=>none
def ZR:dJ:=λargs=>match args with
 | [.int .i64 y]=>some (aH [ae .i64 y] (.ret (.int .i64 (ii y))))
 | _=>none
def R1:aR:=aY (aY gX 43 Zb) 73 ZR
def ZO:dJ:=λargs=>match args with
 | [.int .i64 y,.int .i64 m]=>some (aH [ae .i64 y] (.ret (.int .i64 (dX y m))))
 | _=>none
def ZE(y:Int):Bool:=ab (-10000000000000000) y&&ab y 10000000000000001
def ZS:dJ:=λargs=>match args with
 | [.int .i64 y]=>some (aH [ZE y] (.ret (.int .i64 (bf y))))
 | _=>none
def R2:aR:=aY (aY R1 76 ZO) 72 ZS
theorem Cv{a b:Int}(hb:0<b):(a.tmod b<0->a.tdiv b-1=cV a b)/\(0<=a.tmod b->a.tdiv b=cV a b):=by
 have h1:=Int.mul_tdiv_add_tmod a b;have h2:=Int.emod_add_mul_ediv a b;have h3:=Int.emod_nonneg a (show b≠0 by omega);have h4:=Int.emod_lt_of_pos a hb;have h5 : -b<a.tmod b/\a.tmod b<b:=⟨Int.lt_tmod_of_pos a hb,Int.tmod_lt_of_pos a hb⟩;unfold cV;refine⟨λh=>?_,λh=>?_⟩
 . symm
   refine(Int.ediv_emod_unique (r:=a.tmod b+b) hb).2 ⟨?_,by omega,by omega⟩ |>.1
   rw[Int.mul_sub];omega
 . symm
   exact((Int.ediv_emod_unique (r:=a.tmod b) hb).2 ⟨by omega,by omega,by omega⟩).1
theorem Fd:ak Tryz.prog cfg R1:=by
 refine au (au aV λargs t v he hv=>?_) λargs t v he hv=>?_
 . unfold Zb at he;split at he
   . rename_i a b;cases he;obtain⟨⟨h1,h2,-⟩,hv⟩:=aF hv;rw[aB]at h1;simp only[dP,dR]at h1;rw[Bool.or_eq_true,Bool.or_eq_true,al,al,al]at h2;cases hv;rcases h2 with rfl|rfl|rfl
     . refine iI aV ag (bA 120122040) (R:=λQ=>(λ(B:Bool)(A:Int)=>(λ(C:Bool)(E:Int)=>(B->C/\ae .i64 E/\Q (.int .i64 E))/\(B=false->C/\Q (.int .i64 A))) (ae .i64 A) (Int.sub A 1)) (not (ab 0 (Int.tmod a 400))) (Int.tdiv a 400)) (λ_=>by kernel_rfl) λQ' hQ=>?_;try dsimp only
       obtain⟨k1,k2⟩:=@Cv a 400 (by decide);have tb:=Go.Proofs.YtoghlpcacfnjbaaGreatDoor.tdiv_bd a 400 (by decide) h1.1 h1.2;simp only[az,reduceCtorEq]
       (repeat' first|exact trivial|refine⟨?_,?_⟩|intro)<;>first|omega|refine hQ _ ?_
       . rw[<-k1 (by assumption)]
       . rw[<-k2 (by omega)]
     . refine iI aV ag (bA 120122040) (R:=λQ=>(λ(B:Bool)(A:Int)=>(λ(C:Bool)(E:Int)=>(B->C/\ae .i64 E/\Q (.int .i64 E))/\(B=false->C/\Q (.int .i64 A))) (ae .i64 A) (Int.sub A 1)) (not (ab 0 (Int.tmod a 146097))) (Int.tdiv a 146097)) (λ_=>by kernel_rfl) λQ' hQ=>?_;try dsimp only
       obtain⟨k1,k2⟩:=@Cv a 146097 (by decide);have tb:=Go.Proofs.YtoghlpcacfnjbaaGreatDoor.tdiv_bd a 146097 (by decide) h1.1 h1.2;simp only[az,reduceCtorEq]
       (repeat' first|exact trivial|refine⟨?_,?_⟩|intro)<;>first|omega|refine hQ _ ?_
       . rw[<-k1 (by assumption)]
       . rw[<-k2 (by omega)]
     . refine iI aV ag (bA 120122040) (R:=λQ=>(λ(B:Bool)(A:Int)=>(λ(C:Bool)(E:Int)=>(B->C/\ae .i64 E/\Q (.int .i64 E))/\(B=false->C/\Q (.int .i64 A))) (ae .i64 A) (Int.sub A 1)) (not (ab 0 (Int.tmod a 12))) (Int.tdiv a 12)) (λ_=>by kernel_rfl) λQ' hQ=>?_;try dsimp only
       obtain⟨k1,k2⟩:=@Cv a 12 (by decide);have tb:=Go.Proofs.YtoghlpcacfnjbaaGreatDoor.tdiv_bd a 12 (by decide) h1.1 h1.2;simp only[az,reduceCtorEq]
       (repeat' first|exact trivial|refine⟨?_,?_⟩|intro)<;>first|omega|refine hQ _ ?_
       . rw[<-k1 (by assumption)]
       . rw[<-k2 (by omega)]
   . cases he
 . unfold ZR at he;split at he
   . rename_i y;cases he;obtain⟨h1,hv⟩:=bK hv;rw[aB]at h1;simp only[dP,dR]at h1;cases hv;refine iI aV ag (bA 10330008107331142322024220240) (R:=λQ=>(λ(A E G:Bool)(H I:Prop)=>(λ(C:Bool)(B:Prop)=>(λ(F:Prop)=>(A->A/\A/\A/\(C->C/\C/\A/\E=false/\A/\(G->H)/\(G=false->I))/\(F->F/\F/\A/\E/\A/\H))/\(B->B/\B/\B/\B/\B/\I)) (C=false)) (not E) (A=false)) (aa (Int.tmod y 4) 0) (not (aa (Int.tmod y 100) 0)) (aa (Int.tmod y 400) 0) (Q (.int .i64 1)) (Q (.int .i64 0))) (λ_=>by kernel_rfl) λQ' hQ=>?_;try dsimp only
     have z:∀k:Int,y.tmod k=0↔y%k=0:=λk=>by rw[<-Int.dvd_iff_tmod_eq_zero,<-Int.dvd_iff_emod_eq_zero]
     have yes:(y%4=0/\(y%100≠0\/y%400=0))->Q' (.int .i64 1):=λh=>hQ _ (by unfold ii Go.Proofs.YtoghlpcacfnjbaaGreatDoor.lp;rw[if_pos h]);have no:¬(y%4=0/\(y%100≠0\/y%400=0))->Q' (.int .i64 0):=λh=>hQ _ (by unfold ii Go.Proofs.YtoghlpcacfnjbaaGreatDoor.lp;rw[if_neg h]);simp only[az,reduceCtorEq];simp only[z]
     (repeat' first|exact trivial|refine⟨?_,?_⟩|intro)<;>first|omega|(refine yes ?_;omega)|(refine no ?_;omega)
   . cases he
theorem B1:ak Tryz.prog cfg R2:=by
 refine au (au Fd λargs t v he hv=>?_) λargs t v he hv=>?_
 . unfold ZO at he;split at he
   . rename_i y m;cases he;obtain⟨h1,hv⟩:=bK hv;rw[aB]at h1;simp only[dP,dR]at h1;cases hv;have hl:0<=ii y/\ii y<=1:=Go.Proofs.YtoghlpcacfnjbaaGreatDoor.lp_01 y;refine iI Fd ag (bA 10005231523102311432432432412204) (R:=λQ=>(λ(B C E:Bool)(I:Int)(A:Prop)=>(λ(F G H:Bool)=>(λ(N O P:Prop)=>(aa m 2->ae .i64 y/\ae .i64 I/\Q (.int .i64 I))/\(aa m 2=false->(F->F/\B=false/\(G->G/\C=false/\(H->H/\E=false/\(aa m 11->A)/\(aa m 11=false->Q (.int .i64 31)))/\(N->N/\E/\A))/\(O->O/\C/\A))/\(P->P/\B/\A))) (H=false) (G=false) (F=false)) (not B) (not C) (not E)) (aa m 4) (aa m 6) (aa m 9) (Int.add 28 (ii y)) (Q (.int .i64 30))) (λ_=>by kernel_rfl) λQ' hQ=>?_;try dsimp only
     have fin:∀n:Int,n=dX y m->Q' (.int .i64 n):=λn h=>hQ _ (by rw[h]);simp only[az,reduceCtorEq]
     (repeat' first|exact trivial|refine⟨?_,?_⟩|intro)<;>first|omega|(refine fin _ ?_;unfold dX Go.Proofs.YtoghlpcacfnjbaaGreatDoor.mlen;(repeat' split)<;>first|omega|rfl)
   . cases he
 . unfold ZS at he;split at he
   . rename_i y;cases he;obtain⟨h1,hv⟩:=bK hv;unfold ZE at h1;rw[zAa,ao,ao]at h1;cases hv;have hf:cV y 400*400<=y/\y<=cV y 400*400+399:=by unfold cV;omega
     refine iI Fd ag (bA 1220707077020) (R:=λQ=>(λ(B C:Int)=>(λ(A:Int)=>(λ(E F G H:Int)=>(λ(I N O P:Int)=>(λ(T:Int)=>(λ(U:Int)=>(λ(V:Int)=>ae .i64 y/\ae .i64 B/\ae .i64 A/\ae .i64 C/\ae .i64 E/\ae .i64 I/\ae .i64 F/\ae .i64 N/\ae .i64 T/\ae .i64 G/\ae .i64 O/\ae .i64 U/\ae .i64 H/\ae .i64 P/\ae .i64 V/\Q (.int .i64 V)) (Int.add U P)) (Int.sub T O)) (Int.add I N)) (Int.add C E) (Int.tdiv F 4) (Int.tdiv G 100) (Int.tdiv H 400)) (Int.mul 365 A) (Int.add A 3) (Int.add A 99) (Int.add A 399)) (Int.sub y B)) (Int.mul (cV y 400) 400) (Int.mul (cV y 400) 146097)) (λ_=>by kernel_rfl) λQ' hQ=>?_;try dsimp only
     have fin:∀n:Int,n=bf y->Q' (.int .i64 n):=λn h=>hQ _ (by rw[h]);simp only[az,reduceCtorEq];have t1:(y-cV y 400*400+3).tdiv 4=(y-cV y 400*400+3)/4:=Int.tdiv_eq_ediv_of_nonneg (by omega);have t2:(y-cV y 400*400+99).tdiv 100=(y-cV y 400*400+99)/100:=Int.tdiv_eq_ediv_of_nonneg (by omega);have t3:(y-cV y 400*400+399).tdiv 400=(y-cV y 400*400+399)/400:=Int.tdiv_eq_ediv_of_nonneg (by omega);simp only[t1,t2,t3]
     (repeat' first|exact trivial|refine⟨?_,?_⟩|intro)<;>first|omega|(refine fin _ ?_;unfold bf;rw[Go.Proofs.YtoghlpcacfnjbaaGreatDoor.yst_cycles];unfold cV;omega)
   . cases he
end Go.Ev
end
