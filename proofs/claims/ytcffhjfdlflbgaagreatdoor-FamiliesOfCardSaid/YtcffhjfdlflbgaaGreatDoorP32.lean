import Derived.Test.YtcffhjfdlflbgaaGreatDoorP31
set_option linter.all false
open List renaming mem_cons_self->ν,mem_cons_of_mem->ξ,pairwise_singleton->ο,getElem_mem->ς,mem_cons->υ
open Nat renaming ble->π,beq->τ
open HAdd renaming hAdd->σ
set_option linter.all false
set_option maxRecDepth 100000
set_option maxHeartbeats 4000000
namespace Go.Ev
open Go Go.Proofs
variable{S:aQ}{D:DT}{x y r:Rn}{ea la:Bool}{L:List Rn}
def acB(x:Da):List AV:=.a .u8 1::x.ng::x.lg::x.s::x.e::x.g::x.mo::x.da::.a .u8 x.a::.a .u8 x.b::.a .u8 x.c::.a .u8 0::false::false::.f []::.a .i64 0::.a .i64 0::.f []::.f []::.a .u8 0::.a .u8 0::.a .u8 0::.a .u8 0::false::false::.f []::.a .i64 0::.a .i64 0::.f []::.f []::.a .u8 0::.a .u8 0::.a .u8 0::.d::false::false::[]
def sZ(k:Int)(x:Da):List AV:=.a .u8 k::x.ng::x.lg::x.s::x.e::x.g::x.mo::x.da::.a .u8 x.a::.a .u8 x.b::.a .u8 x.c::[]
def ra(f t:List AV):List AV:=.a .u8 2::.e false::.e false::.f []::.a .i64 0::.a .i64 0::.f []::.f []::.a .u8 0::.a .u8 0::.a .u8 0::(f++(t++[.d,.e false,.e false]))
abbrev FQ:Type:=AV×List cD
def ags(v:AV)(o:aB):List Nat:=match v with
 | .c (.b i _ _ _::_)=>(match o.at (i-14)with
   | .a (_::.b j _ _ _::_) _ _=>[j-14,i-14]
   | _=>[i-14])
 | _=>[]
def ai9(ρ:List (Nat×Nat)):List cD->Option (List cD)
 | []=>some []
 | .a cs rw g::xs=>ob (yw (kG 14 ρ 20) cs) λcs'=>ob (ai9 ρ xs) λys=>some (.a cs' rw g::ys)
 | _=>none
def aja(r:AV×aB):Tr FQ:=bif A3 r.2.le&&decide ((∀s∈ags r.1 r.2,s<r.2.n)/\(ags r.1 r.2).Nodup)then(match kG 14 (eM 14 0 (ags r.1 r.2)) 20 r.1,ai9 (eM 14 0 (ags r.1 r.2)) ((ags r.1 r.2).map r.2.at)with
 | some v,some bs=>.a0 (v,bs.reverse)
 | _,_=>.c0)else .c0
theorem af5{ρ:List (Nat×Nat)}:∀{xs ys:List cD},ai9 ρ xs=some ys->ys.length=xs.length/\∀t,t<xs.length->WD 14 ρ (xs.getD t .b) (ys.getD t .b)
 | [],ys,h=>by cases h;exact⟨rfl,nofun⟩
 | .a cs rw g::xs,ys,h=>by
   simp only[ai9,ag,zAb]at h;obtain⟨cs',h1,zs,h2,rfl⟩:=h;obtain⟨e1,e2⟩:=af5 h2;refine⟨congrArg (·+1) e1,λt ht=>?_⟩;cases t with
   | zero=>exact .inr ⟨_,_,_,_,rfl,h1,rfl⟩
   | succ t=>exact e2 t (Nat.lt_of_succ_lt_succ ht)
 | .b::_,_,h=>by cases h
theorem ajo{r:AV×aB}{q:FQ}(h:(aja r).wp (·=q)):dL [] q.1 q.2 r:=by
 obtain⟨v,n,os,le⟩:=r;unfold aja at h;dsimp only at h;generalize ags v ⟨n,os,le⟩=sel at h;cases hb:A3 le&&decide ((∀s∈sel,s<n)/\sel.Nodup)<;>rw[hb]at h
 . exact h.elim
 rw[zAa,zAc]at hb;obtain⟨hl,hs,hn⟩:=hb;cases le with
 | cons _ _=>cases hl
 | nil=>
   rw[cond_true]at h;split at h
   . rename_i v' bs e1 e2;obtain rfl:(v',bs.reverse)=q:=h;obtain⟨l1,l2⟩:=af5 e2;rw[List.length_map]at l1 l2;refine(oX dI.lv (C:=Cw cfg []) (st:=⟨.c0 v .a0 .a0,1,⟨n,os,[]⟩,[],none⟩) (kb:=0) (sel:=sel) (ts':=.c0 v' .a0 .a0) (o':=⟨bs.reverse.length,bs.reverse,[]⟩) zW (Nat.zero_le _) (λs h=>⟨Nat.zero_le _,hs s h⟩) hn nofun rfl (by rw[List.length_reverse,l1,Nat.zero_add]) rfl (λi hi=>absurd hi (Nat.not_lt_zero i)) (λt ht=>?_) (by show xB (kG 14 (eM 14 0 sel) 20) _=_;simp only[xB,e1,ob]) nofun nofun).b0 λs hs=>by rw[hs];exact⟨rfl,rfl⟩
     have:=l2 t ht;rw[show(sel.map (⟨n,os,[]⟩:aB).at).getD t .b=(⟨n,os,[]⟩:aB).at (sel.getD t 0)by grind]at this;rw[show(⟨bs.reverse.length,bs.reverse,[]⟩:aB).at (0+t)=bs.getD t .b by show bs.reverse.getD _ _=_;grind];exact this
   . exact h.elim
noncomputable def fT(S:aQ)(f:Nat)(args:List AV):Tr FQ:=xz eS (cH cfg S) (tK S) jE 1000 (Cw cfg []) (aL f) (jS (dH f) args dO) λx=>aT (wj eS (Cw cfg []) (dH f) x) aja
theorem zd(hS:ak Tryz.prog cfg S){f:Nat}{args:List AV}{q:FQ}{R:(FQ->Prop)->Prop}(hb:ec eS f=some (dH f,aL f))(hlen:args.length<=1000)(hw:∀Q:FQ->Prop,gG Q (fT S f args) D=R Q)(h:∀Q:FQ->Prop,Q q->R Q):bu Tryz.prog cfg f args [] q.1 q.2:=by
 have h0:(fT S f args).wp (·=q):=cg ((hw _).mpr (h _ rfl));refine cC.c0 hS hb hlen ((wE (cC.a0 hS) (nj cfg S) ai h0).a0 λy hy=>?_);have hy:(aT (wj eS (Cw cfg []) (dH f) y) aja).wp (·=q):=hy;cases he:wj eS (Cw cfg []) (dH f) y with
 | none=>rw[he]at hy;exact hy.elim
 | some r=>
   rw[he]at hy;exact⟨r,rfl,ajo hy⟩
def TY:aQ:=pX (d5 (d5 (d5 (d5 (eQ gZ 26 (fl 14 [] rE)) 42 wD) 75 tZ) 205 xY) 257 tz) 92 FB
theorem abc:ec eS 7=some (dH 7,aL 7):=by rfl
theorem ame(hS:ak Tryz.prog cfg S):ak Tryz.prog cfg (d5 S 257 tz):=by
 refine au hS λargs t v he hv=>?_;unfold tz at he;split at he
 . rename_i ng lg s e g mo da a b c;cases he;replace hv:=aF hv;obtain⟨⟨h1,-⟩,hv⟩:=hv;cases hv;obtain⟨h6,i1,i2,i3,i4,i5,h0⟩:=yn.1 h1;obtain⟨lm,ld,-⟩:=aaX h0;obtain⟨-,-,-,n4,n5,n6⟩:=abT h6 lm ld;refine nF aga ai (bE 13812202242002020006) (R:=λQ=>(λ(C:List UInt8)=>(λ(E:List UInt8)=>(λ(A:Bool)=>(λ(B:Prop)=>π (σ s.length mo.length) 1000000/\π (σ C.length da.length) 1000000/\π E.length 1000000/\(A->A/\A/\A/\A/\Q (aa g 0))/\(B->B/\B/\B/\B/\Q false)) (A=false)) (not (eA E))) (C++da)) (s++mo)) (λ_=>by kernel_rfl) λQ' hQ=>?_;unfold cK at hQ;try dsimp only
   rw[n4,n5,n6];cases hx:eA (s++mo++da)<;>rw[hx]at hQ<;>simp only[Bool.not_true,Bool.not_false,Bool.true_and,Bool.false_and]at hQ<;>simp[hQ]
 . cases he
theorem adR:ak Tryz.prog cfg TY:=eG (ame (ajG (afy (aib (ajL aW))))) NE
abbrev nw(k:Int)(x:Da)(p a b c d:Int):FQ:=(.c [.b 14 0 1 (.b 1),.a .i64 0],[.a (ft k .d x p a b c d) true none])
abbrev j7(a b c d:Int):FQ:=(.c [.b 15 0 1 (.b 1),.a .i64 0],[.a (ft 1 (.b 14 0 1 (.b 1)) gL 0 0 0 0 0) true none,.a (aab a b c d) true none])
abbrev jc(x:Da):Int:=aP x.ng x.s x.e x.mo x.da
abbrev iQ(x:Da):Int:=bq x.ng x.s x.e x.mo x.da
def CP(x:Da):FQ:=nw 3 gL 1 0 (bf (jI x.ng x.s x.e x.g)) 0 (bf (jL x.ng x.s x.e x.g+1)-1)
def CR(x:Da):FQ:=nw 2 ⟨x.ng,x.lg,x.s,x.e,0,x.mo,x.da,0,0,0⟩ 0 0 0 0 0
def tS(x:Da)(Q:FQ->Prop):Prop:=dF x/\dF x/\fk (ab 1 x.g) (Q (CP x)) (fk (fy x) (Q (j7 0 (jc x) 0 (iQ x))) (Q (CR x)))
theorem ajA(hS:ak Tryz.prog cfg S){f:Nat}(hb:ec eS f=some (dH f,aL f))(hw:∀x Q,gG Q (fT S f [.g (acB x)]) D=tS x Q){x:Da}(h:dF x):(1<=x.g->bu Tryz.prog cfg f [.g (acB x)] [] (CP x).1 (CP x).2)/\(x.g=0->eA (x.s++x.mo++x.da)->bu Tryz.prog cfg f [.g (acB x)] [] (CR x).1 (CR x).2)/\(fy x->bu Tryz.prog cfg f [.g (acB x)] [] (j7 0 (jc x) 0 (iQ x)).1 (j7 0 (jc x) 0 (iQ x)).2):=by
 refine⟨λh1=>zd hS hb (by simp) (hw x) λQ hQ=>⟨h,h,λ_=>hQ,λe=>?_⟩,λh1 h2=>zd hS hb (by simp) (hw x) λQ hQ=>⟨h,h,λe=>?_,λ_=>⟨λe=>?_,λ_=>hQ⟩⟩,λh1=>zd hS hb (by simp) (hw x) λQ hQ=>⟨h,h,λe=>?_,λ_=>⟨λ_=>hQ,λe=>?_⟩⟩⟩
 . grind [bF]
 . grind [aq]
 . grind [fy,cK]
 . grind [fy,cK,ao,aq]
 . rw[h1]at e;cases e
section
variable(x y:Da){Q:FQ->Prop}
def Pz:gG Q (fT TY 7 [.g (acB x)]) (bE 114142056256666666666666666666666)=tS x Q:=by kernel_rfl
def apQ:gG Q (fT TY 7 [.g (ra (sZ 1 x) (sZ 1 y))]) (bE 100056205666200056666666305200062666320006205666632000620066666666666666666666666666666)=(dF x/\dF x/\(not (fy x))=false/\dF y/\dF y/\(not (fy y))=false/\gN x/\gN y/\not (ab (gc 0 (jc x) 0 (iQ y)) 0)=false/\gN x/\gN y/\Q (j7 0 (jc x) 0 (iQ y))):=by kernel_rfl
def ap6:gG Q (fT TY 7 [.g (ra (sZ 1 x) (sZ 2 gL))]) (bE 10566620006666666666666632000620066666666666666666666666666666)=(dF x/\dF x/\(not (fy x))=false/\gN x/\Q (j7 0 (jc x) 1 0)):=by kernel_rfl
def apn:gG Q (fT TY 7 [.g (ra (sZ 1 x) (sZ 3 gL))]) (bE 1066620006666666666666632000620066666666666666666666666666666)=(dF x/\dF x/\(not (fy x))=false/\gN x/\Q (nw 5 gL 0 0 (jc x) 1 0)):=by kernel_rfl
def aor:gG Q (fT TY 7 [.g (ra (sZ 2 gL) (sZ 1 x))]) (bE 10005620006666666666632000626666666666666666666666666666666666)=(dF x/\dF x/\(not (fy x))=false/\gN x/\Q (j7 (-1) 0 0 (iQ x))):=by kernel_rfl
def apg:gG Q (fT TY 7 [.g (ra (sZ 3 gL) (sZ 1 x))]) (bE 1006256666666666632000626666666666666666666666666666666666)=(dF x/\dF x/\(not (fy x))=false/\gN x/\Q (nw 4 gL 0 (-1) 0 0 (iQ x))):=by kernel_rfl
end
def zS{x:Da}(h:dF x):=ajA adR abc (λx Q=>Pz x) h
section
variable{x y:Da}(h:dF x)(hn:fy x)
include h hn
theorem aaF:(not (fy x))=false/\gN x=true:=⟨by rw[hn];rfl,qd h hn⟩
theorem Qy(h':dF y)(hn':fy y)(hle:jc x<=iQ y):bu Tryz.prog cfg 7 [.g (ra (sZ 1 x) (sZ 1 y))] [] (j7 0 (jc x) 0 (iQ y)).1 (j7 0 (jc x) 0 (iQ y)).2:=zd adR abc (by simp) (λQ=>apQ x y) λQ hQ=>by
 obtain⟨n1,n2⟩:=aaF h hn;obtain⟨n3,n4⟩:=aaF h' hn';have:=xF 0 (jc x) 0 (iQ y);exact⟨h,h,n1,h',h',n3,n2,n4,by grind [aq],n2,n4,hQ⟩
theorem QC:bu Tryz.prog cfg 7 [.g (ra (sZ 1 x) (sZ 2 gL))] [] (j7 0 (jc x) 1 0).1 (j7 0 (jc x) 1 0).2:=zd adR abc (by simp) (λQ=>ap6 x) λQ hQ=>⟨h,h,(aaF h hn).1,(aaF h hn).2,hQ⟩
theorem QD:bu Tryz.prog cfg 7 [.g (ra (sZ 1 x) (sZ 3 gL))] [] (nw 5 gL 0 0 (jc x) 1 0).1 (nw 5 gL 0 0 (jc x) 1 0).2:=zd adR abc (by simp) (λQ=>apn x) λQ hQ=>⟨h,h,(aaF h hn).1,(aaF h hn).2,hQ⟩
theorem QE:bu Tryz.prog cfg 7 [.g (ra (sZ 2 gL) (sZ 1 x))] [] (j7 (-1) 0 0 (iQ x)).1 (j7 (-1) 0 0 (iQ x)).2:=zd adR abc (by simp) (λQ=>aor x) λQ hQ=>⟨h,h,(aaF h hn).1,(aaF h hn).2,hQ⟩
theorem QK:bu Tryz.prog cfg 7 [.g (ra (sZ 3 gL) (sZ 1 x))] [] (nw 4 gL 0 (-1) 0 0 (iQ x)).1 (nw 4 gL 0 (-1) 0 0 (iQ x)).2:=zd adR abc (by simp) (λQ=>apg x) λQ hQ=>⟨h,h,(aaF h hn).1,(aaF h hn).2,hQ⟩
end
noncomputable def wA(P:List Rn->Prop)(w:List AV)(n:Nat):Bool:=@decide (∃R:List Rn,bh R=w/\R.length=n/\P R) (Classical.propDecidable _)
noncomputable def FO(P:List Rn->Prop)(F:List Rn->List Rn):aav:=λ
 | [.b 14 0 n K],[.a w false none]=>some (aH [wA P w n] (.a0 (.c [.b 15 0 (F (g8 w)).length (.b (F (g8 w)).length),.a .i64 0],[.a (bh (F (g8 w))) true (some 4)])))
 | _,_=>none
noncomputable def TN(P:List Rn->Prop)(F:List Rn->List Rn):aQ:=eQ (eQ (d5 gZ 75 tZ) 25 (fl 14 [21] sI)) 31 (fl 14 [4] (FO P F))
def F6(L:List It)(ea la:Bool):cx:=iz jE 1 (d9 103 [1,2,3,5,6,34,35,36] (Do L ea la))
theorem OB(P:List Rn->Prop)(F:List Rn->List Rn)(w:List AV)(L:List It)(ea la:Bool)(n:Nat)(K:fg){Q:EQ->Prop}:gG Q (bT (TN P F) (F6 L ea la) [.a w false none] 7 [.g (fS 4 (.b 14 0 n K) ea la)]) (bE 106220022000705226666)=((λ(A B C E T:AV)(N:Int)(G:List AV)(I O:Nat)=>(λ(H U:List AV)=>(λ(V:Nat)=>(λ(W:cD)=>and true (and (π (σ 0 I) w.length) (bc 14 U))/\abk U n 4 ea la/\τ L.length n/\τ n n/\aa N N/\bQ ea ea/\bQ la la/\(∀J1:Nat->Value,and true (and (π (σ 0 O) G.length) (bc 14 H))/\wA P H n/\Q (.c [.b 19 0 1 (fg.b 1),C],⟨5,[W,W,.a (bh (F (g8 H))) true (some 4),.a G true (some 4),.a [.a .u8 4,E,E,B,C,C,B,B,A,A,A,A,E,E,B,C,C,B,B,A,A,A,A,E,E,B,C,C,B,B,A,A,A,.b 14 0 n K,.e ea,.e la] true none],[]⟩))) (.a [.a .u8 1,.b 17 0 V (fg.b V),E,E,B,C,C,B,B,A,A,A,A,T,C,T,C] true none)) (List.length (F (g8 H)))) (b_ G 0 O) (b_ w 0 I)) (.a .u8 0) (.f []) (.a .i64 0) (.e false) (.a .i8 0) (Int.ofNat n) (bh (km ea la L n)) (HMul.hMul n 21) (HMul.hMul n 4)):=by rfl
theorem afZ{P:List Rn->Prop}{w:List AV}{n:Nat}:wA P w n=true↔∃R:List Rn,bh R=w/\R.length=n/\P R:=by
 grind [wA]
theorem mZ:∀{L:List Rn},g8 (bh L)=L
 | []=>rfl
 | r::L=>by simp only[bh,g8,mZ]
def wS(P:List Rn->Prop)(F:List Rn->List Rn):Prop:=∀R K,P R->bu Tryz.prog cfg 31 [.b 14 0 R.length K] [.a (bh R) false none] (.c [.b 15 0 (F R).length (.b (F R).length),.a .i64 0]) [.a (bh (F R)) true (some 4)]
theorem anG{P:List Rn->Prop}{F:List Rn->List Rn}(h:wS P F)(hS:ak Tryz.prog cfg S):ak Tryz.prog cfg (eQ S 31 (fl 14 [4] (FO P F))):=by
 refine bm hS (fW dI.lv Az λargs ws t r he hr=>?_);unfold FO at he;split at he
 . rename_i n K w;cases he;replace hr:=aF hr;obtain⟨⟨h1,-⟩,hr⟩:=hr;obtain⟨R,rfl,rfl,hp⟩:=afZ.1 h1;cases hr;rw[mZ];exact⟨h R K hp,λx hx=>by grind [hH]⟩
 grind
theorem amh{P:List Rn->Prop}{F:List Rn->List Rn}(h:wS P F):ak Tryz.prog cfg (TN P F):=anG h (ajV (afy aW))
theorem dL.fw{ws:List cD}(hw:∀x∈ws,cR 14 x){k:Int}{x:Da}{p a b c d:Int}{days:List AV}{rw:Bool}{g:Option Nat}{os:List cD}{n kd kf l:Nat}{C:fg}(hd:kd<n)(hf:kf<n)(hne:kd≠kf)(h1:os.getD (n-1-kd) .b=.a days rw g)(h2:os.getD (n-1-kf) .b=.a (ft k (.b (14+ws.length+kd) 0 l C) x p a b c d) true none)(hlow:bw days=[]):dL ws (.c [.b (14+ws.length+1) 0 1 (.b 1),.a .i64 0]) [.a (ft k (.b (14+ws.length) 0 l C) x p a b c d) true none,.a days rw g] (.c [.b (14+ws.length+kf) 0 1 (.b 1),.a .i64 0],⟨n,os,[]⟩):=by
 have a1:(⟨n,os,[]⟩:aB).at kd=.a days rw g:=h1;have a2:(⟨n,os,[]⟩:aB).at kf=.a (ft k (.b (14+ws.length+kd) 0 l C) x p a b c d) true none:=h2;have nl:∀j,aS (14+ws.length+j) (14+ws.length)=false:=λj=>by grind [aU]
 have l1:To (14+ws.length) [(14+ws.length+kd,14+ws.length),(14+ws.length+kf,14+ws.length+1)] (14+ws.length+kd)=some (14+ws.length):=by
  grind [To,xx,gm]
 have l2:To (14+ws.length) [(14+ws.length+kd,14+ws.length),(14+ws.length+kf,14+ws.length+1)] (14+ws.length+kf)=some (14+ws.length+1):=by
  grind [To,xx,ic,gm]
 have hv':kG ((Cw cfg ws).lo+0) (eM (Cw cfg ws).lo 0 [kd,kf]) 20 (.c [.b (14+ws.length+kf) 0 1 (.b 1),.a .i64 0])=some (.c [.b (14+ws.length+1) 0 1 (.b 1),.a .i64 0]):=by
  show kG (14+ws.length) [(14+ws.length+kd,14+ws.length),(14+ws.length+kf,14+ws.length+1)] 20 _=_;simp_all [kG,yw,ob]
 refine(oX dI.lv (C:=Cw cfg ws) (st:=⟨.c0 (.c [.b (14+ws.length+kf) 0 1 (.b 1),.a .i64 0]) .a0 .a0,1,⟨n,os,[]⟩,[],none⟩) (kb:=0) (sel:=[kd,kf]) (ts':=.c0 (.c [.b (14+ws.length+1) 0 1 (.b 1),.a .i64 0]) .a0 .a0) (o':=⟨2,[.a (ft k (.b (14+ws.length) 0 l C) x p a b c d) true none,.a days rw g],[]⟩) (B6 hw) (Nat.zero_le _) (λs hs=>?_) (by grind) (λp hp=>by grind) rfl rfl rfl (λi hi=>absurd hi (Nat.not_lt_zero i)) (λt ht=>?_) ?_ (λd hd=>by grind) (λi hi=>by grind)).b0 λs hs=>?_
 . grind
 . have:t=0\/t=1:=by grind
   rcases this with rfl|rfl
   . refine .inl ⟨?_,?_⟩
     . grind [aB.at]
     . show cR (14+ws.length) (aB.at _ kd);rw[a1];exact⟨rfl,λi hi=>by grind [HL]⟩
   . refine .inr ⟨_,_,_,_,a2,?_,rfl⟩;show yw (kG (14+ws.length) [(14+ws.length+kd,14+ws.length),(14+ws.length+kf,14+ws.length+1)] 20) _=_;simp only[ft,yw,kG,l1,ob]
 . simp only[xB,hv',ob]
 . rw[hs];exact⟨rfl,rfl⟩
theorem adh{S':aQ}{C:bg}{c:Code}{st:St}{Q:AX×St->Prop}(h:bN Tryz.prog (cH cfg S) C c st Q):bN Tryz.prog (cH cfg S') C c st Q:=λD m a w hi ht K hK=>
 h D m a w (dX.to (cfg:=cH cfg S') (cfg':=cH cfg S) rfl rfl hi) ht K λr hr hro D' m' a' w' ht' he=>hK r hr hro D' m' a' w' ht' (dw.to (cfg:=cH cfg S) (cfg':=cH cfg S') rfl rfl he)
theorem ma:∀{R:List Rn},bc 14 (bh R)=true
 | []=>rfl
 | _::R=>ma (R:=R)
theorem Qt{P:List Rn->Prop}{F:List Rn->List Rn}(hR:wS P F){L:List It}{K:fg}(h:nI 4 ea la L)(hP:P (km ea la L L.length)):bu Tryz.prog cfg 7 [.g (fS 4 (.b 14 0 L.length K) ea la)] [.a (dp L) false none] (.c [.b 16 0 1 (.b 1),.a .i64 0]) [.a (ft 1 (.b 15 0 (F (km ea la L L.length)).length (.b (F (km ea la L L.length)).length)) gL 0 0 0 0 0) true none,.a (bh (F (km ea la L L.length))) true (some 4)]:=by
 refine abj (amh hR) (L:=F6 L ea la) abc (by simp) (dv afR λi hi e he st Q hw=>?_) (λ_=>OB P F (dp L) L ea la L.length K) λQ' hQ=>?_
 . have hi:i=0:=by grind
   subst hi;cases he;exact adh (bR (cC.a0 aj6) (by decide) rfl (ao2 h) hw)
 . try dsimp only
   have n1:=h.n1;have n2:=h.n2;have hB:abk (dp L) L.length 4 ea la=true:=rd.2 ⟨L,rfl,rfl,h⟩;have hl:(km ea la L L.length).length=L.length:=N2;have hRB:wA P (bh (km ea la L L.length)) L.length=true:=afZ.2 ⟨_,rfl,hl,hP⟩;have hw4:b_ (bh (km ea la L L.length)) 0 (L.length*4)=bh (km ea la L L.length):=by
    grind [b_,kC]
   have l1:π (0+L.length*21) (dp L).length=true:=by rw[al,lh];omega
   have l2:π (0+L.length*4) (bh (km ea la L L.length)).length=true:=by grind [al,kC]
   have l3:τ L.length L.length=true:=aJ.mpr rfl;have l4:∀b:Bool,bQ b b=true:=λb=>by cases b<;>rfl
   rw[qi,lU,hw4,ma,mZ,hB,l1,l2,l3];simp only[l4,hRB,Bool.and_true,true_and,and_true,true_imp_iff,reduceCtorEq,false_imp_iff];refine⟨aa0 _,λ_=>hQ _ ?_⟩;exact dL.fw ir (k:=1) (x:=gL) (p:=0) (a:=0) (b:=0) (c:=0) (d:=0) (kd:=2) (kf:=4) (by decide) (by decide) (by decide) rfl rfl sR
def rF(R:List Rn):List Rn:=aaO (aa8 R)
def rP(R:List Rn):Prop:=1<=R.length/\R.length<=5/\(∀x∈R,bA x.a x.b x.c x.d=0)/\∀x∈R,IJ x.b/\IJ x.d
theorem SP:wS rP rF:=λ_ _ ⟨h1,h2,hc,hi⟩=>fO h1 h2 hc hi
theorem abC{ng lg:Bool}{s:List UInt8}{e g:Int}{mo da:List UInt8}{a b c:Int}(h:fL ng lg s e g mo da a b c) : -3652425000000000002<=aP ng s e mo da/\aP ng s e mo da<=bq ng s e mo da/\bq ng s e mo da<=3652425000000002000:=by
 obtain⟨h6,_,_,_,_,h0,hx,_⟩:=ye.1 h;exact Gx (aaj h0 hx h6).2.2.2.2.1
theorem ahL{x:It}(h:aap 4 x) : -3652425000000000002<=oB x/\oB x<=mw x/\mw x<=3652425000000002000:=by
 obtain⟨x1,x2⟩:=ajr h;have b1:=abC x1;unfold oB mw;cases hr:x.r with
 | false=>grind
 | true=>
   rw[cond_true];have b2:=abC (x2 hr);grind [aap,mB,mV,aq]
theorem akS{x:It}(h:aap 4 x):bA (kW ea la x).a (kW ea la x).b (kW ea la x).c (kW ea la x).d=0/\IJ (kW ea la x).b/\IJ (kW ea la x).d:=by
 have hb:=ahL h;grind [gA,kW,IJ]
theorem aef{L:List It}(h:nI 4 ea la L)(h5:L.length<=5):rP (km ea la L L.length):=by
 have key:∀x∈km ea la L L.length,bA x.a x.b x.c x.d=0/\IJ x.b/\IJ x.d:=λx hx=>by
  obtain⟨i,hi,rfl⟩:=List.mem_map.1 hx;exact akS (h.it i (List.mem_range.1 hi))
 exact⟨by rw[N2];exact h.n1,by rw[N2];omega,λx hx=>(key x hx).1,λx hx=>(key x hx).2⟩
theorem aqh{ea la:Bool}{L:List It}{K:fg}(h:nI 4 ea la L)(h5:L.length<=5):bu Tryz.prog cfg 7 [.g (fS 4 (.b 14 0 L.length K) ea la)] [.a (dp L) false none] (.c [.b 16 0 1 (.b 1),.a .i64 0]) [.a (ft 1 (.b 15 0 (rF (km ea la L L.length)).length (.b (rF (km ea la L L.length)).length)) gL 0 0 0 0 0) true none,.a (bh (rF (km ea la L L.length))) true (some 4)]:=Qt SP h (aef h h5)
structure eo(x:Rn):Prop where
 c:bA x.a x.b x.c x.d=0
 b1 : -4000000000000000000<=x.b
 b2:x.b<=4000000000000000000
 d1 : -4000000000000000000<=x.d
 d2:x.d<=4000000000000000000
def yy(x:Rn):Int:=if x.a = -1 then -5000000000000000000 else x.b
def fU(x:Rn):Int:=if x.c=1 then 5000000000000000000 else x.d
theorem eo.a0(h:eo x):(x.a=0/\yy x=x.b\/x.a = -1/\x.b=0/\yy x = -5000000000000000000)/\(x.c=0/\fU x=x.d\/x.c=1/\x.d=0/\fU x=5000000000000000000)/\yy x<=fU x:=by
 obtain⟨h0,h1,h2,h3,h4⟩:=h;grind [gA,yy,fU]
theorem adq(hx:eo x)(hy:eo y):iM x y=true↔yy x<yy y\/yy x=yy y/\fU x<fU y:=by
 have k1:=hx.a0;have k2:=hy.a0;obtain⟨-,b1,b2,d1,d2⟩:=hx;obtain⟨-,b3,b4,d3,d4⟩:=hy;have c1:=xF x.a x.b y.a y.b;have c2:=xF x.c x.d y.c y.d;simp[iM,In,bF];omega
theorem afS(hx:eo x)(hy:eo y):acE x y=true↔yy x<=fU y+1/\yy y<=fU x+1:=by
 have k1:=hx.a0;have k2:=hy.a0;obtain⟨q1,b1,b2,d1,d2⟩:=hx;obtain⟨q2,b3,b4,d3,d4⟩:=hy;have c1:=xF y.a y.b x.a x.b;have c2:=xF x.a x.b y.c y.d;have c3:=xF y.a y.b x.c x.d;have e1:=@Hr x.c x.d;have e2:=@Hr y.c y.d;unfold acE vz s6;rw[zAc];simp only[q1,q2,true_and];obtain⟨ka,kb,kc⟩:=k1;obtain⟨la,lb,lc⟩:=k2;rcases ka with⟨ka1,ka2⟩|⟨ka1,ka3,ka2⟩<;>rcases kb with⟨kb1,kb2⟩|⟨kb1,kb3,kb2⟩<;>rcases la with⟨la1,la2⟩|⟨la1,la3,la2⟩<;>rcases lb with⟨lb1,lb2⟩|⟨lb1,lb3,lb2⟩<;>omega
theorem afF(hx:eo x)(hy:eo y):eo (fD x y)/\yy (fD x y)=min (yy x) (yy y)/\fU (fD x y)=max (fU x) (fU y):=by
 have k1:=hx.a0;have k2:=hy.a0;obtain⟨q1,b1,b2,d1,d2⟩:=hx;obtain⟨q2,b3,b4,d3,d4⟩:=hy;have c1:=xF y.a y.b x.a x.b;have c2:=xF y.c y.d x.c x.d;rw[gA]at q1 q2;have hA:(0<=gc y.a y.b x.a x.b/\(fD x y).a=x.a/\(fD x y).b=x.b)\/(¬0<=gc y.a y.b x.a x.b/\(fD x y).a=y.a/\(fD x y).b=y.b):=by
  unfold fD;grind [bF]
 have hB:(gc y.c y.d x.c x.d<=0/\(fD x y).c=x.c/\(fD x y).d=x.d)\/(¬gc y.c y.d x.c x.d<=0/\(fD x y).c=y.c/\(fD x y).d=y.d):=by
  unfold fD;grind [bF]
 generalize fD x y=r at *;have hO:eo r:=⟨by rw[gA];omega,by omega,by omega,by omega,by omega⟩;have k3:=hO.a0;clear q1 q2;exact⟨hO,by omega,by omega⟩
def adA(x:Rn)(n:Int):Prop:=yy x<=n/\n<=fU x
def xb(L:List Rn)(n:Int):Prop:=∃x,x∈L/\adA x n
structure aaw(L:List Rn):Prop where
 o:∀x∈L,eo x
 p:L.Pairwise λx y=>fU x+1<yy y
theorem eo.b0(hx:eo x)(hy:eo y)(h1:yy x=yy y)(h2:fU x=fU y):x=y:=by
 have k1:=hx.a0;have k2:=hy.a0;obtain⟨-,b1,b2,d1,d2⟩:=hx;obtain⟨-,b3,b4,d3,d4⟩:=hy;obtain⟨a,b,c,d⟩:=x;obtain⟨a',b',c',d'⟩:=y;grind
theorem aaw.b0(h:aaw (x::L)):aaw L:=⟨λy hy=>h.o y (ξ _ hy),(List.pairwise_cons.1 h.p).2⟩
theorem aaw.a0(h:aaw (x::L)):∀y∈L,fU x+1<yy y:=(List.pairwise_cons.1 h.p).1
theorem aaw.lo(h:aaw (x::L)){n:Int}(hn:xb (x::L) n):yy x<=n:=by
 obtain⟨y,hy,h1,h2⟩:=hn;rcases List.mem_cons.1 hy with rfl|hy
 . omega
 . have:=h.a0 y hy;have:=(h.o x ν).a0.2.2;omega
theorem ahN:∀{L M:List Rn},aaw L->aaw M->(∀n,xb L n↔xb M n)->L=M
 | [],[],_,_,_=>rfl
 | [],y::M,_,hM,h=>by
   have hy:=(hM.o y ν).a0.2.2;obtain⟨z,hz,_⟩:=(h (yy y)).2 ⟨y,ν,Int.le_refl _,hy⟩;grind
 | x::L,[],hL,_,h=>by
   have hx:=(hL.o x ν).a0.2.2;obtain⟨z,hz,_⟩:=(h (yy x)).1 ⟨x,ν,Int.le_refl _,hx⟩;grind
 | x::L,y::M,hL,hM,h=>by
   have ox:=hL.o x ν;have oy:=hM.o y ν;have hx:=ox.a0.2.2;have hy:=oy.a0.2.2;have l1:=hM.lo ((h (yy x)).1 ⟨x,ν,Int.le_refl _,hx⟩);have l2:=hL.lo ((h (yy y)).2 ⟨y,ν,Int.le_refl _,hy⟩);have e1:yy x=yy y:=by omega
   have e2:fU x=fU y:=by
    rcases Int.lt_trichotomy (fU x) (fU y)with k|k|k
    . obtain⟨z,hz,z1,z2⟩:=(h (fU x+1)).2 ⟨y,ν,by omega,by omega⟩;rcases List.mem_cons.1 hz with rfl|hz
      . omega
      . have:=hL.a0 z hz;omega
    . omega
    . obtain⟨z,hz,z1,z2⟩:=(h (fU y+1)).1 ⟨x,ν,by omega,by omega⟩;rcases List.mem_cons.1 hz with rfl|hz
      . omega
      . have:=hM.a0 z hz;omega
   obtain rfl:=ox.b0 oy e1 e2;rw[ahN hL.b0 hM.b0 λn=>?_];constructor
   . rintro⟨z,hz,z1,z2⟩;have hh:=hL.a0 z hz;obtain⟨u,hu,u1,u2⟩:=(h n).1 ⟨z,ξ _ hz,z1,z2⟩;rcases List.mem_cons.1 hu with rfl|hu
     . omega
     . exact⟨u,hu,u1,u2⟩
   . rintro⟨z,hz,z1,z2⟩;have hh:=hM.a0 z hz;obtain⟨u,hu,u1,u2⟩:=(h n).2 ⟨z,ξ _ hz,z1,z2⟩;rcases List.mem_cons.1 hu with rfl|hu
     . omega
     . exact⟨u,hu,u1,u2⟩
theorem aca{x y:Rn}:∀{L:List Rn},y∈aaI x L↔y=x\/y∈L
 | []=>by simp[aaI]
 | z::zs=>by
   unfold aaI;cases iM x z with
   | true=>rw[cond_true,υ,aca,υ];grind
   | false=>simp
theorem adS{x:Rn}(hx:eo x):∀{L:List Rn},(∀y∈L,eo y)->L.Pairwise (λa b=>yy b<=yy a)->(aaI x L).Pairwise (λa b=>yy b<=yy a)
 | [],_,_=>ο _ _
 | z::zs,ho,hp=>by
   obtain⟨h1,h2⟩:=List.pairwise_cons.1 hp;have hz:=ho z ν;unfold aaI;cases hl:iM x z with
   | true=>
     rw[cond_true];have hl:=(adq hx hz).1 hl;refine List.pairwise_cons.2 ⟨λb hb=>?_,adS hx (λy hy=>ho y (ξ _ hy)) h2⟩;grind [aca]
   | false=>
     grind [adq,List.pairwise_cons]
theorem ac5:∀{L acc:List Rn},(∀y∈L,eo y)->(∀y∈acc,eo y)->acc.Pairwise (λa b=>yy b<=yy a)->(L.foldl (λacc x=>aaI x acc) acc).Pairwise (λa b=>yy b<=yy a)/\∀y,y∈L.foldl (λacc x=>aaI x acc) acc↔y∈acc\/y∈L
 | [],acc,_,_,hp=>⟨hp,λy=>by simp⟩
 | x::L,acc,hL,ha,hp=>by
   have hx:=hL x ν;obtain⟨h1,h2⟩:=ac5 (L:=L) (acc:=aaI x acc) (λy hy=>hL y (ξ _ hy)) (λy hy=>by grind [aca]) (adS hx ha hp);grind [aca]
theorem ae8(hL:∀y∈L,eo y):(aa8 L).Pairwise (λa b=>yy a<=yy b)/\∀y,y∈aa8 L↔y∈L:=by
 simp_all [ac5,List.pairwise_reverse,aa8,aeI]
structure agu(acc:List Rn):Prop where
 o:∀x∈acc,eo x
 p:acc.Pairwise λy x=>fU x+1<yy y
theorem agu.a0{acc:List Rn}(h:agu acc)(hr:eo r)(hl:∀x∈acc,yy x<=yy r):agu (q8 acc r)/\(∀n,xb (q8 acc r) n↔xb acc n\/adA r n)/\∀s,yy r<=s->∀x∈q8 acc r,yy x<=s:=by
 cases acc with
 | nil=>
   refine⟨⟨λx hx=>by rw[List.mem_singleton.1 hx];omega,ο _ _⟩,λn=>?_,λs hs x hx=>by rw[List.mem_singleton.1 hx];omega⟩;unfold xb;constructor
   . rintro⟨x,hx,hd⟩;rw[List.mem_singleton.1 hx]at hd;grind
   . rintro(⟨x,hx,_⟩|hd)
     . grind
     . exact⟨r,List.mem_singleton.2 rfl,hd⟩
 | cons q p=>
   have hq:=h.o q ν;have hp:∀x∈p,eo x:=λx hx=>h.o x (ξ _ hx);obtain⟨p1,p2⟩:=List.pairwise_cons.1 h.p;have lq:=hl q ν;have cq:=hq.a0.2.2;have cr:=hr.a0.2.2;have ht:=afS hq hr;show agu (bif acE q r then fD q r::p else r::q::p)/\(∀n,xb (bif acE q r then fD q r::p else r::q::p) n↔_)/\∀s,yy r<=s->∀x∈(bif acE q r then fD q r::p else r::q::p),yy x<=s;cases hb:acE q r with
   | true=>
     rw[cond_true];have ht:=ht.1 hb;obtain⟨j1,j2,j3⟩:=afF hq hr;have j2:yy (fD q r)=yy q:=by omega
     refine⟨⟨λx hx=>?_,List.pairwise_cons.2 ⟨λx hx=>?_,p2⟩⟩,λn=>?_,λs hs x hx=>?_⟩<;>grind [xb,adA,ν]
   | false=>
     rw[cond_false];have ht:¬(yy q<=fU r+1/\yy r<=fU q+1):=λk=>by grind
     refine⟨⟨λx hx=>?_,List.pairwise_cons.2 ⟨λx hx=>?_,h.p⟩⟩,λn=>?_,λs hs x hx=>?_⟩<;>grind [xb]
theorem ac7:∀{R acc:List Rn},agu acc->(∀x∈R,eo x)->R.Pairwise (λa b=>yy a<=yy b)->(∀r∈R,∀x∈acc,yy x<=yy r)->agu (R.foldl q8 acc)/\∀n,xb (R.foldl q8 acc) n↔xb acc n\/xb R n
 | [],acc,ha,_,_,_=>⟨ha,λn=>by
   refine⟨.inl,?_⟩;rintro(h|⟨x,hx,_⟩)<;>grind⟩
 | r::R,acc,ha,hR,hp,hl=>by
   obtain⟨p1,p2⟩:=List.pairwise_cons.1 hp;obtain⟨s1,s2,s3⟩:=ha.a0 (hR r ν) (hl r ν);obtain⟨t1,t2⟩:=ac7 (R:=R) (acc:=q8 acc r) s1 (λx hx=>hR x (ξ _ hx)) p2 λu hu x hx=>s3 _ (p1 u hu) x hx;grind [xb]
theorem afK(hL:∀y∈L,eo y):aaw (aaO (aa8 L))/\∀n,xb (aaO (aa8 L)) n↔xb L n:=by
 obtain⟨h1,h2⟩:=ae8 hL;obtain⟨t1,t2⟩:=ac7 (R:=aa8 L) (acc:=[]) ⟨(λx hx=>(by grind)),List.Pairwise.nil⟩ (λx hx=>hL x ((h2 x).1 hx)) h1 (λr _ x hx=>(by grind));unfold aaO abL;refine⟨⟨λx hx=>t1.o x (List.mem_reverse.1 hx),List.pairwise_reverse.2 t1.p⟩,λn=>?_⟩;simp_all [xb]
def abV(q r:Rn):Bool:=ada q.a q.b q.c q.d r.a r.b r.c r.d
theorem aeM(hx:eo x)(hy:eo y):abV x y=true↔yy x<=fU y+1/\yy y<=fU x+1:=by
 have k1:=hx.a0;have k2:=hy.a0;obtain⟨q1,b1,b2,d1,d2⟩:=hx;obtain⟨q2,b3,b4,d3,d4⟩:=hy;grind [abV,ada,aat,abv,cP]
theorem ahV{l:List Rn}{i:Nat}(h:aaw l)(hr:eo r)(hi:i<l.length)(ht:abV (l.getD i fo) r):aaw (l.eraseIdx i)/\eo (fD (l.getD i fo) r)/\∀n,(xb (l.eraseIdx i) n\/adA (fD (l.getD i fo) r) n)↔(xb l n\/adA r n):=by
 have e:l.getD i fo=l[i]:=by grind
 rw[e]at ht ⊢;have hm:l[i]∈l:=ς hi;have ho:=h.o _ hm;have ht:=(aeM ho hr).1 ht;obtain⟨j1,j2,j3⟩:=afF ho hr;have c1:=ho.a0.2.2;have c2:=hr.a0.2.2;have hs:=List.eraseIdx_sublist l i;refine⟨⟨λx hx=>h.o x (hs.subset hx),h.p.sublist hs⟩,j1,λn=>?_⟩;grind [xb,adA,List.getElem_of_mem,List.mem_eraseIdx_iff_getElem]
def aaQ(r:Rn):List Rn->List Rn
 | []=>[r]
 | y::ys=>bif iM r y then r::y::ys else y::aaQ r ys
theorem acb{r x:Rn}:∀{l:List Rn},x∈aaQ r l↔x=r\/x∈l
 | []=>by simp[aaQ]
 | y::ys=>by
   unfold aaQ;cases iM r y with
   | true=>simp
   | false=>rw[cond_false,υ,acb,υ];grind
theorem agf{r:Rn}(hr:eo r):∀{l:List Rn},aaw l->(∀x∈l,abV x r=false)->aaw (aaQ r l)
 | [],_,_=>⟨λx hx=>by rw[List.mem_singleton.1 hx];omega,ο _ _⟩
 | y::ys,h,ht=>by
   have hy:=h.o y ν;have c1:=hy.a0.2.2;have c2:=hr.a0.2.2;have ty:¬(yy y<=fU r+1/\yy r<=fU y+1):=λk=>by
    grind [ν,aeM]
   unfold aaQ;cases hl:iM r y with
   | true=>
     rw[cond_true];have hl:=(adq hr hy).1 hl;refine⟨λx hx=>?_,List.pairwise_cons.2 ⟨λx hx=>?_,h.p⟩⟩
     . rcases List.mem_cons.1 hx with rfl|hx
       . omega
       . exact h.o x hx
     . rcases List.mem_cons.1 hx with rfl|hx
       . omega
       . have:=h.a0 x hx;omega
   | false=>
     rw[cond_false];have hl:¬(yy r<yy y\/yy r=yy y/\fU r<fU y):=λk=>by grind [adq]
     have ih:=agf hr h.b0 λx hx=>ht x (ξ _ hx);refine⟨λx hx=>?_,List.pairwise_cons.2 ⟨λx hx=>?_,ih.p⟩⟩
     . rcases List.mem_cons.1 hx with rfl|hx
       . omega
       . exact ih.o x hx
     . rcases acb.1 hx with rfl|hx
       . omega
       . exact h.a0 x hx
theorem aiB{l:List Rn}{n:Int}:xb (aaQ r l) n↔xb l n\/adA r n:=by
 grind [xb,acb]
theorem ai7(h:aaw L):jo L=0:=by
 unfold jo;refine xm λj _ hj=>?_;have hj:j<L.length:=by omega
 have e:L.getD j fo=L[j]:=by grind
 unfold qn LO;rw[e,if_pos (h.o _ (ς hj)).c,if_neg];rintro⟨h0,hc⟩;have hk:j-1<L.length:=by omega
 have e2:L.getD (j-1) fo=L[j-1]:=by grind
 rw[e2]at hc;have ho:=h.o _ (ς hj);have hp:=h.o _ (ς hk);have hlt:fU L[j-1]+1<yy L[j]:=List.pairwise_iff_getElem.1 h.p (j-1) j hk hj (by omega);have c1:=ho.a0.2.2;have c2:=hp.a0.2.2;rcases hc with hc|hc
 . have:=(adq hp ho).2 (by omega);grind [iM,bF]
 . have:=(afS hp ho).1 hc;omega
def mf(ea la:Bool)(L:List It)(i:Nat):Bool:=!(L.getD i fP).r&&(!(ea&&τ i 0)&&!(la&&τ (i+1) L.length))
def aba(ea la:Bool)(L:List It)(i:Nat):Bool:=mf ea la L i&&fy (L.getD i fP).f
def qb(ea la:Bool)(L:List It)(n i:Nat):cD:=bif aS i n&&aba ea la L i then .a (aab 0 (oB (L.getD i fP)) 0 (mw (L.getD i fP))) true none else .b
def abl(ea la:Bool)(L:List It)(i:Nat):List AV:=
 bif mf ea la L i then(bif ab 1 (L.getD i fP).f.g then ft 3 .d gL 1 0 (bf (jI (L.getD i fP).f.ng (L.getD i fP).f.s (L.getD i fP).f.e (L.getD i fP).f.g)) 0 (bf (jL (L.getD i fP).f.ng (L.getD i fP).f.s (L.getD i fP).f.e (L.getD i fP).f.g+1)-1)
  else bif fy (L.getD i fP).f then ft 1 (.b (16+i) 0 1 (.b 1)) gL 0 0 0 0 0
  else ft 2 .d ⟨(L.getD i fP).f.ng,(L.getD i fP).f.lg,(L.getD i fP).f.s,(L.getD i fP).f.e,0,(L.getD i fP).f.mo,(L.getD i fP).f.da,0,0,0⟩ 0 0 0 0 0)
 else ft 3 .d gL (dq (L.getD i fP).f.mo (L.getD i fP).f.da) (W2 ea la L i).a (W2 ea la L i).b (W2 ea la L i).c (W2 ea la L i).d
def aaf(ea la:Bool)(L:List It):Nat->List AV
 | 0=>[]
 | n+1=>aaf ea la L n++abl ea la L n
def D9(L:List It)(ea la:Bool):dW:=λvs o=>match vs with
 | [.h 15 0,.d,.a .i64 z,.d,.d,.b 14 0 n K,.a .i64 n',.a .i64 i]=>s7 o λk1 m K1 ea1 la1=>aH [τ L.length n,τ m n,aa n' (Int.ofNat n),aa i 0,aa z 0,aa k1 3,bQ ea1 ea,bQ la1 la] (.a0 (.b 1,[.h 15 0,.d,.a .i64 0,.b 21 0 n (.a 0),.d,.b 14 0 n K,.a .i64 n',.a .i64 (Int.ofNat n)],⟨7,[.a (aaf ea la L n) true (some 17),qb ea la L n 4,qb ea la L n 3,qb ea la L n 2,qb ea la L n 1,qb ea la L n 0,.a (fS 3 (.b 14 0 n K1) ea la) true none],[]⟩))
 | _=>none
def Gf(L:List It)(ea la:Bool):cx:=iz jE 1 (d9 103 [1,2,3,5,6,34,35,36] (D9 L ea la))
noncomputable def Hc:aQ:=eQ gZ 25 (fl 14 [21] sI)
theorem Pn(w:List AV)(L:List It)(ea la:Bool)(n:Nat)(K:fg){Q:EQ->Prop}:gG Q (bT Hc (Gf L ea la) [.a w false none] 7 [.g (fS 3 (.b 14 0 n K) ea la)]) (bE 17702030022000705226666)=((λ(A B C E N:AV)(G:Bool)(F:Int)(H I:Nat)=>(λ(O P:List AV)=>and true (and (π (σ 0 H) w.length) (bc 14 O))/\abk O n 3 ea la/\τ L.length n/\τ n n/\aa F F/\bQ ea ea/\bQ la la/\(∀J1:Nat->Value,aa F 0=false/\π n 10000/\G/\G/\G/\π (σ 0 I) (List.length (aaf ea la L n))/\dM (List.take I (List.drop 0 (aaf ea la L n)))/\π (σ 0 (List.length (List.take I (List.drop 0 (aaf ea la L n))))) P.length/\Q (.c [.b 22 0 n (fg.b n),C],⟨8,[.a (JL P 0 (List.take I (List.drop 0 (aaf ea la L n)))) true none,.a (aaf ea la L n) true (some 17),qb ea la L n 4,qb ea la L n 3,qb ea la L n 2,qb ea la L n 1,qb ea la L n 0,.a [.a .u8 3,E,E,B,C,C,B,B,A,A,A,A,E,E,B,C,C,B,B,A,A,A,A,E,E,B,C,C,B,B,A,A,A,.b 14 0 n K,.e ea,.e la] true none],[]⟩))) (b_ w 0 H) (mX [A,.d,E,E,B,C,C,B,B,A,A,A,A,N,C,N,C] n)) (.a .u8 0) (.f []) (.a .i64 0) (.e false) (.a .i8 0) (π n n) (Int.ofNat n) (HMul.hMul n 21) (HMul.hMul n 17)):=by rfl
end Go.Ev
