import Derived.Test.YtafekjglclnegaaGreatDoorP26
set_option linter.all false
set_option maxRecDepth 100000
set_option maxHeartbeats 4000000
namespace Go.Ev
open Go Go.Proofs
theorem LowO.mono {a b:Nat} {x:AObj} (h:LowO a x) (hab:a≤b):LowO b x:=⟨h.1,fun i hi=>Nat.lt_of_lt_of_le (h.2 i hi) hab⟩
theorem lowC_cw {ws:List AObj} (hw:∀x∈ws,LowO 14 x):LowC (Cw cfg ws):=fun id hid=>by
 have hlo:(Cw cfg ws).lo=14+ws.length:=rfl
 have h14:(14:Nat)=cfg.root.n:=rfl
 by_cases h:id<14
 · have:getB (Cw cfg ws).B id=cfg.root.at id:=by
    simp only [Cw,getB]
    rw [bleF (by omega)]
    simp only [cond_false,leAt]
    rw [ble_iff.2 (Nat.zero_le _),cond_true,Nat.sub_zero]
   rw [this]
   exact LowO.mono ⟨good0.lv.loops id h,fun i hi=>good0.lv.root id h i hi⟩ (by omega)
 · have:getB (Cw cfg ws).B id=(⟨ws.length,ws.reverse,[]⟩:Own).at (id-14):=by
    simp only [Cw,getB]
    rw [ble_iff.2 (by omega),cond_true]
    rfl
   rw [this]
   unfold Own.at
   rw [List.getD_eq_getElem?_getD]
   cases hx:(ws.reverse)[ws.length-1-(id-14)]? with
   | none=>exact ⟨rfl,fun i hi=>by cases hi⟩
   | some x=>exact LowO.mono (hw x (List.mem_reverse.1 (List.mem_of_getElem? hx))) (by omega)
noncomputable def endPW (ws:List AObj) (f:Nat) (x:AX×St):Tr AV:=liftK (endA tab (Cw cfg ws) (fnOf f) x) fun r=>bif leNil r.2.le&&(mvA 14 [] 20 r.1).isSome then .ret r.1 else .fail
noncomputable def pW (S:Sums) (L:Loops) (ws:List AObj) (f:Nat) (args:List AV):Tr AV:=semT tab (cfgS cfg S) (orcS S) L 1000 (Cw cfg ws) (codeOf f) (startA (fnOf f) args own0) (endPW ws f)
theorem EndW.plainW {ws:List AObj} (hw:∀x∈ws,LowO 14 x) {v v':AV} {o:Own} (h1:v'=v) (hi:idsA v=[]) (hm:(mvA 14 [] 20 v).isSome=true) (hle:o.le=[]):EndW ws v [] (v',o):=by
 subst h1
 have hu:mvA (14+ws.length+0) (pairs (14+ws.length) 0 []) 20 v'=some v':=by
  have key:∀(b:Nat) (d:Nat) (v u:AV),mvA 14 [] d v=some u->idsA v=[]->mvA b [] d v=some v:=by
   intro b d
   induction d with
   | zero=>intro v u h;cases h
   | succ d ih=>
     have ihl:∀(vs us:List AV),mvL (mvA 14 [] d) vs=some us->idsL vs=[]->mvL (mvA b [] d) vs=some vs:=by
      intro vs
      induction vs with
      | nil=>intro us _ _;rfl
      | cons v vs ihv=>
        intro us h hi
        simp only [mvL,ob_some,Option.some.injEq] at h
        obtain ⟨v1,h1,vs1,h2,rfl⟩:=h
        simp only [idsL,List.append_eq_nil_iff] at hi
        simp only [mvL,ih v v1 h1 hi.1,ihv vs1 h2 hi.2,ob]
     intro v u h hi
     unfold mvA at h ⊢
     cases v<;>simp only [ob_some,Option.some.injEq] at h ⊢<;>simp only [idsA,List.append_eq_nil_iff,reduceCtorEq,List.cons_ne_self] at hi
     case func f a c=>obtain ⟨a',ha,c',hc,rfl⟩:=h;exact ⟨_,ihl a a' ha hi.1,_,ihl c c' hc hi.2,rfl⟩
     case iface t w=>obtain ⟨u',hu,rfl⟩:=h;exact ⟨_,ih w u' hu hi,rfl⟩
     case agg cs=>obtain ⟨a',ha,rfl⟩:=h;exact ⟨_,ihl cs a' ha hi,rfl⟩
     case tuple cs=>obtain ⟨a',ha,rfl⟩:=h;exact ⟨_,ihl cs a' ha hi,rfl⟩
  obtain ⟨u,hu⟩:=Option.isSome_iff_exists.1 hm
  exact key _ 20 v' u hu hi
 refine (wk_move good0.lv (C:=Cw cfg ws) (st:=⟨.node v' .nil .nil,1,o,[],none⟩) (kb:=0) (sel:=[]) (ts':=.node v' .nil .nil) (o':=own0) (lowC_cw hw) (Nat.zero_le _) (fun s hs=>by cases hs) List.nodup_nil (fun p hp=>by rw [show (⟨.node v' .nil .nil,1,o,[],none⟩:St).o=o from rfl,hle] at hp;cases hp) hle.symm rfl rfl (fun i hi=>absurd hi (Nat.not_lt_zero i)) (fun t ht=>absurd ht (Nat.not_lt_zero t)) ?_ (fun d hd=>by cases hd) (fun i hi=>by cases hi)).mono fun s hs=>?_
 · have hu':mvA ((Cw cfg ws).lo+0) (pairs (Cw cfg ws).lo 0 []) 20 v'=some v':=hu
   simp only [mvT,hu',ob]
 · rw [hs];exact ⟨rfl,rfl⟩
theorem fpwOK {S:Sums} (hS:SumsOK Tryz.prog cfg S) {L:Loops} {ws:List AObj} (hw:∀x∈ws,LowO 14 x) {f:Nat} {args:List AV} {v:AV} (hb:bodyOf tab f=some (fnOf f,codeOf f)) (hlen:args.length≤1000) (hL:LOK Tryz.prog (cfgS cfg S) (Cw cfg ws) L (codeOf f))
 (h:(pW S L ws f args).wp (·=v)) (hi:idsA v=[]):FactW Tryz.prog cfg f args ws v []:=by
 refine base0.wsem hS hb hlen ((semT_ok (base0.good hS) (orcS_ok cfg S) hL h).mono fun x hx=>?_)
 have hx:(endPW ws f x).wp (·=v):=hx
 unfold endPW at hx
 cases he:endA tab (Cw cfg ws) (fnOf f) x with
 | none=>rw [he] at hx;exact hx.elim
 | some r=>
   rw [he] at hx
   have hx:(bif leNil r.2.le&&(mvA 14 [] 20 r.1).isSome then Tr.ret r.1 else .fail).wp (·=v):=hx
   cases hb:(leNil r.2.le&&(mvA 14 [] 20 r.1).isSome) with
   | false=>rw [hb] at hx;exact hx.elim
   | true=>
     rw [hb,cond_true] at hx
     have hx:r.1=v:=hx
     rw [Bool.and_eq_true] at hb
     have hle:r.2.le=[]:=by
      have:=hb.1
      cases hr:r.2.le with
      | nil=>rfl
      | cons a b=>rw [hr] at this;cases this
     exact ⟨r,rfl,EndW.plainW hw hx hi (by rw [←hx];exact hb.2) hle⟩
theorem low_below {cs:List AV} {rw:Bool} {g:Option Nat} (h:belowL 14 cs=true):LowO 14 (.cells cs rw g):=⟨rfl,fun i hi=>belowL_ok h i hi⟩
def mlenR (y m:Int):Int:=Go.Proofs.YtafekjglclnegaaGreatDoor.mlen y m
def s236:Sum:=fun args=>match args with
 | [.int .i64 y,.int .i64 m]=>some (asrts [intLe (-10000000000000000) y,intLe y 10000000000000000,intLe 1 m,intLe m 12] (.ret (.tuple [.int .i64 (mlenR y m),.int .i64 0])))
 | _=>none
def V1:Sums:=addP (addP (addP (addP (addP U8 113 s113) 144 s144) 154 s154) 172 s172) 236 s236
def ngN (n:Int):Int:=0-maxI n (-9223372036854775807)
def nyV (ng:Bool) (c0 c1 c2 c3:UInt8) (n:Int) (up:Bool):Int:=bif ng then 0-(bif up then getM (prevM c0 c1 c2 c3 (ngN n)) else getM (nextM c0 c1 c2 c3 (maxI (ngN n) 1))) else bif up then getM (nextM c0 c1 c2 c3 (maxI n 0)) else getM (prevM c0 c1 c2 c3 n)
def nyB (ng:Bool) (c0 c1 c2 c3:UInt8) (n:Int) (up:Bool):Bool:=bif ng then (bif up then isM (prevM c0 c1 c2 c3 (ngN n))&&intLe 1 (getM (prevM c0 c1 c2 c3 (ngN n))) else isM (nextM c0 c1 c2 c3 (maxI (ngN n) 1))) else bif up then isM (nextM c0 c1 c2 c3 (maxI n 0)) else isM (prevM c0 c1 c2 c3 n)&&intLe 0 (getM (prevM c0 c1 c2 c3 n))
theorem b181m (ng lg:Bool) (c0 c1 c2 c3:UInt8) (e g:Int) (mo da:List UInt8) (a b c n:Int) (up:Bool) (w1 w2:List AV) (n1 n2:Nat) (k1 k2:Cap) {Q:AV->Prop}:askA Q (pW V1 noL [.cells w1 false none,.cells w2 false none] 181 [.agg [.bool ng,.bool lg,.str [c0,c1,c2,c3],.int .i64 e,.int .i64 g,.str mo,.str da,.int .u8 a,.int .u8 b,.int .u8 c,.slice 14 0 n1 k1,.slice 15 0 n2 k2],.int .i64 n,.bool up]) (dtN 1051145427010114427041051145427010114427044015154270114270404030006)=((fun (u5:AV) (u9:Int) (u4 u7:Option Int) (u0 u1 u2 u3 u6 ua ub:Prop)=>(fun (uc ud ue uf:Option Int)=>(fun (ui ul:AV) (ug uh uj uk:Int)=>not (not (Nat.beq (hasN [c0,c1,c2,c3] 88 88) 0))=false/\(not ng=true->(up=true->u0/\u1/\u2/\u3/\(isM u4=true->Q (AV.tuple [AV.int .i64 (getM u4),u5]))/\(isM u4=false->u6))/\(up=false->u0/\u1/\u2/\u3/\(isM u7=true->Q (AV.tuple [AV.int .i64 (getM u7),AV.bool (intLe 0 (getM u7))]))/\(isM u7=false->u6)))/\(not ng=false->(inR .i64 u9=true->(ua->u0/\u1/\u2/\u3/\(isM uc=true->(inR .i64 ug=true->Q (AV.tuple [AV.int .i64 ug,u5]))/\(inR .i64 ug=false->Q (AV.tuple [AV.int .i64 (IntKind.wrap .i64 ug),u5])))/\(isM uc=false->u6))/\(ub->u0/\u1/\u2/\u3/\(isM ud=true->(inR .i64 uh=true->Q (AV.tuple [AV.int .i64 uh,ui]))/\(inR .i64 uh=false->Q (AV.tuple [AV.int .i64 (IntKind.wrap .i64 uh),ui])))/\(isM ud=false->u6)))/\(inR .i64 u9=false->(ua->u0/\u1/\u2/\u3/\(isM ue=true->(inR .i64 uj=true->Q (AV.tuple [AV.int .i64 uj,u5]))/\(inR .i64 uj=false->Q (AV.tuple [AV.int .i64 (IntKind.wrap .i64 uj),u5])))/\(isM ue=false->u6))/\(ub->u0/\u1/\u2/\u3/\(isM uf=true->(inR .i64 uk=true->Q (AV.tuple [AV.int .i64 uk,ul]))/\(inR .i64 uk=false->Q (AV.tuple [AV.int .i64 (IntKind.wrap .i64 uk),ul])))/\(isM uf=false->u6))))) (AV.bool (intLe 1 (getM ud))) (AV.bool (intLe 1 (getM uf))) (Int.sub 0 (getM uc)) (Int.sub 0 (getM ud)) (Int.sub 0 (getM ue)) (Int.sub 0 (getM uf))) (nextM c0 c1 c2 c3 (maxI u9 1)) (prevM c0 c1 c2 c3 u9) (nextM c0 c1 c2 c3 (maxI (IntKind.wrap .i64 u9) 1)) (prevM c0 c1 c2 c3 (IntKind.wrap .i64 u9))) (AV.bool true) (Int.sub 0 (maxI n (Neg.neg 9223372036854775807))) (nextM c0 c1 c2 c3 (maxI n 0)) (prevM c0 c1 c2 c3 n) (mBy c0=true) (mBy c1=true) (mBy c2=true) (mBy c3=true) (Q (AV.tuple [AV.int .i64 0,AV.bool false])) (not up=true) (not up=false)):=by kernel_rfl
theorem b181n (ng lg:Bool) (s:List UInt8) (e g:Int) (mo da:List UInt8) (a b c n:Int) (up:Bool) (w1 w2:List AV) (n1 n2:Nat) (k1 k2:Cap) {Q:AV->Prop}:askA Q (pW V1 noL [.cells w1 false none,.cells w2 false none] 181 [.agg [.bool ng,.bool lg,.str s,.int .i64 e,.int .i64 g,.str mo,.str da,.int .u8 a,.int .u8 b,.int .u8 c,.slice 14 0 n1 k1,.slice 15 0 n2 k2],.int .i64 n,.bool up]) (dtN 1020700081230003313328224741020700081230003313328224744200520006)=((fun (u4 u5 ua:AV) (u0 u9:Bool) (u2:Int) (u1 u3 u6 u7:Prop)=>(fun (ud:AV) (ub uc:Bool) (ue uf:Prop)=>(fun (ug uh:Prop)=>not (not u0)=true/\Nat.ble (List.length s) 1000=true/\(ub=true->(u1->u1/\u1/\u1/\(ug->ug/\ug/\u3/\u3/\u3/\ug/\u3/\uc=false/\Q (AV.tuple [ud,u4]))/\(uh->uh/\uh/\uh/\uc=true/\Q (AV.tuple [ud,u5])))/\(u6->u6/\u6/\u6/\u7/\u7/\u7/\u7/\Q (AV.tuple [ud,AV.bool (intLe u2 n)])))/\(ub=false->(u1->u1/\u1/\u1/\(ue->ue/\ue/\u3/\u3/\u3/\ue/\u3/\u9=false/\Q (AV.tuple [ua,u4]))/\(uf->uf/\uf/\uf/\u9=true/\Q (AV.tuple [ua,u5])))/\(u6->u6/\u6/\u6/\u7/\u7/\u7/\u7/\Q (AV.tuple [ua,AV.bool (intLe 0 n)])))) (not uc=true) (not uc=false)) (AV.int .i64 u2) (and (okY14 ng lg s e g) u0) (intLe n u2) (not u9=true) (not u9=false)) (AV.bool false) (AV.bool true) (AV.int .i64 0) (Nat.beq (hasN s 88 88) 0) (intLe n 0) (valR ng s e) (up=true) (not up=false) (up=false) (not up=true)):=by kernel_rfl
theorem body181:bodyOf tab 181=some (fnOf 181,codeOf 181):=by kernel_rfl
theorem V1_ok:SumsOK Tryz.prog cfg V1:=by
 refine sums_addP (sums_addG (add154 (sums_addG (add113 U8_ok) (Y4s_ok 144 _ rfl))) (D2s_ok 172 _ rfl)) fun args t v he hv=>?_
 unfold s236 at he
 split at he
 · rename_i y m
   cases he
   obtain ⟨h1,hv⟩:=asrts_run hv
   obtain ⟨h2,hv⟩:=asrts_run hv
   obtain ⟨h3,hv⟩:=asrts_run hv
   obtain ⟨h4,hv⟩:=asrts_run hv
   rw [q_le_t] at h1 h2 h3 h4
   cases hv
   refine fpOK XA7_ok (L:=noL) body236f (by simp) lok_none (wp_gen fun Q' hQ=>askA_wp ((b236 y m).mpr ?_)) (by simp [idsA,idsL])
   simp only [q_all,reduceCtorEq,loK,hiK,ne_eq]
   (repeat' first|exact trivial|refine ⟨?_,?_⟩|intro)<;>first|omega|assumption|exact hQ _ rfl
 · cases he
theorem q_maxI (a b:Int):maxI a b=max a b:=by
 unfold maxI
 cases h:intLe b a with
 | true=>rw [q_le_t] at h;rw [cond_true];omega
 | false=>rw [q_le_f] at h;rw [cond_false];omega
theorem getM_none {x:Option Int} (h:isM x=false):getM x=0:=by cases x with|none=>rfl|some u=>cases h
theorem f181m {ng lg:Bool} {c0 c1 c2 c3:UInt8} {e g:Int} {mo da:List UInt8} {a b c n:Int} {up:Bool} {w1 w2:List AV} {n1 n2:Nat} {k1 k2:Cap} (h0:mBy c0=true) (h1:mBy c1=true) (h2:mBy c2=true) (h3:mBy c3=true) (hx:Nat.beq (hasN [c0,c1,c2,c3] 88 88) 0=false) (hn : -9223372036854775808≤n/\n≤9223372036854775807) (hw1:belowL 14 w1=true) (hw2:belowL 14 w2=true) :
 FactW Tryz.prog cfg 181 [.agg [.bool ng,.bool lg,.str [c0,c1,c2,c3],.int .i64 e,.int .i64 g,.str mo,.str da,.int .u8 a,.int .u8 b,.int .u8 c,.slice 14 0 n1 k1,.slice 15 0 n2 k2],.int .i64 n,.bool up] [.cells w1 false none,.cells w2 false none] (.tuple [.int .i64 (nyV ng c0 c1 c2 c3 n up),.bool (nyB ng c0 c1 c2 c3 n up)]) []:=by
 refine fpwOK V1_ok (L:=noL) (fun x hx=>?_) body181 (by simp) lok_none (wp_gen fun Q' hQ=>askA_wp ((b181m ng lg c0 c1 c2 c3 e g mo da a b c n up w1 w2 n1 n2 k1 k2).mpr ?_)) (by simp [idsA,idsL])
 · simp only [List.mem_cons,List.not_mem_nil,or_false] at hx
   rcases hx with rfl|rfl
   · exact low_below hw1
   · exact low_below hw2
 · simp only [q_all,reduceCtorEq,loK,hiK,ne_eq]
   have bp:∀k,0≤getM (prevM c0 c1 c2 c3 k)/\getM (prevM c0 c1 c2 c3 k)≤9999:=fun k=>by
    cases hp:prevM c0 c1 c2 c3 k with
    | none=>exact ⟨by decide,by decide⟩
    | some u=>have:=(prevM_some.1 hp).1;exact ⟨this.1,this.2.1⟩
   have bn:∀k,0≤getM (nextM c0 c1 c2 c3 k)/\getM (nextM c0 c1 c2 c3 k)≤9999:=fun k=>by
    cases hp:nextM c0 c1 c2 c3 k with
    | none=>exact ⟨by decide,by decide⟩
    | some u=>have:=(nextM_some.1 hp).1;exact ⟨this.1,this.2.1⟩
   have b1:=bp (0-maxI n (-9223372036854775807))
   have b2:=bn (maxI (0-maxI n (-9223372036854775807)) 1)
   have hmx:=q_maxI n (-9223372036854775807)
   have gn:∀x:Option Int,isM x=false->getM x=0:=fun x h=>getM_none h
   have fin:∀(y:Int) (b:Bool),y=nyV ng c0 c1 c2 c3 n up->b=nyB ng c0 c1 c2 c3 n up->Q' (.tuple [.int .i64 y,.bool b]):=fun y b e1 e2=>hQ _ (by rw [e1,e2])
   rw [q_beq_f] at hx
   (repeat' first|exact trivial|refine ⟨?_,?_⟩|intro)<;>first|omega|assumption|(exact hx (by assumption))|(refine fin _ _ ?_ ?_<;>simp_all [nyV,nyB,ngN];done)|(refine fin _ _ ?_ ?_<;>simp_all [nyV,nyB,ngN,gn];done)
theorem f181n {ng lg:Bool} {s:List UInt8} {e g:Int} {mo da:List UInt8} {a b c n:Int} {up:Bool} {w1 w2:List AV} {n1 n2:Nat} {k1 k2:Cap} (hs:s.length≤1000) (hx:Nat.beq (hasN s 88 88) 0=true) (ho:okY14 ng lg s e g=true) (hw1:belowL 14 w1=true) (hw2:belowL 14 w2=true) :
 FactW Tryz.prog cfg 181 [.agg [.bool ng,.bool lg,.str s,.int .i64 e,.int .i64 g,.str mo,.str da,.int .u8 a,.int .u8 b,.int .u8 c,.slice 14 0 n1 k1,.slice 15 0 n2 k2],.int .i64 n,.bool up] [.cells w1 false none,.cells w2 false none] (.tuple [.int .i64 (valR ng s e),.bool (bif up then intLe n (valR ng s e) else intLe (valR ng s e) n)]) []:=by
 refine fpwOK V1_ok (L:=noL) (fun x hx=>?_) body181 (by simp) lok_none (wp_gen fun Q' hQ=>askA_wp ((b181n ng lg s e g mo da a b c n up w1 w2 n1 n2 k1 k2).mpr ?_)) (by simp [idsA,idsL])
 · simp only [List.mem_cons,List.not_mem_nil,or_false] at hx
   rcases hx with rfl|rfl
   · exact low_below hw1
   · exact low_below hw2
 · simp only [q_all,reduceCtorEq,loK,hiK,ne_eq]
   rw [q_beq_t] at hx
   have fin:∀b:Bool,b=(bif up then intLe n (valR ng s e) else intLe (valR ng s e) n)->Q' (.tuple [.int .i64 (valR ng s e),.bool b]):=fun b h=>hQ _ (by rw [h])
   have hno:¬(okY14 ng lg s e g=false∨¬hasN s 88 88=0):=by rw [ho];simp [hx]
   refine ⟨hx,hs,fun _=>?_,fun h=>(hno h).elim⟩
   have hle:n≤valR ng s e->intLe n (valR ng s e)=true:=fun h=>q_le_t.mpr h
   have hlt:valR ng s e<n->intLe n (valR ng s e)=false:=fun h=>q_le_f.mpr h
   (repeat' first|exact trivial|refine ⟨?_,?_⟩|intro)<;>first|omega|assumption|(rename_i hup hn;refine fin _ ?_;rw [hup];first|exact (hle hn).symm|exact (hlt hn).symm)|(rename_i hup;refine fin _ ?_;rw [hup];rfl)
def yV (ng:Bool) (s:List UInt8) (e n:Int) (up:Bool):Int:=bif Nat.beq (hasN s 88 88) 0 then valR ng s e else match s with|[c0,c1,c2,c3]=>nyV ng c0 c1 c2 c3 n up|_=>0
def yB (ng:Bool) (s:List UInt8) (e n:Int) (up:Bool):Bool:=bif Nat.beq (hasN s 88 88) 0 then (bif up then intLe n (valR ng s e) else intLe (valR ng s e) n) else match s with|[c0,c1,c2,c3]=>nyB ng c0 c1 c2 c3 n up|_=>false
def okX (s:List UInt8):Bool:=Nat.beq (hasN s 88 88) 0 || (match s with|[c0,c1,c2,c3]=>mBy c0&&(mBy c1&&(mBy c2&&mBy c3))|_=>false)
def y181:WSum:=fun args ws=>match args,ws with
 | [.agg [.bool ng,.bool lg,.str s,.int .i64 e,.int .i64 g,.str mo,.str da,.int .u8 a,.int .u8 b,.int .u8 c,.slice 14 0 n1 k1,.slice 15 0 n2 k2],.int .i64 n,.bool up],[.cells w1 false none,.cells w2 false none]=>
   some (asrts [belowL 14 w1,belowL 14 w2,inR .i64 n,okY14 ng lg s e g,Nat.ble s.length 1000,okX s] (.ret (.tuple [.int .i64 (yV ng s e n up),.bool (yB ng s e n up)],[])))
 | _,_=>none
theorem okX_m {s:List UInt8} (h:okX s=true) (hx:Nat.beq (hasN s 88 88) 0=false):∃c0 c1 c2 c3,s=[c0,c1,c2,c3]/\mBy c0=true/\mBy c1=true/\mBy c2=true/\mBy c3=true:=by
 unfold okX at h
 rw [hx,Bool.false_or] at h
 split at h
 · rename_i c0 c1 c2 c3
   simp only [Bool.and_eq_true] at h
   exact ⟨c0,c1,c2,c3,rfl,h.1,h.2.1,h.2.2.1,h.2.2.2⟩
 · cases h
theorem add181y {S:Sums} (hS:SumsOK Tryz.prog cfg S):SumsOK Tryz.prog cfg (addG S 181 (winS 14 [1,1] y181)):=by
 refine sums_addG hS (win_ok good0.lv ro0 fun args ws t r he hr=>?_)
 unfold y181 at he
 split at he
 · rename_i ng lg s e g mo da a b c n1 k1 n2 k2 n up w1 w2
   cases he
   obtain ⟨h1,hr⟩:=asrts_run hr
   obtain ⟨h2,hr⟩:=asrts_run hr
   obtain ⟨h3,hr⟩:=asrts_run hr
   obtain ⟨h4,hr⟩:=asrts_run hr
   obtain ⟨h5,hr⟩:=asrts_run hr
   obtain ⟨h6,hr⟩:=asrts_run hr
   rw [q_i64] at h3
   rw [q_ble_t] at h5
   cases hr
   cases hx:Nat.beq (hasN s 88 88) 0 with
   | true=>
     have e1:yV ng s e n up=valR ng s e:=by unfold yV;rw [hx];rfl
     have e2:yB ng s e n up=(bif up then intLe n (valR ng s e) else intLe (valR ng s e) n):=by unfold yB;rw [hx];rfl
     rw [e1,e2]
     exact ⟨f181n h5 hx h4 h1 h2,fun x hx=>by cases hx⟩
   | false=>
     obtain ⟨c0,c1,c2,c3,rfl,m0,m1,m2,m3⟩:=okX_m h6 hx
     have e1:yV ng [c0,c1,c2,c3] e n up=nyV ng c0 c1 c2 c3 n up:=by unfold yV;rw [hx];rfl
     have e2:yB ng [c0,c1,c2,c3] e n up=nyB ng c0 c1 c2 c3 n up:=by unfold yB;rw [hx];rfl
     rw [e1,e2]
     exact ⟨f181m m0 m1 m2 m3 hx h3 h1 h2,fun x hx=>by cases hx⟩
 · cases he
theorem valR_bnd {ng lg:Bool} {s:List UInt8} {e g:Int} (ho:okY14 ng lg s e g=true) (h0:hasN s 88 88=0) : -10000000000000000≤valR ng s e/\valR ng s e≤10000000000000000:=by
 have hd:=(okY14_dig ho h0).1
 have key:magV s e.toNat≤10000000000000000:=by
  unfold okY14 at ho
  rw [decide_eq_true_eq] at ho
  rcases ho with ⟨_,_,h|h⟩
  · obtain ⟨_,hl,he,_⟩:=h
    subst he
    match s,hl with
    | [a,b,c,d],_=>
      have k0:=digL_at hd (i:=0) (by simp)
      have k1:=digL_at hd (i:=1) (by simp)
      have k2:=digL_at hd (i:=2) (by simp)
      have k3:=digL_at hd (i:=3) (by simp)
      simp only [List.getD_cons_zero,List.getD_cons_succ] at k0 k1 k2 k3
      show magV [a,b,c,d] 0≤_
      unfold magV numL
      simp only [List.foldl_cons,List.foldl_nil,Nat.pow_zero]
      omega
  · have:=h.2.2.2.2.2.2.2.2.2
    unfold magOk at this
    rwa [q_ble_t] at this
 unfold valR
 cases ng<;>simp only [cond_true,cond_false]<;>omega
theorem nm_some {c0 c1 c2 c3:UInt8} {k:Int} (h:isM (nextM c0 c1 c2 c3 k)=true):k≤getM (nextM c0 c1 c2 c3 k):=by
 cases hp:nextM c0 c1 c2 c3 k with
 | none=>rw [hp] at h;cases h
 | some u=>exact (nextM_some.1 hp).2.1
theorem pm_some {c0 c1 c2 c3:UInt8} {k:Int} (h:isM (prevM c0 c1 c2 c3 k)=true):getM (prevM c0 c1 c2 c3 k)≤k:=by
 cases hp:prevM c0 c1 c2 c3 k with
 | none=>rw [hp] at h;cases h
 | some u=>exact (prevM_some.1 hp).2.1
theorem nm_bnd {c0 c1 c2 c3:UInt8} {k:Int}:0≤getM (nextM c0 c1 c2 c3 k)/\getM (nextM c0 c1 c2 c3 k)≤9999:=by
 cases hp:nextM c0 c1 c2 c3 k with
 | none=>exact ⟨by decide,by decide⟩
 | some u=>have:=(nextM_some.1 hp).1;exact ⟨this.1,this.2.1⟩
theorem pm_bnd {c0 c1 c2 c3:UInt8} {k:Int}:0≤getM (prevM c0 c1 c2 c3 k)/\getM (prevM c0 c1 c2 c3 k)≤9999:=by
 cases hp:prevM c0 c1 c2 c3 k with
 | none=>exact ⟨by decide,by decide⟩
 | some u=>have:=(prevM_some.1 hp).1;exact ⟨this.1,this.2.1⟩
theorem yB_up {ng:Bool} {s:List UInt8} {e n:Int} (h:yB ng s e n true=true):n≤yV ng s e n true:=by
 unfold yB at h
 unfold yV
 cases hx:Nat.beq (hasN s 88 88) 0 with
 | true=>rw [hx] at h;simp only [cond_true] at h ⊢;rwa [q_le_t] at h
 | false=>
   rw [hx,cond_false] at h
   rw [cond_false]
   split at h
   · rename_i c0 c1 c2 c3
     unfold nyB at h
     unfold nyV
     cases ng with
     | true=>
       simp only [cond_true,Bool.and_eq_true,q_le_t] at h ⊢
       have:=pm_some h.1
       unfold ngN at *
       rw [q_maxI] at *
       omega
     | false=>
       simp only [cond_true,cond_false] at h ⊢
       have:=nm_some h
       rw [q_maxI] at *
       omega
   · cases h
theorem yV_bnd {ng lg:Bool} {s:List UInt8} {e g n:Int} {up:Bool} (ho:okY14 ng lg s e g=true) : -10000000000000000≤yV ng s e n up/\yV ng s e n up≤10000000000000000:=by
 unfold yV
 cases hx:Nat.beq (hasN s 88 88) 0 with
 | true=>rw [cond_true];rw [q_beq_t] at hx;exact valR_bnd ho hx
 | false=>
   rw [cond_false]
   split
   · rename_i c0 c1 c2 c3
     unfold nyV
     have b1:=@nm_bnd c0 c1 c2 c3
     have b2:=@pm_bnd c0 c1 c2 c3
     cases ng<;>cases up<;>simp only [cond_true,cond_false]
     · have:=b2 (k:=n);omega
     · have:=b1 (k:=maxI n 0);omega
     · have:=b1 (k:=maxI (ngN n) 1);omega
     · have:=b2 (k:=ngN n);omega
   · omega
noncomputable def V2:Sums:=addG V1 181 (winS 14 [1,1] y181)
theorem V2_ok:SumsOK Tryz.prog cfg V2:=add181y V1_ok
abbrev relK:List Nat:=[3,4,5,6,7,8,9,10,11,12,53,54,55,15,16,17,94,95,96]
def pickD (nda sm:Bool) (mst cd d:Int):Bool:=intLe d mst&&!(sm&&(nda&&!(intLe cd d)))
def firstD (nda sm:Bool) (mst cd:Int) (D:List Int):Option Int:=D.find? (pickD nda sm mst cd)
def ndaB (da:List UInt8):Bool:=!(bytesEq da [])
def v115c (D:List Int):LoopV:=fun vs o=>match vs,o with
 | [.ptr 16 0,.ptr 17 0,.ptr 18 0,.ptr 19 0,.bool false,.int .i64 1,.slice 14 0 n1 k1,.slice 15 0 n2 k2,.func 180 [] [.ptr 18 0],.int .i64 y,.slice 14 0 n1' k1',.int .i64 n1'',.int .i64 j,.int .i64 m,.bool sm,.int .i64 mst,.slice 15 0 n2' k2',.int .i64 n2'',.int .i64 i],
   ⟨4,[.cells [.int .i64 0,.int .i64 0,.int .i64 0] true none,.cells [.bool true] true none,.cells [.int .i64 cy,.int .i64 cm,.int .i64 cd] true none,
   .cells [.bool ng,.bool lg,.str s,.int .i64 e,.int .i64 g,.str mo,.str da,.int .u8 a,.int .u8 b,.int .u8 c,.slice 14 0 n1a k1a,.slice 15 0 n2a k2a] true none],[]⟩=>
   some (asrts [Nat.ble n2 1000,Nat.beq D.length n2,Nat.beq n2' n2,intEq n2'' (Int.ofNat n2),intEq i 0] (.test (isM (firstD (ndaB da) sm mst cd D)) fun x=>bif x then
    .all fun J=>.ret (.ret,[.ptr 16 0,.ptr 17 0,.ptr 18 0,.ptr 19 0,.bool true,.int .i64 1,.slice 14 0 n1 k1,.slice 15 0 n2 k2,.func 180 [] [.ptr 18 0],.int .i64 y,.slice 14 0 n1' k1',.int .i64 n1'',.int .i64 j,.int .i64 m,.bool sm,.int .i64 mst,.slice 15 0 n2' k2',.int .i64 n2'',.any (J 0)],
     ⟨4,[.cells [.int .i64 y,.int .i64 m,.int .i64 (getM (firstD (ndaB da) sm mst cd D))] true none,.cells [.bool true] true none,.cells [.int .i64 cy,.int .i64 cm,.int .i64 cd] true none,
   .cells [.bool ng,.bool lg,.str s,.int .i64 e,.int .i64 g,.str mo,.str da,.int .u8 a,.int .u8 b,.int .u8 c,.slice 14 0 n1a k1a,.slice 15 0 n2a k2a] true none],[]⟩)
    else .ret (.exit 4,[.ptr 16 0,.ptr 17 0,.ptr 18 0,.ptr 19 0,.bool false,.int .i64 1,.slice 14 0 n1 k1,.slice 15 0 n2 k2,.func 180 [] [.ptr 18 0],.int .i64 y,.slice 14 0 n1' k1',.int .i64 n1'',.int .i64 j,.int .i64 m,.bool sm,.int .i64 mst,.slice 15 0 n2' k2',.int .i64 n2'',.int .i64 n2''],o)))
 | _,_=>none
theorem find_at {α:Type} {p:α->Bool} {d:α}:∀{D:List α} {i:Nat},i<D.length->(∀k,k<i->p (D.getD k d)=false)->p (D.getD i d)=true->D.find? p=some (D.getD i d)
 | [],i,h,_,_=>by simp at h
 | x::D,0,_,_,h=>by
   have h:p x=true:=h
   rw [List.find?_cons,h];rfl
 | x::D,i+1,hi,hk,h=>by
   have h0:p x=false:=hk 0 (by omega)
   rw [List.find?_cons,h0]
   exact find_at (D:=D) (i:=i) (by simpa using hi) (fun k hk'=>hk (k+1) (by omega)) h
theorem find_none {α:Type} {p:α->Bool} {d:α} {D:List α} (h:∀k,k<D.length->p (D.getD k d)=false):D.find? p=none:=by
 rw [List.find?_eq_none]
 intro x hx
 obtain ⟨i,hi⟩:=List.getElem?_of_mem hx
 have hl:=(List.getElem?_eq_some_iff.1 hi).1
 have:=h i hl
 rw [List.getD_eq_getElem?_getD,hi] at this
 simpa using this
theorem celL_at {D:List Int} {i:Nat} (h:i<D.length):List.getD (celL D) (0+i*1) (AV.tuple [])=.int .i64 (D.getD i 0):=by
 unfold celL
 rw [Nat.zero_add,Nat.mul_one,List.getD_eq_getElem?_getD,List.getElem?_map,List.getD_eq_getElem?_getD,List.getElem?_eq_getElem h]
 rfl
theorem r115c (ng lg:Bool) (s:List UInt8) (e g:Int) (mo da:List UInt8) (a b c:Int) (n1 n1' n2 n1a n2a:Nat) (k1 k2 k1' k2' k1a k2a:Cap) (n1'' j cy cm cd:Int) (w1 w2:List AV) (y m mst:Int) (sm:Bool) (i:Nat) (J:Nat->Value) {Q:VQ->Prop}:askA Q (rT V2 noL [.cells w1 false none,.cells w2 false none] 115 2 127 relK [.ptr 16 0,.ptr 17 0,.ptr 18 0,.ptr 19 0,.bool false,.int .i64 1,.slice 14 0 n1 k1,.slice 15 0 n2 k2,.func 180 [] [.ptr 18 0],.int .i64 y,.slice 14 0 n1' k1',.int .i64 n1'',.int .i64 j,.int .i64 m,.bool sm,.int .i64 mst,.slice 15 0 n2 k2',.int .i64 (Int.ofNat n2),.int .i64 (Int.ofNat i)] J ⟨4,[.cells [.int .i64 0,.int .i64 0,.int .i64 0] true none,.cells [.bool true] true none,.cells [.int .i64 cy,.int .i64 cm,.int .i64 cd] true none,.cells [.bool ng,.bool lg,.str s,.int .i64 e,.int .i64 g,.str mo,.str da,.int .u8 a,.int .u8 b,.int .u8 c,.slice 14 0 n1a k1a,.slice 15 0 n2a k2a] true none],[]⟩) (dtN 1112080533531002202052328100223238120227300033100273020002204052074270224244204)=((fun (u5 u6 u7 u9 ua ub uc ud ue uf ug uh ui uj uk ul um un uo:AV) (u1 u4:Bool) (u0 u2:Int) (u3 up:Prop)=>(fun (uu uv:AV) (uq ut:Bool) (ur us uw ux:Prop)=>(fun (uy uz uA uB:Prop)=>(uq=true->natLt i n2=true/\(u1=true->(ur->ur/\(u3->u3/\u3/\u3/\ur/\u3/\ur/\(us->us/\us/\us/\us/\(uy->uy/\uy/\uy/\ut=false/\ur/\us/\uz)/\(uA->uA/\uA/\uA/\ut=true/\ur/\us/\ur/\ur/\uB))/\(uw->uw/\uw/\uw/\uw/\ur/\uw/\uz))/\(up->up/\up/\up/\ur/\up/\ur/\ur/\uz))/\(ux->ux/\ux/\ux/\ux/\ux/\ux/\uB))/\(u1=false->False))/\(uq=false->Q (AX.exit 4,([u5,u6,u7,u9,un,ub,uc,ud,uu,ue,uf,ug,uh,ui,uj,uk,ul,um,uv],{ n:=4,os:=[AObj.cells [uo,uo,uo] true Option.none,AObj.cells [ua] true Option.none,AObj.cells [AV.int .i64 cy,AV.int .i64 cm,AV.int .i64 cd] true Option.none,AObj.cells [AV.bool ng,AV.bool lg,AV.str s,AV.int .i64 e,AV.int .i64 g,AV.str mo,AV.str da,AV.int .u8 a,AV.int .u8 b,AV.int .u8 c,AV.slice 14 0 n1a k1a,AV.slice 15 0 n2a k2a] true Option.none],le:=[] })))) (not ut=true) (ur/\ur/\Q (AX.ret,([u5,u6,u7,u9,ua,ub,uc,ud,uu,ue,uf,ug,uh,ui,uj,uk,ul,um,uv],{ n:=4,os:=[AObj.cells [ue,ui,AV.int .i64 u2] true Option.none,AObj.cells [ua] true Option.none,AObj.cells [AV.int .i64 cy,AV.int .i64 cm,AV.int .i64 cd] true Option.none,AObj.cells [AV.bool ng,AV.bool lg,AV.str s,AV.int .i64 e,AV.int .i64 g,AV.str mo,AV.str da,AV.int .u8 a,AV.int .u8 b,AV.int .u8 c,AV.slice 14 0 n1a k1a,AV.slice 15 0 n2a k2a] true Option.none],le:=[] }))) (not ut=false) (inR .i64 (Int.add u0 1)=true/\Q (AX.normal,([u5,u6,u7,u9,un,ub,uc,ud,uu,ue,uf,ug,uh,ui,uj,uk,ul,um,AV.int .i64 (Int.add u0 1)],{ n:=4,os:=[AObj.cells [uo,uo,uo] true Option.none,AObj.cells [ua] true Option.none,AObj.cells [AV.int .i64 cy,AV.int .i64 cm,AV.int .i64 cd] true Option.none,AObj.cells [AV.bool ng,AV.bool lg,AV.str s,AV.int .i64 e,AV.int .i64 g,AV.str mo,AV.str da,AV.int .u8 a,AV.int .u8 b,AV.int .u8 c,AV.slice 14 0 n1a k1a,AV.slice 15 0 n2a k2a] true Option.none],le:=[] })))) (AV.func 180 [] [u7]) (AV.int .i64 u0) (not (intLe (Int.ofNat n2) u0)) (not (intLe cd u2)) (intLe u2 mst=true) (u4=true) (u4=false) (intLe u2 mst=false)) (AV.ptr 16 0) (AV.ptr 17 0) (AV.ptr 18 0) (AV.ptr 19 0) (AV.bool true) (AV.int .i64 1) (AV.slice 14 0 n1 k1) (AV.slice 15 0 n2 k2) (AV.int .i64 y) (AV.slice 14 0 n1' k1') (AV.int .i64 n1'') (AV.int .i64 j) (AV.int .i64 m) (AV.bool sm) (AV.int .i64 mst) (AV.slice 15 0 n2 k2') (AV.int .i64 (Int.ofNat n2)) (AV.bool false) (AV.int .i64 0) (isKA .i64 (List.getD w2 (HAdd.hAdd 0 (HMul.hMul i 1)) (AV.tuple []))) (not (bytesEq da [])) (Int.ofNat i) (intOf (List.getD w2 (HAdd.hAdd 0 (HMul.hMul i 1)) (AV.tuple []))) (sm=true) (sm=false)):=by kernel_rfl
theorem body115:bodyOf tab 115=some (fnOf 115,codeOf 115):=by kernel_rfl
theorem loops115:(loopsOf (codeOf 115)).map (·.1)=[0,2,4]:=by kernel_rfl
theorem lv115c (M:List AV) (D:List Int):LoopVOK Tryz.prog (cfgS cfg V2) (Cw cfg [.cells M false none,.cells (celL D) false none]) (lb 115 2) 127 relK (v115c D):=by
 intro vs o t Q hv hq J
 unfold v115c at hv
 split at hv
 · rename_i n1 k1 n2 k2 y n1' k1' n1'' j m sm mst n2' k2' n2'' i cy cm cd ng lg s e g mo da a b c n1a k1a n2a k2a
   cases hv
   obtain ⟨h1,hq⟩:=asrts_wp hq
   obtain ⟨h2,hq⟩:=asrts_wp hq
   obtain ⟨h3,hq⟩:=asrts_wp hq
   obtain ⟨h4,hq⟩:=asrts_wp hq
   obtain ⟨h5,hq⟩:=asrts_wp hq
   rw [q_ble_t] at h1
   rw [q_beq_t] at h2 h3
   rw [q_eq_t] at h4 h5
   subst h2 h3 h4 h5
   simp only [asrts,Tr.wp] at hq
   refine lvOK V2_ok rfl rfl lok_none (ι:={i:Nat // i≤D.length/\∀k,k<i->pickD (ndaB da) sm mst cd (D.getD k 0)=false}) (fun x=>[.ptr 16 0,.ptr 17 0,.ptr 18 0,.ptr 19 0,.bool false,.int .i64 1,.slice 14 0 n1 k1,.slice 15 0 D.length k2,.func 180 [] [.ptr 18 0],.int .i64 y,.slice 14 0 n1' k1',.int .i64 n1'',.int .i64 j,.int .i64 m,.bool sm,.int .i64 mst,.slice 15 0 D.length k2',.int .i64 (Int.ofNat D.length),.int .i64 (Int.ofNat x.1)])
    (fun _=>⟨4,[.cells [.int .i64 0,.int .i64 0,.int .i64 0] true none,.cells [.bool true] true none,.cells [.int .i64 cy,.int .i64 cm,.int .i64 cd] true none,.cells [.bool ng,.bool lg,.str s,.int .i64 e,.int .i64 g,.str mo,.str da,.int .u8 a,.int .u8 b,.int .u8 c,.slice 14 0 n1a k1a,.slice 15 0 n2a k2a] true none],[]⟩) (fun x=>D.length-x.1) 4 (fun _=>Nat.le_refl _) (fun x J=>?_) (Nat.le_refl _) (fun J=>Wk.refl ⟨⟨0,Nat.zero_le _,fun k hk=>absurd hk (Nat.not_lt_zero k)⟩,J,rfl⟩) J
   obtain ⟨i,hi,hp⟩:=x
   dsimp only
   refine wp_gen fun Q' hQ=>askA_wp ((r115c ng lg s e g mo da a b c n1 n1' D.length n1a n2a k1 k2 k1' k2' k1a k2a n1'' j cy cm cd M (celL D) y m mst sm i J).mpr ?_)
   dsimp only
   have yes:i<D.length->pickD (ndaB da) sm mst cd (D.getD i 0)=true->∀J:Nat->Value,Q (.ret,[.ptr 16 0,.ptr 17 0,.ptr 18 0,.ptr 19 0,.bool true,.int .i64 1,.slice 14 0 n1 k1,.slice 15 0 D.length k2,.func 180 [] [.ptr 18 0],.int .i64 y,.slice 14 0 n1' k1',.int .i64 n1'',.int .i64 j,.int .i64 m,.bool sm,.int .i64 mst,.slice 15 0 D.length k2',.int .i64 (Int.ofNat D.length),.any (J 0)],
    ⟨4,[.cells [.int .i64 y,.int .i64 m,.int .i64 (D.getD i 0)] true none,.cells [.bool true] true none,.cells [.int .i64 cy,.int .i64 cm,.int .i64 cd] true none,.cells [.bool ng,.bool lg,.str s,.int .i64 e,.int .i64 g,.str mo,.str da,.int .u8 a,.int .u8 b,.int .u8 c,.slice 14 0 n1a k1a,.slice 15 0 n2a k2a] true none],[]⟩):=fun hlt hpick J2=>by
    have hf:firstD (ndaB da) sm mst cd D=some (D.getD i 0):=find_at hlt hp hpick
    rw [hf] at hq
    exact hq J2
   have no:¬i<D.length->Q (.exit 4,[.ptr 16 0,.ptr 17 0,.ptr 18 0,.ptr 19 0,.bool false,.int .i64 1,.slice 14 0 n1 k1,.slice 15 0 D.length k2,.func 180 [] [.ptr 18 0],.int .i64 y,.slice 14 0 n1' k1',.int .i64 n1'',.int .i64 j,.int .i64 m,.bool sm,.int .i64 mst,.slice 15 0 D.length k2',.int .i64 (Int.ofNat D.length),.int .i64 (Int.ofNat D.length)],
    ⟨4,[.cells [.int .i64 0,.int .i64 0,.int .i64 0] true none,.cells [.bool true] true none,.cells [.int .i64 cy,.int .i64 cm,.int .i64 cd] true none,.cells [.bool ng,.bool lg,.str s,.int .i64 e,.int .i64 g,.str mo,.str da,.int .u8 a,.int .u8 b,.int .u8 c,.slice 14 0 n1a k1a,.slice 15 0 n2a k2a] true none],[]⟩):=fun hge=>by
    have hf:firstD (ndaB da) sm mst cd D=none:=find_none fun k hk=>hp k (by omega)
    rw [hf] at hq
    exact hq
   have next:pickD (ndaB da) sm mst cd (D.getD i 0)=false->∀k,k<i+1->pickD (ndaB da) sm mst cd (D.getD k 0)=false:=fun h k hk=>by
    by_cases e:k=i
    · subst e;exact h
    · exact hp k (by omega)
   by_cases hlt:i<D.length
   · rw [celL_at hlt]
     have yes:=yes hlt
     clear no
     have hpe:pickD (ndaB da) sm mst cd (D.getD i 0)=(intLe (D.getD i 0) mst&&!(sm&&(!(bytesEq da [])&&!(intLe cd (D.getD i 0))))):=rfl
     generalize D.getD i 0=d at *
     simp only [isKA,intOf,sameK,ctorK]
     simp only [q_all,reduceCtorEq,loK,hiK,ne_eq]
     have hpi:pickD (ndaB da) sm mst cd d=true↔(d≤mst/\¬(sm=true/\bytesEq da []=false/\d<cd)):=by
      rw [hpe,Bool.and_eq_true,q_le_t]
      refine and_congr_right fun _=>?_
      cases sm<;>cases bytesEq da []<;>cases hcd:intLe cd d<;>first|(rw [q_le_t] at hcd;simp;done)|(rw [q_le_f] at hcd;simp;done)|(rw [q_le_t] at hcd;simp;omega)|(rw [q_le_f] at hcd;simp;omega)
     clear hpe
     generalize hpd:pickD (ndaB da) sm mst cd d=pd at *
     (repeat' first|exact trivial|refine ⟨?_,?_⟩|intro)<;>first|omega|assumption|refine hQ _ ?_
     all_goals first
      | (refine ⟨_,_,VW.any (.same (.same (.same (.same (.same (.same (.same (.same (.same (.same (.same (.same (.same (.same (.same (.same (.same (.same (.int .nil))))))))))))))))))) rfl,yes (hpi.2 ⟨by assumption,?_⟩) (jv [_])⟩;simp_all;done)
      | (refine ⟨_,_,VW.any (.same (.same (.same (.same (.same (.same (.same (.same (.same (.same (.same (.same (.same (.same (.same (.same (.same (.same (.int .nil))))))))))))))))))) rfl,yes (hpi.2 ⟨by assumption,?_⟩) (jv [_])⟩;simp_all;omega)
      | (refine ⟨⟨i+1,by omega,next ?_⟩,by dsimp only;omega,VW.of_eq rfl rfl⟩;rw [←Bool.not_eq_true,hpi];simp_all;done)
      | (refine ⟨⟨i+1,by omega,next ?_⟩,by dsimp only;omega,VW.of_eq rfl rfl⟩;rw [←Bool.not_eq_true,hpi];simp_all;omega)
   · obtain rfl:i=D.length:=by omega
     have no2:=no hlt
     simp only [q_all,reduceCtorEq,loK,hiK,ne_eq]
     (repeat' first|exact trivial|refine ⟨?_,?_⟩|intro)<;>first|omega|assumption|(exfalso;omega)|(refine hQ _ ?_;exact ⟨_,_,VW.refl,no2⟩)
 · cases hv
end Go.Ev
