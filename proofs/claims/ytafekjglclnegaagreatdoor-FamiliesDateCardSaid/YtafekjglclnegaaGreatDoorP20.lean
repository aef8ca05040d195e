import Derived.Test.YtafekjglclnegaaGreatDoorP19
set_option linter.all false
namespace Go.Ev
open Go Go.Proofs
noncomputable def fnOf (f:Nat):Func:=match bodyOf tab f with
 | some p=>p.1
 | none=>default
noncomputable def codeOf (f:Nat):Code:=match bodyOf tab f with
 | some p=>p.2
 | none=>.skip
noncomputable def lb (f i:Nat):Code:=((loopsOf (codeOf f)).getD i (0,.skip)).2
abbrev VQ:Type:=AX×List AV×Own
abbrev EQ:Type:=AV×Own
def noL:Loops:=fun _=>none
def addL (L:Loops) (id:Nat) (e:St->Tr (AX×St)):Loops:=fun j=>bif Nat.beq j id then some e else L j
abbrev own0:Own:=⟨0,[],[]⟩
noncomputable def endK (ws:List AObj) (f:Nat) (x:AX×St):Tr EQ:=liftK (endA tab (Cw cfg ws) (fnOf f) x) .ret
noncomputable def rT (S:Sums) (L:Loops) (ws:List AObj) (f i tn:Nat) (rel:List Nat) (vals:List AV) (J:Nat->Value) (o:Own):Tr VQ:=semT tab (cfgS cfg S) (orcS S) L 1000 (Cw cfg ws) (lb f i) (stN tn rel vals J o) (viewK tn rel .ret)
noncomputable def bT (S:Sums) (L:Loops) (ws:List AObj) (f:Nat) (args:List AV):Tr EQ:=semT tab (cfgS cfg S) (orcS S) L 1000 (Cw cfg ws) (codeOf f) (startA (fnOf f) args own0) (endK ws f)
def leNil:List (Nat×AObj)->Bool
 | []=>true
 | _=>false
noncomputable def endP (f:Nat) (x:AX×St):Tr AV:=liftK (endA tab (Cw cfg []) (fnOf f) x) fun r=>bif leNil r.2.le&&(mvA 14 [] 20 r.1).isSome then .ret r.1 else .fail
noncomputable def pT (S:Sums) (L:Loops) (f:Nat) (args:List AV):Tr AV:=semT tab (cfgS cfg S) (orcS S) L 1000 (Cw cfg []) (codeOf f) (startA (fnOf f) args own0) (endP f)
theorem ro0:∀id,id<cfg.root.n->rwO (cfg.root.at id)=false:=by decide
def EndW (ws:List AObj) (v:AV) (news:List AObj) (r:EQ):Prop:=Wk cfg (Cw cfg ws) 0 ⟨.node r.1 .nil .nil,1,r.2,[],none⟩ fun s=>s.o=⟨news.length,news,[]⟩/\s.ts.get 0=v
theorem EndW.refl {ws:List AObj} {v:AV} {news:List AObj}:EndW ws v news (v,⟨news.length,news,[]⟩):=Wk.refl ⟨rfl,rfl⟩
theorem EndW.of {ws:List AObj} {v v':AV} {o:Own} {news:List AObj} (h1:v'=v) (h2:o=⟨news.length,news,[]⟩):EndW ws v news (v',o):=by subst h1 h2;exact EndW.refl
theorem lowC0:LowC (Cw cfg []):=fun id hid=>by
 have h14:id<cfg.root.n:=hid
 have:getB (Cw cfg []).B id=cfg.root.at id:=by
  simp only [Cw,getB]
  rw [bleF (by omega)]
  simp only [cond_false,leAt]
  rw [ble_iff.2 (Nat.zero_le _),cond_true,Nat.sub_zero]
 rw [this]
 exact ⟨good0.lv.loops id h14,fun i hi=>good0.lv.root id h14 i hi⟩
theorem mvA_plain {b:Nat} {ρ:List (Nat×Nat)}:∀{d:Nat} {v v':AV},mvA b ρ d v=some v'->idsA v=[]->v'=v:=by
 intro d
 induction d with
 | zero=>intro v v' h;cases h
 | succ d ih=>
   have ihl:∀{vs vs':List AV},mvL (mvA b ρ d) vs=some vs'->idsL vs=[]->vs'=vs:=by
    intro vs
    induction vs with
    | nil=>intro vs' h _;cases h;rfl
    | cons v vs ihv=>
      intro vs' h hi
      simp only [mvL,ob_some,Option.some.injEq] at h
      obtain ⟨v1,h1,vs1,h2,rfl⟩:=h
      simp only [idsL,List.append_eq_nil_iff] at hi
      rw [ih h1 hi.1,ihv h2 hi.2]
   intro v v' h hi
   unfold mvA at h
   cases v<;>simp only [ob_some,Option.some.injEq] at h<;>simp only [idsA,List.append_eq_nil_iff,reduceCtorEq,List.cons_ne_self] at hi
   case func f a c=>obtain ⟨a',ha,c',hc,rfl⟩:=h;rw [ihl ha hi.1,ihl hc hi.2]
   case iface t u=>obtain ⟨u',hu,rfl⟩:=h;rw [ih hu hi]
   case agg cs=>obtain ⟨a',ha,rfl⟩:=h;rw [ihl ha hi]
   case tuple cs=>obtain ⟨a',ha,rfl⟩:=h;rw [ihl ha hi]
   all_goals exact h.symm
theorem EndW.plain {v v':AV} {o:Own} (h1:v'=v) (hi:idsA v=[]) (hm:(mvA 14 [] 20 v).isSome=true) (hle:o.le=[]):EndW [] v [] (v',o):=by
 subst h1
 obtain ⟨u,hu⟩:=Option.isSome_iff_exists.1 hm
 have e:=mvA_plain hu hi
 subst e
 refine (wk_move good0.lv (C:=Cw cfg []) (st:=⟨.node u .nil .nil,1,o,[],none⟩) (kb:=0) (sel:=[]) (ts':=.node u .nil .nil) (o':=own0) lowC0 (Nat.zero_le _) (fun s hs=>by cases hs) List.nodup_nil (fun p hp=>by rw [show (⟨.node u .nil .nil,1,o,[],none⟩:St).o=o from rfl,hle] at hp;cases hp) hle.symm rfl rfl (fun i hi=>absurd hi (Nat.not_lt_zero i)) (fun t ht=>absurd ht (Nat.not_lt_zero t)) ?_ (fun d hd=>by cases hd) (fun i hi=>by cases hi)).mono fun s hs=>?_
 · have hu':mvA ((Cw cfg []).lo+0) (pairs (Cw cfg []).lo 0 []) 20 u=some u:=hu
   simp only [mvT,hu',ob]
 · rw [hs];exact ⟨rfl,rfl⟩
section
variable {S:Sums} (hS:SumsOK Tryz.prog cfg S) {L:Loops} {ws:List AObj}
include hS
theorem lvOK {f i tn:Nat} {rel:List Nat} (htn:natLt tn 1000000=true) (hrel:allLt tn rel=true) (hL:LOK Tryz.prog (cfgS cfg S) (Cw cfg ws) L (lb f i)) {ι:Type} (vals:ι->List AV) (own:ι->Own) (μ:ι->Nat) (kb:Nat) (hkb:∀x,kb≤(own x).n) {Q:VQ->Prop}
 (hr:∀x J,(rT S L ws f i tn rel (vals x) J (own x)).wp fun q=>match q.1 with
   | .normal=>∃y,μ y<μ x/\VW cfg (Cw cfg ws) kb tn rel q.2.1 q.2.2 (vals y) (own y)
   | ax=>∃vs2 o2,VW cfg (Cw cfg ws) kb tn rel q.2.1 q.2.2 vs2 o2/\Q (ax,vs2,o2)) {vs:List AV} {o:Own} (hk:o.n≤kb) (h0:∀J,Wk cfg (Cw cfg ws) kb (stN tn rel vs J o) fun s=>∃x J',s=stN tn rel (vals x) J' (own x)) (J:Nat->Value) :
 Sem Tryz.prog (cfgS cfg S) (Cw cfg ws) (.loop (lb f i)) (stN tn rel vs J o) fun r=>∃ax vs' o' J',Q (ax,vs',o')/\r=(ax,stN tn rel vs' J' o'):=by
 have hW:∀{k:Nat} {st:St} {A:St->Prop},Wk cfg (Cw cfg ws) k st A->Wk (cfgS cfg S) (Cw cfg ws) k st A:=fun h D m a w hi ht=>by
  obtain ⟨s,D',m',hA,h1,h2,h3,h4,h5⟩:=h D m a w (Inv.to (cfg:=cfgS cfg S) (cfg':=cfg) rfl rfl hi) ht
  exact ⟨s,D',m',hA,h1,h2,h3,Inv.to (cfg:=cfg) (cfg':=cfgS cfg S) rfl rfl h4,fun D0 m0 o0 w0 ho hl he=>Ext.to (cfg:=cfg) (cfg':=cfgS cfg S) rfl rfl (h5 D0 m0 o0 w0 ho hl (Ext.to (cfg:=cfgS cfg S) (cfg':=cfg) rfl rfl he))⟩
 refine loop_view (base0.good hS) (orcS_ok cfg S) (kb:=kb) (n:=1000) (natLt_iff.1 htn) hrel hL vals own μ hkb (fun x J=>?_) hk (fun J=>hW (h0 J)) J
 refine Tr.wp_mono (fun q hq=>?_) (hr x J)
 revert hq
 cases q.1 with
 | normal=>exact fun ⟨y,hy,hv⟩=>⟨y,hy,fun J=>hW (hv J)⟩
 | exit id=>exact fun ⟨vs2,o2,hv,h⟩=>⟨vs2,o2,fun J=>hW (hv J),h⟩
 | ret=>exact fun ⟨vs2,o2,hv,h⟩=>⟨vs2,o2,fun J=>hW (hv J),h⟩
theorem fwOK {f:Nat} {args:List AV} {v:AV} {news:List AObj} (hb:bodyOf tab f=some (fnOf f,codeOf f)) (hlen:args.length≤1000) (hL:LOK Tryz.prog (cfgS cfg S) (Cw cfg ws) L (codeOf f))
 (h:(bT S L ws f args).wp (EndW ws v news)):FactW Tryz.prog cfg f args ws v news:=by
 refine base0.wsem hS hb hlen ((semT_ok (base0.good hS) (orcS_ok cfg S) hL h).mono fun x hx=>?_)
 have hx:(endK ws f x).wp (EndW ws v news):=hx
 unfold endK at hx
 cases he:endA tab (Cw cfg ws) (fnOf f) x with
 | none=>rw [he] at hx;exact hx.elim
 | some r=>rw [he] at hx;exact ⟨r,rfl,hx⟩
end
theorem fpOK {S:Sums} (hS:SumsOK Tryz.prog cfg S) {L:Loops} {f:Nat} {args:List AV} {v:AV} (hb:bodyOf tab f=some (fnOf f,codeOf f)) (hlen:args.length≤1000) (hL:LOK Tryz.prog (cfgS cfg S) (Cw cfg []) L (codeOf f))
 (h:(pT S L f args).wp (·=v)) (hi:idsA v=[]):FactW Tryz.prog cfg f args [] v []:=by
 refine base0.wsem hS hb hlen ((semT_ok (base0.good hS) (orcS_ok cfg S) hL h).mono fun x hx=>?_)
 have hx:(endP f x).wp (·=v):=hx
 unfold endP at hx
 cases he:endA tab (Cw cfg []) (fnOf f) x with
 | none=>rw [he] at hx;exact hx.elim
 | some r=>
   rw [he] at hx
   have hx:(bif leNil r.2.le&&(mvA 14 [] 20 r.1).isSome then Tr.ret r.1 else .fail).wp (·=v):=hx
   cases hb:(leNil r.2.le&&(mvA 14 [] 20 r.1).isSome) with
   | false=>rw [hb] at hx;exact hx.elim
   | true=>
     rw [hb,cond_true] at hx
     have hx:r.1=v:=hx
     rw [Bool.and_eq_true] at hb
     have hle:r.2.le=[]:=by
      have:=hb.1
      cases hr:r.2.le with
      | nil=>rfl
      | cons a b=>rw [hr] at this;cases this
     exact ⟨r,rfl,EndW.plain hx hi (by rw [←hx];exact hb.2) hle⟩
theorem asrt_wp {R:Type} {b:Bool} {t:Tr R} {Q:R->Prop} (h:(asrt b t).wp Q):b=true/\t.wp Q:=by
 cases b with
 | true=>exact ⟨rfl,h⟩
 | false=>exact h.elim
def jv (l:List Value) (j:Nat):Value:=l.getD j undef
def asrts {R:Type}:List Bool->Tr R->Tr R
 | [],t=>t
 | c::cs,t=>asrt c (asrts cs t)
theorem asrts_wp {R:Type} {c:Bool} {cs:List Bool} {t:Tr R} {Q:R->Prop} (h:(asrts (c::cs) t).wp Q):c=true/\(asrts cs t).wp Q:=asrt_wp h
theorem asrts_run {R:Type} {c:Bool} {cs:List Bool} {t:Tr R} {s:R} (h:(asrts (c::cs) t).run=some s):c=true/\(asrts cs t).run=some s:=asrt_run h
theorem wp_gen {R:Type} {t:Tr R} {Q:R->Prop} (h:∀Q':R->Prop,(∀q,Q q->Q' q)->t.wp Q'):t.wp Q:=h Q fun _ h=>h
theorem lok_none {P:Program} {C:Ctx} {cfg':Cfg} {c:Code}:LOK P cfg' C noL c:=lok_of fun p _ e he=>by cases he
theorem lok_at {P:Program} {C:Ctx} {cfg':Cfg} {L:Loops} {c:Code} {ids:List Nat} (hids:(loopsOf c).map (·.1)=ids) (h:∀i,i<ids.length->∀e,L (ids.getD i 0)=some e->∀st Q,(e st).wp Q->Sem P cfg' C (.loop ((loopsOf c).getD i (0,.skip)).2) st Q):LOK P cfg' C L c:=by
 refine lok_of fun p hp e he st Q hw=>?_
 obtain ⟨i,hi⟩:=List.getElem?_of_mem hp
 have hlen:i<(loopsOf c).length:=(List.getElem?_eq_some_iff.1 hi).1
 have hid:ids.getD i 0=p.1:=by
  rw [←hids,List.getD_eq_getElem?_getD,List.getElem?_map,hi];rfl
 have:=h i (by rw [←hids];simpa using hlen) e (by rw [hid];exact he) st Q hw
 rw [List.getD_eq_getElem?_getD,hi] at this
 exact this
theorem take_snoc {s:List UInt8} {i:Nat} (h:i<s.length):s.take (i+1)=s.take i++[s.getD i 0]:=by
 rw [List.take_add_one,List.getElem?_eq_getElem h,List.getD_eq_getElem?_getD,List.getElem?_eq_getElem h];rfl
theorem take_len {α:Type} (s:List α):s.take s.length=s:=List.take_length
def plainW (e:Sum):WSum:=fun args ws=>match ws with
 | []=>ob (e args) fun t=>some (t.bind fun v=>.ret (v,[]))
 | _=>none
theorem plainW_ok {P:Program} {f:Nat} {e:Sum} (h:∀args t v,e args=some t->t.run=some v->FactW P cfg f args [] v []):GSumOK P cfg f (winS cfg.root.n [] (plainW e)):=by
 refine win_ok good0.lv ro0 fun args ws t r ht hr=>?_
 unfold plainW at ht
 split at ht
 · rw [ob_some] at ht
   obtain ⟨t0,h0,ht⟩:=ht
   cases ht
   obtain ⟨v,hv,h2⟩:=Tr.run_bind hr
   cases h2
   exact ⟨h args t0 v h0 hv,fun x hx=>by cases hx⟩
 · cases ht
def addP (S:Sums) (f:Nat) (e:Sum):Sums:=addG S f (winS 14 [] (plainW e))
theorem sums_addP {S:Sums} {f:Nat} {e:Sum} (h:SumsOK Tryz.prog cfg S) (he:∀args t v,e args=some t->t.run=some v->FactW Tryz.prog cfg f args [] v []):SumsOK Tryz.prog cfg (addP S f e):=sums_addG h (plainW_ok he)
def hasN (s:List UInt8) (a b:Int):Nat:=(s.filter fun c=>decide (a≤(c.toNat:Int))&&decide ((c.toNat:Int)≤b)).length
theorem hasN_le (s:List UInt8) (a b:Int):hasN s a b≤s.length:=List.length_filter_le _ _
theorem hasN_snoc {s:List UInt8} {a b:Int} {i:Nat} (h:i<s.length):hasN (s.take (i+1)) a b=hasN (s.take i) a b+if a≤((s.getD i 0).toNat:Int)/\((s.getD i 0).toNat:Int)≤b then 1 else 0:=by
 unfold hasN
 rw [take_snoc h,List.filter_append,List.length_append]
 congr 1
 split
 · rename_i h2;simp only [List.filter,h2.1,h2.2];rfl
 · rename_i h2
   by_cases h3:a≤((s.getD i 0).toNat:Int)
   · have h4:¬((s.getD i 0).toNat:Int)≤b:=fun h=>h2 ⟨h3,h⟩
     simp only [List.filter,h3,h4];rfl
   · simp only [List.filter,h3];rfl
def v195:LoopV:=fun vs o=>match vs,o with
 | [.str s,.int .u8 a,.int .u8 b,.int .i64 n,.int .i64 i],⟨0,[],[]⟩=>some (asrt (Nat.ble s.length 1000000) (asrt (intEq n 0) (asrt (intEq i 0) (.ret (.exit 0,[.str s,.int .u8 a,.int .u8 b,.int .i64 (Int.ofNat (hasN s a b)),.int .i64 (Int.ofNat s.length)],own0)))))
 | _,_=>none
def L195:Loops:=addL noL 0 (loopE 30 [0,1,2,7,8] v195)
def s195:Sum:=fun args=>match args with
 | [.str s,.int .u8 a,.int .u8 b]=>some (asrt (Nat.ble s.length 1000000) (.ret (.int .i64 (Int.ofNat (hasN s a b)))))
 | _=>none
def T1:Sums:=addP S7 195 s195
theorem r195 (s:List UInt8) (a b n:Int) (i:Nat) (J:Nat->Value) {Q:VQ->Prop}:askA Q (rT S7 noL [] 195 0 30 [0,1,2,7,8] [.str s,.int .u8 a,.int .u8 b,.int .i64 n,.int .i64 (Int.ofNat i)] J own0) (dtN 1120338121224270224204)=((fun (u3 u4 u5:AV) (u0 u2:Int) (u1:Prop)=>(fun (ua:AV) (u6:Bool) (u7 u9 ub:Prop)=>(fun (uc:Prop)=>(u6=true->u1/\(u7->u7/\u7/\u1/\u7/\u7/\u7/\(intLe u2 b=true->inR .i64 (Int.add n 1)=true/\u9/\Q (AX.normal,([u3,u4,u5,AV.int .i64 (Int.add n 1),ua],{ n:=0,os:=[],le:=[] })))/\(intLe u2 b=false->uc))/\(ub->ub/\ub/\ub/\ub/\ub/\uc))/\(u6=false->Q (AX.exit 0,([u3,u4,u5,AV.int .i64 n,AV.int .i64 u0],{ n:=0,os:=[],le:=[] })))) (u9/\Q (AX.normal,([u3,u4,u5,AV.int .i64 n,ua],{ n:=0,os:=[],le:=[] })))) (AV.int .i64 (Int.add u0 1)) (not (intLe (Int.ofNat (List.length s)) u0)) (intLe a u2=true) (inR .i64 (Int.add u0 1)=true) (intLe a u2=false)) (AV.str s) (AV.int .u8 a) (AV.int .u8 b) (Int.ofNat i) (Int.ofNat (UInt8.toNat (List.getD s i 0))) (natLt i (List.length s)=true)):=by kernel_rfl
theorem b195 (s:List UInt8) (a b:Int) {Q:EQ->Prop}:askA Q (bT S7 L195 [] 195 [.str s,.int .u8 a,.int .u8 b]) (dtN 1002)=(Nat.ble (List.length s) 1000000=true/\(∀J1:Nat->Value,Q (AV.int .i64 (Int.ofNat (hasN s a b)),{ n:=0,os:=[],le:=[] }))):=by kernel_rfl
theorem lv195:LoopVOK Tryz.prog (cfgS cfg S7) (Cw cfg []) (lb 195 0) 30 [0,1,2,7,8] v195:=by
 intro vs o t Q hv hq J
 unfold v195 at hv
 split at hv
 · rename_i s a b n i
   cases hv
   obtain ⟨h1,hq⟩:=asrt_wp hq
   obtain ⟨h2,hq⟩:=asrt_wp hq
   obtain ⟨h3,hq⟩:=asrt_wp hq
   rw [q_ble_t] at h1
   rw [q_eq_t] at h2 h3
   subst h2 h3
   refine lvOK S7_ok rfl rfl lok_none (ι:={i:Nat // i≤s.length}) (fun x=>[.str s,.int .u8 a,.int .u8 b,.int .i64 (Int.ofNat (hasN (s.take x.1) a b)),.int .i64 (Int.ofNat x.1)]) (fun _=>own0) (fun x=>s.length-x.1) 0 (fun _=>Nat.le_refl _) (fun x J=>?_) (Nat.le_refl _) (fun J=>Wk.refl ⟨⟨0,Nat.zero_le _⟩,J,rfl⟩) J
   obtain ⟨i,hi⟩:=x
   dsimp only
   have hn:=hasN_le (s.take i) a b
   rw [List.length_take] at hn
   have hsn:=@hasN_snoc s a b i
   refine wp_gen fun Q' hQ=>askA_wp ((r195 s a b _ i J).mpr ?_)
   simp only [q_all,reduceCtorEq,loK,hiK,ne_eq]
   (repeat' first|exact trivial|refine ⟨?_,?_⟩|intro)<;>first|omega|refine hQ _ ?_
   · have h:=hsn (by omega)
     rw [if_pos ⟨by assumption,by assumption⟩] at h
     exact ⟨⟨i+1,by omega⟩,by dsimp only;omega,VW.of_eq (by dsimp only;rw [h];rfl) rfl⟩
   · have h:=hsn (by omega)
     rw [if_neg (by omega)] at h
     exact ⟨⟨i+1,by omega⟩,by dsimp only;omega,VW.of_eq (by dsimp only;rw [h];rfl) rfl⟩
   · have h:=hsn (by omega)
     rw [if_neg (by omega)] at h
     exact ⟨⟨i+1,by omega⟩,by dsimp only;omega,VW.of_eq (by dsimp only;rw [h];rfl) rfl⟩
   · obtain rfl:i=s.length:=by omega
     rw [take_len]
     exact ⟨_,_,VW.refl,hq⟩
 · cases hv
theorem body195:bodyOf tab 195=some (fnOf 195,codeOf 195):=by kernel_rfl
theorem loops195:(loopsOf (codeOf 195)).map (·.1)=[0]:=by kernel_rfl
theorem f195 (s:List UInt8) (a b:Int) (h:s.length≤1000000):FactW Tryz.prog cfg 195 [.str s,.int .u8 a,.int .u8 b] [] (.int .i64 (Int.ofNat (hasN s a b))) []:=by
 refine fwOK S7_ok (L:=L195) body195 (by simp) (lok_at loops195 fun i hi e he st Q hw=>?_) ?_
 · have hi:i=0:=by simp at hi;omega
   subst hi
   cases he
   exact loopE_ok (base0.good S7_ok) (by decide) rfl lv195 hw
 · refine wp_gen fun Q' hQ=>askA_wp ((b195 s a b).mpr ?_)
   simp only [q_all,reduceCtorEq,loK,hiK,ne_eq]
   (repeat' first|exact trivial|refine ⟨?_,?_⟩|intro)<;>first|omega|refine hQ _ ?_
   exact EndW.of rfl rfl
theorem T1_ok:SumsOK Tryz.prog cfg T1:=sums_addP S7_ok fun args t v he hv=>by
 unfold s195 at he
 split at he
 · cases he
   obtain ⟨h1,h2⟩:=asrt_run hv
   cases h2
   exact f195 _ _ _ (q_ble_t.mp h1)
 · cases he
def dB (b:UInt8):Bool:=decide (48≤b.toNat)&&decide (b.toNat≤57)
def digL (l:List UInt8):Bool:=l.all dB
def numL (l:List UInt8):Nat:=l.foldl (fun n b=>n*10+(b.toNat-48)) 0
def partN (s:List UInt8) (i:Nat):Nat:=numL (s.take i)*10^(i-s.length)
def magV (s:List UInt8) (e:Nat):Nat:=numL s*10^e
theorem numL_snoc (l:List UInt8) (b:UInt8):numL (l++[b])=numL l*10+(b.toNat-48):=by simp [numL,List.foldl_append]
theorem partN_lt {s:List UInt8} {i:Nat} (h:i<s.length):partN s (i+1)=partN s i*10+((s.getD i 0).toNat-48):=by
 unfold partN
 rw [take_snoc h,numL_snoc,show i+1-s.length=0 by omega,show i-s.length=0 by omega];simp
theorem partN_ge {s:List UInt8} {i:Nat} (h:s.length≤i):partN s (i+1)=partN s i*10:=by
 unfold partN
 rw [List.take_of_length_le (by omega:s.length≤i+1),List.take_of_length_le h,show i+1-s.length=(i-s.length)+1 by omega,Nat.pow_succ,Nat.mul_assoc]
theorem partN_step (s:List UInt8) (i:Nat):partN s i≤partN s (i+1):=by
 by_cases h:i<s.length
 · rw [partN_lt h];omega
 · rw [partN_ge (by omega)];omega
theorem partN_mono {s:List UInt8} {i j:Nat} (h:i≤j):partN s i≤partN s j:=by
 obtain ⟨k,rfl⟩:∃k,j=i+k:=⟨j-i,by omega⟩
 induction k with
 | zero=>exact Nat.le_refl _
 | succ k ih=>exact Nat.le_trans (ih (by omega)) (partN_step s (i+k))
theorem partN_end (s:List UInt8) (e:Nat):partN s (s.length+e)=magV s e:=by
 unfold partN magV
 rw [List.take_of_length_le (by omega),show s.length+e-s.length=e by omega]
theorem digL_at {s:List UInt8} (h:digL s=true) {i:Nat} (hi:i<s.length):48≤(s.getD i 0).toNat/\(s.getD i 0).toNat≤57:=by
 unfold digL at h
 rw [List.all_eq_true] at h
 have:=h (s.getD i 0) (by rw [List.getD_eq_getElem?_getD,List.getElem?_eq_getElem hi];simp)
 simpa [dB] using this
def magOk (s:List UInt8) (e:Nat):Bool:=Nat.ble (magV s e) 10000000000000000
def v135:LoopV:=fun vs o=>match vs,o with
 | [.str s,.int .i64 e,.int .i64 r,.int .i64 q,.int .i64 n,.int .i64 i],⟨0,[],[]⟩=>some (asrts [Nat.ble s.length 1000,intLe 0 e,intLe e 1000,digL s,intEq r 0,intEq q 0,intEq n 0,intEq i 0]
   (.test (magOk s e.toNat) fun b=>bif b then .ret (.exit 0,[.str s,.int .i64 e,.int .i64 0,.int .i64 0,.int .i64 (Int.ofNat (magV s e.toNat)),.int .i64 (Int.ofNat (s.length+e.toNat))],own0)
     else .all fun J=>.ret (.ret,[.str s,.int .i64 e,.int .i64 0,.int .i64 0,.any (J 0),.any (J 1)],own0)))
 | _,_=>none
def L135:Loops:=addL noL 0 (loopE 32 [0,1,4,5,6,7] v135)
def s135:Sum:=fun args=>match args with
 | [.str s,.int .i64 e]=>some (asrts [Nat.ble s.length 1000,intLe 0 e,intLe e 1000,digL s] (.test (magOk s e.toNat) fun b=>bif b then .ret (.tuple [.int .i64 (Int.ofNat (magV s e.toNat)),.int .i64 1]) else .ret (.tuple [.int .i64 0,.int .i64 0])))
 | _=>none
def T2:Sums:=addP T1 135 s135
theorem r135 (s:List UInt8) (e n:Int) (i:Nat) (J:Nat->Value) {Q:VQ->Prop}:askA Q (rT S7 noL [] 135 0 32 [0,1,4,5,6,7] [.str s,.int .i64 e,.int .i64 0,.int .i64 0,.int .i64 n,.int .i64 (Int.ofNat i)] J own0) (dtN 1121412142704242)=((fun (u4 u5 u6:AV) (u0 u1 u2 u3:Int)=>(fun (ua uc ue:AV) (u7 u8 ud:Bool) (u9:Int) (ub:Prop)=>(fun (ug:AV) (uf:Bool)=>inR .i64 (Int.add u0 e)=true/\(u7=true->inR .i64 u2=true/\(u8=true->natLt i (List.length s)=true/\inR .u8 u3=true/\inR .i64 u3=true/\inR .i64 u9=true/\(uf=true->Q (AX.ret,([u4,u5,u6,u6,ug,ua],{ n:=0,os:=[],le:=[] })))/\(uf=false->ub/\Q (AX.normal,([u4,u5,u6,u6,ug,uc],{ n:=0,os:=[],le:=[] }))))/\(u8=false->(ud=true->Q (AX.ret,([u4,u5,u6,u6,ue,ua],{ n:=0,os:=[],le:=[] })))/\(ud=false->ub/\Q (AX.normal,([u4,u5,u6,u6,ue,uc],{ n:=0,os:=[],le:=[] })))))/\(u7=false->Q (AX.exit 0,([u4,u5,u6,u6,AV.int .i64 n,ua],{ n:=0,os:=[],le:=[] })))) (AV.int .i64 u9) (not (intLe u9 10000000000000000))) (AV.int .i64 u1) (AV.int .i64 (Int.add u1 1)) (AV.int .i64 u2) (not (intLe (Int.add u0 e) u1)) (not (intLe u0 u1)) (not (intLe u2 10000000000000000)) (Int.add u2 u3) (inR .i64 (Int.add u1 1)=true)) (AV.str s) (AV.int .i64 e) (AV.int .i64 0) (Int.ofNat (List.length s)) (Int.ofNat i) (Int.mul 10 n) (Int.sub (Int.ofNat (UInt8.toNat (List.getD s i 0))) 48)):=by kernel_rfl
theorem b135 (s:List UInt8) (e:Int) {Q:EQ->Prop}:askA Q (bT S7 L135 [] 135 [.str s,.int .i64 e]) (dtN 114527)=((fun (u0:Bool)=>Nat.ble (List.length s) 1000=true/\intLe 0 e=true/\intLe e 1000=true/\digL s=true/\(u0=true->(∀J1:Nat->Value,Q (AV.tuple [AV.int .i64 (Int.ofNat (magV s (Int.toNat e))),AV.int .i64 1],{ n:=0,os:=[],le:=[] })))/\(u0=false->(∀J1:Nat->Value,∀J2:Nat->Value,Q (AV.tuple [AV.int .i64 0,AV.int .i64 0],{ n:=0,os:=[],le:=[] })))) (magOk s (Int.toNat e))):=by kernel_rfl
theorem lv135:LoopVOK Tryz.prog (cfgS cfg S7) (Cw cfg []) (lb 135 0) 32 [0,1,4,5,6,7] v135:=by
 intro vs o t Q hv hq J
 unfold v135 at hv
 split at hv
 · rename_i s e r q n i
   cases hv
   obtain ⟨h1,hq⟩:=asrts_wp hq
   obtain ⟨h2,hq⟩:=asrts_wp hq
   obtain ⟨h3,hq⟩:=asrts_wp hq
   obtain ⟨h4,hq⟩:=asrts_wp hq
   obtain ⟨h5,hq⟩:=asrts_wp hq
   obtain ⟨h6,hq⟩:=asrts_wp hq
   obtain ⟨h7,hq⟩:=asrts_wp hq
   obtain ⟨h8,hq⟩:=asrts_wp hq
   rw [q_ble_t] at h1
   rw [q_le_t] at h2 h3
   rw [q_eq_t] at h5 h6 h7 h8
   subst h5 h6 h7 h8
   have hq:Tr.wp Q (bif magOk s e.toNat then .ret (.exit 0,[.str s,.int .i64 e,.int .i64 0,.int .i64 0,.int .i64 (Int.ofNat (magV s e.toNat)),.int .i64 (Int.ofNat (s.length+e.toNat))],own0) else .all fun J=>.ret (.ret,[.str s,.int .i64 e,.int .i64 0,.int .i64 0,.any (J 0),.any (J 1)],own0)):=hq
   refine lvOK S7_ok rfl rfl lok_none (ι:={i:Nat // i≤s.length+e.toNat/\partN s i≤10000000000000000}) (fun x=>[.str s,.int .i64 e,.int .i64 0,.int .i64 0,.int .i64 (Int.ofNat (partN s x.1)),.int .i64 (Int.ofNat x.1)]) (fun _=>own0) (fun x=>s.length+e.toNat-x.1) 0 (fun _=>Nat.le_refl _) (fun x J=>?_) (Nat.le_refl _) (fun J=>Wk.refl ⟨⟨0,Nat.zero_le _,by simp [partN,numL]⟩,J,by simp [partN,numL,stN]⟩) J
   obtain ⟨i,hi,hp⟩:=x
   dsimp only
   have hlt:=@partN_lt s i
   have hge:=@partN_ge s i
   have hmono:i+1≤s.length+e.toNat->partN s (i+1)≤magV s e.toNat:=fun h=>by rw [←partN_end];exact partN_mono h
   have hdi:=@digL_at s h4 i
   refine wp_gen fun Q' hQ=>askA_wp ((r135 s e _ i J).mpr ?_)
   simp only [q_all,reduceCtorEq,loK,hiK,ne_eq]
   have no:10000000000000000<partN s (i+1)->i+1≤s.length+e.toNat->magOk s e.toNat=false:=fun h h'=>by
    have:=hmono h'
    unfold magOk
    rw [q_ble_f];omega
   (repeat' first|exact trivial|refine ⟨?_,?_⟩|intro)<;>first|omega|refine hQ _ ?_
   · have:=hlt (by omega)
     rw [no (by omega) (by omega),cond_false] at hq
     exact ⟨_,_,VW.any (.same (.same (.same (.same (.int (.int .nil)))))) rfl,hq (jv [_,_])⟩
   · have h:=hlt (by omega)
     exact ⟨⟨i+1,by omega,by omega⟩,by dsimp only;omega,VW.of_eq (by dsimp only;rw [h];congr 6;simp only [q_ofNat];omega) rfl⟩
   · have:=hge (by omega)
     rw [no (by omega) (by omega),cond_false] at hq
     exact ⟨_,_,VW.any (.same (.same (.same (.same (.int (.int .nil)))))) rfl,hq (jv [_,_])⟩
   · have h:=hge (by omega)
     exact ⟨⟨i+1,by omega,by omega⟩,by dsimp only;omega,VW.of_eq (by dsimp only;rw [h];congr 6;simp only [q_ofNat];omega) rfl⟩
   · obtain rfl:i=s.length+e.toNat:=by omega
     rw [partN_end] at hp ⊢
     have:magOk s e.toNat=true:=by unfold magOk;rw [q_ble_t];exact hp
     rw [this,cond_true] at hq
     exact ⟨_,_,VW.refl,hq⟩
 · cases hv
theorem body135:bodyOf tab 135=some (fnOf 135,codeOf 135):=by kernel_rfl
theorem loops135:(loopsOf (codeOf 135)).map (·.1)=[0]:=by kernel_rfl
theorem T2_ok:SumsOK Tryz.prog cfg T2:=sums_addP T1_ok fun args t v he hv=>by
 unfold s135 at he
 split at he
 · rename_i s e
   cases he
   obtain ⟨h1,hv⟩:=asrts_run hv
   obtain ⟨h2,hv⟩:=asrts_run hv
   obtain ⟨h3,hv⟩:=asrts_run hv
   obtain ⟨h4,hv⟩:=asrts_run hv
   rw [q_ble_t] at h1
   rw [q_le_t] at h2 h3
   refine fwOK S7_ok (L:=L135) body135 (by simp) (lok_at loops135 fun i hi e he st Q hw=>?_) ?_
   · have hi:i=0:=by simp at hi;omega
     subst hi
     cases he
     exact loopE_ok (base0.good S7_ok) (by decide) rfl lv135 hw
   · refine wp_gen fun Q' hQ=>askA_wp ((b135 s e).mpr ?_)
     simp only [q_all,reduceCtorEq,loK,hiK,ne_eq]
     have hv:Tr.run (bif magOk s e.toNat then .ret (.tuple [.int .i64 (Int.ofNat (magV s e.toNat)),.int .i64 1]) else .ret (.tuple [.int .i64 0,.int .i64 0]))=some v:=hv
     (repeat' first|exact trivial|refine ⟨?_,?_⟩|intro)<;>first|omega|assumption|(rename_i hm _;rw [hm] at hv;cases hv;exact hQ _ EndW.refl)|(rename_i hm _ _;rw [hm] at hv;cases hv;exact hQ _ EndW.refl)
 · cases he
abbrev vYear (ng lg:Bool) (s:List UInt8) (e g:Int):AV:=.agg [.bool ng,.bool lg,.str s,.int .i64 e,.int .i64 g]
abbrev vDate (ng lg:Bool) (s:List UInt8) (e g:Int) (mo da:List UInt8) (a b c:Int):AV:=.agg [.bool ng,.bool lg,.str s,.int .i64 e,.int .i64 g,.str mo,.str da,.int .u8 a,.int .u8 b,.int .u8 c]
def okY14 (ng lg:Bool) (s:List UInt8) (e g:Int):Bool:=decide (hasN s 48 57+hasN s 88 88=s.length/\0≤g/\
 (lg=false/\s.length=4/\e=0/\¬(ng=true/\hasN s 48 48=4)/\g≤4/\¬(0<g/\0<hasN s 88 88)∨
  lg=true/\hasN s 88 88=0/\1≤hasN s 48 57/\hasN s 48 57≤17/\(s.getD 0 0).toNat≠48/\0≤e/\e≤16/\¬(e=0/\hasN s 48 57<5)/\g≤hasN s 48 57+e/\magOk s e.toNat=true))
def s185:Sum:=fun args=>match args with
 | [.agg [.bool ng,.bool lg,.str s,.int .i64 e,.int .i64 g]]=>some (asrts [Nat.ble s.length 1000] (.ret (.int .i64 (minI 1 (Int.ofNat (hasN s 88 88))))))
 | _=>none
def bI (b:Bool):Int:=bif b then 1 else 0
def s132:Sum:=fun args=>match args with
 | [.agg [.bool ng,.bool lg,.str s,.int .i64 e,.int .i64 g]]=>some (asrts [Nat.ble s.length 1000,inR .i64 e] (.ret (.int .i64 (bI (okY14 ng lg s e g)))))
 | _=>none
def T3:Sums:=addP (addP T2 185 s185) 132 s132
theorem digL_of {s:List UInt8} (h:hasN s 48 57=s.length):digL s=true:=by
 unfold hasN at h
 rw [List.length_filter_eq_length_iff] at h
 unfold digL
 rw [List.all_eq_true]
 intro c hc
 have:=h c hc
 rw [Bool.and_eq_true,decide_eq_true_eq,decide_eq_true_eq] at this
 unfold dB
 rw [Bool.and_eq_true,decide_eq_true_eq,decide_eq_true_eq]
 omega
theorem bI_t {b:Bool} (h:b=true):bI b=1:=by rw [h];rfl
theorem bI_f {b:Bool} (h:b=false):bI b=0:=by rw [h];rfl
theorem b185 (ng lg:Bool) (s:List UInt8) (e g:Int) {Q:AV->Prop}:askA Q (pT T2 noL 185 [vYear ng lg s e g]) (dtN 1200)=(Nat.ble (List.length s) 1000000=true/\Q (AV.int .i64 (minI 1 (Int.ofNat (hasN s 88 88))))):=by kernel_rfl
theorem b132 (ng lg:Bool) (s:List UInt8) (e g:Int) {Q:AV->Prop}:askA Q (pT T2 noL 132 [vYear ng lg s e g]) (dtN 1023310056662310006662310005662810006623315562331623008111447000140025533231028811144700014370702437422024320243202432202024324324156623315623533102300810332311437422024053328162331023008103323114374220243202432702024202432024040143202402200200)=((fun (u3 u5 u7 u8 u9 uc ud ue uf:Bool) (u1 u2:Int) (u0:Nat) (u4 u6 ua ub:Prop)=>(fun (ui uj un ur us ux uz:Bool) (uh:Int) (ug uk ul um uo up uq ut uu uv uw uy uA uB uC uD:Prop)=>(fun (uE:Bool) (uF uG uH uI uJ uK uL uM uN uO uP uQ uR uS:Prop)=>(fun (uT uU:Prop)=>ug/\ug/\inR .i64 uh=true/\(uT->uT/\uT/\uE=false/\(u3=true->u4)/\(u3=false->(not lg=true->(uF->uF/\uF/\ui=false/\(uG->uG/\uG/\(u6->u6/\u6/\ug/\u6/\uG/\u6/\uj=false/\(uk->uk/\uk/\u7=false/\uH)/\(uq->uq/\uq/\u7=true/\u4))/\(ub->ub/\ub/\ub/\uG/\ub/\uj=false/\uH))/\(uI->uI/\uI/\uI/\uj=true/\u4))/\(uJ->uJ/\uJ/\ui=true/\u4))/\(not lg=false->(uK->uK/\un=false/\(uL->uL/\ur=false/\(uM->uM/\uM/\natLt 0 u0=true/\uM/\us=false/\(ut->ut/\ut/\uc=false/\(uu->uu/\uu/\ud=false/\(uv->uv/\uv/\uv/\(uw->uw/\uv/\uw/\ue=false/\(uN->uN/\uN/\uN/\uN/\uN/\uy/\uN/\ux=false/\uO)/\(uP->uP/\uP/\uP/\uP/\uP/\uP/\ux=true/\u4))/\(uA->uA/\uv/\uA/\ue=false/\uy/\uO))/\(uB->uB/\uB/\uB/\uB/\ue=true/\u4))/\(uC->uC/\uC/\ud=true/\u4))/\(uD->uD/\uD/\uc=true/\u4))/\(uQ->uQ/\uQ/\uQ/\us=true/\u4))/\(uR->uR/\ur=true/\u4))/\(uS->uS/\un=true/\u4))))/\(uU->uU/\uU/\uE=true/\u4)) (not uE=true) (not uE=false)) (not (intEq uh (Int.ofNat u0))) (not ui=true) (not uj=true) ((ul->ul/\ul/\ul/\(um->um/\ul/\um/\u8=false/\(un=true->u4)/\(un=false->ua))/\(uo->uo/\ul/\uo/\u8=false/\ua))/\(up->up/\up/\up/\up/\u8=true/\u4)) (not uj=false) (not ui=false) (not un=true) (not ur=true) (not us=true) (not ux=true) ((uz=true->u4)/\(uz=false->Nat.ble u0 1000=true/\intLe 0 e=true/\intLe e 1000=true/\(digL s=true->(uf=true->ua)/\(uf=false->u4))/\(digL s=false->False))) (not ux=false) (not us=false) (not ur=false) (not un=false)) (not (intEq (Int.ofNat u0) 4)) (not u5) (not (intLe u2 0)) (not (intLe 1 u1)) (not (intLe u1 17)) (not (intLe 5 u1)) (not (intLe g (Int.add u1 e))) (Int.add u1 u2) (Nat.ble u0 1000000=true) (not u7=true) (not u8=true) (u9=true) (u9=false) (not u8=false) (not u7=false) (not uc=true) (not ud=true) (not ue=true) (u5=true) (inR .i64 (Int.add u1 e)=true) (u5=false) (not ue=false) (not ud=false) (not uc=false)) (not (intLe 0 g)) (intEq e 0) (intEq (Int.ofNat (hasN s 48 48)) 4) (not (intLe g 4)) (not (intLe g 0)) (intEq (Int.ofNat (UInt8.toNat (List.getD s 0 0))) 48) (not (intLe 0 e)) (not (intLe e 16)) (magOk s (Int.toNat e)) (Int.ofNat (hasN s 48 57)) (Int.ofNat (hasN s 88 88)) (List.length s) (Q (AV.int .i64 0)) (ng=true) (Q (AV.int .i64 1)) (ng=false)):=by kernel_rfl
theorem body185:bodyOf tab 185=some (fnOf 185,codeOf 185):=by kernel_rfl
theorem body132:bodyOf tab 132=some (fnOf 132,codeOf 132):=by kernel_rfl
theorem T3_ok:SumsOK Tryz.prog cfg T3:=by
 refine sums_addP (sums_addP T2_ok fun args t v he hv=>?_) fun args t v he hv=>?_
 · unfold s185 at he
   split at he
   · cases he
     obtain ⟨h1,hv⟩:=asrts_run hv
     rw [q_ble_t] at h1
     cases hv
     refine fpOK T2_ok (L:=noL) body185 (by simp) lok_none (askA_wp ((b185 _ _ _ _ _).mpr ?_)) (by simp [idsA])
     simp only [q_all,reduceCtorEq,loK,hiK,ne_eq]
     (repeat' first|exact trivial|refine ⟨?_,?_⟩|intro)<;>first|omega|rfl
   · cases he
 · unfold s132 at he
   split at he
   · rename_i ng lg s e g
     cases he
     obtain ⟨h1,hv⟩:=asrts_run hv
     obtain ⟨h2,hv⟩:=asrts_run hv
     rw [q_ble_t] at h1
     rw [q_inR_t] at h2
     cases hv
     have k1:=hasN_le s 48 57
     have k2:=hasN_le s 88 88
     refine fpOK T2_ok (L:=noL) body132 (by simp) lok_none (wp_gen fun Q' hQ=>askA_wp ((b132 ng lg s e g).mpr ?_)) (by simp [idsA])
     simp only [q_all,reduceCtorEq,loK,hiK,ne_eq]
     have dg:=@digL_of s
     have yes:okY14 ng lg s e g=true->Q' (.int .i64 1):=fun h=>hQ _ (by rw [bI_t h])
     have no:okY14 ng lg s e g=false->Q' (.int .i64 0):=fun h=>hQ _ (by rw [bI_f h])
     (repeat' first|exact trivial|refine ⟨?_,?_⟩|intro)<;>first|omega|assumption|(exact dg (by omega))|(exfalso;have:=dg (by omega);simp_all;done)|(refine no ?_;unfold okY14;rw [decide_eq_false_iff_not];simp_all;try omega)|(refine yes ?_;unfold okY14;rw [decide_eq_true_eq];simp_all;try omega)
   · cases he
end Go.Ev
