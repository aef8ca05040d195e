import Derived.Test.YtafekjglclnegaaGreatDoorP24
import Derived.Test.YtafekjglclnegaaGreatDoorP25
set_option linter.all false
section
set_option maxRecDepth 100000
set_option maxHeartbeats 4000000
namespace Go.Ev
open Go Go.Proofs Go.Proofs.YtafekjglclnegaaGreatDoor
def NK:dM:=λargs=>match args with
 | [.agg [.bool ng,.bool lg,.str s,.int .i64 e,.int .i64 g,.str mo,.str da,.int .u8 a,.int .u8 b,.int .u8 c]]=>some (aN [Nat.ble s.length 1000,Nat.ble mo.length 1000,Nat.ble da.length 1000,ae .i64 e,ae .i64 g,ae .u8 a,ae .u8 b,ae .u8 c] (.ret (.tuple [.int .i64 (cg mo),.bool (!(aa (cg mo) 0))])))
 | _=>none
def VA:bq:=bw (bw (bw XQ 172 NK) 154 H_) 221 Np
def PJ:dM:=λargs=>match args with
 | [.agg [.bool ng,.bool lg,.str s,.int .i64 e,.int .i64 g,.str mo,.str da,.int .u8 a,.int .u8 b,.int .u8 c]]=>some (aN [Nat.ble s.length 1000,Nat.ble mo.length 1000,Nat.ble da.length 1000,ae .i64 e,ae .i64 g,ae .u8 a,ae .u8 b,ae .u8 c] (.ret (.bool (ic ng lg s e g mo))))
 | _=>none
def X0:bq:=bw VA 173 PJ
def K_:dM:=λargs=>match args with
 | [.agg [.bool ng,.bool lg,.str s,.int .i64 e,.int .i64 g,.str mo,.str da,.int .u8 a,.int .u8 b,.int .u8 c]]=>some (aN [Nat.ble s.length 1000,Nat.ble mo.length 1000,Nat.ble da.length 1000,ae .i64 e,ae .i64 g,ae .u8 a,ae .u8 b,ae .u8 c] (.ret (.int .i64 (jM ng lg s e g mo da a b c))))
 | _=>none
theorem Vq(ng lg:Bool)(s:List UInt8)(e g:Int)(mo da:List UInt8)(a b c:Int){Q:AV->Prop}:aO Q (pT VA aW 173 [.agg [.bool ng,.bool lg,.str s,.int .i64 e,.int .i64 g,.str mo,.str da,.int .u8 a,.int .u8 b,.int .u8 c]]) (b_ 10230003810233110104400111010444042005143020524227700063323310233110104400111010444042005143020524227700614370242202242005)=((λ(u1 u2 u3 u6:Bool)(u5 u9:Int)(u0 u4 u7:Prop)=>(λ(ua uc ud ue uf ug uh:Bool)(ub ui:Prop)=>(λ(uj uk ul um un:Prop)=>(λ(uo:Prop)=>u0/\(uj->uj/\uj/\uj/\uj/\(ub->ub/\ub/\uj/\ub/\ua=false/\(u3=true->u4)/\(u3=false->uo))/\(ui->ui/\ui/\uj/\ui/\ua=false/\uo))/\(un->un/\un/\un/\un/\un/\ua=true/\u4)) (u0/\Nat.ble (List.length mo) 1000=true/\Nat.ble (List.length da) 1000=true/\ae .i64 e=true/\ae .i64 g=true/\ae .u8 a=true/\ae .u8 b=true/\ae .u8 c=true/\(uk->uk/\uk/\uc=false/\(not u6=true->u7)/\(not u6=false->u0/\(ud=true->(ue=true->(uf=true->(ug=true->u7)/\(ug=false->u4))/\ul)/\(ue=false->False))/\(ud=false->(uf=true->(uh=true->u7)/\(uh=false->u4))/\ul)))/\(um->um/\um/\uc=true/\u7))) (not ua=true) (not uc=true) (uf=false->False) (not uc=false) (not ua=false)) (not (aa (cond u1 0 6) 0)) (not (not (aa u5 0))) (and u1 u6) (and (ab (Neg.neg 10000000000000000) u9) (ab u9 10000000000000000)) (and (ab 21 u5) (ab u5 41)) (and (ab (Neg.neg 10000000000000000) (fy u9 u5)) (ab (fy u9 u5) 10000000000000000)) (and (ab (Neg.neg 10000000000000000) (fy 0 u5)) (ab (fy 0 u5) 10000000000000000)) (u2=true) (u2=false)) (bD ng lg s e g) (not (ab g 0)) (not (af mo [])) (Nat.beq (bz s 88 88) 0) (cg mo) (eW ng s e) (Nat.ble (List.length s) 1000=true) (Q (AV.bool false)) (Q (AV.bool true))):=by kernel_rfl
theorem W9(ng lg:Bool)(s:List UInt8)(e g:Int)(mo da:List UInt8)(a b c:Int){Q:AV->Prop}:aO Q (pT X0 aW 113 [.agg [.bool ng,.bool lg,.str s,.int .i64 e,.int .i64 g,.str mo,.str da,.int .u8 a,.int .u8 b,.int .u8 c]]) (b_ 122700056335330810202573220240005331227000563353308107382327024003812270005633533081227005614232200020732702401422000202422401422770062277006)=((λ(u9 ua ub uc ud ue:Bool)(ug:Int)(u0 u1 u2 u3 u4 u5 u6 u7 uf:Prop)=>(λ(uh ui uj uk ul um un:Prop)=>(λ(uo:Prop)=>u0/\u1/\u2/\u3/\u4/\u5/\u6/\u7/\u0/\u1/\u2/\u3/\u4/\u5/\u6/\u7/\(u9=true->Q (AV.int .i64 6))/\(u9=false->(uh->uh/\uh/\(ui->ui/\ui/\ui/\ui/\(uc=true->Q (AV.int .i64 7))/\(uc=false->(uj->uj/\uj/\uj/\uh/\uj/\ua=false/\uj/\ui/\ui/\ui/\ui/\uj/\ub=false/\uj/\(ue=true->uf)/\(ue=false->uk))/\uo))/\(um->um/\um/\um/\um/\(uj->uj/\uj/\uj/\uh/\uj/\ua=false/\uj/\um/\um/\um/\um/\uj/\ub=true/\uj/\uf)/\uo))/\(un->un/\un/\(uj->uj/\uj/\uj/\un/\uj/\ua=true/\uj/\uj/\uj/\uf)/\uo))) (ul->ul/\ul/\ul/\ul/\ul/\ul/\ul/\uk)) (not ua=true) (not ub=true) (ud=true) (u5/\u6/\u7/\ab 1 ug=true/\ab ug 3=true/\Q (AV.int .i64 (errMk a b c ug))) (ud=false) (not ub=false) (not ua=false)) (not (ic ng lg s e g mo)) (af mo []) (not (aa (cg mo) 0)) (not (dD mo 12)) (not (af da [])) (not (dD da 31)) (cO mo da) (Nat.ble (List.length s) 1000=true) (Nat.ble (List.length mo) 1000=true) (Nat.ble (List.length da) 1000=true) (ae .i64 e=true) (ae .i64 g=true) (ae .u8 a=true) (ae .u8 b=true) (ae .u8 c=true) (Q (AV.int .i64 8))):=by kernel_rfl
theorem HQ:aH tab 173=some (bC 173,aE 173):=by kernel_rfl
theorem H5:aH tab 113=some (bC 113,aE 113):=by kernel_rfl
theorem HT:aH tab 172=some (bC 172,aE 172):=by kernel_rfl
theorem TV{P:Int->Prop}{b:Bool}{x y:Int}(hx:P x)(hy:P y):P (bif b then x else y):=by cases b<;>assumption
theorem sO(mo:List UInt8):cg mo=0\/21<=cg mo/\cg mo<=41:=by
 unfold cg
 (repeat' refine TV (P:=λz=>z=0\/21<=z/\z<=41) ?_ ?_)<;>decide
theorem Ld{c:Int}(h:21<=c/\c<=41):(fR c+mR c-2<12↔¬(c=24\/c=28\/c=30))/\0<=fR c+mR c-2/\fR c+mR c-2<24:=by
 rcases kO h with rfl|rfl|rfl|rfl|rfl|rfl|rfl|rfl|rfl|rfl|rfl|rfl|rfl|rfl|rfl|rfl|rfl|rfl|rfl|rfl|rfl<;>decide
theorem LG(y:Int){c:Int}(h:21<=c/\c<=41):((c=24\/c=28\/c=30)->fy y c=y+1)/\(¬(c=24\/c=28\/c=30)->fy y c=y):=by
 obtain⟨h1,h2,h3⟩:=Ld h
 unfold fy dH
 constructor
 · intro hc
   have:=λh'=>h1.1 h' hc
   omega
 · intro hc
   have:=h1.2 hc
   omega
theorem zW:az Tryz.prog cfg VA:=by
 refine KH (Fg (aA Lw λargs t v he hv=>?_))
 unfold NK at he
 split at he
 · rename_i ng lg s e g mo da a b c
   cases he
   obtain⟨⟨h1,h2,h3,h4,h5,h6,h7,h8,-⟩,hv⟩:=aI hv
   rw[aB]at h1 h2 h3
   rw[xS]at h4 h5
   rw[aQ]at h6 h7 h8
   simp only[bA,bB]at h6 h7 h8
   cases hv
   refine db HT (by simp[aq,bG]) λm w hG=>?_
   have:=Go.Proofs.YtafekjglclnegaaGreatDoor.Season (dt ng lg s e g mo da a b c) w hG ⟨⟨by show s.length<=_;omega,by show mo.length<=_;omega,by show da.length<=_;omega⟩,⟨h4,h5⟩,⟨h6.1,h6.2⟩,⟨h7.1,h7.2⟩,⟨h8.1,h8.2⟩⟩
   rw[show Go.Proofs.YtafekjglclnegaaGreatDoor.seas (dt ng lg s e g mo da a b c)=cg mo from HE mo]at this
   have e:decide (cg mo≠0)=!(aa (cg mo) 0):=by
    rw[Bool.eq_iff_iff,decide_eq_true_eq,Bool.not_eq_true',aF]
   rw[e]at this
   simpa [ar,aj]using this
 · cases he
theorem Nf:az Tryz.prog cfg X0:=by
 refine aA zW λargs t v he hv=>?_
 unfold PJ at he
 split at he
 · rename_i ng lg s e g mo da a b c
   cases he
   obtain⟨⟨h1,h2,h3,h4,h5,h6,h7,h8,-⟩,hv⟩:=aI hv
   rw[aB]at h1 h2 h3
   rw[aQ]at h4 h5 h6 h7 h8
   simp only[bA,bB]at h4 h5 h6 h7 h8
   cases hv
   refine cp zW (L:=aW) HQ (by simp) ak (ap λQ' hQ=>al ((Vq ng lg s e g mo da a b c).mpr ?_)) (by simp[aq])
   dsimp only
   have yes:ic ng lg s e g mo=true->Q' (.bool true):=λh=>hQ _ (by rw[h])
   have no:¬ic ng lg s e g mo=true->Q' (.bool false):=λh=>hQ _ (by rw[Bool.not_eq_true]at h;rw[h])
   unfold ic at yes no
   rw[decide_eq_true_eq]at yes no
   have sc:=sO mo
   have sq:=λh=>@LG (eW ng s e) (cg mo) h
   have onum:=@xp ng lg s e g
   have vt:ng=true->eW ng s e = -(eR s e.toNat:Int):=λh=>by rw[h];rfl
   have vf:ng=false->eW ng s e=(eR s e.toNat:Int):=λh=>by rw[h];rfl
   clear hQ
   cases hO:bD ng lg s e g with
   | false=>
     have no:=no (by rw[hO];simp)
     clear yes vt vf onum sq sc
     simp only[cond_false,Bool.false_and,aD,reduceCtorEq,bA,bB,ne_eq]
     generalize eW ng s e=vr at *
     (repeat' first|exact trivial|refine⟨?_,?_⟩|intro)<;>first|omega|exact no|(exfalso;assumption)
   | true=>
     rw[hO]at yes no
     have onum:=onum hO
     simp only[cond_true,Bool.true_and,aD,reduceCtorEq,bA,bB,ne_eq]at yes no ⊢
     by_cases hx:bz s 88 88=0
     · obtain⟨k1,k2,k3,k4,k5⟩:=onum hx
       rw[hx,k4]at yes no
       rw[hx]
       clear onum k3 k4
       generalize fy (eW ng s e) (cg mo)=sy at *
       generalize fy 0 (cg mo)=s0 at *
       generalize eW ng s e=vr at *
       generalize eR s e.toNat=mv at *
       generalize cg mo=S at *
       generalize af mo []=me at *
       have sq1:¬S=0->(S=24\/S=28\/S=30)->sy=vr+1:=λh=>(sq (by omega)).1
       have sq2:¬S=0->¬(S=24\/S=28\/S=30)->sy=vr:=λh=>(sq (by omega)).2
       clear sq hx hO
       cases ng with
       | true=>
         have vr':=vt rfl
         clear vt vf
         have sb:¬S=0->-10000000000000000<=sy/\sy<=10000000000000000:=λh=>by
          by_cases hc:S=24\/S=28\/S=30
          · have:=sq1 h hc;omega
          · have:=sq2 h hc;omega
         simp only[reduceCtorEq,and_false,not_false_eq_true,or_true,and_true,true_and]at yes no
         (repeat' first|exact trivial|refine⟨?_,?_⟩|intro)<;>first|omega|(exfalso;assumption)|(apply yes;grind)|(apply no;grind)|grind
       | false=>
         have vr':=vf rfl
         clear vt vf
         have sb:¬S=0->-10000000000000000<=sy:=λh=>by
          by_cases hc:S=24\/S=28\/S=30
          · have:=sq1 h hc;omega
          · have:=sq2 h hc;omega
         have sb2:¬S=0->10000000000000000<sy->(S=24\/S=28\/S=30)/\mv=10000000000000000:=λh h'=>by
          by_cases hc:S=24\/S=28\/S=30
          · have:=sq1 h hc;exact⟨hc,by omega⟩
          · have:=sq2 h hc;omega
         have sb3:¬S=0->sy<=10000000000000000->¬(S=24\/S=28\/S=30)\/¬mv=10000000000000000:=λh h'=>by
          by_cases hc:S=24\/S=28\/S=30
          · have:=sq1 h hc;exact .inr (by omega)
          · exact .inl hc
         simp only[and_true,true_and]at yes no
         (repeat' first|exact trivial|refine⟨?_,?_⟩|intro)<;>first|omega|(exfalso;assumption)|(apply yes;grind)|(apply no;grind)|grind
     · clear onum
       generalize fy (eW ng s e) (cg mo)=sy at *
       generalize fy 0 (cg mo)=s0 at *
       generalize eW ng s e=vr at *
       generalize eR s e.toNat=mv at *
       generalize cg mo=S at *
       generalize bz s 88 88=X at *
       generalize magOk s e.toNat=mk at *
       generalize af mo []=me at *
       (repeat' first|exact trivial|refine⟨?_,?_⟩|intro)<;>first|omega|(exfalso;assumption)|(apply yes;grind)|(apply no;grind)|grind
 · cases he
theorem lR(mo da:List UInt8):1<=cO mo da/\cO mo da<=3:=by
 unfold cO;cases af mo []<;>cases af da []<;>decide
theorem L6{S:bq}(hS:az Tryz.prog cfg S):az Tryz.prog cfg (bw S 113 K_):=by
 refine aA hS λargs t v he hv=>?_
 unfold K_ at he
 split at he
 · rename_i ng lg s e g mo da a b c
   cases he
   obtain⟨⟨h1,h2,h3,h4,h5,h6,h7,h8,-⟩,hv⟩:=aI hv
   rw[aB]at h1 h2 h3
   rw[aQ]at h4 h5 h6 h7 h8
   simp only[bA,bB]at h4 h5 h6 h7 h8
   cases hv
   refine cp Nf (L:=aW) H5 (by simp) ak (ap λQ' hQ=>al ((W9 ng lg s e g mo da a b c).mpr ?_)) (by simp[aq])
   dsimp only
   have fin:∀v:Int,v=jM ng lg s e g mo da a b c->Q' (.int .i64 v):=λv h=>hQ _ (by rw[h])
   have cb:=lR mo da
   have sc:=sO mo
   unfold jM at fin
   clear hQ
   simp only[aD,reduceCtorEq,bA,bB,ne_eq]
   generalize errMk a b c (cO mo da)=em at *
   generalize cO mo da=cm at *
   generalize ic ng lg s e g mo=ok at *
   generalize cg mo=S at *
   generalize dD mo 12=m12 at *
   generalize dD da 31=d31 at *
   generalize af mo []=me at *
   generalize af da []=de at *
   (repeat' first|exact trivial|refine⟨?_,?_⟩|intro)<;>first|omega|assumption|(apply fin;grind)|grind
 · cases he
end Go.Ev
end
section
set_option maxRecDepth 100000
set_option maxHeartbeats 4000000
namespace Go.Ev
open Go Go.Proofs
theorem eG.mono{a b:Nat}{x:aw}(h:eG a x)(hab:a<=b):eG b x:=⟨h.1,λi hi=>Nat.lt_of_lt_of_le (h.2 i hi) hab⟩
theorem xm{ws:List aw}(hw:∀x∈ws,eG 14 x):H6 (Cw cfg ws):=λid hid=>by
 have hlo:(Cw cfg ws).lo=14+ws.length:=rfl
 have h14:(14:Nat)=cfg.root.n:=rfl
 by_cases h:id<14
 · have:ff (Cw cfg ws).B id=cfg.root.at id:=by
    simp only[Cw,ff]
    rw[im (by omega)]
    simp only[cond_false,ew]
    rw[bt.2 (Nat.zero_le _),cond_true,Nat.sub_zero]
   rw[this]
   exact eG.mono ⟨d4.lv.loops id h,λi hi=>d4.lv.root id h i hi⟩ (by omega)
 · have:ff (Cw cfg ws).B id=(⟨ws.length,ws.reverse,[]⟩:aC).at (id-14):=by
    simp only[Cw,ff]
    rw[bt.2 (by omega),cond_true]
    rfl
   rw[this]
   unfold aC.at
   rw[List.getD_eq_getElem?_getD]
   cases hx:(ws.reverse)[ws.length-1-(id-14)]? with
   | none=>exact⟨rfl,λi hi=>by cases hi⟩
   | some x=>exact eG.mono (hw x (List.mem_reverse.1 (List.mem_of_getElem? hx))) (by omega)
noncomputable def Ek(ws:List aw)(f:Nat)(x:AX×St):Tr AV:=aV (qj tab (Cw cfg ws) (bC f) x) λr=>bif tL r.2.le&&(jB 14 [] 20 r.1).isSome then .ret r.1 else .fail
noncomputable def pW(S:bq)(L:dx)(ws:List aw)(f:Nat)(args:List AV):Tr AV:=q9 tab (dX cfg S) (rD S) L 1000 (Cw cfg ws) (aE f) (ij (bC f) args b7) (Ek ws f)
theorem fH.plainW{ws:List aw}(hw:∀x∈ws,eG 14 x){v v':AV}{o:aC}(h1:v'=v)(hi:aq v=[])(hm:(jB 14 [] 20 v).isSome=true)(hle:o.le=[]):fH ws v [] (v',o):=by
 subst h1
 have hu:jB (14+ws.length+0) (gL (14+ws.length) 0 []) 20 v'=some v':=by
  have key:∀(b:Nat) (d:Nat) (v u:AV),jB 14 [] d v=some u->aq v=[]->jB b [] d v=some v:=by
   intro b d
   induction d with
   | zero=>intro v u h;cases h
   | succ d ih=>
     have ihl:∀(vs us:List AV),s_ (jB 14 [] d) vs=some us->bG vs=[]->s_ (jB b [] d) vs=some vs:=by
      intro vs
      induction vs with
      | nil=>intro us _ _;rfl
      | cons v vs ihv=>
        intro us h hi
        simp only[s_,ag,Option.some.injEq]at h
        obtain⟨v1,h1,vs1,h2,rfl⟩:=h
        simp only[bG,List.append_eq_nil_iff]at hi
        simp only[s_,ih v v1 h1 hi.1,ihv vs1 h2 hi.2,ob]
     intro v u h hi
     unfold jB at h ⊢
     cases v<;>simp only[ag,Option.some.injEq]at h ⊢<;>simp only[aq,List.append_eq_nil_iff,reduceCtorEq,List.cons_ne_self]at hi
     case func f a c=>obtain⟨a',ha,c',hc,rfl⟩:=h;exact⟨_,ihl a a' ha hi.1,_,ihl c c' hc hi.2,rfl⟩
     case iface t w=>obtain⟨u',hu,rfl⟩:=h;exact⟨_,ih w u' hu hi,rfl⟩
     case agg cs=>obtain⟨a',ha,rfl⟩:=h;exact⟨_,ihl cs a' ha hi,rfl⟩
     case tuple cs=>obtain⟨a',ha,rfl⟩:=h;exact⟨_,ihl cs a' ha hi,rfl⟩
  obtain⟨u,hu⟩:=Option.isSome_iff_exists.1 hm
  exact key _ 20 v' u hu hi
 refine(qI d4.lv (C:=Cw cfg ws) (st:=⟨.node v' .nil .nil,1,o,[],none⟩) (kb:=0) (sel:=[]) (ts':=.node v' .nil .nil) (o':=b7) (xm hw) (Nat.zero_le _) (λs hs=>by cases hs) List.nodup_nil (λp hp=>by rw[show(⟨.node v' .nil .nil,1,o,[],none⟩:St).o=o from rfl,hle]at hp;cases hp) hle.symm rfl rfl (λi hi=>absurd hi (Nat.not_lt_zero i)) (λt ht=>absurd ht (Nat.not_lt_zero t)) ?_ (λd hd=>by cases hd) (λi hi=>by cases hi)).mono λs hs=>?_
 · have hu':jB ((Cw cfg ws).lo+0) (gL (Cw cfg ws).lo 0 []) 20 v'=some v':=hu
   simp only[tz,hu',ob]
 · rw[hs];exact⟨rfl,rfl⟩
theorem bX{S:bq}(hS:az Tryz.prog cfg S){L:dx}{ws:List aw}(hw:∀x∈ws,eG 14 x){f:Nat}{args:List AV}{v:AV}(hb:aH tab f=some (bC f,aE f))(hlen:args.length<=1000)(hL:s8 Tryz.prog (dX cfg S) (Cw cfg ws) L (aE f))
 (h:(pW S L ws f args).wp (·=v)) (hi:aq v=[]):bR Tryz.prog cfg f args ws v []:=by
 refine cV.wsem hS hb hlen ((qE (cV.good hS) (n5 cfg S) hL h).mono λx hx=>?_)
 have hx:(Ek ws f x).wp (·=v):=hx
 unfold Ek at hx
 cases he:qj tab (Cw cfg ws) (bC f) x with
 | none=>rw[he]at hx;exact hx.elim
 | some r=>
   rw[he]at hx
   have hx:(bif tL r.2.le&&(jB 14 [] 20 r.1).isSome then Tr.ret r.1 else .fail).wp (·=v):=hx
   cases hb:(tL r.2.le&&(jB 14 [] 20 r.1).isSome)with
   | false=>rw[hb]at hx;exact hx.elim
   | true=>
     rw[hb,cond_true]at hx
     have hx:r.1=v:=hx
     rw[Bool.and_eq_true]at hb
     have hle:r.2.le=[]:=by
      have:=hb.1
      cases hr:r.2.le with
      | nil=>rfl
      | cons a b=>rw[hr]at this;cases this
     exact⟨r,rfl,fH.plainW hw hx hi (by rw[<-hx];exact hb.2) hle⟩
theorem iL{cs:List AV}{rw:Bool}{g:Option Nat}(h:aG 14 cs=true):eG 14 (.cells cs rw g):=⟨rfl,λi hi=>oR h i hi⟩
def sV(y m:Int):Int:=Go.Proofs.YtafekjglclnegaaGreatDoor.mlen y m
def Q2:dM:=λargs=>match args with
 | [.int .i64 y,.int .i64 m]=>some (aN [ab (-10000000000000000) y,ab y 10000000000000000,ab 1 m,ab m 12] (.ret (.tuple [.int .i64 (sV y m),.int .i64 0])))
 | _=>none
def V1:bq:=bw (bw (bw (bw (bw U8 113 K_) 144 M4) 154 H_) 172 NK) 236 Q2
def At(n:Int):Int:=0-jc n (-9223372036854775807)
def IM(ng:Bool)(c0 c1 c2 c3:UInt8)(n:Int)(up:Bool):Int:=bif ng then 0-(bif up then dp (cZ c0 c1 c2 c3 (At n))else dp (c_ c0 c1 c2 c3 (jc (At n) 1)))else bif up then dp (c_ c0 c1 c2 c3 (jc n 0))else dp (cZ c0 c1 c2 c3 n)
def IJ(ng:Bool)(c0 c1 c2 c3:UInt8)(n:Int)(up:Bool):Bool:=bif ng then(bif up then gH (cZ c0 c1 c2 c3 (At n))&&ab 1 (dp (cZ c0 c1 c2 c3 (At n)))else gH (c_ c0 c1 c2 c3 (jc (At n) 1)))else bif up then gH (c_ c0 c1 c2 c3 (jc n 0))else gH (cZ c0 c1 c2 c3 n)&&ab 0 (dp (cZ c0 c1 c2 c3 n))
theorem SM(ng lg:Bool)(c0 c1 c2 c3:UInt8)(e g:Int)(mo da:List UInt8)(a b c n:Int)(up:Bool)(w1 w2:List AV)(n1 n2:Nat)(k1 k2:dv){Q:AV->Prop}:aO Q (pW V1 aW [.cells w1 false none,.cells w2 false none] 181 [.agg [.bool ng,.bool lg,.str [c0,c1,c2,c3],.int .i64 e,.int .i64 g,.str mo,.str da,.int .u8 a,.int .u8 b,.int .u8 c,.slice 14 0 n1 k1,.slice 15 0 n2 k2],.int .i64 n,.bool up]) (b_ 1051145427010114427041051145427010114427044015154270114270404030006)=((λ(u5:AV)(u9:Int)(u4 u7:Option Int)(u0 u1 u2 u3 u6 ua ub:Prop)=>(λ(uc ud ue uf:Option Int)=>(λ(ui ul:AV)(ug uh uj uk:Int)=>not (not (Nat.beq (bz [c0,c1,c2,c3] 88 88) 0))=false/\(not ng=true->(up=true->u0/\u1/\u2/\u3/\(gH u4=true->Q (AV.tuple [AV.int .i64 (dp u4),u5]))/\(gH u4=false->u6))/\(up=false->u0/\u1/\u2/\u3/\(gH u7=true->Q (AV.tuple [AV.int .i64 (dp u7),AV.bool (ab 0 (dp u7))]))/\(gH u7=false->u6)))/\(not ng=false->(ae .i64 u9=true->(ua->u0/\u1/\u2/\u3/\(gH uc=true->(ae .i64 ug=true->Q (AV.tuple [AV.int .i64 ug,u5]))/\(ae .i64 ug=false->Q (AV.tuple [AV.int .i64 (IntKind.wrap .i64 ug),u5])))/\(gH uc=false->u6))/\(ub->u0/\u1/\u2/\u3/\(gH ud=true->(ae .i64 uh=true->Q (AV.tuple [AV.int .i64 uh,ui]))/\(ae .i64 uh=false->Q (AV.tuple [AV.int .i64 (IntKind.wrap .i64 uh),ui])))/\(gH ud=false->u6)))/\(ae .i64 u9=false->(ua->u0/\u1/\u2/\u3/\(gH ue=true->(ae .i64 uj=true->Q (AV.tuple [AV.int .i64 uj,u5]))/\(ae .i64 uj=false->Q (AV.tuple [AV.int .i64 (IntKind.wrap .i64 uj),u5])))/\(gH ue=false->u6))/\(ub->u0/\u1/\u2/\u3/\(gH uf=true->(ae .i64 uk=true->Q (AV.tuple [AV.int .i64 uk,ul]))/\(ae .i64 uk=false->Q (AV.tuple [AV.int .i64 (IntKind.wrap .i64 uk),ul])))/\(gH uf=false->u6))))) (AV.bool (ab 1 (dp ud))) (AV.bool (ab 1 (dp uf))) (Int.sub 0 (dp uc)) (Int.sub 0 (dp ud)) (Int.sub 0 (dp ue)) (Int.sub 0 (dp uf))) (c_ c0 c1 c2 c3 (jc u9 1)) (cZ c0 c1 c2 c3 u9) (c_ c0 c1 c2 c3 (jc (IntKind.wrap .i64 u9) 1)) (cZ c0 c1 c2 c3 (IntKind.wrap .i64 u9))) (AV.bool true) (Int.sub 0 (jc n (Neg.neg 9223372036854775807))) (c_ c0 c1 c2 c3 (jc n 0)) (cZ c0 c1 c2 c3 n) (ek c0=true) (ek c1=true) (ek c2=true) (ek c3=true) (Q (AV.tuple [AV.int .i64 0,AV.bool false])) (not up=true) (not up=false)):=by kernel_rfl
theorem Qk(ng lg:Bool)(s:List UInt8)(e g:Int)(mo da:List UInt8)(a b c n:Int)(up:Bool)(w1 w2:List AV)(n1 n2:Nat)(k1 k2:dv){Q:AV->Prop}:aO Q (pW V1 aW [.cells w1 false none,.cells w2 false none] 181 [.agg [.bool ng,.bool lg,.str s,.int .i64 e,.int .i64 g,.str mo,.str da,.int .u8 a,.int .u8 b,.int .u8 c,.slice 14 0 n1 k1,.slice 15 0 n2 k2],.int .i64 n,.bool up]) (b_ 1020700081230003313328224741020700081230003313328224744200520006)=((λ(u4 u5 ua:AV)(u0 u9:Bool)(u2:Int)(u1 u3 u6 u7:Prop)=>(λ(ud:AV)(ub uc:Bool)(ue uf:Prop)=>(λ(ug uh:Prop)=>not (not u0)=true/\Nat.ble (List.length s) 1000=true/\(ub=true->(u1->u1/\u1/\u1/\(ug->ug/\ug/\u3/\u3/\u3/\ug/\u3/\uc=false/\Q (AV.tuple [ud,u4]))/\(uh->uh/\uh/\uh/\uc=true/\Q (AV.tuple [ud,u5])))/\(u6->u6/\u6/\u6/\u7/\u7/\u7/\u7/\Q (AV.tuple [ud,AV.bool (ab u2 n)])))/\(ub=false->(u1->u1/\u1/\u1/\(ue->ue/\ue/\u3/\u3/\u3/\ue/\u3/\u9=false/\Q (AV.tuple [ua,u4]))/\(uf->uf/\uf/\uf/\u9=true/\Q (AV.tuple [ua,u5])))/\(u6->u6/\u6/\u6/\u7/\u7/\u7/\u7/\Q (AV.tuple [ua,AV.bool (ab 0 n)])))) (not uc=true) (not uc=false)) (AV.int .i64 u2) (and (bD ng lg s e g) u0) (ab n u2) (not u9=true) (not u9=false)) (AV.bool false) (AV.bool true) (AV.int .i64 0) (Nat.beq (bz s 88 88) 0) (ab n 0) (eW ng s e) (up=true) (not up=false) (up=false) (not up=true)):=by kernel_rfl
theorem A0:aH tab 181=some (bC 181,aE 181):=by kernel_rfl
theorem F7:az Tryz.prog cfg V1:=by
 refine aA (bK (Fg (bK (L6 Q0) (Al 144 _ rfl))) (zW 172 _ rfl)) λargs t v he hv=>?_
 unfold Q2 at he
 split at he
 · rename_i y m
   cases he
   obtain⟨⟨h1,h2,h3,h4,-⟩,hv⟩:=aI hv
   rw[aK]at h1 h2 h3 h4
   cases hv
   refine cp wU (L:=aW) xu (by simp) ak (ap λQ' hQ=>al ((QZ y m).mpr ?_)) (by simp[aq,bG])
   simp only[aD,reduceCtorEq,bA,bB,ne_eq]
   (repeat' first|exact trivial|refine⟨?_,?_⟩|intro)<;>first|omega|assumption|exact hQ _ rfl
 · cases he
theorem kH(a b:Int):jc a b=max a b:=by
 unfold jc
 cases h:ab b a with
 | true=>rw[aK]at h;rw[cond_true];omega
 | false=>rw[dc]at h;rw[cond_false];omega
theorem CM{x:Option Int}(h:gH x=false):dp x=0:=by cases x with|none=>rfl|some u=>cases h
theorem TB{ng lg:Bool}{c0 c1 c2 c3:UInt8}{e g:Int}{mo da:List UInt8}{a b c n:Int}{up:Bool}{w1 w2:List AV}{n1 n2:Nat}{k1 k2:dv}(h0:ek c0=true)(h1:ek c1=true)(h2:ek c2=true)(h3:ek c3=true)(hx:Nat.beq (bz [c0,c1,c2,c3] 88 88) 0=false)(hn : -9223372036854775808<=n/\n<=9223372036854775807)(hw1:aG 14 w1=true)(hw2:aG 14 w2=true) :
 bR Tryz.prog cfg 181 [.agg [.bool ng,.bool lg,.str [c0,c1,c2,c3],.int .i64 e,.int .i64 g,.str mo,.str da,.int .u8 a,.int .u8 b,.int .u8 c,.slice 14 0 n1 k1,.slice 15 0 n2 k2],.int .i64 n,.bool up] [.cells w1 false none,.cells w2 false none] (.tuple [.int .i64 (IM ng c0 c1 c2 c3 n up),.bool (IJ ng c0 c1 c2 c3 n up)]) []:=by
 refine bX F7 (L:=aW) (λx hx=>?_) A0 (by simp) ak (ap λQ' hQ=>al ((SM ng lg c0 c1 c2 c3 e g mo da a b c n up w1 w2 n1 n2 k1 k2).mpr ?_)) (by simp[aq,bG])
 · simp only[List.mem_cons,List.not_mem_nil,or_false]at hx
   rcases hx with rfl|rfl
   · exact iL hw1
   · exact iL hw2
 · simp only[aD,reduceCtorEq,bA,bB,ne_eq]
   have bp:∀k,0<=dp (cZ c0 c1 c2 c3 k)/\dp (cZ c0 c1 c2 c3 k)<=9999:=λk=>by
    cases hp:cZ c0 c1 c2 c3 k with
    | none=>exact⟨by decide,by decide⟩
    | some u=>have:=(e9.1 hp).1;exact⟨this.1,this.2.1⟩
   have bn:∀k,0<=dp (c_ c0 c1 c2 c3 k)/\dp (c_ c0 c1 c2 c3 k)<=9999:=λk=>by
    cases hp:c_ c0 c1 c2 c3 k with
    | none=>exact⟨by decide,by decide⟩
    | some u=>have:=(fY.1 hp).1;exact⟨this.1,this.2.1⟩
   have b1:=bp (0-jc n (-9223372036854775807))
   have b2:=bn (jc (0-jc n (-9223372036854775807)) 1)
   have hmx:=kH n (-9223372036854775807)
   have gn:∀x:Option Int,gH x=false->dp x=0:=λx h=>CM h
   have fin:∀(y:Int) (b:Bool),y=IM ng c0 c1 c2 c3 n up->b=IJ ng c0 c1 c2 c3 n up->Q' (.tuple [.int .i64 y,.bool b]):=λy b e1 e2=>hQ _ (by rw[e1,e2])
   rw[jn]at hx
   (repeat' first|exact trivial|refine⟨?_,?_⟩|intro)<;>first|omega|assumption|(exact hx (by assumption))|(refine fin _ _ ?_ ?_<;>simp_all [IM,IJ,At];done)|(refine fin _ _ ?_ ?_<;>simp_all [IM,IJ,At,gn];done)
theorem O8{ng lg:Bool}{s:List UInt8}{e g:Int}{mo da:List UInt8}{a b c n:Int}{up:Bool}{w1 w2:List AV}{n1 n2:Nat}{k1 k2:dv}(hs:s.length<=1000)(hx:Nat.beq (bz s 88 88) 0=true)(ho:bD ng lg s e g=true)(hw1:aG 14 w1=true)(hw2:aG 14 w2=true) :
 bR Tryz.prog cfg 181 [.agg [.bool ng,.bool lg,.str s,.int .i64 e,.int .i64 g,.str mo,.str da,.int .u8 a,.int .u8 b,.int .u8 c,.slice 14 0 n1 k1,.slice 15 0 n2 k2],.int .i64 n,.bool up] [.cells w1 false none,.cells w2 false none] (.tuple [.int .i64 (eW ng s e),.bool (bif up then ab n (eW ng s e)else ab (eW ng s e) n)]) []:=by
 refine bX F7 (L:=aW) (λx hx=>?_) A0 (by simp) ak (ap λQ' hQ=>al ((Qk ng lg s e g mo da a b c n up w1 w2 n1 n2 k1 k2).mpr ?_)) (by simp[aq,bG])
 · simp only[List.mem_cons,List.not_mem_nil,or_false]at hx
   rcases hx with rfl|rfl
   · exact iL hw1
   · exact iL hw2
 · simp only[aD,reduceCtorEq,bA,bB,ne_eq]
   rw[bW]at hx
   have fin:∀b:Bool,b=(bif up then ab n (eW ng s e)else ab (eW ng s e) n)->Q' (.tuple [.int .i64 (eW ng s e),.bool b]):=λb h=>hQ _ (by rw[h])
   have hno:¬(bD ng lg s e g=false\/¬bz s 88 88=0):=by rw[ho];simp[hx]
   refine⟨hx,hs,λ_=>?_,λh=>(hno h).elim⟩
   have hle:n<=eW ng s e->ab n (eW ng s e)=true:=λh=>aK.mpr h
   have hlt:eW ng s e<n->ab n (eW ng s e)=false:=λh=>dc.mpr h
   (repeat' first|exact trivial|refine⟨?_,?_⟩|intro)<;>first|omega|assumption|(rename_i hup hn;refine fin _ ?_;rw[hup];first|exact(hle hn).symm|exact(hlt hn).symm)|(rename_i hup;refine fin _ ?_;rw[hup];rfl)
def yV(ng:Bool)(s:List UInt8)(e n:Int)(up:Bool):Int:=bif Nat.beq (bz s 88 88) 0 then eW ng s e else match s with|[c0,c1,c2,c3]=>IM ng c0 c1 c2 c3 n up|_=>0
def yB(ng:Bool)(s:List UInt8)(e n:Int)(up:Bool):Bool:=bif Nat.beq (bz s 88 88) 0 then(bif up then ab n (eW ng s e)else ab (eW ng s e) n)else match s with|[c0,c1,c2,c3]=>IJ ng c0 c1 c2 c3 n up|_=>false
def Ap(s:List UInt8):Bool:=Nat.beq (bz s 88 88) 0 || (match s with|[c0,c1,c2,c3]=>ek c0&&(ek c1&&(ek c2&&ek c3))|_=>false)
def LQ:lq:=λargs ws=>match args,ws with
 | [.agg [.bool ng,.bool lg,.str s,.int .i64 e,.int .i64 g,.str mo,.str da,.int .u8 a,.int .u8 b,.int .u8 c,.slice 14 0 n1 k1,.slice 15 0 n2 k2],.int .i64 n,.bool up],[.cells w1 false none,.cells w2 false none]=>
   some (aN [aG 14 w1,aG 14 w2,ae .i64 n,bD ng lg s e g,Nat.ble s.length 1000,Ap s] (.ret (.tuple [.int .i64 (yV ng s e n up),.bool (yB ng s e n up)],[])))
 | _,_=>none
theorem JG{s:List UInt8}(h:Ap s=true)(hx:Nat.beq (bz s 88 88) 0=false):∃c0 c1 c2 c3,s=[c0,c1,c2,c3]/\ek c0=true/\ek c1=true/\ek c2=true/\ek c3=true:=by
 unfold Ap at h
 rw[hx,Bool.false_or]at h
 split at h
 · rename_i c0 c1 c2 c3
   simp only[Bool.and_eq_true]at h
   exact⟨c0,c1,c2,c3,rfl,h.1,h.2.1,h.2.2.1,h.2.2.2⟩
 · cases h
theorem HO{S:bq}(hS:az Tryz.prog cfg S):az Tryz.prog cfg (gu S 181 (gD 14 [1,1] LQ)):=by
 refine bK hS (gy d4.lv zG λargs ws t r he hr=>?_)
 unfold LQ at he
 split at he
 · rename_i ng lg s e g mo da a b c n1 k1 n2 k2 n up w1 w2
   cases he
   obtain⟨⟨h1,h2,h3,h4,h5,h6,-⟩,hr⟩:=aI hr
   rw[xS]at h3
   rw[aB]at h5
   cases hr
   cases hx:Nat.beq (bz s 88 88) 0 with
   | true=>
     have e1:yV ng s e n up=eW ng s e:=by unfold yV;rw[hx];rfl
     have e2:yB ng s e n up=(bif up then ab n (eW ng s e)else ab (eW ng s e) n):=by unfold yB;rw[hx];rfl
     rw[e1,e2]
     exact⟨O8 h5 hx h4 h1 h2,λx hx=>by cases hx⟩
   | false=>
     obtain⟨c0,c1,c2,c3,rfl,m0,m1,m2,m3⟩:=JG h6 hx
     have e1:yV ng [c0,c1,c2,c3] e n up=IM ng c0 c1 c2 c3 n up:=by unfold yV;rw[hx];rfl
     have e2:yB ng [c0,c1,c2,c3] e n up=IJ ng c0 c1 c2 c3 n up:=by unfold yB;rw[hx];rfl
     rw[e1,e2]
     exact⟨TB m0 m1 m2 m3 hx h3 h1 h2,λx hx=>by cases hx⟩
 · cases he
theorem Dn{ng lg:Bool}{s:List UInt8}{e g:Int}(ho:bD ng lg s e g=true)(h0:bz s 88 88=0) : -10000000000000000<=eW ng s e/\eW ng s e<=10000000000000000:=by
 have hd:=(vz ho h0).1
 have key:eR s e.toNat<=10000000000000000:=by
  unfold bD at ho
  rw[decide_eq_true_eq]at ho
  rcases ho with⟨_,_,h|h⟩
  · obtain⟨_,hl,he,_⟩:=h
    subst he
    match s,hl with
    | [a,b,c,d],_=>
      have k0:=mg hd (i:=0) (by simp)
      have k1:=mg hd (i:=1) (by simp)
      have k2:=mg hd (i:=2) (by simp)
      have k3:=mg hd (i:=3) (by simp)
      simp only[List.getD_cons_zero,List.getD_cons_succ]at k0 k1 k2 k3
      show eR [a,b,c,d] 0<=_
      unfold eR numL
      simp only[List.foldl_cons,List.foldl_nil,Nat.pow_zero]
      omega
  · have:=h.2.2.2.2.2.2.2.2.2
    unfold magOk at this
    rwa [aB]at this
 unfold eW
 cases ng<;>simp only[cond_true,cond_false]<;>omega
theorem IQ{c0 c1 c2 c3:UInt8}{k:Int}(h:gH (c_ c0 c1 c2 c3 k)=true):k<=dp (c_ c0 c1 c2 c3 k):=by
 cases hp:c_ c0 c1 c2 c3 k with
 | none=>rw[hp]at h;cases h
 | some u=>exact(fY.1 hp).2.1
theorem Il{c0 c1 c2 c3:UInt8}{k:Int}(h:gH (cZ c0 c1 c2 c3 k)=true):dp (cZ c0 c1 c2 c3 k)<=k:=by
 cases hp:cZ c0 c1 c2 c3 k with
 | none=>rw[hp]at h;cases h
 | some u=>exact(e9.1 hp).2.1
theorem MI{c0 c1 c2 c3:UInt8}{k:Int}:0<=dp (c_ c0 c1 c2 c3 k)/\dp (c_ c0 c1 c2 c3 k)<=9999:=by
 cases hp:c_ c0 c1 c2 c3 k with
 | none=>exact⟨by decide,by decide⟩
 | some u=>have:=(fY.1 hp).1;exact⟨this.1,this.2.1⟩
theorem Mj{c0 c1 c2 c3:UInt8}{k:Int}:0<=dp (cZ c0 c1 c2 c3 k)/\dp (cZ c0 c1 c2 c3 k)<=9999:=by
 cases hp:cZ c0 c1 c2 c3 k with
 | none=>exact⟨by decide,by decide⟩
 | some u=>have:=(e9.1 hp).1;exact⟨this.1,this.2.1⟩
theorem Ro{ng:Bool}{s:List UInt8}{e n:Int}(h:yB ng s e n true=true):n<=yV ng s e n true:=by
 unfold yB at h
 unfold yV
 cases hx:Nat.beq (bz s 88 88) 0 with
 | true=>rw[hx]at h;simp only[cond_true]at h ⊢;rwa [aK]at h
 | false=>
   rw[hx,cond_false]at h
   rw[cond_false]
   split at h
   · rename_i c0 c1 c2 c3
     unfold IJ at h
     unfold IM
     cases ng with
     | true=>
       simp only[cond_true,Bool.and_eq_true,aK]at h ⊢
       have:=Il h.1
       unfold At at *
       rw[kH]at *
       omega
     | false=>
       simp only[cond_true,cond_false]at h ⊢
       have:=IQ h
       rw[kH]at *
       omega
   · cases h
theorem rQ{ng lg:Bool}{s:List UInt8}{e g n:Int}{up:Bool}(ho:bD ng lg s e g=true) : -10000000000000000<=yV ng s e n up/\yV ng s e n up<=10000000000000000:=by
 unfold yV
 cases hx:Nat.beq (bz s 88 88) 0 with
 | true=>rw[cond_true];rw[bW]at hx;exact Dn ho hx
 | false=>
   rw[cond_false]
   split
   · rename_i c0 c1 c2 c3
     unfold IM
     have b1:=@MI c0 c1 c2 c3
     have b2:=@Mj c0 c1 c2 c3
     cases ng<;>cases up<;>simp only[cond_true,cond_false]
     · have:=b2 (k:=n);omega
     · have:=b1 (k:=jc n 0);omega
     · have:=b1 (k:=jc (At n) 1);omega
     · have:=b2 (k:=At n);omega
   · omega
end Go.Ev
end
