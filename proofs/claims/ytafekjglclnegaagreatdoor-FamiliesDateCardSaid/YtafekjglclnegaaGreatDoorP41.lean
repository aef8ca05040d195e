/- circalaw24.FamiliesDate answers true: for every date that is handed to it, in every world that holds the laid tables of the row. Conditions: those of the row alone. -/
import Derived.Test.YtafekjglclnegaaGreatDoorCards
import Derived.Test.YtafekjglclnegaaGreatDoorTie
import Derived.ProofKit
import Derived.Deep.DeepHandedRow
import Derived.RowKitTokens
import Derived.WideKeyArgs
import Derived.Deep.DeepWitnessRowRef
import Derived.Test.YtafekjglclnegaaGreatDoorP40
set_option linter.all false
section
set_option maxRecDepth 100000
set_option maxHeartbeats 1000000
namespace Go.Ev
open Go Go.Proofs Go.ChangeShapes Go.WideShapes Go.ChangeAt Go.RowKit
theorem post_of_below {H:Type} {enc:TypeId×Value->H} {P:Program} {f:Func} {s:ChangeSpec} {apart fresh handsOn again:Bool} {W W':World} {args:Array Value} {v:Value} {ds gs:List (DataW H)} {before pa pv:List MemPlace}
 (hW:DataW.Whole enc P f.params.toList s.vars apart W args.toList ds gs before)
 (hres:∀(b:Nat) (sp:Nat->Bool) (hd:Bool),DataW.TrodAll enc P W' b sp hd f.resultTypes.toList (v.resultList f.resultTypes.size) (s.fn H (ds++gs)).results [])
 (hargs:∀sp:Nat->Bool,(∀p∈before,sp p.block=true)->DataW.TrodAll enc P W' 0 sp true f.params.toList args.toList (s.fn H (ds++gs)).args pa)
 (hvars:∀sp:Nat->Bool,(∀p∈before,sp p.block=true)->DataW.TrodVars enc P W' sp s.vars (s.fn H (ds++gs)).vars pv)
 (hps:before=pa++pv) (hb:Below W.heap.size W W')
 (hok:∀(j:Nat) (t:TypeId) (r:Value),f.resultTypes[j]? = some t->(v.resultList f.resultTypes.size)[j]? = some r->Value.okWide P W' .any 0 t r) :
 s.post enc P f apart fresh handsOn again W args v W':=by
 have hold:∀p∈before,(fun b=>decide (b<W.heap.size)) p.block=true:=fun p hp=>by simpa using hW.lt p hp
 have hlt:∀p∈before,p.block<W.heap.size:=fun p hp=>hW.lt p hp
 refine ⟨ds,gs,before,[],pa,pv,hW,hres _ _ _,hargs _ hold,hvars _ hold,World.keptBut_mono (fun p hp=>⟨hp,?_⟩) (hb.frame (·∈before)),fun _=>?_⟩
 · rw [hps,List.mem_append] at hp
   exact Or.inr hp
 · obtain ⟨_,_,_,_,_,hz,hn⟩:=hW
   refine ⟨hok,_,_,([]++pa)++pv,⟨[]++pa,pv,trodAll_append (hargs _ (fun _ _=>rfl)) (hres _ _ true),hvars _ (fun _ _=>rfl),rfl,?_,?_⟩,?_⟩
   · intro b off hp
     have hp':MemPlace.cell b off∈before:=by rw [hps];simpa using hp
     have e:W'.frozen? ⟨b,off,none⟩=W.frozen? ⟨b,off,none⟩:=by
      unfold World.frozen?
      rw [hb.block b (hlt _ hp')]
     rw [e]
     exact hz b off hp'
   · intro ha
     have:=hn ha
     rw [hps] at this
     simpa using this
   · intro p hp _
     rw [hps]
     simpa using hp
theorem laidOut:laidOutB Tryz.prog=true:=by kernel_rfl
theorem below_place {W W':World} {x:MemPlace} (hb:Below W.heap.size W W') (hlt:x.block<W.heap.size):W.sameAt W' x:=by
 cases x with
 | cell b off=>show W'.cell? _=W.cell? _;unfold World.cell?;rw [hb.block b hlt]
 | map b=>exact hb.block b hlt
section
variable {P:Program} {w:World} {r:Reach} {b0:Nat}
def okCs (P:Program) (w:World) (r:Reach) (b0:Nat):List TypeId->List Value->Prop
 | [],[]=>True
 | t::ts,v::vs=>Cell.okWide P w r b0 t v/\okCs P w r b0 ts vs
 | _,_=>False
theorem okCs_of:∀{ts:List TypeId} {l:List Value},l.length=ts.length->(∀(i:Nat) (c:Value),l[i]? = some c->∃u,ts[i]? = some u/\Cell.okWide P w r b0 u c)->okCs P w r b0 ts l
 | [],[],_,_=>trivial
 | t::ts,v::vs,h,hall=>by
   refine ⟨?_,okCs_of (by simpa using h) fun i c hc=>hall (i+1) c hc⟩
   obtain ⟨u,hu,hc⟩:=hall 0 v rfl
   cases hu
   exact hc
theorem okW_cells {t:TypeId} {v:Value} {fs} (ht:P.underlying t=some (.struct fs)) {ts:List TypeId} (hc:P.cellTypes P.depth t=some ts) (hn:P.cellsOf t=ts.length) (h:Value.okWide P w r b0 t v):∃l:List Value,v=.agg ⟨l⟩/\okCs P w r b0 ts l:=by
 unfold Value.okWide at h
 rw [ht] at h
 obtain ⟨⟨l⟩,rfl,hsz,ts',hts,_,hall⟩:=h
 rw [hc] at hts
 cases hts
 have hl:l.length=ts.length:=hsz.trans hn
 refine ⟨l,rfl,okCs_of hl fun i c hi=>?_⟩
 have hlt:=(List.getElem?_eq_some_iff.1 hi).1
 have:=hall i c (by simpa using hi)
 rwa [Nat.mod_eq_of_lt (by omega)] at this
end
end Go.Ev
end
section
set_option maxRecDepth 100000
set_option maxHeartbeats 1000000
namespace Go.Ev
open Go Go.Proofs
theorem ctDT:Tryz.prog.cellTypes Tryz.prog.depth 26=some [4,4,9,3,3,9,9,5,5,5]:=by kernel_rfl
theorem coDT:Tryz.prog.cellsOf 26=10:=by kernel_rfl
theorem shapeD {w:World} {r:Reach} {b0:Nat} {v:Value} (h:Value.okWide Tryz.prog w r b0 26 v):∃ng lg s e g mo da x y z,v=.agg #[.bool ng,.bool lg,.string s,.int .i64 e,.int .i64 g,.string mo,.string da,.int .u8 x,.int .u8 y,.int .u8 z]/\(-9223372036854775808≤e/\e≤9223372036854775807)/\(-9223372036854775808≤g/\g≤9223372036854775807)/\(0≤x/\x≤255)/\(0≤y/\y≤255)/\(0≤z/\z≤255):=by
 obtain ⟨l,rfl,hc⟩:=okW_cells Tryz.underlying26 ctDT coDT h
 match l,hc with
 | [c0,c1,c2,c3,c4,c5,c6,c7,c8,c9],⟨h0,h1,h2,h3,h4,h5,h6,h7,h8,h9,_⟩=>
   obtain ⟨ng,rfl⟩:=cell_bool Tryz.underlying4 h0
   obtain ⟨lg,rfl⟩:=cell_bool Tryz.underlying4 h1
   obtain ⟨s,rfl⟩:=cell_str Tryz.underlying9 h2
   obtain ⟨e,rfl,r3⟩:=cell_int Tryz.underlying3 h3
   obtain ⟨g,rfl,r4⟩:=cell_int Tryz.underlying3 h4
   obtain ⟨mo,rfl⟩:=cell_str Tryz.underlying9 h5
   obtain ⟨da,rfl⟩:=cell_str Tryz.underlying9 h6
   obtain ⟨x,rfl,r7⟩:=cell_int Tryz.underlying5 h7
   obtain ⟨y,rfl,r8⟩:=cell_int Tryz.underlying5 h8
   obtain ⟨z,rfl,r9⟩:=cell_int Tryz.underlying5 h9
   exact ⟨ng,lg,s,e,g,mo,da,x,y,z,rfl,r3,r4,r7,r8,r9⟩
theorem calls7 {w:World} {r:Reach} {b0:Nat} {v:Value} (hL:laidMetH Tryz.prog laidL w) (hv:Value.okWide Tryz.prog w r b0 26 v) :
 Calls Tryz.prog 7 #[v] w fun e w'=>e=.returned (.bool true)/\RowKit.Below w.heap.size w w':=by
 obtain ⟨m,hi⟩:=root_inv (rootW_of hL)
 obtain ⟨ng,lg,s,e,g,mo,da,x,y,z,rfl,he,hg,hx,hy,hz⟩:=shapeD hv
 obtain ⟨⟨s⟩⟩:=s
 obtain ⟨⟨mo⟩⟩:=mo
 obtain ⟨⟨da⟩⟩:=da
 have:=calls_of Tryz.func7 (by kernel_rfl) (by kernel_rfl) (f7 (ng:=ng) (lg:=lg) (s:=s) (e:=e) (g:=g) (mo:=mo) (da:=da) (a:=x) (b:=y) (c:=z) he hg hx hy hz) (inv_nil hi) (by simp [okL,idsL,idsA])
 simpa only [concL,conc] using this
end Go.Ev
end
section
namespace Go.Proofs.YtafekjglclnegaaGreatDoor.fnFamiliesDate
open Go.ChangeShapes Go.WideShapes Go.ChangeAt Go.RowKit
set_option maxRecDepth 100000
theorem recP:Tryz.prog.readableRec 26=true:=by kernel_rfl
theorem rowP:26 < Tryz.prog.types.size:=of_decide_eq_true (by kernel_rfl)
theorem contract (H:Type) (enc:TypeId×Value->H) (W:World) (args:Array Value) (ds gs:List (DataW H)) (before:List MemPlace) (r:Reach) (b0:Nat)
 (hval:∀(j:Nat) (t:TypeId) (v:Value),Tryz.f7.params[j]? = some t->args[j]? = some v->Value.okWide Tryz.prog W r b0 t v)
 (hW:DataW.Whole enc Tryz.prog Tryz.f7.params.toList Rows.familiesDateSpec.vars false W args.toList ds gs before) (hL:laidMetH Tryz.prog Rows.familiesDateRow.laid W) :
 Calls Tryz.prog 7 args W fun e W'=>∃v,e=.returned v/\Rows.familiesDateSpec.post enc Tryz.prog Tryz.f7 false true false false W args v W':=by
 have hW':=hW
 obtain ⟨p,q,hA0,hV,rfl,hfz,hnd⟩:=hW
 have hA:DataW.TrodAll enc Tryz.prog W 0 (fun _=>true) true Tryz.f7.params.toList args.toList ds p:=hA0
 rw [Tryz.params7] at hA hval
 obtain ⟨v,d,rfl,rfl,hd⟩:=trodAll_one hA
 obtain ⟨rfl,rfl⟩:=trodVars_none hV
 clear hA0
 refine (Go.Ev.calls7 hL (hval 0 26 v rfl rfl)).mono fun e W' ⟨he,hb⟩=>?_
 subst he
 refine ⟨_,rfl,Go.Ev.post_of_below (pa:=p) (pv:=[]) hW' (fun _ _ _=>trodAll_cons_mk (shut_bool Tryz.underlying4 _) trodAll_mk0) (fun sp hsp=>?_) (fun _ _=>rfl) rfl hb (ok_one (by kernel_rfl) rfl (okWide_bool_mk Tryz.underlying4 _))⟩
 rw [Tryz.params7]
 exact trodAll_mk1 (Go.WideElems.Trod_stays Go.Ev.laidOut recP rowP hd (fun x hx=>Go.Ev.below_place hb (hW'.lt x (by simpa using hx))) fun x hx=>hsp x (by simpa using hx))
noncomputable abbrev Fa (x:Program->FuncId->Func->ChangeSpec->OpenClaim->Bool):Bool:=x Tryz.prog 7 Tryz.f7 Rows.familiesDateSpec Rows.familiesDateRow
theorem fa0:(Fa fun P f fn s c=>c.wf (OpenSpec.ofChange s))=true:=by kernel_rfl
theorem fa1:(Fa fun P f fn s c=>laidOutB P)=true:=by kernel_rfl
theorem fa2:(Fa fun P f fn s c=>mapsRowed P)=true:=by kernel_rfl
theorem fa3:(Fa fun P f fn s c=>fn.params.all (P.readableRec ·))=true:=by kernel_rfl
theorem fa4:(Fa fun P f fn s c=>namedTie P c.named s.vars)=true:=by kernel_rfl
theorem fa5:(Fa fun P f fn s c=>(c.stops==[]))=true:=by kernel_rfl
theorem fa6:(Fa fun P f fn s c=>(P.stops==[]))=true:=by kernel_rfl
theorem fa7:(Fa fun P f fn s c=>(c.knobs==[]))=true:=by kernel_rfl
theorem fa8:(Fa fun P f fn s c=>(P.stopKnobs==[]))=true:=by kernel_rfl
theorem fa9:(Fa fun P f fn s c=>(c.inPlace==P.inPlace f))=true:=by kernel_rfl
theorem fa10:(Fa fun P f fn s c=>(c.unfollowed==P.unfollowed f))=true:=by kernel_rfl
theorem fa11:(Fa fun P f fn s c=>(c.recurses==P.recurses f))=true:=by kernel_rfl
theorem fa12:(Fa fun P f fn s c=>(c.named==P.varsNamed f))=true:=by kernel_rfl
theorem fa13:(Fa fun P f fn s c=>(c.maps==(fn.params.toList++s.plain.varTypes P).any (P.mapsRec ·)))=true:=by kernel_rfl
theorem fa14:(Fa fun P f fn s c=>(c.ifaces==(fn.params.toList++s.plain.varTypes P).any (P.ifacesRec ·)))=true:=by kernel_rfl
theorem fa15:(Fa fun P f fn s c=>(c.mapsOut==P.mapsAmong fn.resultTypes.toList))=true:=by kernel_rfl
theorem fa16:(Fa fun P f fn s c=>(c.loops==(fn.params.toList++s.plain.varTypes P).any (P.loopsFrom ·)))=true:=by kernel_rfl
theorem fa17:(Fa fun P f fn s c=>(c.wideKeys==(fn.params.toList++s.plain.varTypes P++fn.resultTypes.toList).any (P.wideKeysFrom ·)))=true:=by kernel_rfl
theorem fa18:(Fa fun P f fn s c=>s.vars.all (P.varReadable ·))=true:=by kernel_rfl
theorem fa19:(Fa fun P f fn s c=>fn.resultTypes.all (fun t=>P.readableRec t&&decide (t<P.types.size)))=true:=by kernel_rfl
theorem fa20:(Fa fun P f fn s c=>(c.ifacesOut==fn.resultTypes.toList.any (P.ifacesRec ·)))=true:=by kernel_rfl
theorem fa21:(Fa fun P f fn s c=>(c.loopsOut==fn.resultTypes.toList.any (P.loopsFrom ·)))=true:=by kernel_rfl
theorem fa22:(Fa fun P f fn s c=>(c.plainKeys==P.plainKeys))=true:=by kernel_rfl
theorem fa23:(Fa fun P f fn s c=>c.shortTexts.isNone)=true:=by kernel_rfl
theorem fa24:(Fa fun P f fn s c=>P.stopsHeard)=true:=by kernel_rfl
theorem fa25:(Fa fun P f fn s c=>P.mayEnter)=true:=by kernel_rfl
theorem fa26:(Fa fun P f fn s c=>(c.lifted==P.liftsFinal))=true:=by kernel_rfl
theorem fa27:(Fa fun P f fn s c=>(P.make==some c.make))=true:=by kernel_rfl
theorem fa28:(Fa fun P f fn s c=>(c.kinds==(if c.domain.isEmpty then [] else fn.params.toList.map fun t=>match P.underlying t with|some (.int k)=>some k|_=>none)))=true:=by kernel_rfl
theorem fa29:(Fa fun P f fn s c=>(c.pinned==c.pinnedBy))=true:=by kernel_rfl
theorem fa30:(Fa fun P f fn s c=>(c.veiled==(fn.params.toList++s.plain.varTypes P++fn.resultTypes.toList).any (P.veiledRec ·)))=true:=by kernel_rfl
theorem fa31:(Fa fun P f fn s c=>c.veiledFits P fn.params.toList (fn.params.toList++s.plain.varTypes P++fn.resultTypes.toList))=true:=by kernel_rfl
theorem facts:joinedFacts Tryz.prog 7 Tryz.f7 Rows.familiesDateSpec Rows.familiesDateRow=true:=by
 unfold joinedFacts
 simp only [Bool.and_eq_true]
 exact ⟨⟨⟨⟨⟨⟨⟨⟨⟨⟨⟨⟨⟨⟨⟨⟨⟨⟨⟨⟨⟨⟨⟨⟨⟨⟨⟨⟨⟨⟨⟨fa0,fa1⟩,fa2⟩,fa3⟩,fa4⟩,fa5⟩,fa6⟩,fa7⟩,fa8⟩,fa9⟩,fa10⟩,fa11⟩,fa12⟩,fa13⟩,fa14⟩,fa15⟩,fa16⟩,fa17⟩,fa18⟩,fa19⟩,fa20⟩,fa21⟩,fa22⟩,fa23⟩,fa24⟩,fa25⟩,fa26⟩,fa27⟩,fa28⟩,fa29⟩,fa30⟩,fa31⟩
end Go.Proofs.YtafekjglclnegaaGreatDoor.fnFamiliesDate
end
section
set_option maxRecDepth 100000
namespace Go.Ev.Wit
open Go Go.Proofs
def flat:Nat->DataW Unit->List Value
 | 0,_=>[]
 | d+1,.agg xs=>xs.flatMap (flat d)
 | _,.lit (.int k n)=>[.int k n]
 | _,_=>[]
def setC (h:Array Obj) (b:Nat) (c:List Value):Array Obj:=h.modify b fun
 | .cells _ t frozen=>.cells c.toArray t frozen
 | o=>o
def tabs (B:Nat):List (Nat×List Value):=[(9,[.int .u8 (0),.int .u8 (1),.int .u8 (28),.int .u8 (2),.int .u8 (29),.int .u8 (14),.int .u8 (24),.int .u8 (3),.int .u8 (30),.int .u8 (22),.int .u8 (20),.int .u8 (15),.int .u8 (25),.int .u8 (17),.int .u8 (4),.int .u8 (8),.int .u8 (31),.int .u8 (27),.int .u8 (13),.int .u8 (23),.int .u8 (21),.int .u8 (19),.int .u8 (16),.int .u8 (7),.int .u8 (26),.int .u8 (12),.int .u8 (18),.int .u8 (6),.int .u8 (11),.int .u8 (5),.int .u8 (10),.int .u8 (9)]),
 (10,[.int .u8 (0),.int .u8 (1),.int .u8 (56),.int .u8 (2),.int .u8 (57),.int .u8 (49),.int .u8 (28),.int .u8 (3),.int .u8 (61),.int .u8 (58),.int .u8 (42),.int .u8 (50),.int .u8 (38),.int .u8 (29),.int .u8 (17),.int .u8 (4),.int .u8 (62),.int .u8 (47),.int .u8 (59),.int .u8 (36),.int .u8 (45),.int .u8 (43),.int .u8 (51),.int .u8 (22),.int .u8 (53),.int .u8 (39),.int .u8 (33),.int .u8 (30),.int .u8 (24),.int .u8 (18),.int .u8 (12),.int .u8 (5),.int .u8 (63),.int .u8 (55),.int .u8 (48),.int .u8 (27),.int .u8 (60),.int .u8 (41),.int .u8 (37),.int .u8 (16),.int .u8 (46),.int .u8 (35),.int .u8 (44),.int .u8 (21),.int .u8 (52),.int .u8 (32),.int .u8 (23),.int .u8 (11),.int .u8 (54),.int .u8 (26),.int .u8 (40),.int .u8 (15),.int .u8 (34),.int .u8 (20),.int .u8 (31),.int .u8 (10),.int .u8 (25),.int .u8 (14),.int .u8 (19),.int .u8 (9),.int .u8 (13),.int .u8 (8),.int .u8 (7),.int .u8 (6)]),
 (8,[.int .u64 (1),.int .u64 (10),.int .u64 (100),.int .u64 (1000),.int .u64 (10000),.int .u64 (100000),.int .u64 (1000000),.int .u64 (10000000),.int .u64 (100000000),.int .u64 (1000000000),.int .u64 (10000000000),.int .u64 (100000000000),.int .u64 (1000000000000),.int .u64 (10000000000000),.int .u64 (100000000000000),.int .u64 (1000000000000000),.int .u64 (10000000000000000),.int .u64 (100000000000000000),.int .u64 (1000000000000000000),.int .u64 (10000000000000000000)]),
 (7,[.int .u8 (128),.int .u8 (191),.int .u8 (160),.int .u8 (191),.int .u8 (128),.int .u8 (159),.int .u8 (144),.int .u8 (191),.int .u8 (128),.int .u8 (143),.int .u8 (0),.int .u8 (0),.int .u8 (0),.int .u8 (0),.int .u8 (0),.int .u8 (0),.int .u8 (0),.int .u8 (0),.int .u8 (0),.int .u8 (0),.int .u8 (0),.int .u8 (0),.int .u8 (0),.int .u8 (0),.int .u8 (0),.int .u8 (0),.int .u8 (0),.int .u8 (0),.int .u8 (0),.int .u8 (0),.int .u8 (0),.int .u8 (0)]),
 (4,[.iface 367 (.pointer (some ⟨B+0,0,none⟩))]),
 (3,[.iface 367 (.pointer (some ⟨B+1,0,none⟩))]),
 (5,[.slice (some ⟨B+2,0,none⟩) 3 3]),
 (1,[.int .i64 (31),.int .i64 (28),.int .i64 (31),.int .i64 (30),.int .i64 (31),.int .i64 (30),.int .i64 (31),.int .i64 (31),.int .i64 (30),.int .i64 (31),.int .i64 (30),.int .i64 (31)]),
 (2,[.int .i64 (3),.int .i64 (3),.int .i64 (6),.int .i64 (3),.int .i64 (9),.int .i64 (3),.int .i64 (12),.int .i64 (3),.int .i64 (3),.int .i64 (3),.int .i64 (6),.int .i64 (3),.int .i64 (9),.int .i64 (3),.int .i64 (12),.int .i64 (3),.int .i64 (9),.int .i64 (3),.int .i64 (12),.int .i64 (3),.int .i64 (3),.int .i64 (3),.int .i64 (6),.int .i64 (3),.int .i64 (1),.int .i64 (3),.int .i64 (4),.int .i64 (3),.int .i64 (7),.int .i64 (3),.int .i64 (10),.int .i64 (3),.int .i64 (1),.int .i64 (4),.int .i64 (5),.int .i64 (4),.int .i64 (9),.int .i64 (4),.int .i64 (1),.int .i64 (6),.int .i64 (7),.int .i64 (6)]),
 (6,flat 9 Go.Pinned.utf8First)]
def more (B:Nat):List Obj:=[.cells #[.string ⟨#[118,97,108,117,101,32,111,117,116,32,111,102,32,114,97,110,103,101]⟩] 369 (0,0),.cells #[.string ⟨#[105,110,118,97,108,105,100,32,115,121,110,116,97,120]⟩] 369 (0,0),.cells #[.int .i64 (4),.int .i64 (1),.int .i64 (100),.int .i64 (-1),.int .i64 (400),.int .i64 (1)] 359 (0,0)]
noncomputable def laidHeap (h:Array Obj):Array Obj:=((tabs h.size).foldl (fun h p=>setC h p.1 p.2) h)++(more h.size).toArray
noncomputable def laidWorld (os:Os):World:={ World.holding Tryz.prog os ⟨#[],#[],[]⟩ with heap:=laidHeap (World.holding Tryz.prog os ⟨#[],#[],[]⟩).heap }
end Go.Ev.Wit
end
section
namespace Go.Proofs.YtafekjglclnegaaGreatDoor.fnFamiliesDate
open Go.ChangeShapes Go.WideShapes Go.ChangeAt Go.RowKit Go.Ev.Wit
set_option maxRecDepth 100000
def zero0:Value:=.agg #[.bool false,.bool false,.string ⟨#[]⟩,.int .i64 0,.int .i64 0,.string ⟨#[]⟩,.string ⟨#[]⟩,.int .u8 0,.int .u8 0,.int .u8 0]
abbrev args0:Array Value:=#[zero0]
noncomputable abbrev W0 (os:Os):World:=(laidWorld os).forCall (fun _ _=>0) ⟨#[],args0,[]⟩
theorem laid_met (os:Os):laidMet Tryz.prog Rows.familiesDateRow.laid (W0 os).memory:=laidMet_of_run' 8 (by kernel_rfl) (by kernel_rfl)
theorem reads (os:Os) {H:Type} (enc:TypeId×Value->H):∃x,DataW.whole enc Tryz.prog (W0 os).memory Tryz.f7.params.toList Rows.familiesDateSpec.vars false args0.toList 8=some x:=Option.isSome_iff_exists.1 (by kernel_rfl)
theorem shaped (os:Os):(W0 os).variablesRefB Tryz.checked.prog=true:=by kernel_rfl
theorem restB (os:Os):((W0 os).heap.toList.drop Tryz.checked.prog.globals.size).take ((begin Tryz.checked.prog (fun _ _=>0) default).world.heap.size - Tryz.checked.prog.globals.size)=(begin Tryz.checked.prog (fun _ _=>0) default).world.heap.toList.drop Tryz.checked.prog.globals.size:=by kernel_rfl
theorem argsB (os:Os):Input.okWideB Tryz.checked.prog (W0 os) 7 ⟨#[],args0,[]⟩=true:=by kernel_rfl
end Go.Proofs.YtafekjglclnegaaGreatDoor.fnFamiliesDate
end
section
namespace Go.Proofs.YtafekjglclnegaaGreatDoor.fnFamiliesDate
open Go.ChangeShapes Go.WideShapes Go.ChangeAt Go.RowKit
set_option maxRecDepth 100000
theorem own:ownKnob Tryz.prog.godebug=none:=by kernel_rfl
theorem lifted (os:Os) (started:os.Started) (H:Type) (enc:TypeId×Value->H) (F:Stop.Interp) :
 ReturnsInHanded {} Tryz.checked os 7 .any ((OpenSpec.ofChange Rows.familiesDateSpec).preRow enc Tryz.prog Tryz.f7 Rows.familiesDateRow.domain false Rows.familiesDateRow.laid) (((OpenSpec.ofChange Rows.familiesDateSpec).at F).post enc Tryz.prog Tryz.f7 false true false false):=by
 obtain ⟨x,hx⟩:=reads os enc
 refine returnsInHanded_of_row (C:=Tryz.checked) (s:=OpenSpec.ofChange Rows.familiesDateSpec) own started (by kernel_rfl) Tryz.func7
  (witness_row_atRef (enc:=enc) (C:=Tryz.checked) false (Go.Ev.Wit.laidWorld os) args0 rfl (shaped os) (restB os) (argsB os)
    (OpenSpec.preRow_of_cond 8 hx (by kernel_rfl) (fun k hk=>by cases hk) (by kernel_rfl) (laid_met os))) ?_
 intro W base args ds gs before hval hW _ _ _ hL _ _
 exact contract H enc W args ds gs before .any base hval hW hL
theorem said:Rows.FamiliesDateSaid:=
 OpenClaim.holds_of_cond 7 Tryz.f7 rfl rfl rfl rfl rfl rfl rfl ⟨rfl,rfl,rfl,rfl,rfl⟩ rfl rfl rfl rfl rfl (by kernel_rfl) Tryz.func7 facts
  (of_decide_eq_true (by kernel_rfl)) (by unfold Func.isWrapper;first|(rw [if_pos (by decide +kernel)];kernel_rfl)|(rw [if_neg (by decide +kernel)];exact ⟨rfl,rfl⟩))
  (fun os started H enc _ F=>by rw [OpenClaim.pre_eq_preRow];exact lifted os started H enc F)
theorem standB:Tryz.f7.params.all (fun t=>!Tryz.prog.wantsStandIn t)=true:=by kernel_rfl
theorem plain (f:FuncId) (fn:Func) (hf:Tryz.pinned.checked.prog.funcNamed "circa/circalaw24.FamiliesDate" = some f) (hfn:Tryz.pinned.checked.prog.funcs[f]? = some fn) :
 true=Tryz.pinned.checked.prog.looks []/\∀(j:Nat) t,fn.params[j]? = some t->Tryz.pinned.checked.prog.wantsStandIn t=false:=by
 obtain rfl:f=7:=Option.some.inj ((show Tryz.prog.funcNamed "circa/circalaw24.FamiliesDate" = some 7 by kernel_rfl).symm.trans hf) |>.symm
 obtain rfl:fn=Tryz.f7:=(Option.some.inj (Tryz.func7.symm.trans hfn)).symm
 refine ⟨by kernel_rfl,fun j t ht=>?_⟩
 obtain ⟨hj,e⟩:=Array.getElem?_eq_some_iff.1 ht
 have:=(Array.all_eq_true.1 standB) j hj
 rw [e] at this
 have this:Tryz.prog.wantsStandIn t=false:=by simpa using this
 exact this
theorem card:Rows.FamiliesDateCardSaid:=
 Claim7.holds_tied_plain_at .later [] _ _ _ _ said (fun _ h=>by cases h) (by kernel_rfl) (fun _ h=>by cases h) familiesDate_row_tie rfl ⟨rfl,rfl⟩ (by kernel_rfl) rfl plain (by kernel_rfl)
#print axioms card
end Go.Proofs.YtafekjglclnegaaGreatDoor.fnFamiliesDate
end
