import Derived.Test.YtafekjglclnegaaGreatDoorCards
import Derived.Test.YtafekjglclnegaaGreatDoorTie
import Derived.ProofKit
import Derived.Deep.DeepHandedRow
import Derived.RowKitTokens
import Derived.WideKeyArgs
import Derived.Test.YtafekjglclnegaaGreatDoorP39
import Derived.Test.YtafekjglclnegaaGreatDoorP38
set_option linter.all false
section
set_option maxRecDepth 100000
set_option maxHeartbeats 1000000
namespace Go.Ev
open Go Go.Proofs Go.ChangeShapes Go.WideShapes Go.ChangeAt Go.RowKit
theorem post_of_below{H:Type}{enc:TypeId×Value->H}{P:Program}{f:Func}{s:ChangeSpec}{apart fresh handsOn again:Bool}{W W':World}{args:Array Value}{v:Value}{ds gs:List (DataW H)}{before pa pv:List MemPlace}
 (hW:DataW.Whole enc P f.params.toList s.vars apart W args.toList ds gs before)
 (hres:∀(b:Nat) (sp:Nat->Bool) (hd:Bool),DataW.TrodAll enc P W' b sp hd f.resultTypes.toList (v.resultList f.resultTypes.size) (s.fn H (ds++gs)).results [])
 (hargs:∀sp:Nat->Bool,(∀p∈before,sp p.block=true)->DataW.TrodAll enc P W' 0 sp true f.params.toList args.toList (s.fn H (ds++gs)).args pa)
 (hvars:∀sp:Nat->Bool,(∀p∈before,sp p.block=true)->DataW.TrodVars enc P W' sp s.vars (s.fn H (ds++gs)).vars pv)
 (hps:before=pa++pv) (hb:Below W.heap.size W W')
 (hok:∀(j:Nat) (t:TypeId) (r:Value),f.resultTypes[j]? = some t->(v.resultList f.resultTypes.size)[j]? = some r->Value.okWide P W' .any 0 t r) :
 s.post enc P f apart fresh handsOn again W args v W':=by
 have hold:∀p∈before,(λb=>decide (b<W.heap.size)) p.block=true:=λp hp=>by simpa using hW.lt p hp
 have hlt:∀p∈before,p.block<W.heap.size:=λp hp=>hW.lt p hp
 refine⟨ds,gs,before,[],pa,pv,hW,hres _ _ _,hargs _ hold,hvars _ hold,World.keptBut_mono (λp hp=>⟨hp,?_⟩) (hb.frame (·∈before)),λ_=>?_⟩
 · rw[hps,List.mem_append]at hp
   exact Or.inr hp
 · obtain⟨_,_,_,_,_,hz,hn⟩:=hW
   refine⟨hok,_,_,([]++pa)++pv,⟨[]++pa,pv,trodAll_append (hargs _ (λ_ _=>rfl)) (hres _ _ true),hvars _ (λ_ _=>rfl),rfl,?_,?_⟩,?_⟩
   · intro b off hp
     have hp':MemPlace.cell b off∈before:=by rw[hps];simpa using hp
     have e:W'.frozen? ⟨b,off,none⟩=W.frozen? ⟨b,off,none⟩:=by
      unfold World.frozen?
      rw[hb.block b (hlt _ hp')]
     rw[e]
     exact hz b off hp'
   · intro ha
     have:=hn ha
     rw[hps]at this
     simpa using this
   · intro p hp _
     rw[hps]
     simpa using hp
theorem laidOut:laidOutB Tryz.prog=true:=by kernel_rfl
theorem below_place{W W':World}{x:MemPlace}(hb:Below W.heap.size W W')(hlt:x.block<W.heap.size):W.sameAt W' x:=by
 cases x with
 | cell b off=>show W'.cell? _=W.cell? _;unfold World.cell?;rw[hb.block b hlt]
 | map b=>exact hb.block b hlt
section
variable{P:Program}{w:World}{r:Reach}{b0:Nat}
def MX(P:Program)(w:World)(r:Reach)(b0:Nat):List TypeId->List Value->Prop
 | [],[]=>True
 | t::ts,v::vs=>Cell.okWide P w r b0 t v/\MX P w r b0 ts vs
 | _,_=>False
theorem By:∀{ts:List TypeId} {l:List Value},l.length=ts.length->(∀(i:Nat) (c:Value),l[i]? = some c->∃u,ts[i]? = some u/\Cell.okWide P w r b0 u c)->MX P w r b0 ts l
 | [],[],_,_=>trivial
 | t::ts,v::vs,h,hall=>by
   refine⟨?_,By (by simpa using h) λi c hc=>hall (i+1) c hc⟩
   obtain⟨u,hu,hc⟩:=hall 0 v rfl
   cases hu
   exact hc
theorem B0{t:TypeId}{v:Value}{fs}(ht:P.underlying t=some (.struct fs)){ts:List TypeId}(hc:P.cellTypes P.depth t=some ts)(hn:P.cellsOf t=ts.length)(h:Value.okWide P w r b0 t v):∃l:List Value,v=.agg ⟨l⟩/\MX P w r b0 ts l:=by
 unfold Value.okWide at h
 rw[ht]at h
 obtain⟨⟨l⟩,rfl,hsz,ts',hts,_,hall⟩:=h
 rw[hc]at hts
 cases hts
 have hl:l.length=ts.length:=hsz.trans hn
 refine⟨l,rfl,By hl λi c hi=>?_⟩
 have hlt:=(List.getElem?_eq_some_iff.1 hi).1
 have:=hall i c (by simpa using hi)
 rwa [Nat.mod_eq_of_lt (by omega)]at this
end
end Go.Ev
end
section
set_option maxRecDepth 100000
set_option maxHeartbeats 1000000
namespace Go.Ev
open Go Go.Proofs Go.ChangeShapes
theorem V9:Tryz.prog.cellTypes Tryz.prog.depth 81=some [5,5,5,5,4,73,5,5,5,5,5,5,5,78,5,79]:=by kernel_rfl
theorem Xr:Tryz.prog.cellsOf 81=16:=by kernel_rfl
theorem Sc:Tryz.prog.cellsOf 49=2:=by kernel_rfl
theorem Yf:Tryz.prog.cellsOf 5=1:=by kernel_rfl
theorem VL:Tryz.prog.cellsOf 79=1:=by kernel_rfl
structure FP where
 k:Int
 p:Int
 op:Int
 f:Int
 ng:Bool
 n:Int
 z0:Int
 z1:Int
 m:Int
 d:Int
 x:Int
 y:Int
 z:Int
 fr:Int
 ma:Int
def FP.ok(q:FP):Prop:=(0<=q.k/\q.k<=255)/\(0<=q.p/\q.p<=255)/\(0<=q.op/\q.op<=255)/\(0<=q.f/\q.f<=255)/\(0<=q.n/\q.n<=65535)/\(0<=q.z0/\q.z0<=255)/\(0<=q.z1/\q.z1<=255)/\(0<=q.m/\q.m<=255)/\(0<=q.d/\q.d<=255)/\(0<=q.x/\q.x<=255)/\(0<=q.y/\q.y<=255)/\(0<=q.z/\q.z<=255)/\(-32768<=q.fr/\q.fr<=32767)/\(0<=q.ma/\q.ma<=255)
def FP.v(q:FP)(sv:Value):Value:=.agg #[.int .u8 q.k,.int .u8 q.p,.int .u8 q.op,.int .u8 q.f,.bool q.ng,.int .u16 q.n,.int .u8 q.z0,.int .u8 q.z1,.int .u8 q.m,.int .u8 q.d,.int .u8 q.x,.int .u8 q.y,.int .u8 q.z,.int .i16 q.fr,.int .u8 q.ma,sv]
def FP.a(q:FP)(V:AV):AV:=.agg [.int .u8 q.k,.int .u8 q.p,.int .u8 q.op,.int .u8 q.f,.bool q.ng,.int .u16 q.n,.int .u8 q.z0,.int .u8 q.z1,.int .u8 q.m,.int .u8 q.d,.int .u8 q.x,.int .u8 q.y,.int .u8 q.z,.int .i16 q.fr,.int .u8 q.ma,V]
theorem FC{w:World}{r:Reach}{b0:Nat}{v:Value}(h:Value.okWide Tryz.prog w r b0 81 v):∃(q:FP) (sv:Value),v=q.v sv/\q.ok/\Cell.okWide Tryz.prog w r b0 79 sv:=by
 obtain⟨l,rfl,hc⟩:=B0 Tryz.underlying81 V9 Xr h
 match l,hc with
 | [c0,c1,c2,c3,c4,c5,c6,c7,c8,c9,c10,c11,c12,c13,c14,c15],⟨h0,h1,h2,h3,h4,h5,h6,h7,h8,h9,h10,h11,h12,h13,h14,h15,_⟩=>
   obtain⟨k,rfl,r0⟩:=dS Tryz.underlying5 h0
   obtain⟨p,rfl,r1⟩:=dS Tryz.underlying5 h1
   obtain⟨op,rfl,r2⟩:=dS Tryz.underlying5 h2
   obtain⟨f,rfl,r3⟩:=dS Tryz.underlying5 h3
   obtain⟨ng,rfl⟩:=Cx Tryz.underlying4 h4
   obtain⟨n,rfl,r5⟩:=dS Tryz.underlying73 h5
   obtain⟨z0,rfl,r6⟩:=dS Tryz.underlying5 h6
   obtain⟨z1,rfl,r7⟩:=dS Tryz.underlying5 h7
   obtain⟨m,rfl,r8⟩:=dS Tryz.underlying5 h8
   obtain⟨d,rfl,r9⟩:=dS Tryz.underlying5 h9
   obtain⟨x,rfl,r10⟩:=dS Tryz.underlying5 h10
   obtain⟨y,rfl,r11⟩:=dS Tryz.underlying5 h11
   obtain⟨z,rfl,r12⟩:=dS Tryz.underlying5 h12
   obtain⟨fr,rfl,r13⟩:=dS Tryz.underlying78 h13
   obtain⟨ma,rfl,W3⟩:=dS Tryz.underlying5 h14
   exact⟨⟨k,p,op,f,ng,n,z0,z1,m,d,x,y,z,fr,ma⟩,c15,rfl,⟨r0,r1,r2,r3,r5,r6,r7,r8,r9,r10,r11,r12,r13,W3⟩,h15⟩
theorem FX:∀{gs:List (Int×Int)} {i:Nat},i<gs.length->(eZ gs).getD (i*2+0) (.tuple [])=.int .u8 (gs.getD i (0,0)).1/\(eZ gs).getD (i*2+1) (.tuple [])=.int .u8 (gs.getD i (0,0)).2
 | [],i,h=>absurd h (Nat.not_lt_zero i)
 | p::r,0,_=>⟨rfl,rfl⟩
 | p::r,i+1,h=>by
   have:=FX (gs:=r) (i:=i) (by simpa using h)
   rw[show(i+1)*2+0=i*2+0+1+1 by omega,show(i+1)*2+1=i*2+1+1+1 by omega]
   simp only[eZ,List.getD_cons_succ]
   exact this
section
variable{H:Type}{enc:TypeId×Value->H}{w:World}{sp:Nat->Bool}{held:Bool}
theorem zF{fuel b o len cap:Nat}{x:DataW H×List MemPlace}(h:DataW.trod enc Tryz.prog w 0 sp held fuel 79 [.slice (some ⟨b,o,none⟩) len cap]=some x) :
 ∃gs:List (Int×Int),gs.length=len/\(∀p∈gs,(0<=p.1/\p.1<=255)/\(0<=p.2/\p.2<=255))/\∀m i v,(eZ gs)[i]? = some v->w.cell? ⟨b,o+i,none⟩=some (aj m v):=by
 rcases DataW.trod_slice Tryz.underlying79 h with⟨h1,_⟩|⟨a,len',cap',elems,rest,n,_,h1,_,_,_,_,hel,hat,_⟩
 · cases h1
 · cases h1
   rw[Sc]at hat
   have main:∀i,i<len->∃p:Int×Int,((0<=p.1/\p.1<=255)/\(0<=p.2/\p.2<=255))/\w.cell? ⟨b,o+(i*2+0),none⟩=some (.int .u8 p.1)/\w.cell? ⟨b,o+(i*2+1),none⟩=some (.int .u8 p.2):=by
    intro i hi
    have h3:=hat i hi
    rw[List.getElem?_eq_getElem (by omega)]at h3
    obtain⟨cs',hcs,htr⟩:=Option.bind_eq_some_iff.1 h3
    obtain⟨xs,m',_,_,hl,hxl,hf⟩:=DataW.trod_array Tryz.underlying49 htr
    rw[Sc]at hl
    rw[Yf]at hf
    match cs',hl with
    | [u,v],_=>
      have f0:=hf 0 (by decide)
      have f1:=hf 1 (by decide)
      rw[List.getElem?_eq_getElem (by omega)]at f0 f1
      obtain⟨a,ha,_,wa⟩:=DataW.trod_int Tryz.underlying5 f0
      obtain⟨c,hc,_,wc⟩:=DataW.trod_int Tryz.underlying5 f1
      cases ha
      cases hc
      obtain⟨_,_,hcell⟩:=World.cells?_some hcs
      have g:∀j,j<2->w.cell? ⟨b,o+(i*2+j),none⟩=[Value.int .u8 a,.int .u8 c][j]? := λj hj=>by
       have:=hcell j hj
       rw[GB,GB,Nat.add_assoc]at this
       exact this
      exact⟨(a,c),⟨Gt wa,Gt wc⟩,g 0 (by omega),g 1 (by omega)⟩
   obtain⟨gs,hR,hq⟩:=AY (d:=((0:Int),(0:Int))) main
   refine⟨gs,hR,λp hp=>?_,λm i v hv=>?_⟩
   · obtain⟨i,hi,rfl⟩:=List.getElem_of_mem hp
     have:=(hq i (by omega)).1
     rw[List.getD_eq_getElem?_getD,List.getElem?_eq_getElem hi]at this
     exact this
   · have hi:i<gs.length*2:=by
      have:=(List.getElem?_eq_some_iff.1 hv).1
      rwa [jR]at this
     have hg:(eZ gs).getD i (.tuple [])=v:=by rw[List.getD_eq_getElem?_getD,hv];rfl
     obtain⟨f0,f1⟩:=FX (gs:=gs) (i:=i/2) (by omega)
     obtain⟨_,q0,q1⟩:=hq (i/2) (by omega)
     have hc:i=i/2*2+0\/i=i/2*2+1:=by omega
     generalize i/2=q at *
     rcases hc with rfl|rfl
     · rw[<-hg,Nat.add_zero,<-Nat.add_zero (q*2),f0];exact q0
     · rw[<-hg,f1];exact q1
theorem xk{q:FP}{b o len cap:Nat}{d:DataW H}{p:List MemPlace}(ht:DataW.Trod enc Tryz.prog w 0 (λ_=>true) true 81 (q.v (.slice (some ⟨b,o,none⟩) len cap)) d p) :
 ∃gs:List (Int×Int),gs.length=len/\(∀p∈gs,(0<=p.1/\p.1<=255)/\(0<=p.2/\p.2<=255))/\∀m i v,(eZ gs)[i]? = some v->w.cell? ⟨b,o+i,none⟩=some (aj m v):=by
 obtain⟨fuel,ht⟩:=ht
 obtain⟨xs,n,_,_,_,hlen,hf⟩:=DataW.trod_struct Tryz.underlying81 ht
 have h1:=hf 6 _ rfl
 have hxl:xs.length=7:=hlen
 rw[List.getElem?_eq_getElem (by omega)]at h1
 change DataW.trod enc Tryz.prog w 0 (λ_=>true) true n 79 (List.take (Tryz.prog.cellsOf 79) _)=_ at h1
 rw[VL]at h1
 exact zF h1
end
theorem xf{w:World}{m:Nat->bo}(hi:dQ cfg (λid=>id<14) m C0 ⟨0,[],[]⟩ w){L:List bo}{ws:List aw}(hL:G5 cfg.root.n (λid=>id<14) m w L ws):dQ cfg (λid=>id<14+ws.length) (mL cfg.root.n m L) (Cw cfg ws) ⟨0,[],[]⟩ w:=by
 have h:=Eg d4.lv zG hi hL
 have e:DL cfg.root.n (λid=>id<14) L=λid=>id<14+ws.length:=by
  funext id
  unfold DL
  have:=hL.1
  have h14:cfg.root.n=14:=rfl
  rw[h14]
  exact propext ⟨λk=>by omega,λk=>by omega⟩
 rw[e]at h
 exact h
theorem An{m:Nat->bo}{l:bo}{L:List bo}:mL cfg.root.n m (l::L) 14=l:=rfl
theorem Lu{m:Nat->bo}{l l':bo}{L:List bo}:mL cfg.root.n m (l::l'::L) 15=l':=rfl
theorem qD{w:World}{m:Nat->bo}{b o:Nat}{gs:List (Int×Int)}(hb:∃c e fz,w.heap[b]? = some (.cells c e fz))(hc:∀m i v,(eZ gs)[i]? = some v->w.cell? ⟨b,o+i,none⟩=some (aj m v)):Dz cfg.root.n (λid=>id<14) m w (.cells (eZ gs) false none) ⟨b,o,0⟩:=by
 obtain⟨c,el,fz,hh⟩:=hb
 refine⟨_,rfl,gT,?_,c,el,fz,hh,λi v hv=>?_⟩
 · intro i hi
   rw[jm]at hi
   cases hi
 · have:=hc m i v hv
   unfold World.cell? at this
   simp only[hh]at this
   exact this
end Go.Ev
end
section
set_option maxRecDepth 100000
set_option maxHeartbeats 1000000
namespace Go.Ev
open Go Go.Proofs
def Y8:bq:=gu (gu (gu (gu (gu (bw dF 22 Vr) 26 (gD 14 [2] UK)) 20 (gD 14 [4] UX)) 27 (gD 14 [4] VP)) 19 (gD 14 [4,4] Vu)) 28 (gD 14 [4,4] V7)
theorem fO{R:List Rn}:fu R=R.length:=rfl
theorem kU{n:Int}:bM .i64 (.int .i64 n)=true:=rfl
theorem jo{n:Int}:bL (.int .i64 n)=n:=rfl
theorem EV{ng lg:Bool}{s:List UInt8}{e g:Int}{mo da:List UInt8}{x y z:Int}:fW ng lg s e g mo da x y z ng lg s e g mo da x y z=true:=by
 unfold fW
 simp only[hJ,QH,gb,Bool.and_self]
theorem DJ{a b c d:Int}:fT a b c d a b c d=true:=by
 unfold fT
 simp only[gb,Bool.and_self]
theorem ep{k p:Int}{ng lg:Bool}{s:List UInt8}{e g:Int}{mo da:List UInt8}{x y z a b c d:Int}{R:List Rn}:sF k k p p (fW ng lg s e g mo da x y z ng lg s e g mo da x y z) (fT a b c d a b c d) R R=true:=by
 unfold sF
 rw[EV,DJ,yj,gb,gb]
 rfl
theorem P1{k k2 p p2:Int}{D E:Bool}{R S:List Rn}(h:kn R S=false):sF k k2 p p2 D E R S=false:=by
 unfold sF
 rw[h,Bool.and_false,Bool.and_false,Bool.and_false,Bool.and_false]
theorem FI{n:Nat}{ch ef g rk a c:Int}{xb mz ft:Bool}(hn:n≠0):cC 1 n ch true 0 true ef g xb mz ft rk a c=ch:=by
 unfold cC
 rw[if_neg (by decide),if_pos rfl,if_pos ⟨rfl,rfl,rfl⟩,if_neg hn]
theorem iD{R:List Rn}(hs:rC R)(hm:iX R)(hl:1<=R.length/\R.length<=4):Nat.ble (0+R.length*4) (aJ R).length=true/\aZ (aJ R)=true/\Nat.beq R.length R.length=true/\Nat.ble R.length 1000=true/\Nat.ble 1 R.length=true/\aG 14 (aJ R)=true/\
 aa (cC 1 R.length (eY R) (dZ false false [] 0 0 [] [] 0 0 0) 0 (sZ 0 0 0 0) (cL false false [] 0 0 [] [] 0 0 0) 0 (bc []) (mZ 0 0 0) (cI 0 0 0 0 0) (bH 0 0 0 0) 0 0) 0=true/\ab (Int.ofNat R.length) 0=false/\aa (Int.ofNat R.length) 0=false:=by
 refine⟨by rw[aB,dh];omega,dR (Ef hm),dI rfl,by rw[aB];omega,by rw[aB];exact hl.1,cQ,?_,by rw[dc];exact Int.ofNat_lt.2 hl.1,?_⟩
 · have dz:dZ false false [] 0 0 [] [] 0 0 0=true:=rfl
   have sz:sZ 0 0 0 0=true:=rfl
   rw[dz,sz,FI (by omega),I2 hs]
   rfl
 · rw[aF];show(R.length:Int)≠0;omega
theorem iE{R:List Rn}{i:Int}(hi:0<=i/\i<=255)(hm:iX R)(hl:1<=R.length/\R.length<=4):ab 0 (Int.tmod i (Int.ofNat R.length))=true/\bm (Int.tmod i (Int.ofNat R.length)).toNat R.length=true/\((aJ R).getD (0+(Int.tmod i (Int.ofNat R.length)).toNat*4+0+1) (.tuple [])=.int .i64 (R.getD (Int.tmod i (Int.ofNat R.length)).toNat fG).b)/\ae .i64 (Int.add (R.getD (Int.tmod i (Int.ofNat R.length)).toNat fG).b 1)=true/\Nat.ble (0+(Int.tmod i (Int.ofNat R.length)).toNat*4+0+1+1) (aJ R).length=true/\
 gP (aJ R) (0+(Int.tmod i (Int.ofNat R.length)).toNat*4+0+1) [.int .i64 (Int.add (R.getD (Int.tmod i (Int.ofNat R.length)).toNat fG).b 1)]=aJ (iR R (Int.tmod i (Int.ofNat R.length)).toNat)/\aY (aJ (iR R (Int.tmod i (Int.ofNat R.length)).toNat)) 0 (R.length*4)=aJ (iR R (Int.tmod i (Int.ofNat R.length)).toNat)/\Nat.ble (0+R.length*4) (aJ (iR R (Int.tmod i (Int.ofNat R.length)).toNat)).length=true/\aG 14 (aJ (iR R (Int.tmod i (Int.ofNat R.length)).toNat))=true/\aZ (aJ (iR R (Int.tmod i (Int.ofNat R.length)).toNat))=true/\Nat.beq (iR R (Int.tmod i (Int.ofNat R.length)).toNat).length R.length=true/\
 (∀(k k2 p p2:Int) (D E:Bool),sF k k2 p p2 D E (iR R (Int.tmod i (Int.ofNat R.length)).toNat) R=false)/\ae .i64 i=true:=by
 have hpos:(0:Int)<Int.ofNat R.length:=by show(0:Int)<(R.length:Int);omega
 have ht:Int.tmod i (Int.ofNat R.length)=i%Int.ofNat R.length:=Int.tmod_eq_emod_of_nonneg hi.1
 have m0:=Int.emod_nonneg i (show Int.ofNat R.length≠0 by omega)
 have m1:=Int.emod_lt_of_pos i hpos
 have hj:(Int.tmod i (Int.ofNat R.length)).toNat<R.length:=by
  rw[ht]
  have:Int.ofNat R.length=(R.length:Int):=rfl
  omega
 have h0:ab 0 (Int.tmod i (Int.ofNat R.length))=true:=by rw[aK,ht];exact m0
 generalize (Int.tmod i (Int.ofNat R.length)).toNat=j at *
 obtain⟨f1,f2,f3,f4⟩:=kh hj
 have hb:R.getD j fG∈R:=by
  rw[List.getD_eq_getElem?_getD,List.getElem?_eq_getElem hj]
  exact List.getElem_mem hj
 have hb:=(hm _ hb).1
 have e:(0+j*4+0+1:Nat)=j*4+1:=by omega
 refine⟨h0,ba.2 hj,by rw[e];exact f2,?_,by rw[aB,dh];omega,by rw[e];exact xC hj rfl,?_,by rw[aB,dh,oH];omega,cQ,dR (Hd hm),by rw[oH];exact dI rfl,λ_ _ _ _ _ _=>P1 (Bk hj),?_⟩
 · rw[aQ];simp only[bA,bB];show _<=(R.getD j fG).b+1/\(R.getD j fG).b+1<=_;omega
 · have:=@cz (iR R j);rwa [oH]at this
 · rw[aQ];simp only[bA,bB];omega
theorem iw{gs:List (Int×Int)}(h:∀p∈gs,(0<=p.1/\p.1<=255)/\(0<=p.2/\p.2<=255)):aY (eZ gs) 0 (gs.length*2)=eZ gs/\gm (eZ gs)=gs/\d_ (eZ gs)=true/\Nat.ble (0+gs.length*2) (eZ gs).length=true/\aG 14 (eZ gs)=true/\Nat.beq gs.length gs.length=true:=
 ⟨qJ,oq,ny h,by rw[aB,jR];omega,gT,dI rfl⟩
theorem pX{q:FP}(h:q.ok):ae .u8 q.k=true/\ae .u8 q.p=true/\ae .u8 q.op=true/\ae .u8 q.f=true/\ae .u16 q.n=true/\ae .u8 q.z0=true/\ae .u8 q.z1=true/\ae .u8 q.m=true/\ae .u8 q.d=true/\ae .u8 q.x=true/\ae .u8 q.y=true/\ae .u8 q.z=true/\ae .i16 q.fr=true/\ae .u8 q.ma=true:=by
 simp only[aQ,bA,bB]
 exact h
theorem iB{k p op f:Int}{ng:Bool}{n z0 z1 m d fr ma:Int}(hz0:0<=z0/\z0<=255)(hz1:0<=z1/\z1<=255)(hk:0<=k/\k<=255)(hfr : -32768<=fr/\fr<=32767)(hma:0<=ma/\ma<=255)(h:cN k f n z0 z1 m d=false) :
 aa (cC (fK k f n z0 z1 m d) 0 0 (dZ (mw k f ng n z0 z1 m d) (mr k f n z0 z1 m d) (fS k f n z0 z1 m d) (fE k f n z0 z1 m d) 0 (kz k f n z0 z1 m d) (kw k f n z0 z1 m d) 0 0 0) (fP k p) (sZ (fA k op) (fB k p op fr) (fC k op) (fD k p op fr ma)) (cL (mw k f ng n z0 z1 m d) (mr k f n z0 z1 m d) (fS k f n z0 z1 m d) (fE k f n z0 z1 m d) 0 (kz k f n z0 z1 m d) (kw k f n z0 z1 m d) 0 0 0) 0 (bc (fS k f n z0 z1 m d++kz k f n z0 z1 m d++kw k f n z0 z1 m d)) (mZ 0 0 0) (cI (fA k op) (fB k p op fr) (fC k op) (fD k p op fr ma) (fP k p)) (bH (fA k op) (fB k p op fr) (fC k op) (fD k p op fr ma)) (fA k op) (fC k op)) 0=true/\
 ae .i64 (fE k f n z0 z1 m d)=true/\ae .u8 (fP k p)=true/\ae .i8 (fA k op)=true/\ae .i64 (fB k p op fr)=true/\ae .i8 (fC k op)=true/\ae .i64 (fD k p op fr ma)=true/\Nat.ble (fS k f n z0 z1 m d).length 1000=true/\Nat.ble (kz k f n z0 z1 m d).length 1000=true/\Nat.ble (kw k f n z0 z1 m d).length 1000=true:=by
 obtain⟨h1,⟨_,h2,h3,h4,h5,h6,h7⟩,l1,l2,l3⟩:=HK (p:=p) (op:=op) (ng:=ng) hz0 hz1 hk hfr hma h
 simp only[aQ,bA,bB,aB]
 exact⟨aS.mpr h1,h2,h3,h4,h5,h6,h7,by omega,by omega,by omega⟩
theorem Tc{S:bq}(hS:az Tryz.prog cfg S):az Tryz.prog cfg (gu S 26 (gD 14 [2] UK)):=by
 refine bK hS (gy d4.lv zG λargs ws t r he hr=>?_)
 unfold UK at he
 split at he
 · rename_i k p op f ng n z0 z1 m d x y z fr ma
   cases he
   replace hr:=aI hr;obtain⟨⟨h1,h2,h3,h4,h5,h6,h7,h8,h9,h10,h11,h12,h13,h14,-⟩,hr⟩:=hr
   rw[aQ]at h1 h2 h3 h13 h14
   simp only[bA,bB]at h1 h2 h3 h13 h14
   have hr:(bif cN k f n z0 z1 m d then Tr.ret (tA 14 (fu (bY fr ma (aa (op%4) 1) (aa (op%4) 2) [])) (.known 1),[aw.cells (aJ (bY fr ma (aa (op%4) 1) (aa (op%4) 2) [])) true none])else .ret (i_ k p op f ng n z0 z1 m d fr ma,[])).run=some r:=hr
   cases ho:cN k f n z0 z1 m d with
   | true=>
     rw[ho]at hr
     cases hr
     exact⟨RO (k:=k) (p:=p) (op:=op) (f:=f) (ng:=ng) (n:=n) (z0:=z0) (z1:=z1) (m:=m) (d:=d) (x:=x) (y:=y) (z:=z) (fr:=fr) (ma:=ma) h1 h2 h3 h4 h5 h6 h7 h8 h9 h10 h11 h12 h13 h14 ho,λx hx=>by simp only[List.mem_singleton]at hx;subst hx;exact eT⟩
   | false=>
     rw[ho]at hr
     cases hr
     exact⟨TC (k:=k) (p:=p) (op:=op) (f:=f) (ng:=ng) (n:=n) (z0:=z0) (z1:=z1) (m:=m) (d:=d) (x:=x) (y:=y) (z:=z) (fr:=fr) (ma:=ma) h1 h2 h3 h4 h5 h6 h7 h8 h9 h10 h11 h12 h13 h14 ho,λx hx=>by cases hx⟩
 · rename_i k p op f ng n z0 z1 m d x y z fr ma l K w
   cases he
   replace hr:=aI hr;obtain⟨⟨h1,h2,h3,h4,h5,h6,h7,h8,h9,h10,h11,h12,h13,h14,h15,h16,-⟩,hr⟩:=hr
   rw[aQ]at h1 h2 h3 h13 h14
   simp only[bA,bB]at h1 h2 h3 h13 h14
   rw[bW]at h16
   subst h16
   obtain⟨e,hin⟩:=sK h15
   have hr:(bif cN k f n z0 z1 m d then Tr.ret (tA 15 (fu (bY fr ma (aa (op%4) 1) (aa (op%4) 2) (gm w))) (x6 (gm w)),[aw.cells (aJ (bY fr ma (aa (op%4) 1) (aa (op%4) 2) (gm w))) true (yN (gm w))])else .ret (i_ k p op f ng n z0 z1 m d fr ma,[])).run=some r:=hr
   cases ho:cN k f n z0 z1 m d with
   | true=>
     rw[ho]at hr
     cases hr
     have key:=Rm (k:=k) (p:=p) (op:=op) (f:=f) (ng:=ng) (n:=n) (z0:=z0) (z1:=z1) (m:=m) (d:=d) (x:=x) (y:=y) (z:=z) (fr:=fr) (ma:=ma) (gs:=gm w) (K:=K) hin h1 h2 h3 h4 h5 h6 h7 h8 h9 h10 h11 h12 h13 h14 ho
     rw[<-e]at key
     exact⟨key,λx hx=>by simp only[List.mem_singleton]at hx;subst hx;exact eT⟩
   | false=>
     rw[ho]at hr
     cases hr
     have key:=Qu (k:=k) (p:=p) (op:=op) (f:=f) (ng:=ng) (n:=n) (z0:=z0) (z1:=z1) (m:=m) (d:=d) (x:=x) (y:=y) (z:=z) (fr:=fr) (ma:=ma) (gs:=gm w) (K:=K) hin h1 h2 h3 h4 h5 h6 h7 h8 h9 h10 h11 h12 h13 h14 ho
     rw[<-e]at key
     exact⟨key,λx hx=>by cases hx⟩
 · cases he
theorem iz:aH tab 8=some (bC 8,aE 8):=by kernel_rfl
theorem iC:az Tryz.prog cfg Y8:=RT (QF (Q8 (Pw (Tc (Rs aT)))))
end Go.Ev
end
