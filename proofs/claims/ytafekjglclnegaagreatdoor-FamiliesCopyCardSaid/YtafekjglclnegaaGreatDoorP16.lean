import Derived.Recover
import Derived.Shelf.Strconv.Clone
import Derived.Shelf.LaysM
import Derived.Laws.Externs
import Derived.Test.YtafekjglclnegaaGreatDoorP15
import Derived.Test.YtafekjglclnegaaGreatDoorP01
import Derived.Test.YtafekjglclnegaaGreatDoorP14
set_option linter.all false
section
namespace Go.Ev
open Go Go.Proofs
def i64(n:Int):AV:=.int .i64 n
def g0:aC:=⟨14,[
 .dead,.dead,
 .cells [i64 4,i64 1,i64 100,i64 (-1),i64 400,i64 1] false none,
 .dead,.dead,.dead,.dead,.dead,
 .cells [.slice 11 0 3 (.known 3)] false none,
 .cells [.iface 367 (.ptr 13 0)] false (some 1),
 .cells [.iface 367 (.ptr 12 0)] false (some 1),
 .cells ([3,3,6,3,9,3,12,3,3,3,6,3,9,3,12,3,9,3,12,3,3,3,6,3,1,3,4,3,7,3,10,3,1,4,5,4,9,4,1,6,7,6].map i64) false none,
 .cells ([31,28,31,30,31,30,31,31,30,31,30,31].map i64) false none,
 .dead],[]⟩
def C0:bg:=⟨[(0,g0)],14⟩
def lend(f:Nat):List Nat:=bif (Nat.beq f 162 || Nat.beq f 224 || Nat.beq f 285 || Nat.beq f 179)then[0]else bif (Nat.beq f 156 || Nat.beq f 157 || Nat.beq f 158)then[1]else[]
def CQ:Nat:=36260343331960319813932562186621581246590177467307003686082922430385615571972064860225901137556125408883328
def canon(f:Nat):Bool:=Nat.testBit CQ f
def N_(a b:Int)(o:aC):Option (AV×aC):=ok (ab (-9223372036854775808) (a+b)&&ab (a+b) 9223372036854775807) (some (.tuple [Ct .i64 (a+b),i64 0],o))
def add:List AV->aC->Option (AV×aC)
 | [.int k a,.int l b],o=>ok (hU k .i64&&hU l .i64) (N_ a b o)
 | _,_=>none
def jX(c:Int):List UInt8->Nat->Int
 | [],_=>-1
 | b::s,k=>bif aa (.ofNat b.toNat) c then .ofNat k else jX c s (k+1)
def TP:List AV->aC->Option (AV×aC)
 | [.str s,.int k (.ofNat c)],o=>ok (hU k .u8&&bm c 256) (some (Ct .i64 (jX (.ofNat c) s 0),o))
 | _,_=>none
def TI:List AV->aC->Option (AV×aC)
 | [.str s],o=>ok (Nat.ble s.length 1000000) (some (.str s,o))
 | _,_=>none
def orc(f:Nat)(C:bg)(args:List AV)(o:aC):Option (AV×aC):=
 bif Nat.beq f 295 then add args o else bif Nat.beq f 323 then TP args o else bif Nat.beq f 338 then TI args o else none
def cfg:cx:=⟨11,lend,canon,orc,g0⟩
noncomputable def run(f:Nat)(args:List AV):Option (AV×aC):=jH tab cfg false (ec tab cfg 10000) C0 f args ⟨0,[],[]⟩
end Go.Ev
end
section
namespace Go.Proofs.YtafekjglclnegaaGreatDoor
open Go.RowKit
theorem ints_Add1(a b n:Int)(pa pb pn pe:Nat)(w:World)(u:FrameMode)(hn:decide (a<n)=decide (0<b))
 (ca:w.cell? ⟨pa,0,none⟩=some (.int .i64 a)) (cb:w.cell? ⟨pb,0,none⟩=some (.int .i64 b)) (cn:w.cell? ⟨pn,0,none⟩=some (.int .i64 n)) :
 CallsD Tryz.prog 330 #[.pointer (some ⟨pn,0,none⟩),.pointer (some ⟨pa,0,none⟩),.pointer (some ⟨pb,0,none⟩),.pointer (some ⟨pe,0,none⟩)] u w λe u' w'=>u'=u/\(e=.returned (.tuple #[])/\w'=w):=by
 have hd:(!decide (a<n)==decide (0<b))=false:=by rw[hn];cases decide (0<b)<;>rfl
 go_enter_d Tryz.func330,Tryz.ntmps330
 go_wp2
 go_end0
 simp
theorem ints_Add(a b:Int)(w:World)(h1 : -9223372036854775808<=a+b)(h2:a+b<=9223372036854775807) :
 Calls Tryz.prog 295 #[.int .i64 a,.int .i64 b] w λe w'=>e=.returned (.tuple #[.int .i64 (a+b),.int .i64 0])/\Below w.heap.size w w':=by
 have hmf:∀(fn:Fn) (first cap:Array Value) (w:World),(Instr.makeFunc fn first cap).run Tryz.prog w=.ok (.func fn first cap) w:=λ_ _ _ _=>rfl
 go_enter_defers Tryz.func295,Tryz.ntmps295
 go_wp2
 · have hb:b=0:=by simpa using ‹(b==0)=true›
   refine leaves_cons (f:=330) (args:=#[.pointer (some ⟨w.heap.size+2,0,none⟩),.pointer (some ⟨w.heap.size,0,none⟩),.pointer (some ⟨w.heap.size+1,0,none⟩),.pointer (some ⟨w.heap.size+3,0,none⟩)]) (by simp) (by simp[go_sem]) ?_
   refine(ints_Add1 a b a (w.heap.size) (w.heap.size+1) (w.heap.size+2) (w.heap.size+3) _ .returning (by rw[hb];simp) ?_ ?_ ?_).mono ?_
   · go_simp
   · go_simp
   · go_simp
   rintro e u' w'' ⟨rfl,rfl,rfl⟩
   exact⟨.tuple #[.int .i64 (a+b),.int .i64 0],by simp[results,Tryz.results295,go_sem,hb],rfl,by(repeat(first|exact Below.refl _ _|assumption|refine balloc ?_ _|refine Below.drew ?_|refine bdrewN ?_ _|(refine bset ?_ (by first|exact Nat.le_refl _|(simp;done)|(simp;omega)) _)|refine bnext ?_ (by assumption)))⟩
 · refine leaves_cons (f:=330) (args:=#[.pointer (some ⟨w.heap.size+2,0,none⟩),.pointer (some ⟨w.heap.size,0,none⟩),.pointer (some ⟨w.heap.size+1,0,none⟩),.pointer (some ⟨w.heap.size+3,0,none⟩)]) (by simp) (by simp[go_sem]) ?_
   refine(ints_Add1 a b (a+b) (w.heap.size) (w.heap.size+1) (w.heap.size+2) (w.heap.size+3) _ .returning (by congr 1;apply propext;constructor<;>intro h<;>omega) ?_ ?_ ?_).mono ?_
   · go_simp
   · go_simp
   · go_simp
   rintro e u' w'' ⟨rfl,rfl,rfl⟩
   exact⟨.tuple #[.int .i64 (a+b),.int .i64 0],by simp[results,Tryz.results295,go_sem],rfl,by(repeat(first|exact Below.refl _ _|assumption|refine balloc ?_ _|refine Below.drew ?_|refine bdrewN ?_ _|(refine bset ?_ (by first|exact Nat.le_refl _|(simp;done)|(simp;omega)) _)|refine bnext ?_ (by assumption)))⟩
end Go.Proofs.YtafekjglclnegaaGreatDoor
end
section
namespace Go.Proofs
open Go.Shelf
set_option maxRecDepth 100000
def Tryz.ewLaysM316_ren:Go.Shelf.Ren:=⟨λ|316=>338|n=>n,λ|9=>9|3=>3|4=>4|37=>211|0=>0|127=>366|5=>5|n=>n,λ|n=>n⟩
theorem Tryz.ewLaysM316:Go.Proofs.LaysM.n316 Tryz.prog Tryz.ewLaysM316_ren:={
 mixed:=by kernel_rfl
 f316:=Tryz.func338.trans (congrArg some (by kernel_rfl))
 t0:=Tryz.underlying0
 a0:=Tryz.isAgg0
 z0:=Tryz.sizeOf0
 v0:=Tryz.zeroValue0
 t3:=Tryz.underlying3
 a3:=Tryz.isAgg3
 z3:=Tryz.sizeOf3
 v3:=Tryz.zeroValue3
 t4:=Tryz.underlying4
 a4:=Tryz.isAgg4
 z4:=Tryz.sizeOf4
 v4:=Tryz.zeroValue4
 t9:=Tryz.underlying9
 a9:=Tryz.isAgg9
 z9:=Tryz.sizeOf9
 v9:=Tryz.zeroValue9
 t37:=Tryz.underlying211
 a37:=Tryz.isAgg211
 z37:=Tryz.sizeOf211
 v37:=Tryz.zeroValue211
 t127:=Tryz.underlying366
 a127:=Tryz.isAgg366
 z127:=Tryz.sizeOf366
 v127:=Tryz.zeroValue366
 t5:=Tryz.underlying5
 a5:=Tryz.isAgg5
 z5:=Tryz.sizeOf5
 v5:=Tryz.zeroValue5
 i0:=by kernel_rfl
 i3:=by kernel_rfl
 i4:=by kernel_rfl
 i5:=by kernel_rfl
 i9:=by kernel_rfl
 i37:=by kernel_rfl
 i127:=by kernel_rfl }
open Go.RowKit in
theorem Tryz.ewClone(s:ByteArray)(w:World)(hlim:s.size<=281474976710656) :
 Calls Tryz.prog 338 #[.string s] w λe w'=>e=.returned (.string s)/\Below w.heap.size w w':=Any.stringslite_Clone Tryz.ewLaysM316 s w hlim
end Go.Proofs
end
section
namespace Go.Ev
open Go Go.Proofs
theorem jF{cfg:cx}{C:bg}{D:Nat->Prop}{m:Nat->bo}{o:aC}{w w':World}(hi:dQ cfg D m C o w)(h:RowKit.Below w.heap.size w w'):dk cfg C D m o w D m o w'/\ku D w D m w':=by
 refine⟨⟨hi.world λj hj hl=>h.block _ ((hi.obj j hj).in_heap hl),λ_ h=>h,λ_ _=>rfl,λ_ h=>.inl h,Nat.le_refl _,h.os,h.tape,h.output,h.size,λk hk _=>h.block k hk,rfl,λi h1 h2=>absurd h1 h2⟩,h.block,λi h1 h2=>absurd h1 h2⟩
theorem oE(c:Nat):∀(s:List UInt8) (k:Nat),jX (.ofNat c) s k=(match(List.range' k s.length).find? (λi=>decide ((s.getD (i-k) 0).toNat=c))with
 | some i=>.ofNat i
 | none=>-1)
 | [],k=>by simp[jX]
 | b::s,k=>by
   rw[jX]
   simp only[List.length_cons,List.range'_succ,List.find?_cons,Nat.sub_self,List.getD_cons_zero]
   by_cases e:b.toNat=c
   · simp[aa,e]
   · have:aa (.ofNat b.toNat) (.ofNat c)=false:=iH e
     rw[this,cond_false,oE c s (k+1)]
     simp only[e,decide_false]
     have hf:∀l:List Nat,(∀i∈l,k+1<=i)->l.find? (λi=>decide ((s.getD (i-(k+1)) 0).toNat=c))=l.find? (λi=>decide (((b::s).getD (i-k) 0).toNat=c)):=by
      intro l hl
      induction l with
      | nil=>rfl
      | cons x l ih=>
        have hx:=hl x List.mem_cons_self
        rw[List.find?_cons,List.find?_cons,ih λi hi=>hl i (List.mem_cons_of_mem _ hi),show x-k=(x-(k+1))+1 by omega,List.getD_cons_succ]
     rw[hf _ λi hi=>(List.mem_range'_1.1 hi).1]
theorem Ie(s:List UInt8)(c:Nat)(hc:c<256)(w:World):(callFunc 323 #[.string ⟨⟨s⟩⟩,.int .u8 (.ofNat c)]).run Tryz.prog w=.ok (.value (.int .i64 (jX (.ofNat c) s 0))) w:=by
 have h1:Extern.findNext Tryz.f323=none:=by kernel_rfl
 have h2:Extern.find Tryz.f323=some Extern.BytealgIndexByte.indexByte:=by kernel_rfl
 have h3:Tryz.f323.body.isNone=true:=by kernel_rfl
 have h4:(Tryz.f323.name == "runtime.NumGoroutine")=false:=by kernel_rfl
 rw[run_callFunc_extern Tryz.func323 h4 h3 h1 h2]
 have hb:(Extern.Bytes.asByte (.int .u8 (.ofNat c))).run Tryz.prog w=.ok c.toUInt8 w:=rfl
 have hx:∀x y,Extern.BytealgIndexByte.indexByte #[x,y]=(do
  let b <-Extern.Bytes.bytesOf x
  let c <-Extern.Bytes.asByte y
  match(List.range b.size).find? (λi=>b[i]! == c)with
  | some i=>pure (Go.goInt i)
  | none=>pure (Go.goInt (-1))):=λ_ _=>rfl
 rw[hx]
 simp only[Extern.Bytes.bytesOf,Sem.run_bind,Sem.run_pure,Result.andThen_ok,hb]
 rw[oE]
 have hf:(List.range (ByteArray.mk ⟨s⟩).size).find? (λi=>(ByteArray.mk ⟨s⟩)[i]! == c.toUInt8)=(List.range' 0 s.length).find? (λi=>decide ((s.getD (i-0) 0).toNat=c)):=by
  rw[<-List.range_eq_range']
  show(List.range s.length).find? _=_
  have key:∀l:List Nat,(∀i∈l,i<s.length)->l.find? (λi=>(ByteArray.mk ⟨s⟩)[i]! == c.toUInt8)=l.find? (λi=>decide ((s.getD (i-0) 0).toNat=c)):=by
   intro l hl
   induction l with
   | nil=>rfl
   | cons x l ih=>
     have hxl:=hl x List.mem_cons_self
     have e:((ByteArray.mk ⟨s⟩)[x]! == c.toUInt8)=decide ((s.getD (x-0) 0).toNat=c):=by
      have h1:(ByteArray.mk ⟨s⟩)[x]! = s.getD (x-0) 0:=by
       have:x<(ByteArray.mk ⟨s⟩).size:=hxl
       rw[getElem!_pos (ByteArray.mk ⟨s⟩) x this]
       show s[x]=_
       simp[List.getD_eq_getElem?_getD,hxl]
      rw[h1,Bool.eq_iff_iff,beq_iff_eq,decide_eq_true_eq]
      constructor
      · intro h;rw[h];simp;omega
      · intro h;rw[<-h];simp
     rw[List.find?_cons,List.find?_cons,e,ih λi hi=>hl i (List.mem_cons_of_mem _ hi)]
  exact key _ λi hi=>List.mem_range.1 hi
 rw[hf]
 cases(List.range' 0 s.length).find? (λi=>decide ((s.getD (i-0) 0).toNat=c))with
 | none=>rfl
 | some i=>simp[Go.goInt]
theorem sM{f:FuncId}{args:List AV}{v:AV}{C:bg}{D:Nat->Prop}{m:Nat->bo}{o:aC}{w:World}(hi:dQ cfg D m C o w)(hv:aq v=[])(hr:(callFunc f (ar m args).toArray).run Tryz.prog w=.ok (.enter f (ar m args).toArray) w)
 (h:Calls Tryz.prog f (ar m args).toArray w λe w'=>e=.returned (aj m v)/\RowKit.Below w.heap.size w w') :
 iY Tryz.prog f (ar m args).toArray w λV w'=>∃D' m',V=aj m' v/\cY D' m' v/\dk cfg C D m o w D' m' o w'/\(dm args (cfg.lend f)=[]->ku D w D' m' w'):=
 .inl ⟨hr,h.mono λe w' ⟨he,hb⟩=>⟨_,he,D,m,rfl,bQ hv,(jF hi hb).1,λ_=>(jF hi hb).2⟩⟩
theorem K6{C:bg}{args:List AV}{o:aC}{r:AV×aC}(h:add args o=some r){D:Nat->Prop}{m:Nat->bo}{w:World}(hi:dQ cfg D m C o w) :
 iY Tryz.prog 295 (ar m args).toArray w λV w'=>∃D' m',V=aj m' r.1/\cY D' m' r.1/\dk cfg C D m o w D' m' r.2 w'/\(dm args (cfg.lend 295)=[]->ku D w D' m' w'):=by
 unfold add at h
 split at h
 · rename_i k a l b
   simp only[ay,Bool.and_eq_true,gi,N_,Option.some.injEq,jk]at h
   obtain⟨⟨rfl,rfl⟩,⟨h1,h2⟩,rfl⟩:=h
   have e1 : -9223372036854775808<=a+b:=by simpa [eV]using h1
   have e2:a+b<=9223372036854775807:=by simpa [eV]using h2
   refine sM hi (by simp[aq,bG,i64]) ?_ ?_
   · have h4:(Tryz.f295.name == "runtime.NumGoroutine")=false:=by kernel_rfl
     have h5:Tryz.f295.body.isNone=false:=by kernel_rfl
     have h6:¬Tryz.f295.name = "runtime.NumGoroutine" := by simpa using h4
     have h7:¬Tryz.f295.body=none:=λe=>by rw[e]at h5;cases h5
     simp[callFunc,Tryz.func295,h6,h7]
   · have:=Go.Proofs.YtafekjglclnegaaGreatDoor.ints_Add a b w e1 e2
     simpa [ar,aj,i64]using this
 · cases h
theorem LR{C:bg}{args:List AV}{o:aC}{r:AV×aC}(h:TI args o=some r){D:Nat->Prop}{m:Nat->bo}{w:World}(hi:dQ cfg D m C o w) :
 iY Tryz.prog 338 (ar m args).toArray w λV w'=>∃D' m',V=aj m' r.1/\cY D' m' r.1/\dk cfg C D m o w D' m' r.2 w'/\(dm args (cfg.lend 338)=[]->ku D w D' m' w'):=by
 unfold TI at h
 split at h
 · rename_i s
   simp only[ay,Option.some.injEq,bt]at h
   obtain⟨hl,rfl⟩:=h
   refine sM hi (by simp[aq]) ?_ ?_
   · have h4:(Tryz.f338.name == "runtime.NumGoroutine")=false:=by kernel_rfl
     have h5:Tryz.f338.body.isNone=false:=by kernel_rfl
     have h6:¬Tryz.f338.name = "runtime.NumGoroutine" := by simpa using h4
     have h7:¬Tryz.f338.body=none:=λe=>by rw[e]at h5;cases h5
     simp[callFunc,Tryz.func338,h6,h7]
   · have:=Tryz.ewClone ⟨⟨s⟩⟩ w (by show s.length<=_;omega)
     simpa [ar,aj]using this
 · cases h
theorem Ly{C:bg}{args:List AV}{o:aC}{r:AV×aC}(h:TP args o=some r){D:Nat->Prop}{m:Nat->bo}{w:World}(hi:dQ cfg D m C o w) :
 iY Tryz.prog 323 (ar m args).toArray w λV w'=>∃D' m',V=aj m' r.1/\cY D' m' r.1/\dk cfg C D m o w D' m' r.2 w'/\(dm args (cfg.lend 323)=[]->ku D w D' m' w'):=by
 unfold TP at h
 split at h
 · rename_i s k c
   simp only[ay,Bool.and_eq_true,gi,ba,Option.some.injEq,jk]at h
   obtain⟨⟨rfl,hc⟩,rfl⟩:=h
   have hrun:=Ie s c hc w
   refine .inr ⟨.int .i64 (jX (.ofNat c) s 0),w,by simpa [ar,aj]using hrun,D,m,by simp[aj],bQ (by simp[aq]),dk.refl hi,λ_=>⟨λ_ _=>rfl,λi h1 h2=>absurd h1 h2⟩⟩
 · cases h
def TO:List Int:=[4,1,100,-1,400,1]
def TN:List Int:=[31,28,31,30,31,30,31,31,30,31,30,31]
def TM:List Int:=[3,3,6,3,9,3,12,3,3,3,6,3,9,3,12,3,9,3,12,3,3,3,6,3,1,3,4,3,7,3,10,3,1,4,5,4,9,4,1,6,7,6]
structure Ku(w:World):Prop where
 steps:∃b o,w.cell? ⟨5,0,none⟩=some (.slice (some ⟨b,o,none⟩) 3 3)/\∀i v,TO[i]? = some v->w.cell? ⟨b,o+i,none⟩=some (.int .i64 v)
 lens:∀i v,TN[i]? = some v->w.cell? ⟨1,i,none⟩=some (.int .i64 v)
 spans:∀i v,TM[i]? = some v->w.cell? ⟨2,i,none⟩=some (.int .i64 v)
 errS:∃b o,w.cell? ⟨3,0,none⟩=some (.iface 367 (.pointer (some ⟨b,o,none⟩)))
 errR:∃b o,w.cell? ⟨4,0,none⟩=some (.iface 367 (.pointer (some ⟨b,o,none⟩)))
 sizS:∀c e fz,w.heap[3]? = some (.cells c e fz)->c.size=1
 sizR:∀c e fz,w.heap[4]? = some (.cells c e fz)->c.size=1
theorem y8{w:World}{b:Nat}{v:Value}{i:Nat}(h:w.cell? ⟨b,i,none⟩=some v):∃c e fz,w.heap[b]? = some (.cells c e fz)/\c[i]? = some v:=by
 unfold World.cell? at h
 cases hb:w.heap[b]? with
 | none=>simp[hb]at h
 | some x=>
   cases x<;>simp[hb]at h
   exact⟨_,_,_,rfl,h⟩
theorem nY{D:Nat->Prop}{m:Nat->bo}{l:bo}{w:World}{cs:List AV}(h0:0<cs.length)(hok:eI D m cs)(h:∀i v,cs[i]? = some v->w.cell? ⟨l.blk,l.base+i,none⟩=some (aj m v)):cH D m l (.cells cs false none) w.heap[l.blk]? := by
 obtain⟨c,e,fz,hb,_⟩:=y8 (h 0 (cs[0]'h0) (by simp[h0]))
 refine⟨c,e,fz,hb,⟨λi v hv=>?_,hok,λhf=>(by cases hf),λs hs=>(by cases hs)⟩⟩
 obtain⟨c',e',fz',hb',hc⟩:=y8 (h i v hv)
 rw[hb]at hb'
 cases hb'
 exact hc
theorem F3{D:Nat->Prop}{m:Nat->bo}{l:List Int}:eI D m (l.map i64):=dy.2 λv hv=>by
 obtain⟨n,_,rfl⟩:=List.mem_map.1 hv
 exact bQ (by simp[i64,aq])
theorem Gs{w:World}(h:Ku w):∃m,dQ cfg (λid=>id<14) m C0 ⟨0,[],[]⟩ w:=by
 obtain⟨b,o,hs1,hs2⟩:=h.steps
 obtain⟨bs,os,hS⟩:=h.errS
 obtain⟨br,orr,hR⟩:=h.errR
 let m:Nat->bo:=λid=>if id<11 then⟨id,0,1⟩else if id=11 then⟨b,o,0⟩else if id=12 then⟨bs,os,0⟩else⟨br,orr,0⟩
 have hg:∀id,id<14->get C0 ⟨0,[],[]⟩ id=g0.at id:=λid hid=>by
  rw[get,ff]
  simp only[C0]
  rw[im (by omega:¬14<=id)]
  simp only[cond_false,ew,ff]
  rw[bt.2 (Nat.zero_le _),cond_true,Nat.sub_zero]
 have ints:∀(l:List Int) (q:bo),0<l.length->(∀i v,l[i]? = some v->w.cell? ⟨q.blk,q.base+i,none⟩=some (.int .i64 v))->cH (λid=>id<14) m q (.cells (l.map i64) false none) w.heap[q.blk]? := by
  intro l q h0 hl
  refine nY (by simpa using h0) F3 λi v hv=>?_
  rw[List.getElem?_map]at hv
  obtain⟨n,hn,rfl⟩:=Option.map_eq_some_iff.1 hv
  rw[hl i n hn]
  simp[i64,aj]
 have one1:∀(x:AV) (q:bo),cY (λid=>id<14) m x->w.cell? ⟨q.blk,q.base,none⟩=some (aj m x)->cH (λid=>id<14) m q (.cells [x] false none) w.heap[q.blk]? := by
  intro x q hx hc
  refine nY (by simp) (cq.2 ⟨hx,eL⟩) λi v hv=>?_
  cases i with
  | zero=>simp only[List.getElem?_cons_zero,Option.some.injEq]at hv;subst hv;exact hc
  | succ i=>simp at hv
 have one2:∀(x:AV) (q:bo),cY (λid=>id<14) m x->w.cell? ⟨q.blk,q.base,none⟩=some (aj m x)->q.base=0->q.cap=1->(∀c e fz,w.heap[q.blk]? = some (.cells c e fz)->c.size=1)->cH (λid=>id<14) m q (.cells [x] false (some 1)) w.heap[q.blk]? := by
  intro x q hx hc hb hcap hs
  obtain⟨c,e,fz,hh,hr⟩:=one1 x q hx hc
  exact⟨c,e,fz,hh,hr.at',hr.okc,hr.free,λs h=>by cases h;exact⟨Nat.zero_lt_one,hb,by rw[hs c e fz hh,hcap]⟩⟩
 have nrw:∀id,id<14->zi (g0.at id)=false:=by decide
 refine⟨m,λid hid=>?_,λi j hi hj _ _ hr=>?_,λid hid=>?_,λg hgl=>?_,λid hid=>⟨hid,hg id hid⟩,λid hid=>(by cases hid),Nat.le_refl _,rfl⟩
 · rw[hg id hid]
   have:id=0\/id=1\/id=2\/id=3\/id=4\/id=5\/id=6\/id=7\/id=8\/id=9\/id=10\/id=11\/id=12\/id=13:=by omega
   rcases this with rfl|rfl|rfl|rfl|rfl|rfl|rfl|rfl|rfl|rfl|rfl|rfl|rfl|rfl
   · trivial
   · exact ints TN (m 1) (by decide) λi v hv=>by simpa [m]using h.lens i v hv
   · exact ints TM (m 2) (by decide) λi v hv=>by simpa [m]using h.spans i v hv
   · exact one2 (.iface 367 (.ptr 12 0)) (m 3) (λi hi=>by simp[aq]at hi;subst hi;exact⟨by decide,Nat.zero_le _⟩) (by simpa [m,aj]using hS) rfl rfl h.sizS
   · exact one2 (.iface 367 (.ptr 13 0)) (m 4) (λi hi=>by simp[aq]at hi;subst hi;exact⟨by decide,Nat.zero_le _⟩) (by simpa [m,aj]using hR) rfl rfl h.sizR
   · exact one1 (.slice 11 0 3 (.known 3)) (m 5) (λi hi=>by simp[aq,d6]at hi;subst hi;exact⟨by decide,Nat.zero_le _⟩) (by simpa [m,aj,gI]using hs1)
   · trivial
   · trivial
   · trivial
   · trivial
   · trivial
   · exact ints TO (m 11) (by decide) λi v hv=>by simpa [m]using hs2 i v hv
   · trivial
   · trivial
 · rw[hg j hj,nrw j hj]at hr;cases hr
 · have:C0.lo+(⟨0,[],[]⟩:aC).n=14:=rfl
   omega
 · have hgl':g<11:=hgl
   exact⟨by omega,by simp[m,hgl'],by simp[m,hgl'],by simp[m,hgl']⟩
theorem Nj:nL cfg:=⟨by decide,by decide,by decide⟩
theorem L7:iT Tryz.prog cfg True λC f args o=>cfg.orc f C args o:=by
 intro C f args o r h D m w hi hok
 have h:orc f C args o=some r:=h
 have wk:∀{f:FuncId},(iY Tryz.prog f (ar m args).toArray w λV w'=>∃D' m',V=aj m' r.1/\cY D' m' r.1/\dk cfg C D m o w D' m' r.2 w'/\(dm args (cfg.lend f)=[]->ku D w D' m' w'))->
  iY Tryz.prog f (ar m args).toArray w λV w'=>∃D' m',V=aj m' r.1/\cY D' m' r.1/\dk cfg C D m o w D' m' r.2 w'/\(True->dm args (cfg.lend f)=[]->ku D w D' m' w'):=
  λh=>h.mono λV w' ⟨D',m',h1,h2,h3,h4⟩=>⟨D',m',h1,h2,h3,λ_=>h4⟩
 unfold orc at h
 by_cases h1:f=295
 · subst h1
   simp only[dI (rfl:(295:Nat)=295),cond_true]at h
   exact wk (K6 h hi)
 rw[iH h1,cond_false]at h
 by_cases h2:f=323
 · subst h2
   simp only[dI (rfl:(323:Nat)=323),cond_true]at h
   exact wk (Ly h hi)
 rw[iH h2,cond_false]at h
 by_cases h3:f=338
 · subst h3
   simp only[dI (rfl:(338:Nat)=338),cond_true]at h
   exact wk (LR h hi)
 rw[iH h3,cond_false]at h
 cases h
theorem F8:bV cfg λC f args o=>cfg.orc f C args o:=by
 intro C f args o r h hl
 have h:orc f C args o=some r:=h
 unfold orc at h
 cases h1:Nat.beq f 295<;>rw[h1]at h
 · cases h2:Nat.beq f 323<;>rw[h2]at h
   · cases h3:Nat.beq f 338<;>rw[h3]at h
     · cases h
     · simp only[cond_false,cond_true]at h
       unfold TI at h
       split at h
       · simp only[ay,Option.some.injEq]at h
         obtain⟨_,rfl⟩:=h;exact .refl hl
       · cases h
   · simp only[cond_false,cond_true]at h
     unfold TP at h
     split at h
     · simp only[ay,Option.some.injEq]at h
       obtain⟨_,rfl⟩:=h;exact .refl hl
     · cases h
 · simp only[cond_true]at h
   unfold add at h
   split at h
   · simp only[ay,N_,Option.some.injEq]at h
     obtain⟨_,_,rfl⟩:=h;exact .refl hl
   · cases h
theorem d4:fV Tryz.prog tab cfg:=⟨Mo,by kernel_rfl,Nj,L7,F8⟩
end Go.Ev
end
section
namespace Go.Proofs.YtafekjglclnegaaGreatDoor
open Go.RowKit
theorem ints_Add1_ovf(a b n ev:Int)(pa pb pn pe:Nat)(w:World)(u:FrameMode)(hn:decide (a<n)≠decide (0<b))
 (ca:w.cell? ⟨pa,0,none⟩=some (.int .i64 a)) (cb:w.cell? ⟨pb,0,none⟩=some (.int .i64 b)) (cn:w.cell? ⟨pn,0,none⟩=some (.int .i64 n)) (ce:w.cell? ⟨pe,0,none⟩=some (.int .i64 ev))
 (fn:w.frozen? ⟨pn,0,none⟩=false) (fe:w.frozen? ⟨pe,0,none⟩=false) (hne:pn≠pe) :
 CallsD Tryz.prog 330 #[.pointer (some ⟨pn,0,none⟩),.pointer (some ⟨pa,0,none⟩),.pointer (some ⟨pb,0,none⟩),.pointer (some ⟨pe,0,none⟩)] u w λe u' w'=>u'=u/\(e=.returned (.tuple #[])/\w'=(w.setCell ⟨pn,0,none⟩ (.int .i64 0)).setCell ⟨pe,0,none⟩ (.int .i64 15)):=by
 have hd:(!decide (a<n)==decide (0<b))=true:=by
  cases h1:decide (a<n)<;>cases h2:decide (0<b)<;>simp[h1,h2]at hn ⊢
 go_enter_d Tryz.func330,Tryz.ntmps330
 go_wp2
 go_end0
 simp
theorem ints_Add_max(w:World) :
 Calls Tryz.prog 295 #[.int .i64 9223372036854775807,.int .i64 1] w λe w'=>e=.returned (.tuple #[.int .i64 0,.int .i64 15])/\Below w.heap.size w w':=by
 have hmf:∀(fn:Fn) (first cap:Array Value) (w:World),(Instr.makeFunc fn first cap).run Tryz.prog w=.ok (.func fn first cap) w:=λ_ _ _ _=>rfl
 go_enter_defers Tryz.func295,Tryz.ntmps295
 go_wp2
 refine leaves_cons (f:=330) (args:=#[.pointer (some ⟨w.heap.size+2,0,none⟩),.pointer (some ⟨w.heap.size,0,none⟩),.pointer (some ⟨w.heap.size+1,0,none⟩),.pointer (some ⟨w.heap.size+3,0,none⟩)]) (by simp) (by simp[go_sem]) ?_
 refine(ints_Add1_ovf 9223372036854775807 1 (-9223372036854775808) 0 (w.heap.size) (w.heap.size+1) (w.heap.size+2) (w.heap.size+3) _ .returning (by decide) ?_ ?_ ?_ ?_ ?_ ?_ (by omega)).mono ?_
 · go_simp
 · go_simp
 · go_simp;unfold wrap64;omega
 · go_simp
 · go_simp
 · go_simp
 rintro e u' w'' ⟨rfl,rfl,rfl⟩
 exact⟨.tuple #[.int .i64 0,.int .i64 15],by simp[results,Tryz.results295,go_sem],rfl,by(repeat(first|exact Below.refl _ _|assumption|refine balloc ?_ _|refine Below.drew ?_|refine bdrewN ?_ _|(refine bset ?_ (by first|exact Nat.le_refl _|(simp;done)|(simp;omega)) _)|refine bnext ?_ (by assumption)))⟩
end Go.Proofs.YtafekjglclnegaaGreatDoor
namespace Go.Ev
open Go Go.Proofs
theorem cV:wm Tryz.prog tab cfg:=⟨d4.tab,d4.mixed,d4.lv⟩
theorem ey.below{f:FuncId}{args:List AV}{v:AV}(hv:aq v=[])(hr:∀(m:Nat->bo) (w:World),(callFunc f (ar m args).toArray).run Tryz.prog w=.ok (.enter f (ar m args).toArray) w)
 (h:∀(m:Nat->bo) (w:World),Calls Tryz.prog f (ar m args).toArray w λe w'=>e=.returned (aj m v)/\RowKit.Below w.heap.size w w'):ey Tryz.prog cfg f args v:=λC D m o w hi hok=>
 .inl ⟨hr m w,(h m w).mono λe w' ⟨he,hb⟩=>⟨_,he,rfl,bQ hv,(jF hi hb).1,(jF hi hb).2⟩⟩
def Ir:dM:=λargs=>match args with
 | [.int .i64 a,.int .i64 b]=>some (.test (ae .i64 (Int.add a b)) λd=>bif d then .ret (.tuple [.int .i64 (Int.add a b),.int .i64 0])else eh (aa a 9223372036854775807) (eh (aa b 1) (.ret (.tuple [.int .i64 0,.int .i64 15]))))
 | _=>none
theorem BK:gM Tryz.prog cfg 295 Ir:=by
 intro args t v he hv
 unfold Ir at he
 split at he
 · rename_i a b
   cases he
   have hr:∀(m:Nat->bo) (w:World),(callFunc 295 (ar m [.int .i64 a,.int .i64 b]).toArray).run Tryz.prog w=.ok (.enter 295 (ar m [.int .i64 a,.int .i64 b]).toArray) w:=λm w=>by
    have h4:(Tryz.f295.name == "runtime.NumGoroutine")=false:=by kernel_rfl
    have h5:Tryz.f295.body.isNone=false:=by kernel_rfl
    have h6:¬Tryz.f295.name = "runtime.NumGoroutine" := by simpa using h4
    have h7:¬Tryz.f295.body=none:=λe=>by rw[e]at h5;cases h5
    simp[callFunc,Tryz.func295,h6,h7]
   simp only[Tr.run]at hv
   cases hd:ae .i64 (Int.add a b)with
   | true=>
     rw[hd]at hv
     cases hv
     rw[aQ]at hd
     refine ey.below (by simp[aq,bG]) hr λm w=>?_
     have:=Go.Proofs.YtafekjglclnegaaGreatDoor.ints_Add a b w hd.1 hd.2
     simpa [ar,aj,kP]using this
   | false=>
     rw[hd]at hv
     obtain⟨h1,hv⟩:=bu hv
     obtain⟨h2,hv⟩:=bu hv
     cases hv
     rw[aS]at h1 h2
     subst h1 h2
     refine ey.below (by simp[aq,bG]) hr λm w=>?_
     have:=Go.Proofs.YtafekjglclnegaaGreatDoor.ints_Add_max w
     simpa [ar,aj]using this
 · cases he
end Go.Ev
end
section
namespace Go.Ev
open Go Go.Proofs
def iS(a b:Int):Int:=if a<b then -1 else if b<a then 1 else 0
abbrev ql(a b:Int):AV:=.agg [.int .i8 a,.int .i64 b]
abbrev e8(a b c d:Int):AV:=.agg [.int .i8 a,.int .i64 b,.int .i8 c,.int .i64 d]
def cu(a b:Int):Int:=if a=0\/(a=1\/a = -1)/\b=0 then 0 else 5
theorem V0(a b:Int){Q:AV->Prop}:ask Q (iu tab cfg dF 1000 168 [.int .i8 a,.int .i8 b]) (.f (.f (.b .z (.b .z .z))))=(Bool.not (aa a a)=false/\(Bool.not (aa b b)=false/\((Bool.not (ab b a)=true->Q (AV.int .i64 (Neg.neg 1)))/\(Bool.not (ab b a)=false->((Bool.not (ab a b)=true->Q (AV.int .i64 1))/\(Bool.not (ab a b)=false->Q (AV.int .i64 0))))))):=by kernel_rfl
theorem WY(a b:Int){Q:AV->Prop}:ask Q (iu tab cfg dF 1000 169 [.int .i64 a,.int .i64 b]) (.f (.f (.b .z (.b .z .z))))=(Bool.not (aa a a)=false/\(Bool.not (aa b b)=false/\((Bool.not (ab b a)=true->Q (AV.int .i64 (Neg.neg 1)))/\(Bool.not (ab b a)=false->((Bool.not (ab a b)=true->Q (AV.int .i64 1))/\(Bool.not (ab a b)=false->Q (AV.int .i64 0))))))):=by kernel_rfl
theorem Ur(a b:Int){Q:AV->Prop}:ask Q (iu tab cfg dF 1000 110 [ql a b]) (.e (.b (.e (.e (.t (.t (.f (.b (.e (.e (.t (.t (.f (.b .z .z)))))) (.f (.f (.t (.e .z)))))))))) (.f (.f (.t (.e (.e (.e (.e (.e .z))))))))))=((Bool.not (aa a 0)=true->(Bool.not (aa a 0)=true/\(Bool.not (aa a 0)=true/\(aa a 0=false/\((Bool.not (Bool.and (aa a 1) (Bool.and (aa b 0) Bool.true))=true->(Bool.not (Bool.and (aa a 1) (Bool.and (aa b 0) Bool.true))=true/\(Bool.not (Bool.and (aa a 1) (Bool.and (aa b 0) Bool.true))=true/\(Bool.and (aa a 1) (Bool.and (aa b 0) Bool.true)=false/\((Bool.and (aa a (Neg.neg 1)) (Bool.and (aa b 0) Bool.true)=true->Q (AV.int .i64 0))/\(Bool.and (aa a (Neg.neg 1)) (Bool.and (aa b 0) Bool.true)=false->Q (AV.int .i64 5)))))))/\(Bool.not (Bool.and (aa a 1) (Bool.and (aa b 0) Bool.true))=false->(Bool.not (Bool.and (aa a 1) (Bool.and (aa b 0) Bool.true))=false/\(Bool.not (Bool.and (aa a 1) (Bool.and (aa b 0) Bool.true))=false/\(Bool.and (aa a 1) (Bool.and (aa b 0) Bool.true)=true/\Q (AV.int .i64 0))))))))))/\(Bool.not (aa a 0)=false->(Bool.not (aa a 0)=false/\(Bool.not (aa a 0)=false/\(aa a 0=true/\Q (AV.int .i64 0)))))):=by kernel_rfl
theorem Ry(a b:Int):ey Tryz.prog cfg 168 [.int .i8 a,.int .i8 b] (.int .i64 (iS a b)):=
 cV.ask aT (n:=1000) (D:=_) (by rw[V0];simp only[aD,reduceCtorEq,bA,bB,ne_eq];(repeat' first|exact trivial|refine⟨?_,?_⟩|intro)<;>((try simp only[nE,eq_comm (a:=true),eq_comm (a:=false),iS]at *)<;>(repeat' split)<;>(first|omega|(simp_all;done)|(simp_all;omega))))
theorem Ra(a b:Int):ey Tryz.prog cfg 169 [.int .i64 a,.int .i64 b] (.int .i64 (iS a b)):=
 cV.ask aT (n:=1000) (D:=_) (by rw[WY];simp only[aD,reduceCtorEq,bA,bB,ne_eq];(repeat' first|exact trivial|refine⟨?_,?_⟩|intro)<;>((try simp only[nE,eq_comm (a:=true),eq_comm (a:=false),iS]at *)<;>(repeat' split)<;>(first|omega|(simp_all;done)|(simp_all;omega))))
theorem Pn(a b:Int):ey Tryz.prog cfg 110 [ql a b] (.int .i64 (cu a b)):=
 cV.ask aT (n:=1000) (D:=_) (by rw[Ur];simp only[aD,reduceCtorEq,bA,bB,ne_eq];(repeat' first|exact trivial|refine⟨?_,?_⟩|intro)<;>((try simp only[nE,eq_comm (a:=true),eq_comm (a:=false),cu]at *)<;>(repeat' split)<;>(first|omega|(simp_all;done)|(simp_all;omega))))
def N8:dM:=λargs=>match args with
 | [.int .i8 a,.int .i8 b]=>some (.ret (.int .i64 (iS a b)))
 | _=>none
theorem IX:gM Tryz.prog cfg 168 N8:=by(intro args t v he hv;unfold N8 at he;split at he<;>first|(cases he;cases hv;apply Ry;done)|(cases he;done))
def Mi:dM:=λargs=>match args with
 | [.int .i64 a,.int .i64 b]=>some (.ret (.int .i64 (iS a b)))
 | _=>none
theorem IO:gM Tryz.prog cfg 169 Mi:=by(intro args t v he hv;unfold Mi at he;split at he<;>first|(cases he;cases hv;apply Ra;done)|(cases he;done))
def Cc:dM:=λargs=>match args with
 | [.agg [.int .i8 a,.int .i64 b]]=>some (.ret (.int .i64 (cu a b)))
 | _=>none
theorem I6:gM Tryz.prog cfg 110 Cc:=by(intro args t v he hv;unfold Cc at he;split at he<;>first|(cases he;cases hv;apply Pn;done)|(cases he;done))
def S1:bq:=j1 (j1 (j1 (j1 dF 295 Ir) 168 N8) 169 Mi) 110 Cc
theorem Kp:az Tryz.prog cfg S1:=dr (dr (dr (dr aT BK) IX) IO) I6
def eH(a b c d:Int):Int:=if iS a c=0 then iS b d else iS a c
def CI:dM:=λargs=>match args with
 | [.agg [.int .i8 a,.int .i64 b],.agg [.int .i8 c,.int .i64 d]]=>some (.ret (.int .i64 (eH a b c d)))
 | _=>none
def bH(a b c d:Int):Int:=if cu a b=0/\cu c d=0 then(if 0<a\/c<0 then 4 else if 0<eH a b c d then 12 else 0)else 5
def J9:dM:=λargs=>match args with
 | [.agg [.int .i8 a,.int .i64 b,.int .i8 c,.int .i64 d]]=>some (.ret (.int .i64 (bH a b c d)))
 | _=>none
def S2:bq:=j1 S1 111 CI
def S3:bq:=j1 S2 57 J9
def BV(a b c d e f g h:Int):Int:=if eH a b e f=0 then eH c d g h else eH a b e f
def oU(i j k l:Int):Prop:=eH k l i j<=0\/cu i j=0/\(i=0/\j<9223372036854775807/\k=0/\l=j+1\/i≠0/\i=k/\j=l)
instance {i j k l:Int}:Decidable (oU i j k l):=by unfold oU;infer_instance
def pz(a b c d e f g h:Int):Bool:=decide (bH a b c d=0/\bH e f g h=0/\(eH e f a b<0/\oU g h a b\/0<=eH e f a b/\oU c d e f))
def Br(n:Int):Prop:=-9223372036854775808<=n/\n<=9223372036854775807
theorem U_(a b c d:Int){Q:AV->Prop}:ask Q (iu tab cfg S1 1000 111 [ql a b,ql c d]) (.e (.e (.e (.e (.e (.e (.e (.e (.b .z (.e (.e (.e (.e (.e (.b .z (.e (.e .z)))))))))))))))))=((Bool.not (aa (iS a c) 0)=true->Q (AV.int .i64 (iS a c)))/\(Bool.not (aa (iS a c) 0)=false->((Bool.not (aa (iS b d) 0)=true->Q (AV.int .i64 (iS b d)))/\(Bool.not (aa (iS b d) 0)=false->Q (AV.int .i64 0))))):=by kernel_rfl
theorem YH(a b c d:Int){Q:AV->Prop}:ask Q (iu tab cfg S2 1000 57 [e8 a b c d]) (.e (.e (.b (.t (.e (.e (.t (.t (.f (.b .z (.e (.b (.t (.t (.e (.t (.f (.b .z (.e (.e (.e (.e (.b .z .z))))))))))) (.f (.f (.f (.t (.e .z)))))))))))))) (.f (.f (.f (.t (.e .z))))))))=((Bool.not (Bool.not (aa (cu a b) 0))=true->(Bool.not (Bool.not (aa (cu a b) 0))=true/\(Bool.not (Bool.not (aa (cu a b) 0))=true/\(Bool.not (Bool.not (aa (cu a b) 0))=true/\(Bool.not (aa (cu a b) 0)=false/\((Bool.not (aa (cu c d) 0)=true->Q (AV.int .i64 5))/\(Bool.not (aa (cu c d) 0)=false->((Bool.not (Bool.not (ab a 0))=true->(Bool.not (Bool.not (ab a 0))=true/\(Bool.not (Bool.not (ab a 0))=true/\(Bool.not (Bool.not (ab a 0))=true/\(Bool.not (ab a 0)=false/\((Bool.not (ab 0 c)=true->Q (AV.int .i64 4))/\(Bool.not (ab 0 c)=false->((Bool.not (ab (eH a b c d) 0)=true->Q (AV.int .i64 12))/\(Bool.not (ab (eH a b c d) 0)=false->Q (AV.int .i64 0))))))))))/\(Bool.not (Bool.not (ab a 0))=false->(Bool.not (Bool.not (ab a 0))=false/\(Bool.not (Bool.not (ab a 0))=false/\(Bool.not (Bool.not (ab a 0))=false/\(Bool.not (ab a 0)=true/\Q (AV.int .i64 4))))))))))))))/\(Bool.not (Bool.not (aa (cu a b) 0))=false->(Bool.not (Bool.not (aa (cu a b) 0))=false/\(Bool.not (Bool.not (aa (cu a b) 0))=false/\(Bool.not (Bool.not (aa (cu a b) 0))=false/\(Bool.not (aa (cu a b) 0)=true/\Q (AV.int .i64 5))))))):=by kernel_rfl
theorem Vs(a b c d e f g h:Int){Q:AV->Prop}:ask Q (iu tab cfg S2 1000 105 [e8 a b c d,e8 e f g h]) (.e (.e (.e (.e (.e (.e (.e (.e (.e (.e (.e (.e (.b .z (.e (.e (.e (.e (.e (.b .z (.e (.e .z)))))))))))))))))))))=((Bool.not (aa (eH a b e f) 0)=true->Q (AV.int .i64 (eH a b e f)))/\(Bool.not (aa (eH a b e f) 0)=false->((Bool.not (aa (eH c d g h) 0)=true->Q (AV.int .i64 (eH c d g h)))/\(Bool.not (aa (eH c d g h) 0)=false->Q (AV.int .i64 0))))):=by kernel_rfl
theorem XB(a b c d e f g h:Int){Q:AV->Prop}:ask Q (iu tab cfg S3 1000 112 [e8 a b c d,e8 e f g h]) (.e (.e (.e (.e (.e (.e (.e (.e (.e (.e (.e (.e (.b (.e (.e (.e (.e (.t (.t (.t (.b .z (.e (.e (.e (.e (.b (.e (.e (.e (.e (.e (.e (.e (.e (.e (.e (.e (.e (.e (.e (.b .z (.e (.e (.e (.e (.e (.e (.b (.t (.e (.t (.f (.b (.f (.e (.e (.e (.e (.e (.t (.e (.e (.t (.t (.e (.e (.t (.t .z))))))))))))))) (.e (.b (.e (.e (.e (.e (.e (.e (.e (.e (.e (.e (.e (.e (.e .z))))))))))))) (.b (.e (.e (.e (.e (.e (.e (.e (.e (.e (.e .z)))))))))) .z)))))))) (.f (.f (.t (.e (.t (.e (.e (.e (.e (.e (.e (.f (.f (.f (.f (.f .z)))))))))))))))))))))))))))))))))))))) (.e (.e (.e (.e (.b .z (.e (.e (.e (.e (.e (.e (.b (.t (.e (.t (.f (.b (.f (.e (.e (.e (.e (.e (.t (.e (.e (.t (.t (.e (.e (.t (.t .z))))))))))))))) (.e (.b (.e (.e (.e (.e (.e (.e (.e (.e (.e (.e (.e (.e (.e .z))))))))))))) (.b (.e (.e (.e (.e (.e (.e (.e (.e (.e (.e .z)))))))))) .z)))))))) (.f (.f (.t (.e (.t (.e (.e (.e (.e (.e (.e (.f (.f (.f (.f (.f .z))))))))))))))))))))))))))))))))))))))))) (.f (.f (.f (.e .z)))))))))))))))))=((aa (bH a b c d) 0=true->(aa (bH a b c d) 0=true/\(aa (bH a b c d) 0=true/\(aa (bH a b c d) 0=true/\((Bool.not (aa (bH e f g h) 0)=true->Q (AV.bool Bool.false))/\(Bool.not (aa (bH e f g h) 0)=false->((Bool.not (ab 0 (eH e f a b))=true->((ab (eH a b g h) 0=true->Q (AV.bool Bool.true))/\(ab (eH a b g h) 0=false->((Bool.not (Bool.not (aa (cu g h) 0))=true->(Bool.not (Bool.not (aa (cu g h) 0))=true/\(Bool.not (Bool.not (aa (cu g h) 0))=true/\(Bool.not (aa (cu g h) 0)=false/\((Bool.not (aa g 0)=true->(Bool.not (aa (cu g h) 0)=false/\(aa (cu g h) 0=true/\(aa (cu g h) 0=true/\(aa (cu g h) 0=true/\(aa (cu g h) 0=true/\(aa (cu g h) 0=true/\Q (AV.bool (Bool.and (aa g a) (Bool.and (aa h b) Bool.true))))))))))/\(Bool.not (aa g 0)=false->((ae .i64 (Int.add h 1)=true->Q (AV.bool (Bool.and (aa 0 a) (Bool.and (aa (Int.add h 1) b) Bool.true))))/\(ae .i64 (Int.add h 1)=false->((aa h 9223372036854775807=true->Q (AV.bool Bool.false))/\(aa h 9223372036854775807=false->False))))))))))/\(Bool.not (Bool.not (aa (cu g h) 0))=false->(Bool.not (Bool.not (aa (cu g h) 0))=false/\(Bool.not (Bool.not (aa (cu g h) 0))=false/\(Bool.not (aa (cu g h) 0)=true/\(Bool.not (aa (cu g h) 0)=true/\(aa (cu g h) 0=false/\(aa (cu g h) 0=false/\(aa (cu g h) 0=false/\(aa (cu g h) 0=false/\(aa (cu g h) 0=false/\Q (AV.bool Bool.false)))))))))))))))/\(Bool.not (ab 0 (eH e f a b))=false->((ab (eH e f c d) 0=true->Q (AV.bool Bool.true))/\(ab (eH e f c d) 0=false->((Bool.not (Bool.not (aa (cu c d) 0))=true->(Bool.not (Bool.not (aa (cu c d) 0))=true/\(Bool.not (Bool.not (aa (cu c d) 0))=true/\(Bool.not (aa (cu c d) 0)=false/\((Bool.not (aa c 0)=true->(Bool.not (aa (cu c d) 0)=false/\(aa (cu c d) 0=true/\(aa (cu c d) 0=true/\(aa (cu c d) 0=true/\(aa (cu c d) 0=true/\(aa (cu c d) 0=true/\Q (AV.bool (Bool.and (aa c e) (Bool.and (aa d f) Bool.true))))))))))/\(Bool.not (aa c 0)=false->((ae .i64 (Int.add d 1)=true->Q (AV.bool (Bool.and (aa 0 e) (Bool.and (aa (Int.add d 1) f) Bool.true))))/\(ae .i64 (Int.add d 1)=false->((aa d 9223372036854775807=true->Q (AV.bool Bool.false))/\(aa d 9223372036854775807=false->False))))))))))/\(Bool.not (Bool.not (aa (cu c d) 0))=false->(Bool.not (Bool.not (aa (cu c d) 0))=false/\(Bool.not (Bool.not (aa (cu c d) 0))=false/\(Bool.not (aa (cu c d) 0)=true/\(Bool.not (aa (cu c d) 0)=true/\(aa (cu c d) 0=false/\(aa (cu c d) 0=false/\(aa (cu c d) 0=false/\(aa (cu c d) 0=false/\(aa (cu c d) 0=false/\Q (AV.bool Bool.false))))))))))))))))))))))/\(aa (bH a b c d) 0=false->(aa (bH a b c d) 0=false/\(aa (bH a b c d) 0=false/\(aa (bH a b c d) 0=false/\Q (AV.bool Bool.false)))))):=by kernel_rfl
theorem UM(a b c d:Int){Q:AV->Prop}:ask Q (iu tab cfg dF 1000 117 [ql a b,ql c d]) (.e (.e (.b .z (.e (.e (.b .z (.e (.e (.b .z (.e (.e (.b .z .z))))))))))))=((Bool.not (ab c a)=true->Q (AV.int .i64 (Neg.neg 1)))/\(Bool.not (ab c a)=false->((Bool.not (ab a c)=true->Q (AV.int .i64 1))/\(Bool.not (ab a c)=false->((Bool.not (ab d b)=true->Q (AV.int .i64 (Neg.neg 1)))/\(Bool.not (ab d b)=false->((Bool.not (ab b d)=true->Q (AV.int .i64 1))/\(Bool.not (ab b d)=false->Q (AV.int .i64 0))))))))):=by kernel_rfl
theorem TT(a b:Int){Q:AV->Prop}:ask Q (iu tab cfg dF 1000 120 [ql a b]) (.e (.b .z (.b (.t (.e (.b .z .z))) (.b (.e (.b .z .z)) .z))))=((aa a 0=true->Q (AV.int .i64 0))/\(aa a 0=false->((aa a 1=true->(aa a 1=true/\((aa b 0=true->Q (AV.int .i64 0))/\(aa b 0=false->Q (AV.int .i64 5)))))/\(aa a 1=false->((aa a (Neg.neg 1)=true->((aa b 0=true->Q (AV.int .i64 0))/\(aa b 0=false->Q (AV.int .i64 5))))/\(aa a (Neg.neg 1)=false->Q (AV.int .i64 5))))))):=by kernel_rfl
theorem Qd(a b c d:Int):ey Tryz.prog cfg 111 [ql a b,ql c d] (.int .i64 (eH a b c d)):=
 cV.ask Kp (n:=1000) (D:=_) (by rw[U_];simp only[aD,reduceCtorEq,bA,bB,ne_eq];(repeat' first|exact trivial|refine⟨?_,?_⟩|intro)<;>((try simp only[nE,eq_comm (a:=true),eq_comm (a:=false),eH]at *)<;>(repeat' split)<;>(first|omega|(simp_all;done)|(simp_all;omega))))
theorem Hv:gM Tryz.prog cfg 111 CI:=by(intro args t v he hv;unfold CI at he;split at he<;>first|(cases he;cases hv;apply Qd;done)|(cases he;done))
theorem Db:az Tryz.prog cfg S2:=dr Kp Hv
theorem XO(a b c d:Int):ey Tryz.prog cfg 57 [e8 a b c d] (.int .i64 (bH a b c d)):=
 cV.ask Db (n:=1000) (D:=_) (by rw[YH];simp only[aD,reduceCtorEq,bA,bB,ne_eq];(repeat' first|exact trivial|refine⟨?_,?_⟩|intro)<;>((try simp only[nE,eq_comm (a:=true),eq_comm (a:=false),bH]at *)<;>(repeat' split)<;>(first|omega|(simp_all;done)|(simp_all;omega))))
theorem zx:gM Tryz.prog cfg 57 J9:=by(intro args t v he hv;unfold J9 at he;split at he<;>first|(cases he;cases hv;apply XO;done)|(cases he;done))
theorem QB(a b c d e f g h:Int):ey Tryz.prog cfg 105 [e8 a b c d,e8 e f g h] (.int .i64 (BV a b c d e f g h)):=
 cV.ask Db (n:=1000) (D:=_) (by rw[Vs];simp only[aD,reduceCtorEq,bA,bB,ne_eq];(repeat' first|exact trivial|refine⟨?_,?_⟩|intro)<;>((try simp only[nE,eq_comm (a:=true),eq_comm (a:=false),BV]at *)<;>(repeat' split)<;>(first|omega|(simp_all;done)|(simp_all;omega))))
theorem JN:az Tryz.prog cfg S3:=dr Db zx
theorem TF(a b c d e f g h:Int)(hd:Br d)(hh:Br h):ey Tryz.prog cfg 112 [e8 a b c d,e8 e f g h] (.bool (pz a b c d e f g h)):=by
 have hd:=hd;have hh:=hh
 unfold Br at hd hh
 refine cV.ask JN ((XB ..).mpr ?_)
 simp only[aD,reduceCtorEq,bA,bB,ne_eq]
 (repeat' first|exact trivial|refine⟨?_,?_⟩|intro)<;>first|omega|(first|omega|(rw[AV.bool.injEq,Bool.eq_iff_iff]<;>simp only[kP,vv,tZ,aS,aK,iK,lT,pf,aF,dc,decide_eq_true_eq,and_true,Bool.false_eq_true,true_iff,false_iff,iff_true,iff_false,pz]<;>(try simp only[oU])<;>first|omega|(simp_all;done)|(simp_all;omega)))
theorem Tj(a b c d:Int):ey Tryz.prog cfg 117 [ql a b,ql c d] (.int .i64 (eH a b c d)):=
 cV.ask aT ((UM ..).mpr (by simp only[aD,reduceCtorEq,bA,bB,ne_eq];(repeat' first|exact trivial|refine⟨?_,?_⟩|intro)<;>((try simp only[nE,eq_comm (a:=true),eq_comm (a:=false),eH,iS]at *)<;>(repeat' split)<;>(first|omega|(simp_all;done)|(simp_all;omega)))))
theorem NY(a b:Int):ey Tryz.prog cfg 120 [ql a b] (.int .i64 (cu a b)):=
 cV.ask aT ((TT ..).mpr (by simp only[aD,reduceCtorEq,bA,bB,ne_eq];(repeat' first|exact trivial|refine⟨?_,?_⟩|intro)<;>((try simp only[nE,eq_comm (a:=true),eq_comm (a:=false),cu]at *)<;>(repeat' split)<;>(first|omega|(simp_all;done)|(simp_all;omega)))))
end Go.Ev
end
