import Derived.KernelRfl
import Derived.WalkKit
import Derived.WalkSpells
import Derived.WalkLawsBesides
import Derived.Deep.QuietTactic
import Derived.BigQuiet
import Derived.Deep.RegionHeld3
import Derived.Deep.DrawnRows
import Derived.Lib.Hide
import Derived.WalkSmall
import Derived.Defers
import Derived.Recover
import Derived.Shelf.Strconv.Clone
import Derived.Shelf.LaysM
import Derived.Laws.Externs
import Derived.Test.YtafekjglclnegaaGreatDoorP15
import Derived.Test.YtafekjglclnegaaGreatDoorP14
set_option linter.all false
section
namespace Go.Ev
open Go Go.Proofs
def i64 (n:Int):AV:=.int .i64 n
def g0:Own:=⟨14,[
 .dead,.dead,
 .cells [i64 4,i64 1,i64 100,i64 (-1),i64 400,i64 1] false none,
 .dead,.dead,.dead,.dead,.dead,
 .cells [.slice 11 0 3 (.known 3)] false none,
 .cells [.iface 367 (.ptr 13 0)] false (some 1),
 .cells [.iface 367 (.ptr 12 0)] false (some 1),
 .cells ([3,3,6,3,9,3,12,3,3,3,6,3,9,3,12,3,9,3,12,3,3,3,6,3,1,3,4,3,7,3,10,3,1,4,5,4,9,4,1,6,7,6].map i64) false none,
 .cells ([31,28,31,30,31,30,31,31,30,31,30,31].map i64) false none,
 .dead],[]⟩
def C0:Ctx:=⟨[(0,g0)],14⟩
def lend (f:Nat):List Nat:=bif (Nat.beq f 162 || Nat.beq f 224 || Nat.beq f 285 || Nat.beq f 179) then [0] else bif (Nat.beq f 156 || Nat.beq f 157 || Nat.beq f 158) then [1] else []
def canonMask:Nat:=36260343331960319813932562186621581246590177467307003686082922430385615571972064860225901137556125408883328
def canon (f:Nat):Bool:=Nat.testBit canonMask f
def addO (a b:Int) (o:Own):Option (AV×Own):=ok (intLe (-9223372036854775808) (a+b)&&intLe (a+b) 9223372036854775807) (some (.tuple [outI .i64 (a+b),i64 0],o))
def add:List AV->Own->Option (AV×Own)
 | [.int k a,.int l b],o=>ok (sameK k .i64&&sameK l .i64) (addO a b o)
 | _,_=>none
def idxByte (c:Int):List UInt8->Nat->Int
 | [],_=>-1
 | b::s,k=>bif intEq (.ofNat b.toNat) c then .ofNat k else idxByte c s (k+1)
def ixb:List AV->Own->Option (AV×Own)
 | [.str s,.int k (.ofNat c)],o=>ok (sameK k .u8&&natLt c 256) (some (outI .i64 (idxByte (.ofNat c) s 0),o))
 | _,_=>none
def cln:List AV->Own->Option (AV×Own)
 | [.str s],o=>ok (Nat.ble s.length 1000000) (some (.str s,o))
 | _,_=>none
def orc (f:Nat) (C:Ctx) (args:List AV) (o:Own):Option (AV×Own):=
 bif Nat.beq f 295 then add args o else bif Nat.beq f 323 then ixb args o else bif Nat.beq f 338 then cln args o else none
def cfg:Cfg:=⟨11,lend,canon,orc,g0⟩
noncomputable def run (f:Nat) (args:List AV):Option (AV×Own):=callA tab cfg false (codeA tab cfg 10000) C0 f args ⟨0,[],[]⟩
end Go.Ev
end
section
namespace Go.Proofs.YtafekjglclnegaaGreatDoor
open Go.RowKit
theorem bnext {a w w':World} (h:Below a.heap.size a w) (k:Below w.heap.size w w'):Below a.heap.size a w':=h.trans (k.mono h.size)
theorem balloc {a w:World} (h:Below a.heap.size a w) (o:Obj):Below a.heap.size a (w.alloc o):=h.alloc h.size o
theorem bdrewN {a w:World} (h:Below a.heap.size a w) (n:Nat):Below a.heap.size a (w.drewN n):=⟨h.os,h.tape,h.output,h.size,h.block⟩
theorem bset {a w:World} {p:Addr} (h:Below a.heap.size a w) (hp:a.heap.size≤p.block) (u:Value):Below a.heap.size a (w.setCell p u):=h.setCell hp u
theorem ints_Add1 (a b n:Int) (pa pb pn pe:Nat) (w:World) (u:FrameMode) (hn:decide (a<n)=decide (0<b))
 (ca:w.cell? ⟨pa,0,none⟩=some (.int .i64 a)) (cb:w.cell? ⟨pb,0,none⟩=some (.int .i64 b)) (cn:w.cell? ⟨pn,0,none⟩=some (.int .i64 n)) :
 CallsD Tryz.prog 330 #[.pointer (some ⟨pn,0,none⟩),.pointer (some ⟨pa,0,none⟩),.pointer (some ⟨pb,0,none⟩),.pointer (some ⟨pe,0,none⟩)] u w fun e u' w'=>u'=u/\(e=.returned (.tuple #[])/\w'=w):=by
 have hd:(!decide (a<n)==decide (0<b))=false:=by rw [hn];cases decide (0<b)<;>rfl
 go_enter_d Tryz.func330,Tryz.ntmps330
 go_wp2
 go_end0
 simp
theorem ints_Add (a b:Int) (w:World) (h1 : -9223372036854775808≤a+b) (h2:a+b≤9223372036854775807) :
 Calls Tryz.prog 295 #[.int .i64 a,.int .i64 b] w fun e w'=>e=.returned (.tuple #[.int .i64 (a+b),.int .i64 0])/\Below w.heap.size w w':=by
 have hmf:∀(fn:Fn) (first cap:Array Value) (w:World),(Instr.makeFunc fn first cap).run Tryz.prog w=.ok (.func fn first cap) w:=fun _ _ _ _=>rfl
 go_enter_defers Tryz.func295,Tryz.ntmps295
 go_wp2
 · have hb:b=0:=by simpa using ‹(b==0)=true›
   refine leaves_cons (f:=330) (args:=#[.pointer (some ⟨w.heap.size+2,0,none⟩),.pointer (some ⟨w.heap.size,0,none⟩),.pointer (some ⟨w.heap.size+1,0,none⟩),.pointer (some ⟨w.heap.size+3,0,none⟩)]) (by simp) (by simp [go_sem]) ?_
   refine (ints_Add1 a b a (w.heap.size) (w.heap.size+1) (w.heap.size+2) (w.heap.size+3) _ .returning (by rw [hb];simp) ?_ ?_ ?_).mono ?_
   · go_simp
   · go_simp
   · go_simp
   rintro e u' w'' ⟨rfl,rfl,rfl⟩
   exact ⟨.tuple #[.int .i64 (a+b),.int .i64 0],by simp [results,Tryz.results295,go_sem,hb],rfl,by (repeat (first|exact Below.refl _ _|assumption|refine balloc ?_ _|refine Below.drew ?_|refine bdrewN ?_ _|(refine bset ?_ (by first|exact Nat.le_refl _|(simp;done)|(simp;omega)) _)|refine bnext ?_ (by assumption)))⟩
 · refine leaves_cons (f:=330) (args:=#[.pointer (some ⟨w.heap.size+2,0,none⟩),.pointer (some ⟨w.heap.size,0,none⟩),.pointer (some ⟨w.heap.size+1,0,none⟩),.pointer (some ⟨w.heap.size+3,0,none⟩)]) (by simp) (by simp [go_sem]) ?_
   refine (ints_Add1 a b (a+b) (w.heap.size) (w.heap.size+1) (w.heap.size+2) (w.heap.size+3) _ .returning (by congr 1;apply propext;constructor<;>intro h<;>omega) ?_ ?_ ?_).mono ?_
   · go_simp
   · go_simp
   · go_simp
   rintro e u' w'' ⟨rfl,rfl,rfl⟩
   exact ⟨.tuple #[.int .i64 (a+b),.int .i64 0],by simp [results,Tryz.results295,go_sem],rfl,by (repeat (first|exact Below.refl _ _|assumption|refine balloc ?_ _|refine Below.drew ?_|refine bdrewN ?_ _|(refine bset ?_ (by first|exact Nat.le_refl _|(simp;done)|(simp;omega)) _)|refine bnext ?_ (by assumption)))⟩
end Go.Proofs.YtafekjglclnegaaGreatDoor
end
section
namespace Go.Proofs
open Go.Shelf
set_option maxRecDepth 100000
def Tryz.ewLaysM316_ren:Go.Shelf.Ren:=⟨fun|316=>338|n=>n,fun|9=>9|3=>3|4=>4|37=>211|0=>0|127=>366|5=>5|n=>n,fun|n=>n⟩
theorem Tryz.ewLaysM316:Go.Proofs.LaysM.n316 Tryz.prog Tryz.ewLaysM316_ren:={
 mixed:=by kernel_rfl
 f316:=Tryz.func338.trans (congrArg some (by kernel_rfl))
 t0:=Tryz.underlying0
 a0:=Tryz.isAgg0
 z0:=Tryz.sizeOf0
 v0:=Tryz.zeroValue0
 t3:=Tryz.underlying3
 a3:=Tryz.isAgg3
 z3:=Tryz.sizeOf3
 v3:=Tryz.zeroValue3
 t4:=Tryz.underlying4
 a4:=Tryz.isAgg4
 z4:=Tryz.sizeOf4
 v4:=Tryz.zeroValue4
 t9:=Tryz.underlying9
 a9:=Tryz.isAgg9
 z9:=Tryz.sizeOf9
 v9:=Tryz.zeroValue9
 t37:=Tryz.underlying211
 a37:=Tryz.isAgg211
 z37:=Tryz.sizeOf211
 v37:=Tryz.zeroValue211
 t127:=Tryz.underlying366
 a127:=Tryz.isAgg366
 z127:=Tryz.sizeOf366
 v127:=Tryz.zeroValue366
 t5:=Tryz.underlying5
 a5:=Tryz.isAgg5
 z5:=Tryz.sizeOf5
 v5:=Tryz.zeroValue5
 i0:=by kernel_rfl
 i3:=by kernel_rfl
 i4:=by kernel_rfl
 i5:=by kernel_rfl
 i9:=by kernel_rfl
 i37:=by kernel_rfl
 i127:=by kernel_rfl }
open Go.RowKit in
theorem Tryz.ewClone (s:ByteArray) (w:World) (hlim:s.size≤281474976710656) :
 Calls Tryz.prog 338 #[.string s] w fun e w'=>e=.returned (.string s)/\Below w.heap.size w w':=Any.stringslite_Clone Tryz.ewLaysM316 s w hlim
end Go.Proofs
end
section
namespace Go.Ev
open Go Go.Proofs
theorem below_ext {cfg:Cfg} {C:Ctx} {D:Nat->Prop} {m:Nat->Loc} {o:Own} {w w':World} (hi:Inv cfg D m C o w) (h:RowKit.Below w.heap.size w w'):Ext cfg C D m o w D m o w'/\Mute D w D m w':=by
 refine ⟨⟨hi.world fun j hj hl=>h.block _ ((hi.obj j hj).in_heap hl),fun _ h=>h,fun _ _=>rfl,fun _ h=>.inl h,Nat.le_refl _,h.os,h.tape,h.output,h.size,fun k hk _=>h.block k hk,rfl,fun i h1 h2=>absurd h1 h2⟩,h.block,fun i h1 h2=>absurd h1 h2⟩
theorem idxByte_spec (c:Nat):∀(s:List UInt8) (k:Nat),idxByte (.ofNat c) s k=(match (List.range' k s.length).find? (fun i=>decide ((s.getD (i-k) 0).toNat=c)) with
 | some i=>.ofNat i
 | none=>-1)
 | [],k=>by simp [idxByte]
 | b::s,k=>by
   rw [idxByte]
   simp only [List.length_cons,List.range'_succ,List.find?_cons,Nat.sub_self,List.getD_cons_zero]
   by_cases e:b.toNat=c
   · simp [intEq,e]
   · have:intEq (.ofNat b.toNat) (.ofNat c)=false:=beqF e
     rw [this,cond_false,idxByte_spec c s (k+1)]
     simp only [e,decide_false]
     have hf:∀l:List Nat,(∀i∈l,k+1≤i)->l.find? (fun i=>decide ((s.getD (i-(k+1)) 0).toNat=c))=l.find? (fun i=>decide (((b::s).getD (i-k) 0).toNat=c)):=by
      intro l hl
      induction l with
      | nil=>rfl
      | cons x l ih=>
        have hx:=hl x List.mem_cons_self
        rw [List.find?_cons,List.find?_cons,ih fun i hi=>hl i (List.mem_cons_of_mem _ hi),show x-k=(x-(k+1))+1 by omega,List.getD_cons_succ]
     rw [hf _ fun i hi=>(List.mem_range'_1.1 hi).1]
theorem ixb_run (s:List UInt8) (c:Nat) (hc:c<256) (w:World):(callFunc 323 #[.string ⟨⟨s⟩⟩,.int .u8 (.ofNat c)]).run Tryz.prog w=.ok (.value (.int .i64 (idxByte (.ofNat c) s 0))) w:=by
 have h1:Extern.findNext Tryz.f323=none:=by kernel_rfl
 have h2:Extern.find Tryz.f323=some Extern.BytealgIndexByte.indexByte:=by kernel_rfl
 have h3:Tryz.f323.body.isNone=true:=by kernel_rfl
 have h4:(Tryz.f323.name == "runtime.NumGoroutine")=false:=by kernel_rfl
 rw [run_callFunc_extern Tryz.func323 h4 h3 h1 h2]
 have hb:(Extern.Bytes.asByte (.int .u8 (.ofNat c))).run Tryz.prog w=.ok c.toUInt8 w:=rfl
 have hx:∀x y,Extern.BytealgIndexByte.indexByte #[x,y]=(do
  let b ←Extern.Bytes.bytesOf x
  let c ←Extern.Bytes.asByte y
  match (List.range b.size).find? (fun i=>b[i]! == c) with
  | some i=>pure (Go.goInt i)
  | none=>pure (Go.goInt (-1))):=fun _ _=>rfl
 rw [hx]
 simp only [Extern.Bytes.bytesOf,Sem.run_bind,Sem.run_pure,Result.andThen_ok,hb]
 rw [idxByte_spec]
 have hf:(List.range (ByteArray.mk ⟨s⟩).size).find? (fun i=>(ByteArray.mk ⟨s⟩)[i]! == c.toUInt8)=(List.range' 0 s.length).find? (fun i=>decide ((s.getD (i-0) 0).toNat=c)):=by
  rw [←List.range_eq_range']
  show (List.range s.length).find? _=_
  have key:∀l:List Nat,(∀i∈l,i<s.length)->l.find? (fun i=>(ByteArray.mk ⟨s⟩)[i]! == c.toUInt8)=l.find? (fun i=>decide ((s.getD (i-0) 0).toNat=c)):=by
   intro l hl
   induction l with
   | nil=>rfl
   | cons x l ih=>
     have hxl:=hl x List.mem_cons_self
     have e:((ByteArray.mk ⟨s⟩)[x]! == c.toUInt8)=decide ((s.getD (x-0) 0).toNat=c):=by
      have h1:(ByteArray.mk ⟨s⟩)[x]! = s.getD (x-0) 0:=by
       have:x<(ByteArray.mk ⟨s⟩).size:=hxl
       rw [getElem!_pos (ByteArray.mk ⟨s⟩) x this]
       show s[x]=_
       simp [List.getD_eq_getElem?_getD,hxl]
      rw [h1,Bool.eq_iff_iff,beq_iff_eq,decide_eq_true_eq]
      constructor
      · intro h;rw [h];simp;omega
      · intro h;rw [←h];simp
     rw [List.find?_cons,List.find?_cons,e,ih fun i hi=>hl i (List.mem_cons_of_mem _ hi)]
  exact key _ fun i hi=>List.mem_range.1 hi
 rw [hf]
 cases (List.range' 0 s.length).find? (fun i=>decide ((s.getD (i-0) 0).toNat=c)) with
 | none=>rfl
 | some i=>simp [Go.goInt]
theorem below_call {f:FuncId} {args:List AV} {v:AV} {C:Ctx} {D:Nat->Prop} {m:Nat->Loc} {o:Own} {w:World} (hi:Inv cfg D m C o w) (hv:idsA v=[]) (hr:(callFunc f (concL m args).toArray).run Tryz.prog w=.ok (.enter f (concL m args).toArray) w)
 (h:Calls Tryz.prog f (concL m args).toArray w fun e w'=>e=.returned (conc m v)/\RowKit.Below w.heap.size w w') :
 CallS Tryz.prog f (concL m args).toArray w fun V w'=>∃D' m',V=conc m' v/\okV D' m' v/\Ext cfg C D m o w D' m' o w'/\(namesAt args (cfg.lend f)=[]->Mute D w D' m' w'):=
 .inl ⟨hr,h.mono fun e w' ⟨he,hb⟩=>⟨_,he,D,m,rfl,okV_none hv,(below_ext hi hb).1,fun _=>(below_ext hi hb).2⟩⟩
theorem add_ok {C:Ctx} {args:List AV} {o:Own} {r:AV×Own} (h:add args o=some r) {D:Nat->Prop} {m:Nat->Loc} {w:World} (hi:Inv cfg D m C o w) :
 CallS Tryz.prog 295 (concL m args).toArray w fun V w'=>∃D' m',V=conc m' r.1/\okV D' m' r.1/\Ext cfg C D m o w D' m' r.2 w'/\(namesAt args (cfg.lend 295)=[]->Mute D w D' m' w'):=by
 unfold add at h
 split at h
 · rename_i k a l b
   simp only [ok_some,Bool.and_eq_true,sameK_iff,addO,Option.some.injEq,outI_eq] at h
   obtain ⟨⟨rfl,rfl⟩,⟨h1,h2⟩,rfl⟩:=h
   have e1 : -9223372036854775808≤a+b:=by simpa [intLe_dec] using h1
   have e2:a+b≤9223372036854775807:=by simpa [intLe_dec] using h2
   refine below_call hi (by simp [idsA,idsL,i64]) ?_ ?_
   · have h4:(Tryz.f295.name == "runtime.NumGoroutine")=false:=by kernel_rfl
     have h5:Tryz.f295.body.isNone=false:=by kernel_rfl
     have h6:¬Tryz.f295.name = "runtime.NumGoroutine" := by simpa using h4
     have h7:¬Tryz.f295.body=none:=fun e=>by rw [e] at h5;cases h5
     simp [callFunc,Tryz.func295,h6,h7]
   · have:=Go.Proofs.YtafekjglclnegaaGreatDoor.ints_Add a b w e1 e2
     simpa [concL,conc,i64] using this
 · cases h
theorem cln_ok {C:Ctx} {args:List AV} {o:Own} {r:AV×Own} (h:cln args o=some r) {D:Nat->Prop} {m:Nat->Loc} {w:World} (hi:Inv cfg D m C o w) :
 CallS Tryz.prog 338 (concL m args).toArray w fun V w'=>∃D' m',V=conc m' r.1/\okV D' m' r.1/\Ext cfg C D m o w D' m' r.2 w'/\(namesAt args (cfg.lend 338)=[]->Mute D w D' m' w'):=by
 unfold cln at h
 split at h
 · rename_i s
   simp only [ok_some,Option.some.injEq,ble_iff] at h
   obtain ⟨hl,rfl⟩:=h
   refine below_call hi (by simp [idsA]) ?_ ?_
   · have h4:(Tryz.f338.name == "runtime.NumGoroutine")=false:=by kernel_rfl
     have h5:Tryz.f338.body.isNone=false:=by kernel_rfl
     have h6:¬Tryz.f338.name = "runtime.NumGoroutine" := by simpa using h4
     have h7:¬Tryz.f338.body=none:=fun e=>by rw [e] at h5;cases h5
     simp [callFunc,Tryz.func338,h6,h7]
   · have:=Tryz.ewClone ⟨⟨s⟩⟩ w (by show s.length≤_;omega)
     simpa [concL,conc] using this
 · cases h
theorem ixb_ok {C:Ctx} {args:List AV} {o:Own} {r:AV×Own} (h:ixb args o=some r) {D:Nat->Prop} {m:Nat->Loc} {w:World} (hi:Inv cfg D m C o w) :
 CallS Tryz.prog 323 (concL m args).toArray w fun V w'=>∃D' m',V=conc m' r.1/\okV D' m' r.1/\Ext cfg C D m o w D' m' r.2 w'/\(namesAt args (cfg.lend 323)=[]->Mute D w D' m' w'):=by
 unfold ixb at h
 split at h
 · rename_i s k c
   simp only [ok_some,Bool.and_eq_true,sameK_iff,natLt_iff,Option.some.injEq,outI_eq] at h
   obtain ⟨⟨rfl,hc⟩,rfl⟩:=h
   have hrun:=ixb_run s c hc w
   refine .inr ⟨.int .i64 (idxByte (.ofNat c) s 0),w,by simpa [concL,conc] using hrun,D,m,by simp [conc],okV_none (by simp [idsA]),Ext.refl hi,fun _=>⟨fun _ _=>rfl,fun i h1 h2=>absurd h1 h2⟩⟩
 · cases h
def st0:List Int:=[4,1,100,-1,400,1]
def ln0:List Int:=[31,28,31,30,31,30,31,31,30,31,30,31]
def sp0:List Int:=[3,3,6,3,9,3,12,3,3,3,6,3,9,3,12,3,9,3,12,3,3,3,6,3,1,3,4,3,7,3,10,3,1,4,5,4,9,4,1,6,7,6]
structure RootW (w:World):Prop where
 steps:∃b o,w.cell? ⟨5,0,none⟩=some (.slice (some ⟨b,o,none⟩) 3 3)/\∀i v,st0[i]? = some v->w.cell? ⟨b,o+i,none⟩=some (.int .i64 v)
 lens:∀i v,ln0[i]? = some v->w.cell? ⟨1,i,none⟩=some (.int .i64 v)
 spans:∀i v,sp0[i]? = some v->w.cell? ⟨2,i,none⟩=some (.int .i64 v)
 errS:∃b o,w.cell? ⟨3,0,none⟩=some (.iface 367 (.pointer (some ⟨b,o,none⟩)))
 errR:∃b o,w.cell? ⟨4,0,none⟩=some (.iface 367 (.pointer (some ⟨b,o,none⟩)))
 sizS:∀c e fz,w.heap[3]? = some (.cells c e fz)->c.size=1
 sizR:∀c e fz,w.heap[4]? = some (.cells c e fz)->c.size=1
theorem cell_row {w:World} {b:Nat} {v:Value} {i:Nat} (h:w.cell? ⟨b,i,none⟩=some v):∃c e fz,w.heap[b]? = some (.cells c e fz)/\c[i]? = some v:=by
 unfold World.cell? at h
 cases hb:w.heap[b]? with
 | none=>simp [hb] at h
 | some x=>
   cases x<;>simp [hb] at h
   exact ⟨_,_,_,rfl,h⟩
theorem rel_of_cells {D:Nat->Prop} {m:Nat->Loc} {l:Loc} {w:World} {cs:List AV} (h0:0<cs.length) (hok:okL D m cs) (h:∀i v,cs[i]? = some v->w.cell? ⟨l.blk,l.base+i,none⟩=some (conc m v)):ObjRel D m l (.cells cs false none) w.heap[l.blk]? := by
 obtain ⟨c,e,fz,hb,_⟩:=cell_row (h 0 (cs[0]'h0) (by simp [h0]))
 refine ⟨c,e,fz,hb,⟨fun i v hv=>?_,hok,fun hf=>(by cases hf),fun s hs=>(by cases hs)⟩⟩
 obtain ⟨c',e',fz',hb',hc⟩:=cell_row (h i v hv)
 rw [hb] at hb'
 cases hb'
 exact hc
theorem okL_ints {D:Nat->Prop} {m:Nat->Loc} {l:List Int}:okL D m (l.map i64):=okL_iff.2 fun v hv=>by
 obtain ⟨n,_,rfl⟩:=List.mem_map.1 hv
 exact okV_none (by simp [i64,idsA])
theorem root_inv {w:World} (h:RootW w):∃m,Inv cfg (fun id=>id<14) m C0 ⟨0,[],[]⟩ w:=by
 obtain ⟨b,o,hs1,hs2⟩:=h.steps
 obtain ⟨bs,os,hS⟩:=h.errS
 obtain ⟨br,orr,hR⟩:=h.errR
 let m:Nat->Loc:=fun id=>if id<11 then ⟨id,0,1⟩ else if id=11 then ⟨b,o,0⟩ else if id=12 then ⟨bs,os,0⟩ else ⟨br,orr,0⟩
 have hg:∀id,id<14->get C0 ⟨0,[],[]⟩ id=g0.at id:=fun id hid=>by
  rw [get,getB]
  simp only [C0]
  rw [bleF (by omega:¬14≤id)]
  simp only [cond_false,leAt,getB]
  rw [ble_iff.2 (Nat.zero_le _),cond_true,Nat.sub_zero]
 have ints:∀(l:List Int) (q:Loc),0<l.length->(∀i v,l[i]? = some v->w.cell? ⟨q.blk,q.base+i,none⟩=some (.int .i64 v))->ObjRel (fun id=>id<14) m q (.cells (l.map i64) false none) w.heap[q.blk]? := by
  intro l q h0 hl
  refine rel_of_cells (by simpa using h0) okL_ints fun i v hv=>?_
  rw [List.getElem?_map] at hv
  obtain ⟨n,hn,rfl⟩:=Option.map_eq_some_iff.1 hv
  rw [hl i n hn]
  simp [i64,conc]
 have one1:∀(x:AV) (q:Loc),okV (fun id=>id<14) m x->w.cell? ⟨q.blk,q.base,none⟩=some (conc m x)->ObjRel (fun id=>id<14) m q (.cells [x] false none) w.heap[q.blk]? := by
  intro x q hx hc
  refine rel_of_cells (by simp) (okL_cons.2 ⟨hx,okL_nil⟩) fun i v hv=>?_
  cases i with
  | zero=>simp only [List.getElem?_cons_zero,Option.some.injEq] at hv;subst hv;exact hc
  | succ i=>simp at hv
 have one2:∀(x:AV) (q:Loc),okV (fun id=>id<14) m x->w.cell? ⟨q.blk,q.base,none⟩=some (conc m x)->q.base=0->q.cap=1->(∀c e fz,w.heap[q.blk]? = some (.cells c e fz)->c.size=1)->ObjRel (fun id=>id<14) m q (.cells [x] false (some 1)) w.heap[q.blk]? := by
  intro x q hx hc hb hcap hs
  obtain ⟨c,e,fz,hh,hr⟩:=one1 x q hx hc
  exact ⟨c,e,fz,hh,hr.at',hr.okc,hr.free,fun s h=>by cases h;exact ⟨Nat.zero_lt_one,hb,by rw [hs c e fz hh,hcap]⟩⟩
 have nrw:∀id,id<14->rwO (g0.at id)=false:=by decide
 refine ⟨m,fun id hid=>?_,fun i j hi hj _ _ hr=>?_,fun id hid=>?_,fun g hgl=>?_,fun id hid=>⟨hid,hg id hid⟩,fun id hid=>(by cases hid),Nat.le_refl _,rfl⟩
 · rw [hg id hid]
   have:id=0∨id=1∨id=2∨id=3∨id=4∨id=5∨id=6∨id=7∨id=8∨id=9∨id=10∨id=11∨id=12∨id=13:=by omega
   rcases this with rfl|rfl|rfl|rfl|rfl|rfl|rfl|rfl|rfl|rfl|rfl|rfl|rfl|rfl
   · trivial
   · exact ints ln0 (m 1) (by decide) fun i v hv=>by simpa [m] using h.lens i v hv
   · exact ints sp0 (m 2) (by decide) fun i v hv=>by simpa [m] using h.spans i v hv
   · exact one2 (.iface 367 (.ptr 12 0)) (m 3) (fun i hi=>by simp [idsA] at hi;subst hi;exact ⟨by decide,Nat.zero_le _⟩) (by simpa [m,conc] using hS) rfl rfl h.sizS
   · exact one2 (.iface 367 (.ptr 13 0)) (m 4) (fun i hi=>by simp [idsA] at hi;subst hi;exact ⟨by decide,Nat.zero_le _⟩) (by simpa [m,conc] using hR) rfl rfl h.sizR
   · exact one1 (.slice 11 0 3 (.known 3)) (m 5) (fun i hi=>by simp [idsA,needC] at hi;subst hi;exact ⟨by decide,Nat.zero_le _⟩) (by simpa [m,conc,capC] using hs1)
   · trivial
   · trivial
   · trivial
   · trivial
   · trivial
   · exact ints st0 (m 11) (by decide) fun i v hv=>by simpa [m] using hs2 i v hv
   · trivial
   · trivial
 · rw [hg j hj,nrw j hj] at hr;cases hr
 · have:C0.lo+(⟨0,[],[]⟩:Own).n=14:=rfl
   omega
 · have hgl':g<11:=hgl
   exact ⟨by omega,by simp [m,hgl'],by simp [m,hgl'],by simp [m,hgl']⟩
theorem cfg_ok:CfgOK cfg:=⟨by decide,by decide,by decide⟩
theorem orc_ok:CallOK Tryz.prog cfg True fun C f args o=>cfg.orc f C args o:=by
 intro C f args o r h D m w hi hok
 have h:orc f C args o=some r:=h
 have wk:∀{f:FuncId},(CallS Tryz.prog f (concL m args).toArray w fun V w'=>∃D' m',V=conc m' r.1/\okV D' m' r.1/\Ext cfg C D m o w D' m' r.2 w'/\(namesAt args (cfg.lend f)=[]->Mute D w D' m' w'))->
  CallS Tryz.prog f (concL m args).toArray w fun V w'=>∃D' m',V=conc m' r.1/\okV D' m' r.1/\Ext cfg C D m o w D' m' r.2 w'/\(True->namesAt args (cfg.lend f)=[]->Mute D w D' m' w'):=
  fun h=>h.mono fun V w' ⟨D',m',h1,h2,h3,h4⟩=>⟨D',m',h1,h2,h3,fun _=>h4⟩
 unfold orc at h
 by_cases h1:f=295
 · subst h1
   simp only [beqT (rfl:(295:Nat)=295),cond_true] at h
   exact wk (add_ok h hi)
 rw [beqF h1,cond_false] at h
 by_cases h2:f=323
 · subst h2
   simp only [beqT (rfl:(323:Nat)=323),cond_true] at h
   exact wk (ixb_ok h hi)
 rw [beqF h2,cond_false] at h
 by_cases h3:f=338
 · subst h3
   simp only [beqT (rfl:(338:Nat)=338),cond_true] at h
   exact wk (cln_ok h hi)
 rw [beqF h3,cond_false] at h
 cases h
theorem orc_foot:CallFoot cfg fun C f args o=>cfg.orc f C args o:=by
 intro C f args o r h hl
 have h:orc f C args o=some r:=h
 unfold orc at h
 cases h1:Nat.beq f 295<;>rw [h1] at h
 · cases h2:Nat.beq f 323<;>rw [h2] at h
   · cases h3:Nat.beq f 338<;>rw [h3] at h
     · cases h
     · simp only [cond_false,cond_true] at h
       unfold cln at h
       split at h
       · simp only [ok_some,Option.some.injEq] at h
         obtain ⟨_,rfl⟩:=h;exact .refl hl
       · cases h
   · simp only [cond_false,cond_true] at h
     unfold ixb at h
     split at h
     · simp only [ok_some,Option.some.injEq] at h
       obtain ⟨_,rfl⟩:=h;exact .refl hl
     · cases h
 · simp only [cond_true] at h
   unfold add at h
   split at h
   · simp only [ok_some,addO,Option.some.injEq] at h
     obtain ⟨_,_,rfl⟩:=h;exact .refl hl
   · cases h
theorem good0:Good Tryz.prog tab cfg:=⟨tab_ok,by kernel_rfl,cfg_ok,orc_ok,orc_foot⟩
end Go.Ev
end
section
namespace Go.Proofs.YtafekjglclnegaaGreatDoor
open Go.RowKit
theorem ints_Add1_ovf (a b n ev:Int) (pa pb pn pe:Nat) (w:World) (u:FrameMode) (hn:decide (a<n)≠decide (0<b))
 (ca:w.cell? ⟨pa,0,none⟩=some (.int .i64 a)) (cb:w.cell? ⟨pb,0,none⟩=some (.int .i64 b)) (cn:w.cell? ⟨pn,0,none⟩=some (.int .i64 n)) (ce:w.cell? ⟨pe,0,none⟩=some (.int .i64 ev))
 (fn:w.frozen? ⟨pn,0,none⟩=false) (fe:w.frozen? ⟨pe,0,none⟩=false) (hne:pn≠pe) :
 CallsD Tryz.prog 330 #[.pointer (some ⟨pn,0,none⟩),.pointer (some ⟨pa,0,none⟩),.pointer (some ⟨pb,0,none⟩),.pointer (some ⟨pe,0,none⟩)] u w fun e u' w'=>u'=u/\(e=.returned (.tuple #[])/\w'=(w.setCell ⟨pn,0,none⟩ (.int .i64 0)).setCell ⟨pe,0,none⟩ (.int .i64 15)):=by
 have hd:(!decide (a<n)==decide (0<b))=true:=by
  cases h1:decide (a<n)<;>cases h2:decide (0<b)<;>simp [h1,h2] at hn ⊢
 go_enter_d Tryz.func330,Tryz.ntmps330
 go_wp2
 go_end0
 simp
theorem ints_Add_max (w:World) :
 Calls Tryz.prog 295 #[.int .i64 9223372036854775807,.int .i64 1] w fun e w'=>e=.returned (.tuple #[.int .i64 0,.int .i64 15])/\Below w.heap.size w w':=by
 have hmf:∀(fn:Fn) (first cap:Array Value) (w:World),(Instr.makeFunc fn first cap).run Tryz.prog w=.ok (.func fn first cap) w:=fun _ _ _ _=>rfl
 go_enter_defers Tryz.func295,Tryz.ntmps295
 go_wp2
 refine leaves_cons (f:=330) (args:=#[.pointer (some ⟨w.heap.size+2,0,none⟩),.pointer (some ⟨w.heap.size,0,none⟩),.pointer (some ⟨w.heap.size+1,0,none⟩),.pointer (some ⟨w.heap.size+3,0,none⟩)]) (by simp) (by simp [go_sem]) ?_
 refine (ints_Add1_ovf 9223372036854775807 1 (-9223372036854775808) 0 (w.heap.size) (w.heap.size+1) (w.heap.size+2) (w.heap.size+3) _ .returning (by decide) ?_ ?_ ?_ ?_ ?_ ?_ (by omega)).mono ?_
 · go_simp
 · go_simp
 · go_simp;unfold wrap64;omega
 · go_simp
 · go_simp
 · go_simp
 rintro e u' w'' ⟨rfl,rfl,rfl⟩
 exact ⟨.tuple #[.int .i64 0,.int .i64 15],by simp [results,Tryz.results295,go_sem],rfl,by (repeat (first|exact Below.refl _ _|assumption|refine balloc ?_ _|refine Below.drew ?_|refine bdrewN ?_ _|(refine bset ?_ (by first|exact Nat.le_refl _|(simp;done)|(simp;omega)) _)|refine bnext ?_ (by assumption)))⟩
end Go.Proofs.YtafekjglclnegaaGreatDoor
namespace Go.Ev
open Go Go.Proofs
theorem base0:Base Tryz.prog tab cfg:=⟨good0.tab,good0.mixed,good0.lv⟩
theorem Fact.below {f:FuncId} {args:List AV} {v:AV} (hv:idsA v=[]) (hr:∀(m:Nat->Loc) (w:World),(callFunc f (concL m args).toArray).run Tryz.prog w=.ok (.enter f (concL m args).toArray) w)
 (h:∀(m:Nat->Loc) (w:World),Calls Tryz.prog f (concL m args).toArray w fun e w'=>e=.returned (conc m v)/\RowKit.Below w.heap.size w w'):Fact Tryz.prog cfg f args v:=fun C D m o w hi hok=>
 .inl ⟨hr m w,(h m w).mono fun e w' ⟨he,hb⟩=>⟨_,he,rfl,okV_none hv,(below_ext hi hb).1,(below_ext hi hb).2⟩⟩
def sAdd:Sum:=fun args=>match args with
 | [.int .i64 a,.int .i64 b]=>some (.test (inR .i64 (Int.add a b)) fun d=>bif d then .ret (.tuple [.int .i64 (Int.add a b),.int .i64 0]) else asrt (intEq a 9223372036854775807) (asrt (intEq b 1) (.ret (.tuple [.int .i64 0,.int .i64 15]))))
 | _=>none
theorem sAdd_ok:SumOK Tryz.prog cfg 295 sAdd:=by
 intro args t v he hv
 unfold sAdd at he
 split at he
 · rename_i a b
   cases he
   have hr:∀(m:Nat->Loc) (w:World),(callFunc 295 (concL m [.int .i64 a,.int .i64 b]).toArray).run Tryz.prog w=.ok (.enter 295 (concL m [.int .i64 a,.int .i64 b]).toArray) w:=fun m w=>by
    have h4:(Tryz.f295.name == "runtime.NumGoroutine")=false:=by kernel_rfl
    have h5:Tryz.f295.body.isNone=false:=by kernel_rfl
    have h6:¬Tryz.f295.name = "runtime.NumGoroutine" := by simpa using h4
    have h7:¬Tryz.f295.body=none:=fun e=>by rw [e] at h5;cases h5
    simp [callFunc,Tryz.func295,h6,h7]
   simp only [Tr.run] at hv
   cases hd:inR .i64 (Int.add a b) with
   | true=>
     rw [hd] at hv
     cases hv
     rw [q_inR_t] at hd
     refine Fact.below (by simp [idsA,idsL]) hr fun m w=>?_
     have:=Go.Proofs.YtafekjglclnegaaGreatDoor.ints_Add a b w hd.1 hd.2
     simpa [concL,conc,q_add] using this
   | false=>
     rw [hd] at hv
     obtain ⟨h1,hv⟩:=asrt_run hv
     obtain ⟨h2,hv⟩:=asrt_run hv
     cases hv
     rw [q_eq_t] at h1 h2
     subst h1 h2
     refine Fact.below (by simp [idsA,idsL]) hr fun m w=>?_
     have:=Go.Proofs.YtafekjglclnegaaGreatDoor.ints_Add_max w
     simpa [concL,conc] using this
 · cases he
end Go.Ev
end
section
namespace Go.Ev
open Go Go.Proofs
def cmpI (a b:Int):Int:=if a<b then -1 else if b<a then 1 else 0
abbrev vEnd (a b:Int):AV:=.agg [.int .i8 a,.int .i64 b]
abbrev vRun (a b c d:Int):AV:=.agg [.int .i8 a,.int .i64 b,.int .i8 c,.int .i64 d]
def eChk (a b:Int):Int:=if a=0∨(a=1∨a = -1)/\b=0 then 0 else 5
theorem w168 (a b:Int) {Q:AV->Prop}:ask Q (bodyT tab cfg nilS 1000 168 [.int .i8 a,.int .i8 b]) (.f (.f (.b .z (.b .z .z))))=(Bool.not (intEq a a)=false/\(Bool.not (intEq b b)=false/\((Bool.not (intLe b a)=true->Q (AV.int .i64 (Neg.neg 1)))/\(Bool.not (intLe b a)=false->((Bool.not (intLe a b)=true->Q (AV.int .i64 1))/\(Bool.not (intLe a b)=false->Q (AV.int .i64 0))))))):=by kernel_rfl
theorem w169 (a b:Int) {Q:AV->Prop}:ask Q (bodyT tab cfg nilS 1000 169 [.int .i64 a,.int .i64 b]) (.f (.f (.b .z (.b .z .z))))=(Bool.not (intEq a a)=false/\(Bool.not (intEq b b)=false/\((Bool.not (intLe b a)=true->Q (AV.int .i64 (Neg.neg 1)))/\(Bool.not (intLe b a)=false->((Bool.not (intLe a b)=true->Q (AV.int .i64 1))/\(Bool.not (intLe a b)=false->Q (AV.int .i64 0))))))):=by kernel_rfl
theorem w110 (a b:Int) {Q:AV->Prop}:ask Q (bodyT tab cfg nilS 1000 110 [vEnd a b]) (.e (.b (.e (.e (.t (.t (.f (.b (.e (.e (.t (.t (.f (.b .z .z)))))) (.f (.f (.t (.e .z)))))))))) (.f (.f (.t (.e (.e (.e (.e (.e .z))))))))))=((Bool.not (intEq a 0)=true->(Bool.not (intEq a 0)=true/\(Bool.not (intEq a 0)=true/\(intEq a 0=false/\((Bool.not (Bool.and (intEq a 1) (Bool.and (intEq b 0) Bool.true))=true->(Bool.not (Bool.and (intEq a 1) (Bool.and (intEq b 0) Bool.true))=true/\(Bool.not (Bool.and (intEq a 1) (Bool.and (intEq b 0) Bool.true))=true/\(Bool.and (intEq a 1) (Bool.and (intEq b 0) Bool.true)=false/\((Bool.and (intEq a (Neg.neg 1)) (Bool.and (intEq b 0) Bool.true)=true->Q (AV.int .i64 0))/\(Bool.and (intEq a (Neg.neg 1)) (Bool.and (intEq b 0) Bool.true)=false->Q (AV.int .i64 5)))))))/\(Bool.not (Bool.and (intEq a 1) (Bool.and (intEq b 0) Bool.true))=false->(Bool.not (Bool.and (intEq a 1) (Bool.and (intEq b 0) Bool.true))=false/\(Bool.not (Bool.and (intEq a 1) (Bool.and (intEq b 0) Bool.true))=false/\(Bool.and (intEq a 1) (Bool.and (intEq b 0) Bool.true)=true/\Q (AV.int .i64 0))))))))))/\(Bool.not (intEq a 0)=false->(Bool.not (intEq a 0)=false/\(Bool.not (intEq a 0)=false/\(intEq a 0=true/\Q (AV.int .i64 0)))))):=by kernel_rfl
theorem f168 (a b:Int):Fact Tryz.prog cfg 168 [.int .i8 a,.int .i8 b] (.int .i64 (cmpI a b)):=
 base0.ask sums_nil (n:=1000) (D:=_) (by rw [w168];simp only [q_all,reduceCtorEq,loK,hiK,ne_eq];(repeat' first|exact trivial|refine ⟨?_,?_⟩|intro)<;>((try simp only [q_inj,eq_comm (a:=true),eq_comm (a:=false),cmpI] at *)<;>(repeat' split)<;>(first|omega|(simp_all;done)|(simp_all;omega))))
theorem f169 (a b:Int):Fact Tryz.prog cfg 169 [.int .i64 a,.int .i64 b] (.int .i64 (cmpI a b)):=
 base0.ask sums_nil (n:=1000) (D:=_) (by rw [w169];simp only [q_all,reduceCtorEq,loK,hiK,ne_eq];(repeat' first|exact trivial|refine ⟨?_,?_⟩|intro)<;>((try simp only [q_inj,eq_comm (a:=true),eq_comm (a:=false),cmpI] at *)<;>(repeat' split)<;>(first|omega|(simp_all;done)|(simp_all;omega))))
theorem f110 (a b:Int):Fact Tryz.prog cfg 110 [vEnd a b] (.int .i64 (eChk a b)):=
 base0.ask sums_nil (n:=1000) (D:=_) (by rw [w110];simp only [q_all,reduceCtorEq,loK,hiK,ne_eq];(repeat' first|exact trivial|refine ⟨?_,?_⟩|intro)<;>((try simp only [q_inj,eq_comm (a:=true),eq_comm (a:=false),eChk] at *)<;>(repeat' split)<;>(first|omega|(simp_all;done)|(simp_all;omega))))
def s168:Sum:=fun args=>match args with
 | [.int .i8 a,.int .i8 b]=>some (.ret (.int .i64 (cmpI a b)))
 | _=>none
theorem s168_ok:SumOK Tryz.prog cfg 168 s168:=by (intro args t v he hv;unfold s168 at he;split at he<;>first|(cases he;cases hv;apply f168;done)|(cases he;done))
def s169:Sum:=fun args=>match args with
 | [.int .i64 a,.int .i64 b]=>some (.ret (.int .i64 (cmpI a b)))
 | _=>none
theorem s169_ok:SumOK Tryz.prog cfg 169 s169:=by (intro args t v he hv;unfold s169 at he;split at he<;>first|(cases he;cases hv;apply f169;done)|(cases he;done))
def s110:Sum:=fun args=>match args with
 | [.agg [.int .i8 a,.int .i64 b]]=>some (.ret (.int .i64 (eChk a b)))
 | _=>none
theorem s110_ok:SumOK Tryz.prog cfg 110 s110:=by (intro args t v he hv;unfold s110 at he;split at he<;>first|(cases he;cases hv;apply f110;done)|(cases he;done))
def S1:Sums:=addS (addS (addS (addS nilS 295 sAdd) 168 s168) 169 s169) 110 s110
theorem S1_ok:SumsOK Tryz.prog cfg S1:=sums_add (sums_add (sums_add (sums_add sums_nil sAdd_ok) s168_ok) s169_ok) s110_ok
end Go.Ev
end
