import Derived.Laws.RangeAny
import Derived.Lib.ParseIntBTie
import Derived.Deep.CutRange
import Derived.Deep.DeepFit
import Derived.Deep.WholeRow
import Derived.Test.YtoghlpcacfnjbaaGreatDoorP19
set_option linter.all false
set_option maxRecDepth 100000
set_option maxHeartbeats 4000000
section
namespace Go.Proofs.YtoghlpcacfnjbaaGreatDoor
open Go.RowKit
def inSet(l:List UInt8)(r:Nat):Bool:=decide (r<128)&&l.contains r.toUInt8
theorem inSet_lo{l:List UInt8}{r:Nat}(h:r<128):inSet l r=decide (0<=Lib.indexByte l r.toUInt8):=by
 unfold inSet;rw[decide_eq_true h,Bool.true_and,Lib.contains_iff_indexByte]
theorem inSet_hi{l:List UInt8}{r:Nat}(h:¬r<128):inSet l r=false:=by
 unfold inSet;rw[decide_eq_false h,Bool.false_and]
def onlyB(s set:List UInt8):Bool:=s.all λb=>set.contains b
theorem idx_only(set:List UInt8)(s:ByteArray)(ha:∀b∈set,b.toNat<128):∀(f pos:Nat),s.size<=pos+f->
 decide (Lib.idxFuncFrom (λx=>!inSet set x) true s f pos<0)=onlyB (s.data.toList.drop pos) set
 | 0,pos,h=>by
   have e:s.data.toList.drop pos=[]:=List.drop_eq_nil_of_le (by simp;have e:s.data.size=s.size:=rfl;omega);rw[e];rfl
 | f+1,pos,h=>by
   by_cases hp:pos<s.size
   . have ed:s.data.toList.drop pos=s[pos]::s.data.toList.drop (pos+1):=List.drop_eq_getElem_cons (by simpa using hp);have eu:(s[pos].toNat).toUInt8=s[pos]:=by simp
     unfold Lib.idxFuncFrom;rw[if_pos hp,ed];by_cases hb:s[pos].toNat<128
     . rw[decode_ascii s pos hp hb];dsimp only;by_cases hc:set.contains s[pos]=true
       . have e:inSet set s[pos].toNat=true:=by unfold inSet;rw[decide_eq_true hb,eu,hc];rfl
         rw[e,if_neg (by decide),idx_only set s ha f (pos+1) (by omega)];unfold onlyB;rw[List.all_cons,hc,Bool.true_and]
       . have hc2:set.contains s[pos]=false:=by simpa using hc
         have e:inSet set s[pos].toNat=false:=by unfold inSet;rw[eu,hc2,Bool.and_false]
         rw[e,if_pos (by decide),decide_eq_false (by omega)];unfold onlyB;rw[List.all_cons,hc2,Bool.false_and]
     . have hd:=(decode_high s pos hp (by omega)).1;have hc2:set.contains s[pos]=false:=by
        cases hx:set.contains s[pos]with
        | false=>rfl
        | true=>exact absurd (ha s[pos] (by simpa using hx)) hb
       rw[inSet_hi (by omega),if_pos (by decide),decide_eq_false (by omega)];unfold onlyB;rw[List.all_cons,hc2,Bool.false_and]
   . have e:s.data.toList.drop pos=[]:=List.drop_eq_nil_of_le (by simp;have e:s.data.size=s.size:=rfl;omega);rw[Lib.idxFuncFrom_end _ _ _ _ _ hp,e];rfl
theorem idx_only0(set:List UInt8)(s:ByteArray)(ha:∀b∈set,b.toNat<128):decide (Lib.idxFunc (λx=>!inSet set x) true s<0)=onlyB s.data.toList set:=by
 have:=idx_only set s ha s.size 0 (by omega);rw[List.drop_zero]at this;exact this
def okSet(s:ByteArray):Prop:=4<=s.size/\s.size<=100/\∀(i:Nat) (h:i<s.size),s[i].toNat<128
theorem ContainsRune(s:ByteArray)(r:Nat)(w:World)(hs:okSet s)(h2:r<=1114111) :
 Calls Tryz.prog 249 #[.string s,.int .i32 (r:Int)] w λe w'=>e=.returned (.bool (inSet s.data.toList r))/\Below w.heap.size w w':=by
 by_cases h:r<128
 . refine(Tryz.strings_ContainsRune_ascii s r w (by omega) (by omega)).mono ?_;rintro e w' ⟨rfl,rfl⟩;exact⟨by rw[inSet_lo h];simp,Below.refl _ _⟩
 . rw[inSet_hi h];by_cases hr:r=65533
   . subst hr;have HS:=Lib.hid hs.2.2;clear hs;go_enter Tryz.func249,Tryz.ntmps249
     go_wp2_with (first|(go_at_call 282;refine(IndexRune_err _ _ HS.out).mono ?_;rintro e w1 ⟨rfl,hb⟩;obtain⟨hc,hf⟩:=bcell hb;have hz:=hb.size;(try simp only[World.size_alloc,World.size_setCell,World.size_drew]at hz hc hf);(try(have hl0:w.heap.size<w1.heap.size:=(by omega);have hc0:=λo:Nat=>hc (w.heap.size) o (by omega);have hf0:=λo:Nat=>hf (w.heap.size) o (by omega)));(try(have hl1:w.heap.size+1<w1.heap.size:=(by omega);have hc1:=λo:Nat=>hc (w.heap.size+1) o (by omega);have hf1:=λo:Nat=>hf (w.heap.size+1) o (by omega)));(try(have hl2:w.heap.size+2<w1.heap.size:=(by omega);have hc2:=λo:Nat=>hc (w.heap.size+2) o (by omega);have hf2:=λo:Nat=>hf (w.heap.size+2) o (by omega)));(try(have hl3:w.heap.size+3<w1.heap.size:=(by omega);have hc3:=λo:Nat=>hc (w.heap.size+3) o (by omega);have hf3:=λo:Nat=>hf (w.heap.size+3) o (by omega)));(try(have hl4:w.heap.size+4<w1.heap.size:=(by omega);have hc4:=λo:Nat=>hc (w.heap.size+4) o (by omega);have hf4:=λo:Nat=>hf (w.heap.size+4) o (by omega)))))
     go_ret
     exact⟨by simp,by(repeat(first|exact Below.refl _ _|assumption|refine balloc ?_ _|refine Below.drew ?_|refine bdrewN ?_ _|(refine bset ?_ (by first|exact Nat.le_refl _|(simp;done)|(simp;omega)) _)|refine bnext ?_ (by assumption)))⟩
   . have HS:=Lib.hid hs;clear hs;go_enter Tryz.func249,Tryz.ntmps249
     go_wp2_with (first|(go_at_call 282;refine(IndexRune_high _ _ _ HS.out.1 HS.out.2.1 HS.out.2.2 (by omega) (by omega) hr).mono ?_;rintro e w1 ⟨rfl,hb⟩;obtain⟨hc,hf⟩:=bcell hb;have hz:=hb.size;(try simp only[World.size_alloc,World.size_setCell,World.size_drew]at hz hc hf);(try(have hl0:w.heap.size<w1.heap.size:=(by omega);have hc0:=λo:Nat=>hc (w.heap.size) o (by omega);have hf0:=λo:Nat=>hf (w.heap.size) o (by omega)));(try(have hl1:w.heap.size+1<w1.heap.size:=(by omega);have hc1:=λo:Nat=>hc (w.heap.size+1) o (by omega);have hf1:=λo:Nat=>hf (w.heap.size+1) o (by omega)));(try(have hl2:w.heap.size+2<w1.heap.size:=(by omega);have hc2:=λo:Nat=>hc (w.heap.size+2) o (by omega);have hf2:=λo:Nat=>hf (w.heap.size+2) o (by omega)));(try(have hl3:w.heap.size+3<w1.heap.size:=(by omega);have hc3:=λo:Nat=>hc (w.heap.size+3) o (by omega);have hf3:=λo:Nat=>hf (w.heap.size+3) o (by omega)));(try(have hl4:w.heap.size+4<w1.heap.size:=(by omega);have hc4:=λo:Nat=>hc (w.heap.size+4) o (by omega);have hf4:=λo:Nat=>hf (w.heap.size+4) o (by omega)))))
     go_ret
     exact⟨by simp,by(repeat(first|exact Below.refl _ _|assumption|refine balloc ?_ _|refine Below.drew ?_|refine bdrewN ?_ _|(refine bset ?_ (by first|exact Nat.le_refl _|(simp;done)|(simp;omega)) _)|refine bnext ?_ (by assumption)))⟩
theorem only1(s:ByteArray)(r:Nat)(p:Nat)(w:World)(hs:okSet s)(h2:r<=1114111)(hc0:w.cell? ⟨p,0,none⟩=some (.string s)) :
 Calls Tryz.prog 248 #[.int .i32 (r:Int),.pointer (some ⟨p,0,none⟩)] w λe w'=>e=.returned (.bool (!inSet s.data.toList r))/\Below w.heap.size w w':=by
 have HS:=Lib.hid hs;clear hs;cases hi:inSet s.data.toList r;all_goals
  go_enter Tryz.func248,Tryz.ntmps248
  go_wp2_with (first|(go_at_call 249;refine(ContainsRune _ _ _ HS.out h2).mono ?_;rintro e w1 ⟨rfl,hb⟩;obtain⟨hc,hf⟩:=bcell hb;have hz:=hb.size;(try simp only[World.size_alloc,World.size_setCell,World.size_drew]at hz hc hf);(try(have hl0:w.heap.size<w1.heap.size:=(by omega);have hc0:=λo:Nat=>hc (w.heap.size) o (by omega);have hf0:=λo:Nat=>hf (w.heap.size) o (by omega)));(try(have hl1:w.heap.size+1<w1.heap.size:=(by omega);have hc1:=λo:Nat=>hc (w.heap.size+1) o (by omega);have hf1:=λo:Nat=>hf (w.heap.size+1) o (by omega)));(try(have hl2:w.heap.size+2<w1.heap.size:=(by omega);have hc2:=λo:Nat=>hc (w.heap.size+2) o (by omega);have hf2:=λo:Nat=>hf (w.heap.size+2) o (by omega)));(try(have hl3:w.heap.size+3<w1.heap.size:=(by omega);have hc3:=λo:Nat=>hc (w.heap.size+3) o (by omega);have hf3:=λo:Nat=>hf (w.heap.size+3) o (by omega)));(try(have hl4:w.heap.size+4<w1.heap.size:=(by omega);have hc4:=λo:Nat=>hc (w.heap.size+4) o (by omega);have hf4:=λo:Nat=>hf (w.heap.size+4) o (by omega)))))
  go_ret
  exact⟨by simp,by(repeat(first|exact Below.refl _ _|assumption|refine balloc ?_ _|refine Below.drew ?_|refine bdrewN ?_ _|(refine bset ?_ (by first|exact Nat.le_refl _|(simp;done)|(simp;omega)) _)|refine bnext ?_ (by assumption)))⟩
theorem ascii_mem{s:ByteArray}(hs:okSet s):∀b∈s.data.toList,b.toNat<128:=by
 intro b hb;obtain⟨i,hi,rfl⟩:=List.getElem_of_mem hb;exact hs.2.2 i (by simpa using hi)
theorem IndexFunc_only(s set:ByteArray)(p:Nat)(w:World)(hs:okSet set)(hc:w.cell? ⟨p,0,none⟩=some (.string set)) :
 Calls Tryz.prog 247 #[.string s,.func (.func 248) #[] #[.pointer (some ⟨p,0,none⟩)]] w λe w'=>e=.returned (.int .i64 (Lib.idxFunc (λx=>!inSet set.data.toList x) true s))/\Below w.heap.size w w':=by
 refine Tryz.strings_IndexFunc_grows 248 #[.pointer (some ⟨p,0,none⟩)] (enters_of Tryz.func248 (by kernel_rfl) rfl) (λx=>!inSet set.data.toList x) s w ?_;intro W x hx hb;refine only1 set x p W hs hx ?_;have hp:=World.block_lt_of_cell? w _ hc;rw[hb.cell (p:=⟨p,0,none⟩) hp];exact hc
theorem only_is(s set:ByteArray)(w:World)(hs:okSet set) :
 Calls Tryz.prog 212 #[.string s,.string set] w λe w'=>e=.returned (.bool (onlyB s.data.toList set.data.toList))/\Below w.heap.size w w':=by
 have hmf:∀(fn:Fn) (first cap:Array Value) (w:World),(Instr.makeFunc fn first cap).run Tryz.prog w=.ok (.func fn first cap) w:=λ_ _ _ _=>rfl;have V:=Lib.hid (idx_only0 set.data.toList s (ascii_mem hs));have HS:=Lib.hid hs;clear hs;go_enter Tryz.func212,Tryz.ntmps212
 go_wp2_with (first|(go_at_call 247;refine(IndexFunc_only _ _ _ _ HS.out (by go_simp)).mono ?_;rintro e w1 ⟨rfl,hb⟩;obtain⟨hc,hf⟩:=bcell hb;have hz:=hb.size;(try simp only[World.size_alloc,World.size_setCell,World.size_drew]at hz hc hf);(try(have hl0:w.heap.size<w1.heap.size:=(by omega);have hc0:=λo:Nat=>hc (w.heap.size) o (by omega);have hf0:=λo:Nat=>hf (w.heap.size) o (by omega)));(try(have hl1:w.heap.size+1<w1.heap.size:=(by omega);have hc1:=λo:Nat=>hc (w.heap.size+1) o (by omega);have hf1:=λo:Nat=>hf (w.heap.size+1) o (by omega)));(try(have hl2:w.heap.size+2<w1.heap.size:=(by omega);have hc2:=λo:Nat=>hc (w.heap.size+2) o (by omega);have hf2:=λo:Nat=>hf (w.heap.size+2) o (by omega)));(try(have hl3:w.heap.size+3<w1.heap.size:=(by omega);have hc3:=λo:Nat=>hc (w.heap.size+3) o (by omega);have hf3:=λo:Nat=>hf (w.heap.size+3) o (by omega)));(try(have hl4:w.heap.size+4<w1.heap.size:=(by omega);have hc4:=λo:Nat=>hc (w.heap.size+4) o (by omega);have hf4:=λo:Nat=>hf (w.heap.size+4) o (by omega)))))
 go_ret
 exact⟨by rw[<-V.out];simp,by(repeat(first|exact Below.refl _ _|assumption|refine balloc ?_ _|refine Below.drew ?_|refine bdrewN ?_ _|(refine bset ?_ (by first|exact Nat.le_refl _|(simp;done)|(simp;omega)) _)|refine bnext ?_ (by assumption)))⟩
end Go.Proofs.YtoghlpcacfnjbaaGreatDoor
end
section
namespace Go.Proofs.YtoghlpcacfnjbaaGreatDoor
open Go.Lib
def dset:ByteArray:=⟨#[48,49,50,51,52,53,54,55,56,57]⟩
def mset:ByteArray:=⟨#[88,48,49,50,51,52,53,54,55,56,57]⟩
instance (b:UInt8):Decidable (mb b):=by unfold mb;infer_instance
def digB(l:List UInt8):Bool:=l.all λb=>decide (48<=b.toNat/\b.toNat<=57)
def mskB(l:List UInt8):Bool:=l.all λb=>decide (mb b)
def hasX(l:List UInt8):Bool:=l.contains 88
def zerB(l:List UInt8):Bool:=l.all λb=>b==48
theorem byte_all{p:UInt8->Prop}[DecidablePred p](h:∀n:Fin 256,p (UInt8.ofNat n.val))(b:UInt8):p b:=by
 have:=h ⟨b.toNat,b.toNat_lt⟩;simpa using this
theorem onlyB_d(l:List UInt8):onlyB l dset.data.toList=digB l:=by
 have key:∀b:UInt8,dset.data.toList.contains b=decide (48<=b.toNat/\b.toNat<=57):=byte_all (by decide +kernel);unfold onlyB digB;congr 1
 funext b
 exact key b
theorem onlyB_m(l:List UInt8):onlyB l mset.data.toList=mskB l:=by
 have key:∀b:UInt8,mset.data.toList.contains b=decide (mb b):=byte_all (by decide +kernel);unfold onlyB mskB;congr 1
 funext b
 exact key b
theorem ok_dset:okSet dset:=⟨by decide,by decide,by decide⟩
theorem ok_mset:okSet mset:=⟨by decide,by decide,by decide⟩
def numF(n:Nat)(l:List UInt8):Nat:=l.foldl (λn b=>n*10+(b.toNat-48)) n
def numL(l:List UInt8):Nat:=numF 0 l
theorem decFrom_num:∀(l:List UInt8) (n:Nat),digB l->decFrom n l=some (numF n l)
 | [],n,_=>rfl
 | b::l,n,h=>by
   unfold digB at h;rw[List.all_cons,zAa]at h;unfold decFrom;rw[digitVal_mk (of_decide_eq_true h.1)];exact decFrom_num l _ h.2
theorem numF_lt:∀(l:List UInt8) (n a:Nat),digB l->n<10^a->numF n l<10^(a+l.length)
 | [],n,a,_,h=>h
 | b::l,n,a,hd,h=>by
   unfold digB at hd;rw[List.all_cons,zAa]at hd;have hb:=of_decide_eq_true hd.1;have ih:=numF_lt l (n*10+(b.toNat-48)) (a+1) hd.2 (by rw[Nat.pow_succ];omega);rw[zAf,show a+(l.length+1)=a+1+l.length by omega];exact ih
theorem numL_lt(l:List UInt8)(h:digB l):numL l<10^l.length:=by
 have:=numF_lt l 0 0 h (by decide);rw[Nat.zero_add]at this;exact this
theorem parse_digits(l:List UInt8)(h:digB l)(h1:l≠[])(h2:l.length<=18):parseIntB 64 l=.ok (numL l:Int):=by
 rw[parseIntB_64,atoiAll_short l h2];cases l with
 | nil=>exact absurd rfl h1
 | cons b r=>
   have hb:48<=b.toNat/\b.toNat<=57:=by
    unfold digB at h;rw[List.all_cons,zAa]at h;exact of_decide_eq_true h.1
   have n1:¬b=45:=by rintro rfl;simp at hb
   have n2:¬b=43:=by rintro rfl;simp at hb
   unfold atoi;simp only[beq_iff_eq,n1,n2,if_false];rw[show decNat (b::r)=decFrom 0 (b::r)from rfl,decFrom_num _ _ h];rfl
def magN(d:Dt):Nat:=numL d.b0.data.toList*10^d.c0.toNat
def magOk(d:Dt):Bool:=decide (magN d<=10000000000000000)
end Go.Proofs.YtoghlpcacfnjbaaGreatDoor
end
section
namespace Go.Proofs.YtoghlpcacfnjbaaGreatDoor
open Go.RowKit
theorem ParseInt_dig(s:ByteArray)(w:World)(h:digB s.data.toList)(h1:1<=s.size)(h2:s.size<=18) :
 Calls Tryz.prog 240 #[.string s,.int .i64 10,.int .i64 64] w λe w'=>e=.returned (.tuple #[.int .i64 (numL s.data.toList:Int),.nilIface])/\Below w.heap.size w w':=by
 have e:s.data.toList.length=s.size:=rfl;refine(Tryz.strconv_ParseInt_10_at64_ok s (by omega) _ (parse_digits _ h (by intro h0;rw[h0]at e;simp at e;omega) (by omega)) w).mono ?_;rintro e w' ⟨rfl,rfl|⟨t,rfl⟩⟩
 . exact⟨rfl,Below.refl _ _⟩
 . exact⟨rfl,Lib.bytesWorld_below _ _ _⟩
theorem Contains_X(s:ByteArray)(w:World):Calls Tryz.prog 84 #[.string s,.string ⟨#[88]⟩] w λe w'=>e=.returned (.bool (hasX s.data.toList))/\w=w':=by
 refine(Tryz.strings_Contains_one s 88 w).mono ?_;rintro e w' ⟨rfl,rfl⟩;exact⟨by rw[<-Lib.contains_iff_indexByte];rfl,rfl⟩
theorem only_d(s:ByteArray)(w:World):Calls Tryz.prog 212 #[.string s,.string ⟨#[48,49,50,51,52,53,54,55,56,57]⟩] w λe w'=>e=.returned (.bool (digB s.data.toList))/\Below w.heap.size w w':=by
 rw[<-onlyB_d];exact only_is s dset w ok_dset
theorem only_m(s:ByteArray)(w:World):Calls Tryz.prog 212 #[.string s,.string ⟨#[88,48,49,50,51,52,53,54,55,56,57]⟩] w λe w'=>e=.returned (.bool (mskB s.data.toList))/\Below w.heap.size w w':=by
 rw[<-onlyB_m];exact only_is s mset w ok_mset
theorem dropWhile_nil{p:UInt8->Bool}:∀l:List UInt8,(l.dropWhile p).isEmpty=l.all p
 | []=>rfl
 | a::l=>by
   rw[List.all_cons];cases h:p a
   . rw[List.dropWhile_cons_of_neg (by simp[h])];rfl
   . rw[List.dropWhile_cons_of_pos h,dropWhile_nil l];rfl
theorem all_dropWhile{p:UInt8->Bool}:∀l:List UInt8,(l.dropWhile p).all p=l.all p
 | []=>rfl
 | a::l=>by
   cases h:p a
   . rw[List.dropWhile_cons_of_neg (by simp[h])]
   . rw[List.dropWhile_cons_of_pos h,all_dropWhile l,List.all_cons,h];rfl
theorem trim_zer(l:List UInt8):(Lib.trimB l 48).isEmpty=zerB l:=by
 unfold Lib.trimB Lib.trimLeftB Lib.trimRightB zerB;rw[dropWhile_nil,List.all_reverse,all_dropWhile,List.all_reverse]
end Go.Proofs.YtoghlpcacfnjbaaGreatDoor
end
section
namespace Go.Ev
open Go Go.Proofs Go.RowKit
variable{id:Nat}
section
variable{C:bg}{o:aB}{D:Nat->Prop}{m:Nat->bv}{w:World}(hi:dX cfg D m C o w)
include hi
theorem zj{cs:List AV}{rw:Bool}{g:Option Nat}(hid:id<14)(hx:g0.at id=.a cs rw g):∃c e fz,w.heap[(m id).a0]? = some (.cells c e fz)/\(∀i v,cs[i]? = some v->c[(m id).b0+i]? = some (aj m v))/\∀s,g=some s->(m id).b0=0/\c.size=(m id).c0*s:=by
 obtain⟨h1,h2⟩:=hi.b0 id hid;have:=hi.a0 id h1;rw[h2,show cfg.a0.at id=g0.at id from rfl,hx]at this;obtain⟨c,e,fz,hb,hc⟩:=this;exact⟨c,e,fz,hb,hc.c0,λs hs=>(hc.d0 s hs).2⟩
theorem Am{cs:List AV}{rw:Bool}{g:Option Nat}(hid:id<14)(hx:g0.at id=.a cs rw g){i:Nat}{v:AV}(hv:cs[i]? = some v):w.cell? ⟨(m id).a0,(m id).b0+i,none⟩=some (aj m v):=by
 obtain⟨c,e,fz,hb,hc,_⟩:=zj hi hid hx;simp[World.cell?,hb,hc i v hv]
theorem Nq:Go.Proofs.YtoghlpcacfnjbaaGreatDoor.Glob w:=by
 have gl:∀g,g<11->(m g).a0=g/\(m g).b0=0/\(m g).c0=1:=λg hg=>(hi.c0 g hg).2;have cell:∀{g:Nat} {cs:List AV} {rw:Bool} {gr:Option Nat} (_:g<11) (_:g0.at g=.a cs rw gr) {i:Nat} {v:AV} (_:cs[i]? = some v),w.cell? ⟨g,i,none⟩=some (aj m v):=λ{g cs rw gr} hg hx {i v} hv=>by
  have:=Am hi (Nat.lt_of_lt_of_le hg (by decide)) hx hv;obtain⟨a,b,_⟩:=gl g hg;rw[a,b,Nat.zero_add]at this;exact this
 have err:∀(g id:Nat) (n:String) (hg:g<11) (hx:g0.at g=.a [.k 345 (.g id 0)] false (some 1)) (hn:Tryz.prog.globalNamed n=some g),∃tp p,World.var? Tryz.prog w n=some #[.iface tp p]:=λg id n hg hx hn=>by
  obtain⟨c,e,fz,hb,hc,hs⟩:=zj hi (Nat.lt_of_lt_of_le hg (by decide)) hx;obtain⟨a,b,d⟩:=gl g hg;have h0:=hc 0 _ rfl;rw[b]at h0;have hsz:=(hs 1 rfl).2;rw[d]at hsz;refine⟨345,aj m (.g id 0),?_⟩;rw[a]at hb;have e:c=#[.iface 345 (aj m (.g id 0))]:=by
   apply Array.ext_getElem?;intro i;cases i with
   | zero=>rw[h0];simp[aj]
   | succ i=>rw[Array.getElem?_eq_none (by omega),Array.getElem?_eq_none (by simp)]
  unfold World.var?;rw[hn];simp only[Option.bind_some,hb,e]
 refine⟨?_,λi hi'=>?_,err 3 12 _ (by decide) rfl (by kernel_rfl),err 4 13 _ (by decide) rfl (by kernel_rfl),λi hi'=>?_⟩
 . have h11:∀(i:Nat) (n:Int),[i64 4,i64 1,i64 100,i64 (-1),i64 400,i64 1][i]? = some (i64 n)->w.cell? ⟨(m 11).a0,(m 11).b0+i,none⟩=some (.int .i64 n):=λi n hv=>by
    have:=Am hi (id:=11) (by decide) rfl hv;simpa [i64,aj]using this
   refine⟨(m 11).a0,(m 11).b0,3,?_,?_,?_,?_,?_,?_,?_⟩
   . have:=cell (g:=5) (by decide) rfl (i:=0) rfl;simpa [aj,iR]using this
   . exact h11 0 4 rfl
   . exact h11 1 1 rfl
   . exact h11 2 100 rfl
   . exact h11 3 (-1) rfl
   . exact h11 4 400 rfl
   . exact h11 5 1 rfl
 . have:(List.map i64 [31,28,31,30,31,30,31,31,30,31,30,31])[i]? = some (i64 (Go.Proofs.YtoghlpcacfnjbaaGreatDoor.len0.getD i 0)):=by
    have:i=0\/i=1\/i=2\/i=3\/i=4\/i=5\/i=6\/i=7\/i=8\/i=9\/i=10\/i=11:=by omega
    rcases this with rfl|rfl|rfl|rfl|rfl|rfl|rfl|rfl|rfl|rfl|rfl|rfl<;>rfl
   have:=cell (g:=1) (by decide) rfl this;simpa [i64,aj]using this
 . have:(List.map i64 [3,3,6,3,9,3,12,3,3,3,6,3,9,3,12,3,9,3,12,3,3,3,6,3,1,3,4,3,7,3,10,3,1,4,5,4,9,4,1,6,7,6])[i]? = some (i64 (Go.Proofs.YtoghlpcacfnjbaaGreatDoor.spans0.getD i 0)):=by
    have:∀i,i<42->(List.map i64 [3,3,6,3,9,3,12,3,3,3,6,3,9,3,12,3,9,3,12,3,3,3,6,3,1,3,4,3,7,3,10,3,1,4,5,4,9,4,1,6,7,6])[i]? = some (i64 (Go.Proofs.YtoghlpcacfnjbaaGreatDoor.spans0.getD i 0)):=by
     intro i h;rw[List.getElem?_map];have hl:∀i,i<42->[3,3,6,3,9,3,12,3,3,3,6,3,9,3,12,3,9,3,12,3,3,3,6,3,1,3,4,3,7,3,10,3,1,4,5,4,9,4,1,6,7,6][i]? = some (Go.Proofs.YtoghlpcacfnjbaaGreatDoor.spans0.getD i 0):=by decide
     rw[hl i h];rfl
    exact this i hi'
   have:=cell (g:=2) (by decide) rfl this;simpa [i64,aj]using this
end
theorem LZ{f:Nat}(hb:bj tab f=some (dH f,aL f))(args:Array Value)(w:World):(callFunc f args).run Tryz.prog w=.ok (.enter f args) w:=by
 simp only[bj,ag,zAc,Prod.mk.injEq]at hb;obtain⟨fn',hfn,c',hbody,e1,e2⟩:=hb;obtain⟨hf,hname⟩:=dI.d0.fn f fn' hfn;simp[callFunc,hf,hname,hbody]
theorem dy{f:Nat}{args:List AV}{v:AV}(hb:bj tab f=some (dH f,aL f))(hv:aC v=[])(h:∀(m:Nat->bv) (w:World),Go.Proofs.YtoghlpcacfnjbaaGreatDoor.Glob w->Calls Tryz.prog f (ap m args).toArray w λe w'=>e=.returned (aj m v)/\Below w.heap.size w w'):bu Tryz.prog cfg f args [] v []:=λD m w hi hok=>
 .inl ⟨LZ hb _ w,(h m w (Nq hi)).mono λe w' ⟨he,hbl⟩=>⟨_,he,D,m,rfl,bM hv,(kk hi hbl).1⟩⟩
end Go.Ev
end
section
namespace Go.Ev
open Go Go.Proofs Go.Proofs.YtoghlpcacfnjbaaGreatDoor
abbrev dt(ng lg:Bool)(s:List UInt8)(e g:Int)(mo da:List UInt8)(a b c:Int):Dt:=⟨ng,lg,⟨⟨s⟩⟩,e,g,⟨⟨mo⟩⟩,⟨⟨da⟩⟩,a,b,c⟩
theorem eU(c:UInt8)(s:List UInt8)(a b:Int):aY (c::s) a b=aY s a b+if a<=(c.toNat:Int)/\(c.toNat:Int)<=b then 1 else 0:=by
 unfold aY;rw[List.filter_cons];by_cases h:a<=(c.toNat:Int)/\(c.toNat:Int)<=b
 . rw[if_pos (by simp[h.1,h.2]),if_pos h,zAf]
 . rw[if_neg (by simpa using h),if_neg h];rfl
theorem Ed(s:List UInt8):(hasX s=true↔aY s 88 88≠0):=by
 unfold hasX;induction s with
 | nil=>simp[aY]
 | cons c s ih=>
   rw[eU,List.contains_cons,Bool.or_eq_true];constructor
   . rintro(h|h)
     . rw[beq_iff_eq]at h;subst h;simp
     . have:=ih.1 h;omega
   . intro h;by_cases hc:(88:Int)<=(c.toNat:Int)/\(c.toNat:Int)<=88
     . left
       rw[beq_iff_eq];apply UInt8.toNat_inj.1;show 88=c.toNat;omega
     . rw[if_neg hc]at h;exact .inr (ih.2 (by omega))
theorem wK(s:List UInt8):digB s=dV s:=by
 unfold digB dV;congr 1
 funext b
 unfold dB;rw[Bool.eq_iff_iff];simp
theorem Zj(s:List UInt8):dV s=true↔aY s 48 57=s.length:=by
 refine⟨λh=>?_,oV⟩;unfold aY;rw[List.length_filter_eq_length_iff];intro c hc;have:=List.all_eq_true.1 h c hc;unfold dB at this;simp at this ⊢;omega
theorem XB(s:List UInt8):mskB s=true↔aY s 48 57+aY s 88 88=s.length:=by
 unfold mskB;induction s with
 | nil=>simp[aY]
 | cons c s ih=>
   have h1:=rP s 48 57;have h2:aY s 48 57+aY s 88 88<=s.length:=by
    clear ih h1;induction s with
    | nil=>simp[aY]
    | cons c s ih=>rw[eU,eU,zAf];(repeat' split)<;>omega
   rw[eU,eU,List.all_cons,zAa,ih,zAb,zAf];unfold mb;constructor
   . rintro⟨h,h'⟩
     (repeat' split)<;>omega
   . intro h;revert h
     (repeat' split)<;>omega
theorem ZF(s:List UInt8):zerB s=true↔aY s 48 48=s.length:=by
 unfold zerB;induction s with
 | nil=>simp[aY]
 | cons c s ih=>
   have h1:=rP s 48 48;rw[eU,List.all_cons,zAa,ih,beq_iff_eq,zAf];constructor
   . rintro⟨rfl,h⟩;rw[if_pos (by decide)];omega
   . intro h;by_cases hc:(48:Int)<=(c.toNat:Int)/\(c.toNat:Int)<=48
     . rw[if_pos hc]at h;exact⟨UInt8.toNat_inj.1 (show c.toNat=48 by omega),by omega⟩
     . rw[if_neg hc]at h;omega
theorem BX(s:List UInt8):Go.Proofs.YtoghlpcacfnjbaaGreatDoor.numL s=Go.Ev.numL s:=rfl
theorem e_(a b:UInt8)(x y:Nat)(hx:x<256)(hy:y<256):ae [a,b] [UInt8.ofNat x,UInt8.ofNat y]=decide (a.toNat=x/\b.toNat=y):=by
 rw[bV,Bool.eq_iff_iff,beq_iff_eq,zAb];have e1:(UInt8.ofNat x).toNat=x:=by simp;omega
 have e2:(UInt8.ofNat y).toNat=y:=by simp;omega
 constructor
 . intro h;simp only[List.cons.injEq,and_true]at h;rw[h.1,h.2];exact⟨e1,e2⟩
 . rintro⟨h1,h2⟩;simp only[List.cons.injEq,and_true];exact⟨UInt8.toNat_inj.1 (h1.trans e1.symm),UInt8.toNat_inj.1 (h2.trans e2.symm)⟩
theorem Nr(mo:List UInt8):seasL mo=aR mo:=by
 match mo with
 | []=>rfl
 | [a]=>simp[seasL,aR,ae]
 | a::b::c::r=>simp[seasL,aR,ae]
 | [a,b]=>
   unfold aR;simp only[e_ a b _ _ (by decide:(50:Nat)<256) (by decide:(49:Nat)<256),e_ a b 50 50 (by decide) (by decide),e_ a b 50 51 (by decide) (by decide),e_ a b 50 52 (by decide) (by decide),e_ a b 50 53 (by decide) (by decide),e_ a b 50 54 (by decide) (by decide),e_ a b 50 55 (by decide) (by decide),e_ a b 50 56 (by decide) (by decide),e_ a b 50 57 (by decide) (by decide),
    e_ a b 51 48 (by decide) (by decide),e_ a b 51 49 (by decide) (by decide),e_ a b 51 50 (by decide) (by decide),e_ a b 51 51 (by decide) (by decide),e_ a b 51 52 (by decide) (by decide),e_ a b 51 53 (by decide) (by decide),e_ a b 51 54 (by decide) (by decide),e_ a b 51 55 (by decide) (by decide),e_ a b 51 56 (by decide) (by decide),e_ a b 51 57 (by decide) (by decide),e_ a b 52 48 (by decide) (by decide),e_ a b 52 49 (by decide) (by decide)]
   unfold seasL;by_cases h:(48<=a.toNat/\a.toNat<=57)/\(48<=b.toNat/\b.toNat<=57)/\21<=10*((a.toNat:Int)-48)+((b.toNat:Int)-48)/\10*((a.toNat:Int)-48)+((b.toNat:Int)-48)<=41
   . simp only[if_pos h];obtain⟨n,hn⟩:∃n:Nat,n=a.toNat:=⟨_,rfl⟩;obtain⟨k,hk⟩:∃k:Nat,k=b.toNat:=⟨_,rfl⟩;rw[<-hn,<-hk]at h ⊢;clear hn hk;have hna:n=50\/n=51\/n=52:=by omega
     have hkb:k=48\/k=49\/k=50\/k=51\/k=52\/k=53\/k=54\/k=55\/k=56\/k=57:=by omega
     rcases hna with rfl|rfl|rfl<;>rcases hkb with rfl|rfl|rfl|rfl|rfl|rfl|rfl|rfl|rfl|rfl<;>first|(exfalso;omega)|rfl
   . simp only[if_neg h];have no:∀x y:Nat,(48<=x/\x<=57)/\(48<=y/\y<=57)/\21<=10*((x:Int)-48)+((y:Int)-48)/\10*((x:Int)-48)+((y:Int)-48)<=41->decide (a.toNat=x/\b.toNat=y)=false:=λx y hxy=>by
      rw[decide_eq_false_iff_not];rintro⟨rfl,rfl⟩;exact h hxy
     simp only[no 50 49 (by omega),no 50 50 (by omega),no 50 51 (by omega),no 50 52 (by omega),no 50 53 (by omega),no 50 54 (by omega),no 50 55 (by omega),no 50 56 (by omega),no 50 57 (by omega),no 51 48 (by omega),no 51 49 (by omega),no 51 50 (by omega),no 51 51 (by omega),no 51 52 (by omega),no 51 53 (by omega),no 51 54 (by omega),no 51 55 (by omega),no 51 56 (by omega),no 51 57 (by omega),no 52 48 (by omega),no 52 49 (by omega),cond_false]
end Go.Ev
end
section
namespace Go.Proofs.YtoghlpcacfnjbaaGreatDoor
open Go.RowKit
theorem toList_ne(s:ByteArray)(h:0<s.size):s.toList.isEmpty=false:=by
 rw[ByteArray.toList_eq];have e:s.data.size=s.size:=rfl;cases hl:s.data.toList with
 | nil=>
   have h3:=congrArg List.length hl;simp at h3;have h2:s.size=0:=by rw[<-e,h3];rfl
   omega
 | cons a l=>rfl
set_option maxHeartbeats 1000000 in
theorem masks_Check(s:ByteArray)(w:World)(hs:1<=s.size)(hs2:s.size<=18)(hm:∀(i:Nat) (h:i<s.size),mb s[i]) :
 Calls Tryz.prog 158 #[.string s] w λe w'=>e=.returned (.int .i64 0)/\Below w.heap.size w w':=by
 have hne:=toList_ne s (by omega);have HM:=Lib.hid hm;clear hm;go_enter Tryz.func158,Tryz.ntmps158
 go_wp2;go_loopw [] (λwr=>∃pos,pos<=s.size/\wr=w.iter s pos) (λwr=>s.size-wr.iterPos w.heap.size)
 case atStart=>exact⟨0,by omega,rfl⟩
 case round=>
  obtain⟨pos,hp,rfl⟩:=hrel;by_cases hlt:pos<s.size
  . have hb:=HM.out pos hlt;unfold mb at hb;have nx:=λty=>run_next_ascii (P:=Tryz.prog) w s pos ty hlt (by omega);generalize hc:s[pos]=c at *;clear hc;rcases hb with hb|⟨hb1,hb2⟩
    . have t0:((c.toNat:Int) !=88)=false:=by simp[hb]
      go_wp2;exact⟨⟨pos+1,by omega,rfl⟩,by simp;omega⟩
    . have t0:((c.toNat:Int) !=88)=true:=by simp;omega
      have t1:decide ((c.toNat:Int)<48)=false:=by simp;omega
      have t2:decide (57<(c.toNat:Int))=false:=by simp;omega
      go_wp2;exact⟨⟨pos+1,by omega,rfl⟩,by simp;omega⟩
  . have nx:=λty=>run_next_end (P:=Tryz.prog) w s pos ty hlt;go_wp2;go_ret
    exact⟨by simp,biter _ _⟩
theorem masks_filled(s:ByteArray)(x:Int)(w:World)(hx:48<=x/\x<=57)(hs2:s.size<=18)(hm:∀(i:Nat) (h:i<s.size),mb s[i]) :
 Calls Tryz.prog 268 #[.string s,.int .u8 x] w λe w'=>e=.returned (.int .i64 (fillv x s.data.toList))/\Below w.heap.size w w':=by
 have HM:=Lib.hid hm;obtain⟨C,w2,hconv,hcell,hB2,hz2⟩:=conv_bytes w s;have HC:=Lib.hid hcell;have BD:=Lib.hid (fillv_bd18 hx s hs2 hm);have hx1:=hx.1;have hx2:=hx.2;clear hm hcell;go_enter Tryz.func268,Tryz.ntmps268
 go_wp2;go_loop [5,11] (λn i=>∃k:Nat,k<=s.size/\i=.int .i64 k/\n=.int .i64 (fillv x (s.data.toList.take k))) (λ_ i=>s.size-(intOf i).toNat)
 case atStart=>exact⟨0,by omega,rfl,rfl⟩
 case round=>
  obtain⟨k,hk,rfl,rfl⟩:=hrel;by_cases hlt:k<s.size
  . obtain⟨b1,b2⟩:=BD.out k hlt;have hc0:=HC.out k hlt;have hb0:=HM.out k hlt;have S:=Lib.hid (show fillv x (s.data.toList.take (k+1))=10*fillv x (s.data.toList.take k)+dig x s[k]by rw[take_snocB s k hlt,fillv_snoc]);unfold mb at hb0;generalize s[k]=c at *;rcases hb0 with hb0|⟨hb1,hb2⟩
    . have t0:((c.toNat:Int)==88)=true:=by simp[hb0]
      go_wp2;go_round
      case rel=>exact⟨k+1,by omega,by go_num,by rw[S.out,dig_X hb0]⟩
      case measure=>simp[intOf];omega
    . have t0:((c.toNat:Int)==88)=false:=by simp;omega
      go_wp2;go_round
      case rel=>exact⟨k+1,by omega,by go_num,by rw[S.out,dig_D (by omega)]⟩
      case measure=>simp[intOf];omega
  . go_wp2;go_ret
    exact⟨ret_int (by rw[List.take_of_length_le (by simp;have e:s.data.size=s.size:=rfl;omega)]),by(repeat(first|exact Below.refl _ _|assumption|refine balloc ?_ _|refine Below.drew ?_|refine bdrewN ?_ _|(refine bset ?_ (by first|exact Nat.le_refl _|(simp;done)|(simp;omega)) _)|refine bnext ?_ (by assumption)))⟩
abbrev dArr(a b c d:Int):Array Value:=#[.int .u8 a,.int .u8 b,.int .u8 c,.int .u8 d,.int .u8 0,.int .u8 0,.int .u8 0,.int .u8 0,.int .u8 0,.int .u8 0,.int .u8 0,.int .u8 0,.int .u8 0,.int .u8 0,.int .u8 0,.int .u8 0,.int .u8 0,.int .u8 0]
theorem masks_filled_d(s:ByteArray)(w:World)(hs2:s.size<=18)(hm:∀(i:Nat) (h:i<s.size),48<=s[i].toNat/\s[i].toNat<=57) :
 Calls Tryz.prog 268 #[.string s,.int .u8 0] w λe w'=>e=.returned (.int .i64 (fillv 48 s.data.toList))/\Below w.heap.size w w':=by
 have HM:=Lib.hid hm;obtain⟨C,w2,hconv,hcell,hB2,hz2⟩:=conv_bytes w s;have HC:=Lib.hid hcell;have BD:=Lib.hid (fillv_bd18 (x:=48) (by omega) s hs2 (λi h=>.inr (hm i h)));clear hm hcell;go_enter Tryz.func268,Tryz.ntmps268
 go_wp2;go_loop [5,11] (λn i=>∃k:Nat,k<=s.size/\i=.int .i64 k/\n=.int .i64 (fillv 48 (s.data.toList.take k))) (λ_ i=>s.size-(intOf i).toNat)
 case atStart=>exact⟨0,by omega,rfl,rfl⟩
 case round=>
  obtain⟨k,hk,rfl,rfl⟩:=hrel;by_cases hlt:k<s.size
  . obtain⟨b1,b2⟩:=BD.out k hlt;have hc0:=HC.out k hlt;obtain⟨hb1,hb2⟩:=HM.out k hlt;have S:=Lib.hid (show fillv 48 (s.data.toList.take (k+1))=10*fillv 48 (s.data.toList.take k)+dig 48 s[k]by rw[take_snocB s k hlt,fillv_snoc]);generalize s[k]=c at *;have t0:((c.toNat:Int)==88)=false:=by simp;omega
    go_wp2;go_round
    case rel=>exact⟨k+1,by omega,by go_num,by rw[S.out,dig_D (by omega)]⟩
    case measure=>simp[intOf];omega
  . go_wp2;go_ret
    exact⟨ret_int (by rw[List.take_of_length_le (by simp;have e:s.data.size=s.size:=rfl;omega)]),by(repeat(first|exact Below.refl _ _|assumption|refine balloc ?_ _|refine Below.drew ?_|refine bdrewN ?_ _|(refine bset ?_ (by first|exact Nat.le_refl _|(simp;done)|(simp;omega)) _)|refine bnext ?_ (by assumption)))⟩
theorem masks_value(s:ByteArray)(a b c d:Int)(w:World)(hs:s.size=4)(ha:48<=a/\a<=57)(hb:48<=b/\b<=57)(hc:48<=c/\c<=57)(hd:48<=d/\d<=57) :
 Calls Tryz.prog 280 #[.string s,.agg (dArr a b c d)] w λe w'=>e=.returned (.int .i64 (1000*(a-48)+100*(b-48)+10*(c-48)+(d-48)))/\Below w.heap.size w w':=by
 have hs2:(s.size:Int)=4:=by omega
 have byt:∀z:Int,48<=z/\z<=57->∃x:UInt8,(x.toNat:Int)=z/\48<=x.toNat/\x.toNat<=57:=by
  intro z hz;refine⟨UInt8.ofNat z.toNat,?_⟩;have:(UInt8.ofNat z.toNat).toNat=z.toNat:=by simp;omega
  rw[this];omega
 obtain⟨x0,rfl,p0⟩:=byt a ha;obtain⟨x1,rfl,p1⟩:=byt b hb;obtain⟨x2,rfl,p2⟩:=byt c hc;obtain⟨x3,rfl,p3⟩:=byt d hd;have hv:fillv 48 [x0,x1,x2,x3]=1000*((x0.toNat:Int)-48)+100*((x1.toNat:Int)-48)+10*((x2.toNat:Int)-48)+((x3.toNat:Int)-48):=by
  simp only[fillv,List.foldl_cons,List.foldl_nil];rw[dig_D (by omega),dig_D (by omega),dig_D (by omega),dig_D (by omega)];omega
 have HF:=Lib.hid (λW:World=>masks_filled_d ⟨#[x0,x1,x2,x3]⟩ W (show 4<=18 by decide) (λi h=>by
  have h4:i<4:=h;have:i=0\/i=1\/i=2\/i=3:=by omega
  rcases this with rfl|rfl|rfl|rfl
  . exact p0
  . exact p1
  . exact p2
  . exact p3))
 go_enter Tryz.func280,Tryz.ntmps280
 go_upto_region 1 with fail
 have cl:∀(j:Nat) (hj:j<[x0,x1,x2,x3].length),(w.alloc (.cells (dArr x0.toNat x1.toNat x2.toNat x3.toNat) 318)).cell? (Addr.add ⟨w.heap.size,0,none⟩ j)=some (.int .u8 (([x0,x1,x2,x3][j].toNat:Nat):Int)):=by
  intro j hj;have hadd:(⟨w.heap.size,0,none⟩:Addr).add j=⟨w.heap.size,j,none⟩:=by unfold Addr.add;split<;>simp_all
  rw[hadd,cell_of_row _ _ j _ _ (0,0) (heap_alloc_last w _)];have h4:j<4:=hj;have:j=0\/j=1\/j=2\/j=3:=by omega
  rcases this with rfl|rfl|rfl|rfl<;>rfl
 have cv:=run_convert_bytes_back (P:=Tryz.prog) (w.alloc (.cells (dArr x0.toNat x1.toNat x2.toNat x3.toNat) 318)) 264 9 5 ⟨w.heap.size,0,none⟩ 18 [x0,x1,x2,x3] Tryz.underlying264 Tryz.underlying5 Tryz.underlying9 cl;clear cl;have cv2:(convert 264 9 (.slice (some ⟨w.heap.size,0,none⟩) 4 18)).run Tryz.prog (w.alloc (.cells (dArr x0.toNat x1.toNat x2.toNat x3.toNat) 318))=.ok (.string ⟨#[x0,x1,x2,x3]⟩) (w.alloc (.cells (dArr x0.toNat x1.toNat x2.toNat x3.toNat) 318)):=cv;clear cv;generalize hD:dArr x0.toNat x1.toNat x2.toNat x3.toNat=D at *;generalize hS:(⟨#[x0,x1,x2,x3]⟩:ByteArray)=S at *;have hl:S.data.toList=[x0,x1,x2,x3]:=by rw[<-hS]
 have V:=Lib.hid (show fillv 48 S.data.toList=1000*((x0.toNat:Int)-48)+100*((x1.toNat:Int)-48)+10*((x2.toNat:Int)-48)+((x3.toNat:Int)-48)by rw[hl,hv]);clear hl hv hS hD;go_wp2_with (first|(go_at_call 268;refine(HF.out _).mono ?_;rintro e w1 ⟨rfl,hb⟩;obtain⟨hc,hf⟩:=bcell hb;have hz:=hb.size;(try simp only[World.size_alloc,World.size_setCell,World.size_drew]at hz hc hf);(try(have hl0:w.heap.size<w1.heap.size:=(by omega);have hc0:=λo:Nat=>hc (w.heap.size) o (by omega);have hf0:=λo:Nat=>hf (w.heap.size) o (by omega)));(try(have hl1:w.heap.size+1<w1.heap.size:=(by omega);have hc1:=λo:Nat=>hc (w.heap.size+1) o (by omega);have hf1:=λo:Nat=>hf (w.heap.size+1) o (by omega)));(try(have hl2:w.heap.size+2<w1.heap.size:=(by omega);have hc2:=λo:Nat=>hc (w.heap.size+2) o (by omega);have hf2:=λo:Nat=>hf (w.heap.size+2) o (by omega)));(try(have hl3:w.heap.size+3<w1.heap.size:=(by omega);have hc3:=λo:Nat=>hc (w.heap.size+3) o (by omega);have hf3:=λo:Nat=>hf (w.heap.size+3) o (by omega)));(try(have hl4:w.heap.size+4<w1.heap.size:=(by omega);have hc4:=λo:Nat=>hc (w.heap.size+4) o (by omega);have hf4:=λo:Nat=>hf (w.heap.size+4) o (by omega)))))
 go_ret
 exact⟨by rw[<-V.out];simp,by(repeat(first|exact Below.refl _ _|assumption|refine balloc ?_ _|refine Below.drew ?_|refine bdrewN ?_ _|(refine bset ?_ (by first|exact Nat.le_refl _|(simp;done)|(simp;omega)) _)|refine bnext ?_ (by assumption)))⟩
end Go.Proofs.YtoghlpcacfnjbaaGreatDoor
end
section
namespace Go.Ev
open Go Go.Proofs
def dg(n:Int)(i:Nat):Int:=n/10^(3-i)%10
abbrev X0:List AV:=[.a .u8 0,.a .u8 0,.a .u8 0,.a .u8 0,.a .u8 0,.a .u8 0,.a .u8 0,.a .u8 0,.a .u8 0,.a .u8 0,.a .u8 0,.a .u8 0,.a .u8 0,.a .u8 0]
def Wq:dP:=λargs=>match args with
 | [.d [c0,c1,c2,c3],.a .i64 n]=>some (aH [ab 0 n,ab n 9999] (.a0 (.h (.a .u8 (Int.add 48 (dg n 0))::.a .u8 (Int.add 48 (dg n 1))::.a .u8 (Int.add 48 (dg n 2))::.a .u8 (Int.add 48 (dg n 3))::X0))))
 | _=>none
def U1:aQ:=bb T9 279 Wq
def SH(v:Int):Bool:=ab 48 v&&ab v 57
def db(a b c d:Int):Int:=1000*(a-48)+100*(b-48)+10*(c-48)+(d-48)
def WJ:dP:=λargs=>match args with
 | [.d [c0,c1,c2,c3],.h (.a .u8 a::.a .u8 b::.a .u8 c::.a .u8 d::[.a .u8 0,.a .u8 0,.a .u8 0,.a .u8 0,.a .u8 0,.a .u8 0,.a .u8 0,.a .u8 0,.a .u8 0,.a .u8 0,.a .u8 0,.a .u8 0,.a .u8 0,.a .u8 0])]=>some (aH [SH a,SH b,SH c,SH d] (.a0 (.a .i64 (db a b c d))))
 | _=>none
def U2:aQ:=bb U1 280 WJ
theorem Yj{n:Int}(h:0<=n):dg n 0=n/1000%10/\dg n 1=n/100%10/\dg n 2=n/10%10/\dg n 3=n%10:=by
 refine⟨rfl,rfl,rfl,?_⟩;show n/1%10=n%10;rw[Int.ediv_one]
def OW:bj tab 280=some (dH 280,aL 280):=by kernel_rfl
theorem V0:ak Tryz.prog cfg U1:=by
 refine au gx λargs t v he hv=>?_;unfold Wq at he;split at he
 . rename_i c0 c1 c2 c3 n;cases he;obtain⟨⟨h1,h2,-⟩,hv⟩:=aF hv;rw[aq]at h1 h2;cases hv;refine jD gx ai (bE 1000662522000252200025220002522000) (R:=λQ=>(λ(A:AV)(B C:Int)=>(λ(E F:Int)=>(λ(G H:Int)=>(λ(I:Int)=>af .i64 B/\af .u8 B/\af .i64 C/\af .i64 E/\af .u8 E/\af .i64 F/\af .i64 G/\af .u8 G/\af .i64 H/\af .i64 I/\af .u8 I/\af .i64 (Int.tdiv H 10)/\Q (.h [.a .u8 I,.a .u8 G,.a .u8 E,.a .u8 B,A,A,A,A,A,A,A,A,A,A,A,A,A,A])) (Int.add 48 (Int.tmod H 10))) (Int.add 48 (Int.tmod F 10)) (Int.tdiv F 10)) (Int.add 48 (Int.tmod C 10)) (Int.tdiv C 10)) (.a .u8 0) (Int.add 48 (Int.tmod n 10)) (Int.tdiv n 10)) (λ_=>by kernel_rfl) (hi:=(by simp[aC,bw,X0])) λQ' hQ=>?_;try dsimp only
   have e1:n.tdiv 10=n/10:=Int.tdiv_eq_ediv_of_nonneg h1;have e2:(n/10).tdiv 10=n/100:=by rw[Int.tdiv_eq_ediv_of_nonneg (by omega)];omega
   have e3:(n/100).tdiv 10=n/1000:=by rw[Int.tdiv_eq_ediv_of_nonneg (by omega)];omega
   have e4:(n/1000).tdiv 10=n/10000:=by rw[Int.tdiv_eq_ediv_of_nonneg (by omega)];omega
   have m1:n.tmod 10=n%10:=Int.tmod_eq_emod_of_nonneg h1;have m2:(n/10).tmod 10=n/10%10:=Int.tmod_eq_emod_of_nonneg (by omega);have m3:(n/100).tmod 10=n/100%10:=Int.tmod_eq_emod_of_nonneg (by omega);have m4:(n/1000).tmod 10=n/1000%10:=Int.tmod_eq_emod_of_nonneg (by omega);rw[e1,e2,e3,e4,m1,m2,m3,m4];obtain⟨d0,d1,d2,d3⟩:=Yj h1;simp only[az,reduceCtorEq]
   (repeat' first|exact trivial|refine⟨?_,?_⟩|intro)<;>first|omega|skip
   refine hQ _ ?_;simp only[d0,d1,d2,d3,X0,qW]
 . cases he
theorem L0:ak Tryz.prog cfg U2:=by
 refine au V0 λargs t v he hv=>?_;unfold WJ at he;split at he
 . rename_i c0 c1 c2 c3 a b c d;cases he;obtain⟨⟨h1,h2,h3,h4,-⟩,hv⟩:=aF hv;unfold SH at h1 h2 h3 h4;rw[zAa,aq,aq]at h1 h2 h3 h4;cases hv;refine dy OW (by simp[aC]) λm w hG=>?_;have:=Go.Proofs.YtoghlpcacfnjbaaGreatDoor.masks_value ⟨⟨[c0,c1,c2,c3]⟩⟩ a b c d w rfl h1 h2 h3 h4;simpa [ap,aj,db,Go.Proofs.YtoghlpcacfnjbaaGreatDoor.dArr]using this
 . cases he
end Go.Ev
end
