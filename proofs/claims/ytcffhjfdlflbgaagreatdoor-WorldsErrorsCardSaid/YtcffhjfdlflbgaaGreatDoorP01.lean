import Derived.Test.YtcffhjfdlflbgaaGreatDoorProg
import Derived.WalkKit
import Derived.WalkSpells
import Derived.WalkLawsBesides
import Derived.Deep.QuietTactic
import Derived.BigQuiet
import Derived.Deep.RegionHeld3
import Derived.Deep.DrawnRows
import Derived.Lib.Hide
import Derived.WalkSmall
import Derived.KernelRfl
import Derived.Laws.IdiomStrings
import Derived.Defers
import Derived.Lib.AtoiTie
set_option linter.all false
open Int renaming emod_add_mul_ediv->ν,tmod_nonneg->ξ,emod_lt_of_pos->ο,add_assoc->π
def δ{p:Prop}(h:p:=by omega):p:=h
def ε{p:Prop}(h:p:=by kernel_rfl):p:=h
def ζ{p:Prop}(h:p:=by decide):p:=h
def η{p:Prop}(h:p:=by grind):p:=h
def θ{p:Prop}(h:p:=by simp):p:=h
def κ{p:Prop}(h:p:=by rfl):p:=h
set_option linter.all false
set_option maxRecDepth 100000
set_option maxHeartbeats 4000000
theorem zAa(a b:Bool):((a&&b)=true)=(a=true∧b=true):=Bool.and_eq_true a b
theorem zAb{α:Type _}(a b:α):(some a=some b)=(a=b):=Option.some.injEq a b
theorem zAc{p:Prop}[Decidable p]:(decide p=true)=p:=decide_eq_true_eq
theorem zAd{α:Type _}{a:α}{l:List α}:(a::l).length=l.length+1:=rfl
theorem zAe{α:Type _}{l k:List α}:(l++k).length=l.length+k.length:=List.length_append
theorem zAf{α:Type _}{l:List α}{i:Nat}{a:α}:l.getD i a=l[i]?.getD a:=List.getD_eq_getElem?_getD
theorem zAh:(∀p:Prop,(False→p)=True)∧(∀p:Prop,(True→p)=p)∧(∀p:Prop,(True∧p)=p)∧(∀p:Prop,(p∧True)=p):=θ
theorem zAi:(!true)=false∧(!false)=true∧(∀b:Bool,(b&&true)=b)∧(∀b:Bool,(true&&b)=b):=θ
theorem zAj:(∀{α:Type}{a b:α},cond true a b=a)∧(∀{α:Type}{a b:α},cond false a b=b):=⟨rfl,rfl⟩
section
namespace Go.Proofs.YtcffhjfdlflbgaaGreatDoor
open Go.RowKit
variable{y a b:Int}{w:World}
def lp(y:Int):Int:=if y%4=0/\(y%100≠0\/y%400=0)then 1 else 0
def before(y:Int):Int:=1+(y-1)/4-(y-1)/100+(y-1)/400
def yst(y:Int):Int:=365*y+before y
theorem before_succ(y:Int):before (y+1)=before y+lp y:=by
 unfold before lp;have e:y+1-1=y:=δ
 rw[e];split<;>omega
theorem lp_01(y:Int):0<=lp y/\lp y<=1:=by unfold lp;split<;>omega
theorem yst_succ(y:Int):yst (y+1)=yst y+365+lp y:=by
 unfold yst;rw[before_succ];omega
theorem yst_cycle(q r:Int):yst (400*q+r)=146097*q+yst r:=by
 unfold yst before;omega
theorem yst_le{a b:Int}(h:a<=b):yst a<=yst b:=by unfold yst before;omega
theorem yst_cycles(y:Int):yst y=y/400*146097+365*(y-y/400*400)+(y-y/400*400+3)/4-(y-y/400*400+99)/100+(y-y/400*400+399)/400:=by
 unfold yst before;omega
theorem yst_bd(y:Int)(h : -10000000000000000<=y)(h2:y<=10000000000000001) : -3652425000000000001<=yst y/\yst y<=3652425000000000400:=by
 unfold yst before;omega
theorem before_bd(y:Int)(h1 : -100000000000000000<=y)(h2:y<=100000000000000000) : -100000000000000000<=before y/\before y<=100000000000000000:=by
 unfold before;omega
def okY(y:Int):Prop:=-10000000000000000<=y/\y<=10000000000000000
instance (y:Int):Decidable (okY y):=by unfold okY;infer_instance
def errY(y:Int):Int:=if okY y then 0 else 6
theorem errY_ok(h:okY y):errY y=0:=if_pos h
theorem errY_no(h:¬okY y):errY y=6:=if_neg h
def yOf(d:Int):Int:=400*(d/146097)+(if yst (d%146097/366+1)<=d%146097 then d%146097/366+1 else d%146097/366)
theorem yOf_spec(d:Int):yst (yOf d)<=d/\d<yst (yOf d+1):=by
 unfold yOf;have h0:=Int.emod_nonneg d (show(146097:Int)≠0 by decide);have h1:=ο d (show(0:Int)<146097 by decide);have e:=ν d 146097;generalize d%146097=r at *;generalize d/146097=q at *;split
 . rename_i h;rw[π,yst_cycle,yst_cycle];unfold yst before at *;omega
 . rename_i h;rw[π,yst_cycle,yst_cycle];unfold yst before at *;omega
theorem yOf_unique{d:Int}(h1:yst y<=d)(h2:d<yst (y+1)):yOf d=y:=by
 obtain⟨a,b⟩:=yOf_spec d;have l1:¬yOf d+1<=y:=λh=>by have:=yst_le h;omega
 have l2:¬y+1<=yOf d:=λh=>by have:=yst_le h;omega
 omega
def mlen(y m:Int):Int:=if m=2 then 28+lp y else if m=4\/m=6\/m=9\/m=11 then 30 else 31
def mcum(y m:Int):Int:=if m<=1 then 0 else if m=2 then 31 else 59+lp y+(153*(m-3)+2)/5
def mst(y m:Int):Int:=yst y+mcum y m
theorem mcum_succ(y m:Int)(h1:1<=m)(h2:m<=12):mcum y (m+1)=mcum y m+mlen y m:=by
 have:m=1\/m=2\/m=3\/m=4\/m=5\/m=6\/m=7\/m=8\/m=9\/m=10\/m=11\/m=12:=δ
 rcases this with rfl|rfl|rfl|rfl|rfl|rfl|rfl|rfl|rfl|rfl|rfl|rfl<;>simp[mcum,mlen]<;>omega
theorem mcum_bd(y m:Int)(h1:1<=m)(h2:m<=13):0<=mcum y m/\mcum y m<=366:=by
 have:=lp_01 y;unfold mcum;split
 . omega
 . split<;>omega
theorem mlen_bd(y m:Int):28<=mlen y m/\mlen y m<=31:=by
 have:=lp_01 y;unfold mlen;split
 . omega
 . split<;>omega
theorem mcum_13(y:Int):mcum y 13=365+lp y:=by simp[mcum];omega
theorem mst_next(y:Int):mst y 13=mst (y+1) 1:=by unfold mst;rw[mcum_13,yst_succ];simp[mcum];omega
def len0:List Int:=[31,28,31,30,31,30,31,31,30,31,30,31]
theorem mlen_len0(y m:Int)(h1:1<=m)(h2:m<=12)(h:m≠2\/lp y=0):mlen y m=len0.getD (m-1).toNat 0:=by
 have:m=1\/m=2\/m=3\/m=4\/m=5\/m=6\/m=7\/m=8\/m=9\/m=10\/m=11\/m=12:=δ
 rcases this with rfl|rfl|rfl|rfl|rfl|rfl|rfl|rfl|rfl|rfl|rfl|rfl<;>simp[mlen,len0]<;>omega
def okM(m:Int):Prop:=1<=m/\m<=12
instance (m:Int):Decidable (okM m):=by unfold okM;infer_instance
def mOfL(y l:Int):Int:=if l<31 then 1 else if l<59+lp y then 2 else(5*(l-59-lp y)+2)/153+3
theorem mOfL_spec(y l:Int)(h0:0<=l)(h1:l<365+lp y):1<=mOfL y l/\mOfL y l<=12/\mcum y (mOfL y l)<=l/\l<mcum y (mOfL y l+1):=by
 have:=lp_01 y;unfold mOfL;split
 . simp[mcum];omega
 . split
   . simp[mcum];omega
   . have a1:3<=(5*(l-59-lp y)+2)/153+3:=δ
     have a2:(5*(l-59-lp y)+2)/153+3<=12:=δ
     unfold mcum;rw[if_neg δ,if_neg δ,if_neg δ,if_neg δ];omega
theorem mcum_mono(y:Int)(h1:1<=a)(h:a<=b):mcum y a<=mcum y b:=by
 have:=lp_01 y;unfold mcum;split<;>split<;>(try split)<;>(try split)<;>omega
def mOf(d:Int):Int:=mOfL (yOf d) (d-yst (yOf d))
theorem mOf_spec(d:Int):1<=mOf d/\mOf d<=12/\mst (yOf d) (mOf d)<=d/\d<mst (yOf d) (mOf d+1):=by
 obtain⟨a,b⟩:=yOf_spec d;rw[yst_succ]at b;have:=mOfL_spec (yOf d) (d-yst (yOf d)) δ δ;unfold mOf mst;omega
theorem mOf_unique{d m:Int}(h1:1<=m)(h3:mst (yOf d) m<=d)(h4:d<mst (yOf d) (m+1)):mOf d=m:=by
 obtain⟨a,b,c,e⟩:=mOf_spec d;unfold mst at *;have l1:¬mOf d+1<=m:=λh=>by have:=mcum_mono (yOf d) δ h;omega
 have l2:¬m+1<=mOf d:=λh=>by have:=mcum_mono (yOf d) δ h;omega
 omega
def spans0:List Int:=[3,3,6,3,9,3,12,3,3,3,6,3,9,3,12,3,9,3,12,3,3,3,6,3,1,3,4,3,7,3,10,3,1,4,5,4,9,4,1,6,7,6]
def sFrom(c:Int):Int:=spans0.getD (2*(c-21)).toNat 0
def sMany(c:Int):Int:=spans0.getD (2*(c-21)+1).toNat 0
def okC(c:Int):Prop:=21<=c/\c<=41
instance (m:Int):Decidable (okC m):=by unfold okC;infer_instance
def sZ(y c:Int):Int:=y+(sFrom c+sMany c-2)/12
structure En where
 inf:Int
 day:Int
 deriving DecidableEq
structure Rn where
 lo:En
 hi:En
 deriving DecidableEq
structure Dt where
 g0:Bool
 f0:Bool
 b0:ByteArray
 c0:Int
 e0:Int
 a0:ByteArray
 d0:ByteArray
 m0:Int
 m1:Int
 m2:Int
 deriving DecidableEq
abbrev i64(n:Int):Value:=.int .i64 n
theorem bcell{W w1:World}(hb:Below W.heap.size W w1) :
 (∀b o,b<W.heap.size->w1.cell? ⟨b,o,none⟩=W.cell? ⟨b,o,none⟩)/\(∀b o,b<W.heap.size->w1.frozen? ⟨b,o,none⟩=W.frozen? ⟨b,o,none⟩):=
 ⟨λb o h=>hb.cell (p:=⟨b,o,none⟩) h,λb o h=>hb.frozen (p:=⟨b,o,none⟩) h⟩
theorem bk{W w1:World}{n:Nat}(hc:∀b o,b<n->w1.cell? ⟨b,o,none⟩=W.cell? ⟨b,o,none⟩)(hf:∀b o,b<n->w1.frozen? ⟨b,o,none⟩=W.frozen? ⟨b,o,none⟩)(hz:n<=w1.heap.size)(b:Nat)(h:b<n):b<w1.heap.size/\(∀o:Nat,w1.cell? ⟨b,o,none⟩=W.cell? ⟨b,o,none⟩)/\∀o:Nat,w1.frozen? ⟨b,o,none⟩=W.frozen? ⟨b,o,none⟩:=⟨Nat.lt_of_lt_of_le h hz,λo=>hc b o h,λo=>hf b o h⟩
theorem bnext{a w':World}(h:Below a.heap.size a w)(k:Below w.heap.size w w'):Below a.heap.size a w':=h.trans (k.mono h.size)
theorem balloc{a:World}(h:Below a.heap.size a w)(o:Obj):Below a.heap.size a (w.alloc o):=h.alloc h.size o
theorem bdrewN{a:World}(h:Below a.heap.size a w)(n:Nat):Below a.heap.size a (w.drewN n):=⟨h.os,h.tape,h.output,h.size,h.block⟩
theorem bset{a:World}{p:Addr}(h:Below a.heap.size a w)(hp:a.heap.size<=p.block)(u:Value):Below a.heap.size a (w.setCell p u):=h.setCell hp u
theorem bC{p:Prop}(h:p:=by(repeat(first|exact Below.refl _ _|assumption|refine balloc ?_ _|refine Below.drew ?_|refine bdrewN ?_ _|(refine bset ?_ (by first|exact Nat.le_refl _|(simp;done)|(simp;omega)) _)|refine bnext ?_ (by assumption)))):p:=h
theorem conv_bytes(w:World)(s:ByteArray):∃(C:Nat) (w2:World),(convert 9 207 (.string s)).run Tryz.prog w=.ok (.slice (some ⟨w.heap.size,0,none⟩) s.size C) w2/\
 (∀(j:Nat) (h:j<s.size),w2.cell? ⟨w.heap.size,j,none⟩=some (.int .u8 (s[j].toNat:Int)))/\Below w.heap.size w w2/\w2.heap.size=w.heap.size+1:=by
 refine⟨_,_,run_bytes_of_string w 9 207 5 s Tryz.underlying9 Tryz.underlying207 Tryz.underlying5,?_,?_,?_⟩
 . intro j h;rw[show w.heap.size=w.drew.heap.size from rfl,World.cell?_alloc_mark];have:=bytesRow_at s (grownCap w s.size 0 5) j h;exact this
 . exact((Below.refl _ _).drew).alloc (Nat.le_refl _) _
 . simp
structure Glob(w:World):Prop where
 a0:∃b o c,w.cell? ⟨5,0,none⟩=some (.slice (some ⟨b,o,none⟩) 3 c)/\w.cell? ⟨b,o,none⟩=some (i64 4)/\w.cell? ⟨b,o+1,none⟩=some (i64 1)/\
  w.cell? ⟨b,o+2,none⟩=some (i64 100)/\w.cell? ⟨b,o+3,none⟩=some (i64 (-1))/\w.cell? ⟨b,o+4,none⟩=some (i64 400)/\w.cell? ⟨b,o+5,none⟩=some (i64 1)
 e0:∀i,i<12->w.cell? ⟨1,i,none⟩=some (i64 (len0.getD i 0))
 c0:∃tp p,World.var? Tryz.prog w "strconv.ErrSyntax" = some #[.iface tp p]
 b0:∃tp p,World.var? Tryz.prog w "strconv.ErrRange" = some #[.iface tp p]
 d0:∀i,i<42->w.cell? ⟨2,i,none⟩=some (i64 (spans0.getD i 0))
theorem Glob.below{w':World}(h:Glob w)(hb:Below w.heap.size w w'):Glob w':=by
 obtain⟨t1,p1,e1⟩:=h.c0;obtain⟨t2,p2,e2⟩:=h.b0;have lt:∀(n:String) (g:Nat) (x:Array Value),Tryz.prog.globalNamed n=some g->World.var? Tryz.prog w n=some x->g<w.heap.size:=λn g x hg hx=>by
  unfold World.var? at hx;rw[hg]at hx;cases hh:w.heap[g]? with
  | none=>simp[hh]at hx
  | some b=>exact(Array.getElem?_eq_some_iff.1 hh).1
 have k':∀(p:Addr) (v:Value),w.cell? p=some v->w'.cell? p=some v:=λp v hp=>(hb.cell (World.block_lt_of_cell? w p hp)).trans hp;obtain⟨b,o,c,h0,h1,h2,h3,h4,h5,h6⟩:=h.a0;exact⟨⟨b,o,c,k' _ _ h0,k' _ _ h1,k' _ _ h2,k' _ _ h3,k' _ _ h4,k' _ _ h5,k' _ _ h6⟩,λi hi=>k' _ _ (h.e0 i hi),
  ⟨t1,p1,var?_below (g:=3) hb ε (lt _ _ _ ε e1) e1⟩,⟨t2,p2,var?_below (g:=4) hb ε (lt _ _ _ ε e2) e2⟩,λi hi=>k' _ _ (h.d0 i hi)⟩
theorem gC{p:Prop}(h:p:=by first|assumption|exact Glob.below (by assumption) bC):p:=h
theorem div_of{q r:Int}(hb:0<b)(h:r+b*q=a)(h0:0<=r)(h1:r<b):a/b=q/\a%b=r:=(Int.ediv_emod_unique hb).2 ⟨h,h0,h1⟩
theorem tq_cases(a b:Int)(hb:0<b):a/b=(if a.tmod b≠0/\a<0 then a.tdiv b-1 else a.tdiv b)/\a%b=(if a.tmod b≠0/\a<0 then a.tmod b+b else a.tmod b):=by
 have e:=Int.tmod_add_mul_tdiv a b;have l:=Int.tmod_lt_of_pos a hb;have g:=Int.lt_tmod_of_pos a hb;by_cases hc:a.tmod b≠0/\a<0
 . rw[if_pos hc,if_pos hc];have hn:a.tmod b<=0:=by
    have:=ξ b (show 0<=-a by omega);rw[Int.neg_tmod]at this;omega
   refine div_of hb ?_ δ δ;rw[Int.mul_sub];omega
 . rw[if_neg hc,if_neg hc];refine div_of hb e ?_ l;by_cases ha:0<=a
   . exact ξ b ha
   . have:a.tmod b=0:=by
      by_cases h:a.tmod b=0
      . exact h
      . exact absurd ⟨h,by omega⟩ hc
     omega
theorem tdiv_bd(a b:Int)(hb:2<=b)(ha : -9223372036854775808<=a)(ha2:a<=9223372036854775807) : -4611686018427387904<=a.tdiv b/\a.tdiv b<=4611686018427387904:=by
 have h:=Int.natAbs_tdiv a b;have h2:a.natAbs/b.natAbs<=a.natAbs/2:=Nat.div_le_div_left δ δ;have h3:(a.tdiv b).natAbs=a.natAbs/b.natAbs:=h;omega
theorem div_way0(hb:0<b)(h:a.tmod b=0):a/b=a.tdiv b/\a%b=0:=by
 have e:=tq_cases a b hb;rw[if_neg δ,if_neg δ]at e;exact⟨e.1,e.2.trans h⟩
theorem div_way1(hb:0<b)(h:¬a.tmod b=0)(h2:(!decide (a<0)==decide (b<0))):a/b=a.tdiv b-1/\a%b=a.tmod b+b:=by
 have e:=tq_cases a b hb;have ha:a<0:=by
  by_cases h3:a<0
  . exact h3
  . have h4:¬b<0:=δ
    simp[h3,h4]at h2
 rw[if_pos ⟨h,ha⟩,if_pos ⟨h,ha⟩]at e;exact e
theorem div_way2(hb:0<b)(_h:¬a.tmod b=0)(h2:(!decide (a<0)==decide (b<0))=false):a/b=a.tdiv b/\a%b=a.tmod b:=by
 have e:=tq_cases a b hb;have ha:¬a<0:=by
  intro h3;have h4:¬b<0:=δ
  simp[h3,h4]at h2
 rw[if_neg (λh=>ha h.2),if_neg (λh=>ha h.2)]at e;exact e
theorem mod_neg(hb:0<b)(h:a.tmod b<0):a%b=a.tmod b+b:=by
 have e:=tq_cases a b hb;have ha:a<0:=by
  by_cases h0:a<0
  . exact h0
  . have:=ξ b (show 0<=a by omega);omega
 rw[if_pos ⟨by omega,ha⟩,if_pos ⟨by omega,ha⟩]at e;exact e.2
theorem mod_nonneg(hb:0<b)(h:0<=a.tmod b):a%b=a.tmod b:=by
 have e:=tq_cases a b hb;have ha:¬(a.tmod b≠0/\a<0):=by
  rintro⟨h1,h2⟩;have:=ξ b (show 0<=-a by omega);rw[Int.neg_tmod]at this;omega
 rw[if_neg ha,if_neg ha]at e;exact e.2
theorem Div_pos(a b:Int)(w:World)(hb:2<=b)(ha : -9223372036854775808<=a)(ha2:a<=9223372036854775807)(hb2:b<=9223372036854775807) :
 Calls Tryz.prog 283 #[.int .i64 a,.int .i64 b] w λe w'=>e=.returned (.tuple #[.int .i64 (a/b),.int .i64 0])/\w=w':=by
 obtain⟨l,u⟩:=tdiv_bd a b hb ha ha2;have hb0:(b==0)=false:=beq_eq_false_iff_ne.2 δ;have hb1:(b==-1)=false:=beq_eq_false_iff_ne.2 δ;have hb3:decide (b<0)=false:=decide_eq_false δ;by_cases h0:a.tmod b=0
 . have H:=Lib.hid (div_way0 δ h0);go_enter Tryz.func283,Tryz.ntmps283
   go_wp2;go_ret2
   rw[H.out.1];simp
 . have h4:(a.tmod b !=0)=true:=by simp[h0]
   by_cases h2:a<0
   . have h3:decide (a<0)=true:=decide_eq_true h2;have H:=Lib.hid (div_way1 δ h0 (by rw[h3,hb3];rfl));go_enter Tryz.func283,Tryz.ntmps283
     go_wp2;go_ret2
     rw[H.out.1];simp
   . have h3:decide (a<0)=false:=decide_eq_false h2;have H:=Lib.hid (div_way2 δ h0 (by rw[h3,hb3];rfl));go_enter Tryz.func283,Tryz.ntmps283
     go_wp2;all_goals (go_ret2;rw[H.out.1];simp)
theorem Mod_pos(a b:Int)(w:World)(hb:2<=b)(ha : -9223372036854775808<=a)(ha2:a<=9223372036854775807)(hb2:b<=9223372036854775807) :
 Calls Tryz.prog 284 #[.int .i64 a,.int .i64 b] w λe w'=>e=.returned (.tuple #[.int .i64 (a%b),.int .i64 0])/\w=w':=by
 have l:=Int.tmod_lt_of_pos a (show 0<b by omega);have g:=Int.lt_tmod_of_pos a (show 0<b by omega);have hb0:(b==0)=false:=beq_eq_false_iff_ne.2 δ;have hb1:(b==-1)=false:=beq_eq_false_iff_ne.2 δ;have hb3:decide (b<0)=false:=decide_eq_false δ;by_cases h0:a.tmod b=0
 . have H:=Lib.hid (mod_nonneg δ (by omega:0<=a.tmod b));go_enter Tryz.func284,Tryz.ntmps284
   go_wp2;go_ret2
   rw[H.out,h0];simp
 . by_cases h2:a.tmod b<0
   . have H:=Lib.hid (mod_neg δ h2);have h3:(!decide (a.tmod b<0)==decide (b<0))=true:=by simp[h2];omega
     have h4:(a.tmod b !=0)=true:=by simp[h0]
     go_enter Tryz.func284,Tryz.ntmps284
     go_wp2;go_ret2
     rw[H.out];simp
   . have H:=Lib.hid (mod_nonneg δ (by omega:0<=a.tmod b));have h3:(!decide (a.tmod b<0)==decide (b<0))=false:=by simp[h2];omega
     have h4:(a.tmod b !=0)=true:=by simp[h0]
     go_enter Tryz.func284,Tryz.ntmps284
     go_wp2;go_ret2
     rw[H.out];simp
theorem ret_int{k:IntKind}(h:a=b):Ending.returned (.int k a)=.returned (.int k b):=by rw[h]
theorem years_before(y:Int)(w:World)(hG:Glob w)(h1 : -100000000000000000<=y)(h2:y<=100000000000000000) :
 Calls Tryz.prog 337 #[.int .i64 y] w λe w'=>e=.returned (.int .i64 (before y))/\Below w.heap.size w w':=by
 obtain⟨b,o,c,g0,g1,g2,g3,g4,g5,g6⟩:=hG.a0;have hbl:=World.block_lt_of_cell? w _ g1;have hgl:=World.block_lt_of_cell? w _ g0;dsimp only at hbl hgl;go_enter Tryz.func337,Tryz.ntmps337
 go_wp2;refine wp_loop_rounds 4 ?_;repeat(rw[rounds_succ];go_wp2_with (first|(go_at_call 283;refine(Div_pos _ _ _ δ δ δ δ).mono ?_;rintro e w' ⟨rfl,rfl⟩)))
 go_ret
 exact⟨ret_int (by unfold before;omega),bC⟩
theorem years_start(y:Int)(w:World)(hG:Glob w)(h1 : -10000000000000001<=y)(h2:y<=10000000000000001) :
 Calls Tryz.prog 287 #[.int .i64 y] w λe w'=>e=.returned (.int .i64 (yst y))/\Below w.heap.size w w':=by
 obtain⟨b1,b2⟩:=before_bd y δ δ;go_enter Tryz.func287,Tryz.ntmps287
 go_wp2_with (first|(go_at_call 337;refine(years_before _ _ gC δ δ).mono ?_;rintro e w1 ⟨rfl,hb⟩;obtain⟨hc,hf⟩:=bcell hb;have hz:=hb.size;(try simp only[World.size_alloc,World.size_setCell,World.size_drew]at hz hc hf);(try have⟨hl0,hc0,hf0⟩:=bk hc hf hz (w.heap.size) δ);(try have⟨hl1,hc1,hf1⟩:=bk hc hf hz (w.heap.size+1) δ);(try have⟨hl2,hc2,hf2⟩:=bk hc hf hz (w.heap.size+2) δ);(try have⟨hl3,hc3,hf3⟩:=bk hc hf hz (w.heap.size+3) δ);(try have⟨hl4,hc4,hf4⟩:=bk hc hf hz (w.heap.size+4) δ)))
 go_ret
 exact⟨ret_int (by unfold yst;rfl),bC⟩
theorem years_Check(y:Int)(w:World):Calls Tryz.prog 288 #[.int .i64 y] w λe w'=>e=.returned (.int .i64 (errY y))/\w=w':=by
 by_cases h1:y < -10000000000000000
 . have H:=Lib.hid (errY_no (y:=y) (by unfold okY;omega));go_enter Tryz.func288,Tryz.ntmps288
   go_wp2;go_ret
   exact⟨ret_int H.out.symm,rfl⟩
 . by_cases h2:y<=10000000000000000
   . have H:=Lib.hid (errY_ok (y:=y) (by unfold okY;omega));go_enter Tryz.func288,Tryz.ntmps288
     go_wp2;go_ret
     exact⟨ret_int H.out.symm,rfl⟩
   . have H:=Lib.hid (errY_no (y:=y) (by unfold okY;omega));go_enter Tryz.func288,Tryz.ntmps288
     go_wp2;go_ret
     exact⟨ret_int H.out.symm,rfl⟩
theorem years_Check_ok(y:Int)(w:World)(h:okY y):Calls Tryz.prog 288 #[.int .i64 y] w λe w'=>e=.returned (.int .i64 0)/\w=w':=
 (years_Check y w).mono λe w' ⟨he,hw⟩=>⟨by rw[he,errY_ok h],hw⟩
theorem years_Check_no(y:Int)(w:World)(h:¬okY y):Calls Tryz.prog 288 #[.int .i64 y] w λe w'=>e=.returned (.int .i64 6)/\w=w':=
 (years_Check y w).mono λe w' ⟨he,hw⟩=>⟨by rw[he,errY_no h],hw⟩
theorem years_Of1(i r:Int)(p:Nat)(w:World)(hG:Glob w)(h0:0<=i)(h1:i<400)(hc0:w.cell? ⟨p,0,none⟩=some (.int .i64 r)) :
 Calls Tryz.prog 286 #[.int .i64 i,.pointer (some ⟨p,0,none⟩)] w λe w'=>e=.returned (.bool (decide (r<yst (i+1))))/\Below w.heap.size w w':=by
 have hp:=World.block_lt_of_cell? w _ hc0;dsimp only at hp;have hs:IntKind.i64.wrap (i+1)=i+1:=IntWalk.i64_in _ δ;go_enter Tryz.func286,Tryz.ntmps286
 go_wp2;go_region_held3 (λw'=>w'.cell? ⟨p,0,none⟩=some (.int .i64 r)) (first|go_keep|exact(hc _ _ hp).trans hc0) (first|(go_at_call 287;refine(years_start _ _ gC δ δ).mono ?_;rintro e w1 ⟨rfl,hb⟩;obtain⟨hc,hf⟩:=bcell hb;have hz:=hb.size;(try simp only[World.size_alloc,World.size_setCell,World.size_drew]at hz hc hf);(try have⟨hl0,hc0,hf0⟩:=bk hc hf hz (w.heap.size) δ);(try have⟨hl1,hc1,hf1⟩:=bk hc hf hz (w.heap.size+1) δ);(try have⟨hl2,hc2,hf2⟩:=bk hc hf hz (w.heap.size+2) δ);(try have⟨hl3,hc3,hf3⟩:=bk hc hf hz (w.heap.size+3) δ);(try have⟨hl4,hc4,hf4⟩:=bk hc hf hz (w.heap.size+4) δ)))
 all_goals go_wp2
 all_goals go_ret
 all_goals (refine⟨by simp,bC⟩)
theorem sort_Search(r:Int)(p:Nat)(w:World)(hG:Glob w)(hc0:w.cell? ⟨p,0,none⟩=some (.int .i64 r))(h0:0<=r)(h1:r<146097) :
 Calls Tryz.prog 285 #[.int .i64 400,.func (.func 286) #[] #[.pointer (some ⟨p,0,none⟩)]] w λe w'=>∃s:Int,e=.returned (.int .i64 s)/\(0<=s/\s<400/\yst s<=r/\r<yst (s+1))/\Below w.heap.size w w':=by
 have hp:=World.block_lt_of_cell? w _ hc0;dsimp only at hp;go_enter Tryz.func285,Tryz.ntmps285
 go_wp2;go_loopw [5,6] (λi j wr=>∃a b:Int,i=.int .i64 a/\j=.int .i64 b/\0<=a/\a<=b/\b<=400/\yst a<=r/\(b<400->r<yst (b+1))/\Below w.heap.size w wr) (λi j _=>(intOf j-intOf i).toNat)
 case atStart=>exact⟨0,400,rfl,rfl,by omega,by omega,by omega,by show yst 0<=r;simpa [yst,before]using h0,λh=>absurd h ζ,Below.refl _ _⟩
 case round=>
  obtain⟨a,b,rfl,rfl,ha,hab,hb,hl,hu,hB⟩:=hrel;have HU:=Lib.hid hu;clear hu;have hcr:=(hB.cell (p:=⟨p,0,none⟩) hp).trans hc0;by_cases hlt:a<b
  . cases hd:decide (r<yst ((a+b)/2+1))with
    | true=>
      have HD:=Lib.hid (of_decide_eq_true hd);go_wp2_with (first|(go_at_call 286;refine(years_Of1 _ _ _ _ gC δ δ hcr).mono ?_;rintro e w1 ⟨rfl,hb⟩;obtain⟨hc,hf⟩:=bcell hb;have hz:=hb.size;(try simp only[World.size_alloc,World.size_setCell,World.size_drew]at hz hc hf);(try have⟨hl0,hc0,hf0⟩:=bk hc hf hz (w.heap.size) δ);(try have⟨hl1,hc1,hf1⟩:=bk hc hf hz (w.heap.size+1) δ);(try have⟨hl2,hc2,hf2⟩:=bk hc hf hz (w.heap.size+2) δ);(try have⟨hl3,hc3,hf3⟩:=bk hc hf hz (w.heap.size+3) δ);(try have⟨hl4,hc4,hf4⟩:=bk hc hf hz (w.heap.size+4) δ)))
      go_roundw
      case rel=>exact⟨a,(a+b)/2,rfl,by go_num,by omega,by omega,by omega,hl,λ_=>HD.out,bC⟩
      case measure=>simp[intOf];omega
    | false=>
      have HD:=Lib.hid (of_decide_eq_false hd);go_wp2_with (first|(go_at_call 286;refine(years_Of1 _ _ _ _ gC δ δ hcr).mono ?_;rintro e w1 ⟨rfl,hb⟩;obtain⟨hc,hf⟩:=bcell hb;have hz:=hb.size;(try simp only[World.size_alloc,World.size_setCell,World.size_drew]at hz hc hf);(try have⟨hl0,hc0,hf0⟩:=bk hc hf hz (w.heap.size) δ);(try have⟨hl1,hc1,hf1⟩:=bk hc hf hz (w.heap.size+1) δ);(try have⟨hl2,hc2,hf2⟩:=bk hc hf hz (w.heap.size+2) δ);(try have⟨hl3,hc3,hf3⟩:=bk hc hf hz (w.heap.size+3) δ);(try have⟨hl4,hc4,hf4⟩:=bk hc hf hz (w.heap.size+4) δ)))
      go_roundw
      case rel=>exact⟨(a+b)/2+1,b,by go_num,rfl,by omega,by omega,by omega,by have:=HD.out;omega,HU.out,bC⟩
      case measure=>simp[intOf];omega
  . go_wp2;go_ret
    have hab':a=b:=δ
    refine⟨a,rfl,⟨ha,?_,hl,?_⟩,bC⟩
    . have e:yst 400=146097:=by simp[yst,before]
      have:=@yst_le 400 a;omega
    . have e:yst 400=146097:=by simp[yst,before]
      have:=@yst_le 400 a;have:=HU.out;subst hab';exact this δ
theorem years_Of_ok(d:Int)(w:World)(hG:Glob w)(h1 : -9223372036854775808<=d)(h2:d<=9223372036854775807)(hk:okY (yOf d)) :
 Calls Tryz.prog 222 #[.int .i64 d] w λe w'=>e=.returned (.tuple #[.int .i64 (yOf d),.int .i64 0])/\Below w.heap.size w w':=by
 have m0:=Int.emod_nonneg d (show(146097:Int)≠0 by decide);have m1:=ο d (show(0:Int)<146097 by decide);have E:=Lib.hid (ν d 146097);have q1 : -63131937112293<=d/146097:=δ
 have q2:d/146097<=63131937112293:=δ
 have H:=Lib.hid hk;clear hk;go_enter Tryz.func222,Tryz.ntmps222
 go_wp2_with (first|(go_at_call 283;refine(Div_pos _ _ _ δ δ δ δ).mono ?_;rintro e w' ⟨rfl,rfl⟩)|(go_at_call 284;refine(Mod_pos _ _ _ δ δ δ δ).mono ?_;rintro e w' ⟨rfl,rfl⟩)|fail)
 refine(sort_Search (d%146097) _ _ gC ?_ m0 m1).mono ?_
 . go_simp
 rintro e w1 ⟨s,rfl,hs,hb⟩;obtain⟨hc,hf⟩:=bcell hb;have hy:yOf d=400*(d/146097)+s:=by
  have E:=E.out;refine yOf_unique ?_ ?_
  . rw[yst_cycle];omega
  . rw[π,yst_cycle];omega
 have HY:=Lib.hid hy;clear hy E;obtain⟨s0,s1,_⟩:=hs;go_wp2_with (first|(go_at_call 288;refine(years_Check_ok _ _ (by rw[<-HY.out];exact H.out)).mono ?_;rintro e w' ⟨rfl,rfl⟩))
 go_ret2
 exact⟨by rw[HY.out];simp,bC⟩
theorem years_Of_no(d:Int)(w:World)(hG:Glob w)(h1 : -9223372036854775808<=d)(h2:d<=9223372036854775807)(hk:¬okY (yOf d)) :
 Calls Tryz.prog 222 #[.int .i64 d] w λe w'=>e=.returned (.tuple #[.int .i64 0,.int .i64 6])/\Below w.heap.size w w':=by
 have m0:=Int.emod_nonneg d (show(146097:Int)≠0 by decide);have m1:=ο d (show(0:Int)<146097 by decide);have E:=Lib.hid (ν d 146097);have q1 : -63131937112293<=d/146097:=δ
 have q2:d/146097<=63131937112293:=δ
 have H:=Lib.hid hk;clear hk;go_enter Tryz.func222,Tryz.ntmps222
 go_wp2_with (first|(go_at_call 283;refine(Div_pos _ _ _ δ δ δ δ).mono ?_;rintro e w' ⟨rfl,rfl⟩)|(go_at_call 284;refine(Mod_pos _ _ _ δ δ δ δ).mono ?_;rintro e w' ⟨rfl,rfl⟩)|fail)
 refine(sort_Search (d%146097) _ _ gC ?_ m0 m1).mono ?_
 . go_simp
 rintro e w1 ⟨s,rfl,hs,hb⟩;obtain⟨hc,hf⟩:=bcell hb;have hy:yOf d=400*(d/146097)+s:=by
  have E:=E.out;refine yOf_unique ?_ ?_
  . rw[yst_cycle];omega
  . rw[π,yst_cycle];omega
 have HY:=Lib.hid hy;clear hy E;obtain⟨s0,s1,_⟩:=hs;go_wp2_with (first|(go_at_call 288;refine(years_Check_no _ _ (by rw[<-HY.out];exact H.out)).mono ?_;rintro e w' ⟨rfl,rfl⟩))
 go_ret2
 exact⟨by simp,bC⟩
theorem mst_bd(y m:Int)(h:okY y)(h1:1<=m)(h2:m<=13) : -3652425000000000001<=mst y m/\mst y m<=3652425000000000800:=by
 unfold okY at h;have:=yst_bd y δ δ;have:=mcum_bd y m h1 h2;unfold mst;omega
theorem mst_succ(y m:Int)(h1:1<=m)(h2:m<=12):mst y (m+1)=mst y m+mlen y m:=by unfold mst;rw[mcum_succ y m h1 h2];omega
theorem mst_1(y:Int):mst y 1=yst y:=by simp[mst,mcum]
theorem seasons_Check_ok(c:Int)(w:World)(h:okC c):Calls Tryz.prog 242 #[.int .i64 c] w λe w'=>e=.returned (.int .i64 0)/\w=w':=by
 unfold okC at h;go_enter Tryz.func242,Tryz.ntmps242
 go_wp2;go_ret
 exact⟨by simp,rfl⟩
theorem seasons_Check_no(c:Int)(w:World)(h:¬okC c):Calls Tryz.prog 242 #[.int .i64 c] w λe w'=>e=.returned (.int .i64 7)/\w=w':=by
 unfold okC at h;have h3:c<21\/42<=c:=δ
 rcases h3 with h3|h3
 . go_enter Tryz.func242,Tryz.ntmps242
   go_wp2;go_ret
   exact⟨by simp,rfl⟩
 . go_enter Tryz.func242,Tryz.ntmps242
   go_wp2;go_ret
   exact⟨by simp,rfl⟩
end Go.Proofs.YtcffhjfdlflbgaaGreatDoor
end
section
namespace Go.Proofs.YtcffhjfdlflbgaaGreatDoor
open Go.Lib
variable{b:UInt8}{v:Int}
def seasL(l:List UInt8):Int:=match l with
 | [a,b]=>if(48<=a.toNat/\a.toNat<=57)/\(48<=b.toNat/\b.toNat<=57)/\21<=10*((a.toNat:Int)-48)+((b.toNat:Int)-48)/\10*((a.toNat:Int)-48)+((b.toNat:Int)-48)<=41 then 10*((a.toNat:Int)-48)+((b.toNat:Int)-48)else 0
 | _=>0
theorem seasL_len{l:List UInt8}(h:l.length≠2):seasL l=0:=by
 match l,h with
 | [],_=>rfl
 | [_],_=>rfl
 | [_,_],h=>exact absurd rfl h
 | _::_::_::_,_=>rfl
theorem digitVal_mk(h:48<=b.toNat/\b.toNat<=57):digitVal b=some (b.toNat-48):=by
 unfold digitVal;rw[if_pos h]
theorem decNat_two(a b:UInt8):decNat [a,b]=if(48<=a.toNat/\a.toNat<=57)/\(48<=b.toNat/\b.toNat<=57)then some (10*(a.toNat-48)+(b.toNat-48))else none:=by
 by_cases ha:48<=a.toNat/\a.toNat<=57
 . by_cases hb:48<=b.toNat/\b.toNat<=57
   . rw[if_pos ⟨ha,hb⟩];simp[decNat,decFrom,digitVal_mk ha,digitVal_mk hb];omega
   . rw[if_neg (λh=>hb h.2)];simp[decNat,decFrom,digitVal,ha,hb]
 . rw[if_neg (λh=>ha h.1)];simp[decNat,decFrom,digitVal,ha]
theorem decNat_one{m:Nat}(h:decNat [b]=some m):m<=9:=by
 by_cases hb:48<=b.toNat/\b.toNat<=57
 . simp[decNat,decFrom,digitVal_mk hb]at h;omega
 . simp[decNat,decFrom,digitVal,hb]at h
theorem ofOption_ok{o:Option Int}(h:NumEnd.ofOption o=.ok v):o=some v:=by
 cases o with
 | none=>cases h
 | some x=>simp[NumEnd.ofOption]at h;rw[h]
theorem atoi_two{a:UInt8}(h:atoi [a,b]=some v)(hv:21<=v):(48<=a.toNat/\a.toNat<=57)/\(48<=b.toNat/\b.toNat<=57)/\v=10*((a.toNat:Int)-48)+((b.toNat:Int)-48):=by
 by_cases h1:a=45
 . subst h1;cases hm:decNat [b]with
   | none=>simp[atoi,hm]at h
   | some m=>simp[atoi,hm]at h;omega
 . by_cases h2:a=43
   . subst h2;cases hm:decNat [b]with
     | none=>simp[atoi,hm]at h
     | some m=>simp[atoi,hm]at h;have:=decNat_one hm;omega
   . have h3:¬a.toNat=45:=λe=>h1 (UInt8.toNat_inj.1 e);have h4:¬a.toNat=43:=λe=>h2 (UInt8.toNat_inj.1 e);simp only[atoi,h1,h2,h3,h4,beq_iff_eq,if_false]at h;rw[decNat_two]at h;split at h
     . rename_i hd;simp at h;exact⟨hd.1,hd.2,by omega⟩
     . cases h
theorem seasL_ok{l:List UInt8}(h:atoiAll l=.ok v)(hl:l.length=2)(h1:21<=v)(h2:v<=41):seasL l=v:=by
 match l,hl with
 | [a,b],_=>
   rw[atoiAll_short [a,b] θ]at h;obtain⟨ha,hb,e⟩:=atoi_two (ofOption_ok h) h1;unfold seasL;dsimp only;rw[if_pos ⟨ha,hb,by omega,by omega⟩,e]
theorem atoi_digits{a:UInt8}(ha:48<=a.toNat/\a.toNat<=57)(hb:48<=b.toNat/\b.toNat<=57):atoiAll [a,b]=.ok (10*((a.toNat:Int)-48)+((b.toNat:Int)-48)):=by
 have h1:¬a=45:=by rintro rfl;simp at ha
 have h2:¬a=43:=by rintro rfl;simp at ha
 rw[atoiAll_short _ θ];unfold atoi;simp only[beq_iff_eq,h1,h2,if_false];rw[decNat_two,if_pos ⟨ha,hb⟩];simp[NumEnd.ofOption];omega
theorem seasL_no{l:List UInt8}(h:∀v,atoiAll l=.ok v->¬(l.length=2/\21<=v/\v<=41)):seasL l=0:=by
 match l,h with
 | [],_=>rfl
 | [_],_=>rfl
 | [a,b],h=>
   unfold seasL;dsimp only;split
   . rename_i hd;exact absurd ⟨rfl,hd.2.2.1,hd.2.2.2⟩ (h _ (atoi_digits hd.1 hd.2.1))
   . rfl
 | _::_::_::_,_=>rfl
def wfB(s:ByteArray):Prop:=s.size<=140737488351232
def wfI(n:Int):Prop:=-9223372036854775808<=n/\n<=9223372036854775807
def wfM(n:Int):Prop:=0<=n/\n<=255
def wfD(d:Dt):Prop:=(wfB d.b0/\wfB d.a0/\wfB d.d0)/\(wfI d.c0/\wfI d.e0)/\(wfM d.m0/\wfM d.m1/\wfM d.m2)
def seas(d:Dt):Int:=seasL d.a0.data.toList
def emp(s:ByteArray):Bool:=s.toList.isEmpty
def comps(d:Dt):Int:=1+(if emp d.a0 then 0 else 1)+(if emp d.d0 then 0 else 1)
end Go.Proofs.YtcffhjfdlflbgaaGreatDoor
end
