import Derived.Test.YtafekjglclnegaaGreatDoorP21
set_option linter.all false
section
namespace Go.Proofs.YtafekjglclnegaaGreatDoor
open Go.RowKit
theorem masks_filled_d(s:ByteArray)(w:World)(hs2:s.size<=18)(hm:∀(i:Nat) (h:i<s.size),48<=s[i].toNat/\s[i].toNat<=57) :
 Calls Tryz.prog 209 #[.string s,.int .u8 0] w λe w'=>e=.returned (.int .i64 (fillv 48 s.data.toList))/\Below w.heap.size w w':=by
 have HM:=Lib.hid hm
 obtain⟨C,w2,hconv,hcell,hB2,hz2⟩:=conv_bytes w s
 have HC:=Lib.hid hcell
 have BD:=Lib.hid (fillv_bd18 (x:=48) (by omega) s hs2 (λi h=>.inr (hm i h)))
 clear hm hcell
 go_enter Tryz.func209,Tryz.ntmps209
 go_wp2
 go_loop [5,11] (λn i=>∃k:Nat,k<=s.size/\i=.int .i64 k/\n=.int .i64 (fillv 48 (s.data.toList.take k))) (λ_ i=>s.size-(intOf i).toNat)
 case atStart=>exact⟨0,by omega,rfl,rfl⟩
 case round=>
  obtain⟨k,hk,rfl,rfl⟩:=hrel
  by_cases hlt:k<s.size
  · obtain⟨b1,b2⟩:=BD.out k hlt
    have hc0:=HC.out k hlt
    obtain⟨hb1,hb2⟩:=HM.out k hlt
    have S:=Lib.hid (show fillv 48 (s.data.toList.take (k+1))=10*fillv 48 (s.data.toList.take k)+dig 48 s[k]by rw[take_snocB s k hlt,fillv_snoc])
    generalize s[k]=c at *
    have t0:((c.toNat:Int)==88)=false:=by simp;omega
    go_wp2
    go_round
    case rel=>exact⟨k+1,by omega,by go_num,by rw[S.out,dig_D (by omega)]⟩
    case measure=>simp[intOf];omega
  · go_wp2
    go_ret
    exact⟨ret_int (by rw[List.take_of_length_le (by simp;have e:s.data.size=s.size:=rfl;omega)]),by(repeat(first|exact Below.refl _ _|assumption|refine balloc ?_ _|refine Below.drew ?_|refine bdrewN ?_ _|(refine bset ?_ (by first|exact Nat.le_refl _|(simp;done)|(simp;omega)) _)|refine bnext ?_ (by assumption)))⟩
theorem masks_value(s:ByteArray)(a b c d:Int)(w:World)(hs:s.size=4)(ha:48<=a/\a<=57)(hb:48<=b/\b<=57)(hc:48<=c/\c<=57)(hd:48<=d/\d<=57) :
 Calls Tryz.prog 261 #[.string s,.agg (dArr a b c d)] w λe w'=>e=.returned (.int .i64 (1000*(a-48)+100*(b-48)+10*(c-48)+(d-48)))/\Below w.heap.size w w':=by
 have hs2:(s.size:Int)=4:=by omega
 have byt:∀z:Int,48<=z/\z<=57->∃x:UInt8,(x.toNat:Int)=z/\48<=x.toNat/\x.toNat<=57:=by
  intro z hz
  refine⟨UInt8.ofNat z.toNat,?_⟩
  have:(UInt8.ofNat z.toNat).toNat=z.toNat:=by simp;omega
  rw[this];omega
 obtain⟨x0,rfl,p0⟩:=byt a ha
 obtain⟨x1,rfl,p1⟩:=byt b hb
 obtain⟨x2,rfl,p2⟩:=byt c hc
 obtain⟨x3,rfl,p3⟩:=byt d hd
 have hv:fillv 48 [x0,x1,x2,x3]=1000*((x0.toNat:Int)-48)+100*((x1.toNat:Int)-48)+10*((x2.toNat:Int)-48)+((x3.toNat:Int)-48):=by
  simp only[fillv,List.foldl_cons,List.foldl_nil]
  rw[dig_D (by omega),dig_D (by omega),dig_D (by omega),dig_D (by omega)]
  omega
 have HF:=Lib.hid (λW:World=>masks_filled_d ⟨#[x0,x1,x2,x3]⟩ W (show 4<=18 by decide) (λi h=>by
  have h4:i<4:=h
  have:i=0\/i=1\/i=2\/i=3:=by omega
  rcases this with rfl|rfl|rfl|rfl
  · exact p0
  · exact p1
  · exact p2
  · exact p3))
 go_enter Tryz.func261,Tryz.ntmps261
 go_upto_region 1 with fail
 have cl:∀(j:Nat) (hj:j<[x0,x1,x2,x3].length),(w.alloc (.cells (dArr x0.toNat x1.toNat x2.toNat x3.toNat) 292)).cell? (Addr.add ⟨w.heap.size,0,none⟩ j)=some (.int .u8 (([x0,x1,x2,x3][j].toNat:Nat):Int)):=by
  intro j hj
  have hadd:(⟨w.heap.size,0,none⟩:Addr).add j=⟨w.heap.size,j,none⟩:=by unfold Addr.add;split<;>simp_all
  rw[hadd,cell_of_row _ _ j _ _ (0,0) (heap_alloc_last w _)]
  have h4:j<4:=hj
  have:j=0\/j=1\/j=2\/j=3:=by omega
  rcases this with rfl|rfl|rfl|rfl<;>rfl
 have cv:=run_convert_bytes_back (P:=Tryz.prog) (w.alloc (.cells (dArr x0.toNat x1.toNat x2.toNat x3.toNat) 292)) 211 9 5 ⟨w.heap.size,0,none⟩ 18 [x0,x1,x2,x3] Tryz.underlying211 Tryz.underlying5 Tryz.underlying9 cl
 clear cl
 have cv2:(convert 211 9 (.slice (some ⟨w.heap.size,0,none⟩) 4 18)).run Tryz.prog (w.alloc (.cells (dArr x0.toNat x1.toNat x2.toNat x3.toNat) 292))=.ok (.string ⟨#[x0,x1,x2,x3]⟩) (w.alloc (.cells (dArr x0.toNat x1.toNat x2.toNat x3.toNat) 292)):=cv
 clear cv
 generalize hD:dArr x0.toNat x1.toNat x2.toNat x3.toNat=D at *
 generalize hS:(⟨#[x0,x1,x2,x3]⟩:ByteArray)=S at *
 have hl:S.data.toList=[x0,x1,x2,x3]:=by rw[<-hS]
 have V:=Lib.hid (show fillv 48 S.data.toList=1000*((x0.toNat:Int)-48)+100*((x1.toNat:Int)-48)+10*((x2.toNat:Int)-48)+((x3.toNat:Int)-48)by rw[hl,hv])
 clear hl hv hS hD
 go_wp2_with (first|(go_at_call 209;refine(HF.out _).mono ?_;rintro e w1 ⟨rfl,hb⟩;obtain⟨hc,hf⟩:=bcell hb;have hz:=hb.size;(try simp only[World.size_alloc,World.size_setCell,World.size_drew]at hz hc hf);(try(have hl0:w.heap.size<w1.heap.size:=(by omega);have hc0:=λo:Nat=>hc (w.heap.size) o (by omega);have hf0:=λo:Nat=>hf (w.heap.size) o (by omega)));(try(have hl1:w.heap.size+1<w1.heap.size:=(by omega);have hc1:=λo:Nat=>hc (w.heap.size+1) o (by omega);have hf1:=λo:Nat=>hf (w.heap.size+1) o (by omega)));(try(have hl2:w.heap.size+2<w1.heap.size:=(by omega);have hc2:=λo:Nat=>hc (w.heap.size+2) o (by omega);have hf2:=λo:Nat=>hf (w.heap.size+2) o (by omega)));(try(have hl3:w.heap.size+3<w1.heap.size:=(by omega);have hc3:=λo:Nat=>hc (w.heap.size+3) o (by omega);have hf3:=λo:Nat=>hf (w.heap.size+3) o (by omega)));(try(have hl4:w.heap.size+4<w1.heap.size:=(by omega);have hc4:=λo:Nat=>hc (w.heap.size+4) o (by omega);have hf4:=λo:Nat=>hf (w.heap.size+4) o (by omega)))))
 go_ret
 exact⟨by rw[<-V.out];simp,by(repeat(first|exact Below.refl _ _|assumption|refine balloc ?_ _|refine Below.drew ?_|refine bdrewN ?_ _|(refine bset ?_ (by first|exact Nat.le_refl _|(simp;done)|(simp;omega)) _)|refine bnext ?_ (by assumption)))⟩
end Go.Proofs.YtafekjglclnegaaGreatDoor
end
section
set_option maxRecDepth 100000
namespace Go.Ev
open Go Go.Proofs
def dg(n:Int)(i:Nat):Int:=n/10^(3-i)%10
abbrev UQ:List AV:=[.int .u8 0,.int .u8 0,.int .u8 0,.int .u8 0,.int .u8 0,.int .u8 0,.int .u8 0,.int .u8 0,.int .u8 0,.int .u8 0,.int .u8 0,.int .u8 0,.int .u8 0,.int .u8 0]
def RZ:dM:=λargs=>match args with
 | [.str [c0,c1,c2,c3],.int .i64 n]=>some (aN [ab 0 n,ab n 9999] (.ret (.agg (.int .u8 (Int.add 48 (dg n 0))::.int .u8 (Int.add 48 (dg n 1))::.int .u8 (Int.add 48 (dg n 2))::.int .u8 (Int.add 48 (dg n 3))::UQ))))
 | _=>none
def U1:bq:=bw T9 260 RZ
def LT(v:Int):Bool:=ab 48 v&&ab v 57
def cP(a b c d:Int):Int:=1000*(a-48)+100*(b-48)+10*(c-48)+(d-48)
def OP:dM:=λargs=>match args with
 | [.str [c0,c1,c2,c3],.agg (.int .u8 a::.int .u8 b::.int .u8 c::.int .u8 d::[.int .u8 0,.int .u8 0,.int .u8 0,.int .u8 0,.int .u8 0,.int .u8 0,.int .u8 0,.int .u8 0,.int .u8 0,.int .u8 0,.int .u8 0,.int .u8 0,.int .u8 0,.int .u8 0])]=>some (aN [LT a,LT b,LT c,LT d] (.ret (.int .i64 (cP a b c d))))
 | _=>none
def U2:bq:=bw U1 261 OP
theorem WF(c0 c1 c2 c3:UInt8)(n:Int){Q:AV->Prop}:aO Q (pT T9 aW 260 [.str [c0,c1,c2,c3],.int .i64 n]) (b_ 1000662522000252200025220002522000)=((λ(u2:AV)(u0 u1:Int)=>(λ(u3 u4:Int)=>(λ(u5 u6:Int)=>(λ(u7:Int)=>ae .i64 u0=true/\ae .u8 u0=true/\ae .i64 u1=true/\ae .i64 u3=true/\ae .u8 u3=true/\ae .i64 u4=true/\ae .i64 u5=true/\ae .u8 u5=true/\ae .i64 u6=true/\ae .i64 u7=true/\ae .u8 u7=true/\ae .i64 (Int.tdiv u6 10)=true/\Q (AV.agg [AV.int .u8 u7,AV.int .u8 u5,AV.int .u8 u3,AV.int .u8 u0,u2,u2,u2,u2,u2,u2,u2,u2,u2,u2,u2,u2,u2,u2])) (Int.add 48 (Int.tmod u6 10))) (Int.add 48 (Int.tmod u4 10)) (Int.tdiv u4 10)) (Int.add 48 (Int.tmod u1 10)) (Int.tdiv u1 10)) (AV.int .u8 0) (Int.add 48 (Int.tmod n 10)) (Int.tdiv n 10)):=by kernel_rfl
theorem Wq{n:Int}(h:0<=n):dg n 0=n/1000%10/\dg n 1=n/100%10/\dg n 2=n/10%10/\dg n 3=n%10:=by
 refine⟨rfl,rfl,rfl,?_⟩
 show n/1%10=n%10
 rw[Int.ediv_one]
theorem Jb:aH tab 260=some (bC 260,aE 260):=by kernel_rfl
theorem HH:aH tab 261=some (bC 261,aE 261):=by kernel_rfl
theorem QD:az Tryz.prog cfg U1:=by
 refine aA JO λargs t v he hv=>?_
 unfold RZ at he
 split at he
 · rename_i c0 c1 c2 c3 n
   cases he
   obtain⟨⟨h1,h2,-⟩,hv⟩:=aI hv
   rw[aK]at h1 h2
   cases hv
   refine cp JO (L:=aW) Jb (by simp) ak (ap λQ' hQ=>al ((WF c0 c1 c2 c3 n).mpr ?_)) (by simp[aq,bG,UQ])
   dsimp only
   have e1:n.tdiv 10=n/10:=Int.tdiv_eq_ediv_of_nonneg h1
   have e2:(n/10).tdiv 10=n/100:=by rw[Int.tdiv_eq_ediv_of_nonneg (by omega)];omega
   have e3:(n/100).tdiv 10=n/1000:=by rw[Int.tdiv_eq_ediv_of_nonneg (by omega)];omega
   have e4:(n/1000).tdiv 10=n/10000:=by rw[Int.tdiv_eq_ediv_of_nonneg (by omega)];omega
   have m1:n.tmod 10=n%10:=Int.tmod_eq_emod_of_nonneg h1
   have m2:(n/10).tmod 10=n/10%10:=Int.tmod_eq_emod_of_nonneg (by omega)
   have m3:(n/100).tmod 10=n/100%10:=Int.tmod_eq_emod_of_nonneg (by omega)
   have m4:(n/1000).tmod 10=n/1000%10:=Int.tmod_eq_emod_of_nonneg (by omega)
   rw[e1,e2,e3,e4,m1,m2,m3,m4]
   obtain⟨d0,d1,d2,d3⟩:=Wq h1
   simp only[aD,reduceCtorEq,bA,bB,ne_eq]
   (repeat' first|exact trivial|refine⟨?_,?_⟩|intro)<;>first|omega|skip
   refine hQ _ ?_
   simp only[d0,d1,d2,d3,UQ,kP]
 · cases he
theorem Gy:az Tryz.prog cfg U2:=by
 refine aA QD λargs t v he hv=>?_
 unfold OP at he
 split at he
 · rename_i c0 c1 c2 c3 a b c d
   cases he
   obtain⟨⟨h1,h2,h3,h4,-⟩,hv⟩:=aI hv
   unfold LT at h1 h2 h3 h4
   rw[Bool.and_eq_true,aK,aK]at h1 h2 h3 h4
   cases hv
   refine db HH (by simp[aq]) λm w hG=>?_
   have:=Go.Proofs.YtafekjglclnegaaGreatDoor.masks_value ⟨⟨[c0,c1,c2,c3]⟩⟩ a b c d w rfl h1 h2 h3 h4
   simpa [ar,aj,cP,Go.Proofs.YtafekjglclnegaaGreatDoor.dArr]using this
 · cases he
end Go.Ev
end
section
set_option maxRecDepth 100000
set_option maxHeartbeats 4000000
namespace Go.Ev
open Go Go.Proofs
def mt(c:UInt8)(k:Int):Prop:=c.toNat=88\/(c.toNat:Int)=48+k
instance (c:UInt8) (k:Int):Decidable (mt c k):=by unfold mt;infer_instance
def ta(c0 c1 c2 c3:UInt8)(k:Int):Prop:=0<=k/\k<=9999/\mt c0 (k/1000)/\mt c1 (k/100%10)/\mt c2 (k/10%10)/\mt c3 (k%10)
instance (c0 c1 c2 c3:UInt8) (k:Int):Decidable (ta c0 c1 c2 c3 k):=by unfold ta;infer_instance
def c_(c0 c1 c2 c3:UInt8)(n:Int):Option Int:=((List.range 10000).map Int.ofNat).find? λk=>decide (n<=k)&&decide (ta c0 c1 c2 c3 k)
def cZ(c0 c1 c2 c3:UInt8)(n:Int):Option Int:=((List.range 10000).map λi=>9999-Int.ofNat i).find? λk=>decide (k<=n)&&decide (ta c0 c1 c2 c3 k)
theorem nq{c0 c1 c2 c3:UInt8}{n:Int}:c_ c0 c1 c2 c3 n=none↔∀k,ta c0 c1 c2 c3 k->k<n:=by
 unfold c_
 rw[List.find?_eq_none]
 constructor
 · intro h k hk
   have:=h k (List.mem_map.2 ⟨k.toNat,List.mem_range.2 (by have:=hk.2.1;omega),Int.toNat_of_nonneg hk.1⟩)
   simp only[hk,decide_true,Bool.and_true,decide_eq_true_eq]at this
   omega
 · intro h k hk
   rw[Bool.and_eq_true,decide_eq_true_eq,decide_eq_true_eq]
   rintro⟨h1,h2⟩
   have:=h k h2
   omega
theorem fY{c0 c1 c2 c3:UInt8}{n v:Int}:c_ c0 c1 c2 c3 n=some v↔ta c0 c1 c2 c3 v/\n<=v/\∀k,ta c0 c1 c2 c3 k->n<=k->v<=k:=by
 unfold c_
 have inc:∀(l:List Nat),l.Pairwise (· < ·)->∀(p:Int->Bool) (v:Int),(l.map Int.ofNat).find? p=some v->p v=true/\v∈l.map Int.ofNat/\∀k∈l.map Int.ofNat,p k=true->v<=k:=by
  intro l hl p
  induction l with
  | nil=>intro v h;cases h
  | cons x xs ih=>
    intro v h
    rw[List.map_cons,List.find?_cons]at h
    rw[List.pairwise_cons]at hl
    cases hp:p (Int.ofNat x)with
    | true=>
      rw[hp]at h
      simp only[Option.some.injEq]at h
      subst h
      refine⟨hp,by simp,λk hk _=>?_⟩
      rw[List.map_cons,List.mem_cons]at hk
      rcases hk with rfl|hk
      · exact Int.le_refl _
      · obtain⟨y,hy,rfl⟩:=List.mem_map.1 hk
        have:=hl.1 y hy
        simp only[Int.ofNat_eq_natCast];omega
    | false=>
      rw[hp]at h
      obtain⟨h1,h2,h3⟩:=ih hl.2 v h
      refine⟨h1,by rw[List.map_cons,List.mem_cons];exact .inr h2,λk hk hk2=>?_⟩
      rw[List.map_cons,List.mem_cons]at hk
      rcases hk with rfl|hk
      · rw[hp]at hk2;cases hk2
      · exact h3 k hk hk2
 have mem:∀k,ta c0 c1 c2 c3 k->k∈(List.range 10000).map Int.ofNat:=λk hk=>List.mem_map.2 ⟨k.toNat,List.mem_range.2 (by have:=hk.2.1;omega),Int.toNat_of_nonneg hk.1⟩
 constructor
 · intro h
   obtain⟨h1,h2,h3⟩:=inc _ List.pairwise_lt_range _ v h
   rw[Bool.and_eq_true,decide_eq_true_eq,decide_eq_true_eq]at h1
   exact⟨h1.2,h1.1,λk hk hn=>h3 k (mem k hk) (by simp[hk,hn])⟩
 · rintro⟨h1,h2,h3⟩
   cases hf:((List.range 10000).map Int.ofNat).find? (λk=>decide (n<=k)&&decide (ta c0 c1 c2 c3 k))with
   | none=>
     rw[List.find?_eq_none]at hf
     have:=hf v (mem v h1)
     simp[h1,h2]at this
   | some u=>
     obtain⟨k1,k2,k3⟩:=inc _ List.pairwise_lt_range _ u hf
     rw[Bool.and_eq_true,decide_eq_true_eq,decide_eq_true_eq]at k1
     have a:=h3 u k1.2 k1.1
     have b:=k3 v (mem v h1) (by simp[h1,h2])
     rw[Int.le_antisymm b a]
theorem m9{c0 c1 c2 c3:UInt8}{n:Int}:cZ c0 c1 c2 c3 n=none↔∀k,ta c0 c1 c2 c3 k->n<k:=by
 unfold cZ
 rw[List.find?_eq_none]
 constructor
 · intro h k hk
   have:=h k (List.mem_map.2 ⟨(9999-k).toNat,List.mem_range.2 (by have:=hk.1;omega),by have:=hk.2.1;simp only[Int.ofNat_eq_natCast];omega⟩)
   simp only[hk,decide_true,Bool.and_true,decide_eq_true_eq]at this
   omega
 · intro h k hk
   rw[Bool.and_eq_true,decide_eq_true_eq,decide_eq_true_eq]
   rintro⟨h1,h2⟩
   have:=h k h2
   omega
theorem mf{c0 c1 c2 c3:UInt8}{k0 k1 k2 k3:Int}(h0:0<=k0/\k0<=9)(h1:0<=k1/\k1<=9)(h2:0<=k2/\k2<=9)(h3:0<=k3/\k3<=9):ta c0 c1 c2 c3 (1000*k0+100*k1+10*k2+k3)↔mt c0 k0/\mt c1 k1/\mt c2 k2/\mt c3 k3:=by
 unfold ta
 rw[show(1000*k0+100*k1+10*k2+k3)/1000=k0 by omega,show(1000*k0+100*k1+10*k2+k3)/100%10=k1 by omega,show(1000*k0+100*k1+10*k2+k3)/10%10=k2 by omega,show(1000*k0+100*k1+10*k2+k3)%10=k3 by omega]
 exact⟨λh=>h.2.2,λh=>⟨by omega,by omega,h⟩⟩
theorem o4{c0 c1 c2 c3:UInt8}{k:Int}(h:ta c0 c1 c2 c3 k):∃k0 k1 k2 k3:Int,(0<=k0/\k0<=9)/\(0<=k1/\k1<=9)/\(0<=k2/\k2<=9)/\(0<=k3/\k3<=9)/\k=1000*k0+100*k1+10*k2+k3/\mt c0 k0/\mt c1 k1/\mt c2 k2/\mt c3 k3:=by
 obtain⟨h1,h2,h3⟩:=h
 exact⟨k/1000,k/100%10,k/10%10,k%10,by omega,by omega,by omega,by omega,by omega,h3⟩
def ek(c:UInt8):Bool:=Nat.beq c.toNat 88 || (Nat.ble 48 c.toNat&&Nat.ble c.toNat 57)
theorem dW{c:UInt8}:ek c=true↔c.toNat=88\/48<=c.toNat/\c.toNat<=57:=by
 unfold ek;rw[Bool.or_eq_true,Bool.and_eq_true,bW,aB,aB]
def gH(x:Option Int):Bool:=x.isSome
def dp(x:Option Int):Int:=x.getD 0
def zX(x:Option Int):Tr AV:=.test (gH x) λb=>bif b then .ret (.tuple [.int .i64 (dp x),.int .i64 0])else .ret (.tuple [.int .i64 0,.int .i64 16])
theorem QS(c0 c1 c2 c3:UInt8)(n:Int){Q:AV->Prop}:aO Q (pT U2 aW 211 [.str [c0,c1,c2,c3],.int .i64 n,.bool true]) (b_ 10662088127000663551001200200066300062000620006254702002251202200066300062000625470200225127000663000625470200225400515564030202002200224062088127000661070056646355100122020006610202005664630006200062547020022512700066107005664630006254702002254005106620881270006635510012202000663630006200062547020022512700066363000625470200220588540051556403020200220022455403020200220022406208812700066107005664612022000661002200566400064635510012700066107005664612022000661002200566400064630006254702002254005106620881270006635510012022000663000626300062547020022058851270006630006254702002254005155640302020022002240620881270006610700566463551001270006610700566463630006254702002205885400510662088127000663551001270006636363000625470200220588058854005155640302020022002245540302020022002245540302020022002240620881270006610700566461202200066100220056640006461220200066102020056646120020006610002005664000640006463551004005106620881270006635510008851202200066300062000625470200225127000663000625470200225400515564030202002200224062088127000661070056646355100088512700066107005664630006254702002254005106620881270006635510008851270006636300062547020022058854005155640302020022002245540302020022002240620881270006610700566461202200066100220056640006463551000885400510662088127000663551000880588512700066300062547020022540051556403020200220022406208812700066107005664635510008805885400510662088127000663551000880588058854005155640302020022002245540302020022002245540302020022002245540302020022002246662200)=((λ(u8:AV)(u0 u1 u2 u3 u4 u5 u6 u7:Int)=>(λ(u9 ua uc ue uh un up us uu uw uy:Bool)(uq uv uz:Int)(ub ud uf ug ui uj uk ul um uo ur ut ux:Prop)=>(λ(uA uB uC uD uE uF uG uH uI uJ uK uL uM uN uO uP uQ uR uS uT uU uV uW uX uY uZ u10 u11:Prop)=>(λ(u12 u13 u14 u15 u16 u17 u18 u19 u1a u1b u1c:Prop)=>(λ(u1d u1e u1f u1g u1h:Prop)=>ab 0 n=true/\ab n 9999=true/\(uA->uA/\uA/\uA/\uA/\uA/\uA/\uB/\(aa u0 u1=true->(uC->uC/\uC/\uC/\uC/\uC/\uC/\uD/\(ub->(uE->uE/\uE/\uE/\uE/\uE/\uE/\uF/\(ud->(uG->uG/\uG/\uG/\uG/\uG/\uG/\uH/\uI/\(ug->(uJ->uF/\uF/\uF/\uF/\uF/\uF/\u1d)/\u13))/\u14)/\(um->(uM->u1d)/\u15))/\(uN->uN/\uN/\uN/\uN/\uN/\uN/\uO/\(uG->uG/\uG/\uG/\uG/\uG/\uG/\uH/\uI/\(ug->(uJ->uO/\uO/\uO/\uO/\uO/\uO/\u16/\(uP->u1d))/\u13))/\u14))/\(ur->(us=true->u12)/\u17))/\(uQ->uQ/\uQ/\uQ/\uQ/\uQ/\uQ/\uR/\(uE->uE/\uE/\uE/\uE/\uE/\uE/\uF/\(ud->(uG->uG/\uG/\uG/\uG/\uG/\uG/\uH/\uI/\(ug->(uJ->uF/\uF/\uF/\uF/\uF/\uF/\uR/\uR/\uR/\uR/\uR/\uR/\u1e/\u1f)/\u13))/\u14)/\(um->(uM->uR/\uR/\uR/\uR/\uR/\uR/\u1g/\u1f)/\u15))/\(uN->uN/\uN/\uN/\uN/\uN/\uN/\uO/\(uG->uG/\uG/\uG/\uG/\uG/\uG/\uH/\uI/\(ug->(uJ->uO/\uO/\uO/\uO/\uO/\uO/\u16/\(uP->uR/\uR/\uR/\uR/\uR/\uR/\u19/\u1f))/\u13))/\u14)))/\(aa u0 u1=false->(uw=true->ui)/\(uw=false->uB/\(uR->(uO->(uL->ux/\Q (AV.tuple [AV.int .i64 (cP u0 48 48 48),u8]))/\(uH->ux/\ul/\Q (AV.tuple [AV.int .i64 (cP u0 48 48 u6),u8])))/\(uF->(uL->ux/\uo/\Q (AV.tuple [AV.int .i64 (cP u0 48 u4 48),u8]))/\(uH->ux/\uo/\ul/\Q (AV.tuple [AV.int .i64 (cP u0 48 u4 u6),u8]))))/\(uD->(uO->(uL->ux/\ut/\Q (AV.tuple [AV.int .i64 (cP u0 u2 48 48),u8]))/\(uH->ux/\ut/\ul/\Q (AV.tuple [AV.int .i64 (cP u0 u2 48 u6),u8])))/\(uF->(uL->ux/\ut/\uo/\Q (AV.tuple [AV.int .i64 (cP u0 u2 u4 48),u8]))/\(uH->ux/\ut/\uo/\ul/\Q (AV.tuple [AV.int .i64 (cP u0 u2 u4 u6),u8])))))))/\(uW->uW/\uW/\uW/\uW/\uW/\uW/\uX/\(uC->uC/\uC/\uC/\uC/\uC/\uC/\uD/\(ub->(uE->uE/\uE/\uE/\uE/\uE/\uE/\uF/\(ud->(uG->uG/\uG/\uG/\uG/\uG/\uG/\uH/\uI/\(ug->(uJ->uF/\uF/\uF/\uF/\uF/\uF/\uD/\uD/\uD/\uD/\uD/\uD/\uX/\uX/\uX/\uX/\uX/\uX/\(uY->uZ/\uD/\uF/\uH/\u1a)/\u11)/\u13))/\u14)/\(um->(uM->uD/\uD/\uD/\uD/\uD/\uD/\uX/\uX/\uX/\uX/\uX/\uX/\(uY->uZ/\uD/\uF/\u1h)/\u11)/\u15))/\(uN->uN/\uN/\uN/\uN/\uN/\uN/\uO/\(uG->uG/\uG/\uG/\uG/\uG/\uG/\uH/\uI/\(ug->(uJ->uO/\uO/\uO/\uO/\uO/\uO/\u16/\(uP->uD/\uD/\uD/\uD/\uD/\uD/\uX/\uX/\uX/\uX/\uX/\uX/\(uY->uZ/\uD/\uO/\uH/\u1b)/\u11))/\u13))/\u14))/\(ur->(us=true->uX/\uX/\uX/\uX/\uX/\uX/\(uY->uZ/\uD/\(uO->(uL->u10/\ut/\Q (AV.tuple [AV.int .i64 (cP uz u2 48 48),u8]))/\(uH->u1b))/\(uF->u1h))/\u11)/\u17))/\(uQ->uQ/\uQ/\uQ/\uQ/\uQ/\uQ/\uR/\(uE->uE/\uE/\uE/\uE/\uE/\uE/\uF/\(ud->(uG->uG/\uG/\uG/\uG/\uG/\uG/\uH/\uI/\(ug->(uJ->uF/\uF/\uF/\uF/\uF/\uF/\uR/\uR/\uR/\uR/\uR/\uR/\u1e/\(uV->uX/\uX/\uX/\uX/\uX/\uX/\(uY->uZ/\uR/\uF/\uH/\u1c)/\u11))/\u13))/\u14)/\(um->(uM->uR/\uR/\uR/\uR/\uR/\uR/\u1g/\(uV->uX/\uX/\uX/\uX/\uX/\uX/\(uY->uZ/\uR/\uF/\(uL->u10/\uo/\Q (AV.tuple [AV.int .i64 (cP uz 48 u4 48),u8]))/\(uH->u1c))/\u11))/\u15))/\(uN->uN/\uN/\uN/\uN/\uN/\uN/\uO/\(uG->uG/\uG/\uG/\uG/\uG/\uG/\uH/\uI/\(ug->(uJ->uO/\uO/\uO/\uO/\uO/\uO/\u16/\(uP->uR/\uR/\uR/\uR/\uR/\uR/\u19/\(uV->uX/\uX/\uX/\uX/\uX/\uX/\(uY->uZ/\uR/\uO/\uH/\u10/\ul/\Q (AV.tuple [AV.int .i64 (cP uz 48 48 u6),u8]))/\u11)))/\u13))/\u14)))) (uD/\uD/\uD/\uD/\uD/\uD/\u12) (uS->uT/\uF/\uH/\u18) (uV->u12) (uS->uT/\uF/\(uL->uj/\uU/\uo/\Q (AV.tuple [AV.int .i64 (cP u1 uv u4 48),u8]))/\(uH->u18)) ((uL->u10/\ut/\uo/\Q (AV.tuple [AV.int .i64 (cP uz u2 u4 48),u8]))/\(uH->u1a))) (uB/\uB/\uB/\uB/\uB/\uB/\ui) (uh=false->uH/\uj/\uk/\and (ab 48 u5) (ab u5 57)=true/\ul/\Q (AV.tuple [AV.int .i64 (cP u1 u3 u5 u6),u8])) (uK->uK/\uK/\uK/\uK/\uK/\uK/\uL/\uf) (un=false->uF/\(uL->uj/\uk/\uo/\Q (AV.tuple [AV.int .i64 (cP u1 u3 u4 48),u8]))/\(uH->uj/\uk/\uo/\ul/\Q (AV.tuple [AV.int .i64 (cP u1 u3 u4 u6),u8]))) (up=true->ae .u8 uq=true/\uH/\uj/\uk/\and (ab 48 uq) (ab uq 57)=true/\ul/\Q (AV.tuple [AV.int .i64 (cP u1 u3 uq u6),u8])) (us=false->uD/\(uO->(uL->uj/\ut/\Q (AV.tuple [AV.int .i64 (cP u1 u2 48 48),u8]))/\(uH->uj/\ut/\ul/\Q (AV.tuple [AV.int .i64 (cP u1 u2 48 u6),u8])))/\(uF->(uL->uj/\ut/\uo/\Q (AV.tuple [AV.int .i64 (cP u1 u2 u4 48),u8]))/\(uH->uj/\ut/\uo/\ul/\Q (AV.tuple [AV.int .i64 (cP u1 u2 u4 u6),u8])))) (uj/\uU/\uo/\ul/\Q (AV.tuple [AV.int .i64 (cP u1 uv u4 u6),u8])) (uS->uT/\uO/\uH/\uj/\uU/\ul/\Q (AV.tuple [AV.int .i64 (cP u1 uv 48 u6),u8])) (u10/\ut/\uo/\ul/\Q (AV.tuple [AV.int .i64 (cP uz u2 u4 u6),u8])) (u10/\ut/\ul/\Q (AV.tuple [AV.int .i64 (cP uz u2 48 u6),u8])) (u10/\uo/\ul/\Q (AV.tuple [AV.int .i64 (cP uz 48 u4 u6),u8]))) (not u9=true) (u9=false) (not ua=true) (ua=false) (not uc=true) (uc=false) (not ue=true) (ue=false) (aa u6 u7=true->uf) (uh=true) (not ue=false) (ue=true) (un=true) (not uc=false) (uc=true) (up=false) (not ua=false) (ua=true) (uu=true) (ae .u8 uv=true) (and (ab 48 uv) (ab uv 57)=true) (uu=false) (not u9=false) (u9=true) (uy=true) (ae .u8 uz=true) (and (ab 48 uz) (ab uz 57)=true) (uy=false->ui)) (aa u0 88) (aa u2 88) (aa u4 88) (aa u6 88) (not (aL (not (ab u6 u7)) true)) (not (aL (not (ab u4 u5)) true)) (not (aa u5 57)) (not (aL (not (ab u2 u3)) true)) (not (aa u3 57)) (not (aL (not (ab u0 u1)) true)) (not (aa u1 57)) (Int.add u5 1) (Int.add u3 1) (Int.add u1 1) (aa u2 u3=true) (aa u4 u5=true) (Q (AV.tuple [AV.int .i64 n,u8])) (aa u6 u7=false) (Q (AV.tuple [u8,AV.int .i64 16])) (and (ab 48 u1) (ab u1 57)=true) (and (ab 48 u3) (ab u3 57)=true) (and (ab 48 u6) (ab u6 57)=true) (aa u4 u5=false) (and (ab 48 u4) (ab u4 57)=true) (aa u2 u3=false) (and (ab 48 u2) (ab u2 57)=true) (and (ab 48 u0) (ab u0 57)=true)) (AV.int .i64 0) (Int.ofNat (UInt8.toNat c0)) (Int.add 48 (dg n 0)) (Int.ofNat (UInt8.toNat c1)) (Int.add 48 (dg n 1)) (Int.ofNat (UInt8.toNat c2)) (Int.add 48 (dg n 2)) (Int.ofNat (UInt8.toNat c3)) (Int.add 48 (dg n 3))):=by kernel_rfl
theorem A9:aH tab 211=some (bC 211,aE 211):=by kernel_rfl
theorem Kg{c0 c1 c2 c3:UInt8}{n:Int}(hn:0<=n/\n<=9999)(hc0:c0.toNat=88\/48<=c0.toNat/\c0.toNat<=57)(hc1:c1.toNat=88\/48<=c1.toNat/\c1.toNat<=57)(hc2:c2.toNat=88\/48<=c2.toNat/\c2.toNat<=57)(hc3:c3.toNat=88\/48<=c3.toNat/\c3.toNat<=57){v:AV}(hv:(zX (c_ c0 c1 c2 c3 n)).run=some v):bR Tryz.prog cfg 211 [.str [c0,c1,c2,c3],.int .i64 n,.bool true] [] v []:=by
 obtain⟨d0,d1,d2,d3⟩:=Wq hn.1
 have hv':Tr.run (bif gH (c_ c0 c1 c2 c3 n)then .ret (.tuple [.int .i64 (dp (c_ c0 c1 c2 c3 n)),.int .i64 0])else .ret (.tuple [.int .i64 0,.int .i64 16]))=some v:=hv
 have ids:aq v=[]:=by
  cases hb:gH (c_ c0 c1 c2 c3 n)<;>rw[hb]at hv'<;>cases hv'<;>simp[aq,bG]
 have g0:0<=dg n 0/\dg n 0<=9:=by omega
 have g1:0<=dg n 1/\dg n 1<=9:=by omega
 have g2:0<=dg n 2/\dg n 2<=9:=by omega
 have g3:0<=dg n 3/\dg n 3<=9:=by omega
 have hn2:n=1000*dg n 0+100*dg n 1+10*dg n 2+dg n 3:=by omega
 refine cp Gy (L:=aW) A9 (by simp) ak (ap λQ' hQ=>al ((QS c0 c1 c2 c3 n).mpr ?_)) ids
 dsimp only
 have yes:∀u,c_ c0 c1 c2 c3 n=some u->Q' (.tuple [.int .i64 u,.int .i64 0]):=λu hu=>by
  rw[hu]at hv'
  cases hv'
  exact hQ _ rfl
 have no:c_ c0 c1 c2 c3 n=none->Q' (.tuple [.int .i64 0,.int .i64 16]):=λhu=>by
  rw[hu]at hv'
  cases hv'
  exact hQ _ rfl
 generalize dg n 0=e0 at *
 generalize dg n 1=e1 at *
 generalize dg n 2=e2 at *
 generalize dg n 3=e3 at *
 clear d0 d1 d2 d3 hv hv' hQ ids
 have all:∀(a b c d:Int),(48<=a/\a<=57)->(48<=b/\b<=57)->(48<=c/\c<=57)->(48<=d/\d<=57)->(c0.toNat=88\/(c0.toNat:Int)=a)->(c1.toNat=88\/(c1.toNat:Int)=b)->(c2.toNat=88\/(c2.toNat:Int)=c)->(c3.toNat=88\/(c3.toNat:Int)=d)->
  1000*e0+100*e1+10*e2+e3<=1000*(a-48)+100*(b-48)+10*(c-48)+(d-48)->
  (∀k0 k1 k2 k3:Int,(0<=k0/\k0<=9)->(0<=k1/\k1<=9)->(0<=k2/\k2<=9)->(0<=k3/\k3<=9)->(c0.toNat=88\/(c0.toNat:Int)=48+k0)->(c1.toNat=88\/(c1.toNat:Int)=48+k1)->(c2.toNat=88\/(c2.toNat:Int)=48+k2)->(c3.toNat=88\/(c3.toNat:Int)=48+k3)->
    1000*e0+100*e1+10*e2+e3<=1000*k0+100*k1+10*k2+k3->1000*(a-48)+100*(b-48)+10*(c-48)+(d-48)<=1000*k0+100*k1+10*k2+k3)->Q' (.tuple [.int .i64 (cP a b c d),.int .i64 0]):=by
  intro a b c d ha hb hc hd m0 m1 m2 m3 hle hmin
  refine yes _ (fY.2 ⟨?_,?_,λk hk hnk=>?_⟩)
  · unfold cP
    rw[mf (by omega) (by omega) (by omega) (by omega)]
    unfold mt
    exact⟨by omega,by omega,by omega,by omega⟩
  · unfold cP;omega
  · obtain⟨k0,k1,k2,k3,a1,a2,a3,a4,rfl,b1,b2,b3,b4⟩:=o4 hk
    unfold cP
    exact hmin k0 k1 k2 k3 a1 a2 a3 a4 b1 b2 b3 b4 (by omega)
 have same:(c0.toNat=88\/(c0.toNat:Int)=48+e0)->(c1.toNat=88\/(c1.toNat:Int)=48+e1)->(c2.toNat=88\/(c2.toNat:Int)=48+e2)->(c3.toNat=88\/(c3.toNat:Int)=48+e3)->Q' (.tuple [.int .i64 n,.int .i64 0]):=λm0 m1 m2 m3=>by
  refine yes _ (fY.2 ⟨?_,Int.le_refl _,λk hk hnk=>hnk⟩)
  rw[hn2,mf g0 g1 g2 g3]
  exact⟨m0,m1,m2,m3⟩
 have non:(∀k0 k1 k2 k3:Int,(0<=k0/\k0<=9)->(0<=k1/\k1<=9)->(0<=k2/\k2<=9)->(0<=k3/\k3<=9)->(c0.toNat=88\/(c0.toNat:Int)=48+k0)->(c1.toNat=88\/(c1.toNat:Int)=48+k1)->(c2.toNat=88\/(c2.toNat:Int)=48+k2)->(c3.toNat=88\/(c3.toNat:Int)=48+k3)->
       1000*k0+100*k1+10*k2+k3<1000*e0+100*e1+10*e2+e3)->Q' (.tuple [.int .i64 0,.int .i64 16]):=λh=>by
  refine no (nq.2 λk hk=>?_)
  obtain⟨k0,k1,k2,k3,a1,a2,a3,a4,rfl,b1,b2,b3,b4⟩:=o4 hk
  have:=h k0 k1 k2 k3 a1 a2 a3 a4 b1 b2 b3 b4
  omega
 clear yes no
 simp only[aD,reduceCtorEq,bA,bB,ne_eq]
 (repeat' first|exact trivial|refine⟨?_,?_⟩|intro)<;>first|omega|(refine same ?_ ?_ ?_ ?_<;>omega)|(refine all _ _ _ _ ?_ ?_ ?_ ?_ ?_ ?_ ?_ ?_ ?_ ?_<;>(intros;omega))|(refine non ?_;intros;omega)
def PG:dM:=λargs=>match args with
 | [.str [c0,c1,c2,c3],.int .i64 n,.bool true]=>some (aN [ek c0,ek c1,ek c2,ek c3,ab 0 n,ab n 9999] (zX (c_ c0 c1 c2 c3 n)))
 | _=>none
def PH:dM:=λargs=>match args with
 | [.str [c0,c1,c2,c3]]=>some (aN [ek c0,ek c1,ek c2,ek c3] (.ret (.int .i64 0)))
 | _=>none
def zh(c:UInt8)(x:Int):Int:=(bif Nat.beq c.toNat 88 then x else(c.toNat:Int))-48
def wJ(c0 c1 c2 c3:UInt8)(x:Int):Int:=1000*zh c0 x+100*zh c1 x+10*zh c2 x+zh c3 x
def Sa:dM:=λargs=>match args with
 | [.str [c0,c1,c2,c3],.int .u8 x]=>some (aN [ek c0,ek c1,ek c2,ek c3,LT x] (.ret (.int .i64 (wJ c0 c1 c2 c3 x))))
 | _=>none
def U3:bq:=bw (bw (bw U2 211 PG) 208 PH) 209 Sa
def QN:dM:=λargs=>match args with
 | [.str [c0,c1,c2,c3],.int .i64 n]=>some (aN [ek c0,ek c1,ek c2,ek c3] (zX (c_ c0 c1 c2 c3 n)))
 | _=>none
def U4:bq:=bw U3 147 QN
theorem Xv(c0 c1 c2 c3:UInt8)(n:Int){Q:AV->Prop}:aO Q (pT U3 aW 147 [.str [c0,c1,c2,c3],.int .i64 n]) (b_ 114770142200562710270027040270)=((λ(u5:AV)(u4 u7:Bool)(u8:Option Int)(u0 u1 u2 u3 u6:Prop)=>(λ(u9:Prop)=>u0/\u1/\u2/\u3/\(u4=true->u0/\u1/\u2/\u3/\u0/\u1/\u2/\u3/\Q (AV.tuple [AV.int .i64 (wJ c0 c1 c2 c3 48),u5]))/\(u4=false->u6/\u6/\u6/\u6/\u6/\u6/\(u7=true->u9)/\(u7=false->u0/\u1/\u2/\u3/\u6/\ab n 9999=true/\(gH u8=true->Q (AV.tuple [AV.int .i64 (dp u8),u5]))/\(gH u8=false->u9)))) (Q (AV.tuple [u5,AV.int .i64 16]))) (AV.int .i64 0) (not (ab 0 n)) (not (not (ab 10000 n))) (c_ c0 c1 c2 c3 n) (ek c0=true) (ek c1=true) (ek c2=true) (ek c3=true) (ab 0 n=true)):=by kernel_rfl
theorem Jo:aH tab 208=some (bC 208,aE 208):=by kernel_rfl
theorem ID:aH tab 209=some (bC 209,aE 209):=by kernel_rfl
theorem Hq:aH tab 147=some (bC 147,aE 147):=by kernel_rfl
theorem XP{c0 c1 c2 c3:UInt8}(h0:ek c0=true)(h1:ek c1=true)(h2:ek c2=true)(h3:ek c3=true):∀(i:Nat) (h:i<(ByteArray.mk ⟨[c0,c1,c2,c3]⟩).size),Go.Proofs.YtafekjglclnegaaGreatDoor.mb (ByteArray.mk ⟨[c0,c1,c2,c3]⟩)[i]:=by
 intro i h
 rw[dW]at h0 h1 h2 h3
 have hs:(ByteArray.mk ⟨[c0,c1,c2,c3]⟩).size=4:=rfl
 have:i=0\/i=1\/i=2\/i=3:=by omega
 rcases this with rfl|rfl|rfl|rfl
 · exact h0
 · exact h1
 · exact h2
 · exact h3
theorem Kx:az Tryz.prog cfg U3:=by
 refine aA (aA (aA Gy λargs t v he hv=>?_) λargs t v he hv=>?_) λargs t v he hv=>?_
 · unfold PG at he
   split at he
   · cases he
     obtain⟨⟨h0,h1,h2,h3,h4,h5,-⟩,hv⟩:=aI hv
     rw[aK]at h4 h5
     exact Kg ⟨h4,h5⟩ (dW.1 h0) (dW.1 h1) (dW.1 h2) (dW.1 h3) hv
   · cases he
 · unfold PH at he
   split at he
   · rename_i c0 c1 c2 c3
     cases he
     obtain⟨⟨h0,h1,h2,h3,-⟩,hv⟩:=aI hv
     cases hv
     refine db Jo (by simp[aq]) λm w hG=>?_
     have:=Go.Proofs.YtafekjglclnegaaGreatDoor.masks_Check ⟨⟨[c0,c1,c2,c3]⟩⟩ w (by show 1<=4;decide) (by show 4<=18;decide) (XP h0 h1 h2 h3)
     simpa [ar,aj]using this
   · cases he
 · unfold Sa at he
   split at he
   · rename_i c0 c1 c2 c3 x
     cases he
     obtain⟨⟨h0,h1,h2,h3,h4,-⟩,hv⟩:=aI hv
     unfold LT at h4
     rw[Bool.and_eq_true,aK,aK]at h4
     cases hv
     refine db ID (by simp[aq]) λm w hG=>?_
     have:=Go.Proofs.YtafekjglclnegaaGreatDoor.masks_filled ⟨⟨[c0,c1,c2,c3]⟩⟩ x w h4 (by show 4<=18;decide) (XP h0 h1 h2 h3)
     have e:Go.Proofs.YtafekjglclnegaaGreatDoor.fillv x [c0,c1,c2,c3]=wJ c0 c1 c2 c3 x:=by
      have ed:∀c:UInt8,Go.Proofs.YtafekjglclnegaaGreatDoor.dig x c=zh c x:=λc=>by
       unfold Go.Proofs.YtafekjglclnegaaGreatDoor.dig zh
       by_cases h:c.toNat=88
       · rw[if_pos h,dI h];rfl
       · rw[if_neg h,iH h];rfl
      simp only[Go.Proofs.YtafekjglclnegaaGreatDoor.fillv,List.foldl_cons,List.foldl_nil,ed,wJ]
      omega
     rw[show(ByteArray.mk ⟨[c0,c1,c2,c3]⟩).data.toList=[c0,c1,c2,c3]from rfl,e]at this
     simpa [ar,aj]using this
   · cases he
theorem Cs{c0 c1 c2 c3:UInt8}(h0:ek c0=true)(h1:ek c1=true)(h2:ek c2=true)(h3:ek c3=true){n:Int}(hn:n<=0):c_ c0 c1 c2 c3 n=some (wJ c0 c1 c2 c3 48):=by
 rw[dW]at h0 h1 h2 h3
 have ed:∀c:UInt8,(c.toNat=88\/48<=c.toNat/\c.toNat<=57)->0<=zh c 48/\zh c 48<=9/\mt c (zh c 48)/\∀k,mt c k->0<=k->zh c 48<=k:=λc h=>by
  unfold zh mt
  by_cases hx:c.toNat=88
  · rw[dI hx]
    rw[cond_true]
    exact⟨by decide,by decide,.inl hx,λk _ h=>by simpa using h⟩
  · rw[iH hx,cond_false]
    exact⟨by omega,by omega,.inr (by omega),λk hk _=>by omega⟩
 obtain⟨a0,b0,m0,l0⟩:=ed c0 h0
 obtain⟨a1,b1,m1,l1⟩:=ed c1 h1
 obtain⟨a2,b2,m2,l2⟩:=ed c2 h2
 obtain⟨a3,b3,m3,l3⟩:=ed c3 h3
 rw[fY]
 unfold wJ
 refine⟨(mf ⟨a0,b0⟩ ⟨a1,b1⟩ ⟨a2,b2⟩ ⟨a3,b3⟩).2 ⟨m0,m1,m2,m3⟩,by omega,λk hk _=>?_⟩
 obtain⟨k0,k1,k2,k3,x0,x1,x2,x3,rfl,y0,y1,y2,y3⟩:=o4 hk
 have:=l0 k0 y0 x0.1
 have:=l1 k1 y1 x1.1
 have:=l2 k2 y2 x2.1
 have:=l3 k3 y3 x3.1
 omega
theorem J5:az Tryz.prog cfg U4:=by
 refine aA Kx λargs t v he hv=>?_
 unfold QN at he
 split at he
 · rename_i c0 c1 c2 c3 n
   cases he
   obtain⟨⟨h0,h1,h2,h3,-⟩,hv⟩:=aI hv
   have hv':Tr.run (bif gH (c_ c0 c1 c2 c3 n)then .ret (.tuple [.int .i64 (dp (c_ c0 c1 c2 c3 n)),.int .i64 0])else .ret (.tuple [.int .i64 0,.int .i64 16]))=some v:=hv
   have ids:aq v=[]:=by
    cases hb:gH (c_ c0 c1 c2 c3 n)<;>rw[hb]at hv'<;>cases hv'<;>simp[aq,bG]
   have yes:∀u,c_ c0 c1 c2 c3 n=some u->v=(.tuple [.int .i64 u,.int .i64 0]):=λu hu=>by
    rw[hu]at hv'
    cases hv'
    rfl
   have no:c_ c0 c1 c2 c3 n=none->v=(.tuple [.int .i64 0,.int .i64 16]):=λhu=>by
    rw[hu]at hv'
    cases hv'
    rfl
   refine cp Kx (L:=aW) Hq (by simp) ak (ap λQ' hQ=>al ((Xv c0 c1 c2 c3 n).mpr ?_)) ids
   simp only[aD,reduceCtorEq,bA,bB,ne_eq]
   have hle:∀k,ta c0 c1 c2 c3 k->k<=9999:=λk hk=>hk.2.1
   (repeat' first|exact trivial|refine⟨?_,?_⟩|intro)<;>first|omega|assumption|refine hQ _ ?_
   · exact(yes _ (Cs h0 h1 h2 h3 (by omega))).symm
   · exact(no (nq.2 λk hk=>by have:=hle k hk;omega)).symm
   · rename_i hs
     obtain⟨u,hu⟩:=Option.isSome_iff_exists.1 hs
     rw[yes u hu,hu];rfl
   · rename_i hs
     exact(no (by cases hx:c_ c0 c1 c2 c3 n with
      | none=>rfl
      | some u=>rw[hx]at hs;cases hs)).symm
 · cases he
end Go.Ev
end
