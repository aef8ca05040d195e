import Derived.Test.YtafekjglclnegaaGreatDoorP39
set_option linter.all false
section
set_option maxRecDepth 100000
set_option maxHeartbeats 4000000
namespace Go.Ev
open Go Go.Proofs
def spU (s:List UInt8) (e g:Int):Int:=p10R (Int.ofNat s.length+e-g)
def spM (s:List UInt8) (e:Int):Int:=Int.ofNat (magV s e.toNat)
def spL (s:List UInt8) (e g:Int):Int:=spM s e-spM s e%spU s e g
def spH (s:List UInt8) (e g:Int):Int:=minI (spL s e g+spU s e g-1) 10000000000000000
def spA (ng:Bool) (s:List UInt8) (e g:Int):Int:=bif ng then -(spH s e g) else spL s e g
def spB (ng:Bool) (s:List UInt8) (e g:Int):Int:=bif ng then -(spL s e g) else spH s e g
def s93:Sum:=fun args=>match args with
 | [.agg [.bool ng,.bool lg,.str s,.int .i64 e,.int .i64 g]]=>some (asrts [Nat.ble s.length 1000,okY14 ng lg s e g,intLe 1 g] (.ret (.tuple [.int .i64 (spA ng s e g),.int .i64 (spB ng s e g),.int .i64 0])))
 | _=>none
def s73:Sum:=fun args=>match args with
 | [.agg [.bool ng,.bool lg,.str s,.int .i64 e,.int .i64 g,.str mo,.str da,.int .u8 a,.int .u8 b,.int .u8 c]]=>some (asrts [Nat.ble s.length 1000,okY14 ng lg s e g,intLe 1 g] (.ret (.tuple [.int .i64 (spA ng s e g),.int .i64 (spB ng s e g)])))
 | _=>none
def v73:LoopV:=fun vs o=>match vs,o with
 | [.ptr 14 0,.int .i64 y,.int .i64 z,.ptr 15 0,.int .i64 v,.int .i64 u,.int .i64 k],⟨2,[.cells [.bool nf,.bool lf,.str sf,.int .i64 ef,.int .i64 g] true none,.cells w true none],[]⟩=>some (asrts [intEq y 0,intEq z 0,intEq u 1,intLe g k,intLe (k-g) 16,intLe 0 g,intLe k 1000] (.ret (.exit 0,[.ptr 14 0,.int .i64 0,.int .i64 0,.ptr 15 0,.int .i64 v,.int .i64 (p10R (k-g)),.int .i64 g],o)))
 | _,_=>none
def L73:Loops:=addL noL 0 (loopE 48 [1,2,3,4,5,6,7] v73)
def GV1:Sums:=addP nilS 107 s107
theorem b93 (ng lg:Bool) (s:List UInt8) (e g:Int) {Q:AV->Prop}:askA Q (pT Y5s noL 93 [.agg [.bool ng,.bool lg,.str s,.int .i64 e,.int .i64 g]]) (dtN 1122402770202002077005300532005)=((fun (u0:Nat)=>(fun (u1:Int)=>(fun (u2:Int)=>(fun (u3:Int)=>(fun (u4:Int)=>(fun (u5:Int)=>(fun (u6:Int)=>(fun (u7:Int)=>Nat.ble u0 1000=true/\not (intEq (cond (okY14 ng lg s e g) 0 6) 0)=false/\not (Nat.beq (hasN s 88 88) 0)=false/\digL s=true/\natLt 0 u0=true/\Nat.ble u0 18=true/\intLe 0 e=true/\intLe e 16=true/\magOk s (Int.toNat e)=true/\not (intLe g 0)=true/\inR .i64 u1=true/\inR .i64 u2=true/\intLe 0 u2=true/\intLe u2 18=true/\not (intEq (maxI u3 1) 0)=true/\inR .i64 u4=true/\inR .i64 u5=true/\inR .i64 u6=true/\inR .i64 (Int.sub u6 1)=true/\(ng=true->inR .i64 (Int.sub 0 u7)=true/\inR .i64 (Int.sub 0 u5)=true/\Q (AV.tuple [AV.int .i64 (Int.sub 0 u7),AV.int .i64 (Int.sub 0 u5),AV.int .i64 0]))/\(ng=false->Q (AV.tuple [AV.int .i64 u5,AV.int .i64 u7,AV.int .i64 0]))) (minI (Int.sub u6 1) 10000000000000000)) (Int.add u5 u3)) (Int.mul u4 u3)) (Int.tdiv (Int.ofNat (magV s (Int.toNat e))) (maxI u3 1))) (p10R u2)) (Int.sub u1 g)) (Int.add (Int.ofNat u0) e)) (List.length s)):=by kernel_rfl
theorem r73 (nf lf:Bool) (sf:List UInt8) (ef g v u k:Int) (w:List AV) (J:Nat->Value) {Q:VQ->Prop}:askA Q (rT GV1 noL [] 73 0 48 [1,2,3,4,5,6,7] [.ptr 14 0,.int .i64 0,.int .i64 0,.ptr 15 0,.int .i64 v,.int .i64 u,.int .i64 k] J ⟨2,[.cells [.bool nf,.bool lf,.str sf,.int .i64 ef,.int .i64 g] true none,.cells w true none],[]⟩) (dtN 112240)=((fun (u1:AV) (u0:Bool)=>(u0=true->inR .i64 (Int.mul u 10)=true/\inR .i64 (Int.sub k 1)=true/\Q (AX.normal,([AV.ptr 14 0,u1,u1,AV.ptr 15 0,AV.int .i64 v,AV.int .i64 (Int.mul u 10),AV.int .i64 (Int.sub k 1)],{ n:=2,os:=[AObj.cells [AV.bool nf,AV.bool lf,AV.str sf,AV.int .i64 ef,AV.int .i64 g] true Option.none,AObj.cells w true Option.none],le:=[] })))/\(u0=false->Q (AX.exit 0,([AV.ptr 14 0,u1,u1,AV.ptr 15 0,AV.int .i64 v,AV.int .i64 u,AV.int .i64 k],{ n:=2,os:=[AObj.cells [AV.bool nf,AV.bool lf,AV.str sf,AV.int .i64 ef,AV.int .i64 g] true Option.none,AObj.cells w true Option.none],le:=[] })))) (AV.int .i64 0) (not (intLe k g))):=by kernel_rfl
theorem b73 (ng lg:Bool) (s:List UInt8) (e g:Int) (mo da:List UInt8) (a b c:Int) {Q:AV->Prop}:askA Q (pT GV1 L73 73 [.agg [.bool ng,.bool lg,.str s,.int .i64 e,.int .i64 g,.str mo,.str da,.int .u8 a,.int .u8 b,.int .u8 c]]) (dtN 112240227700020022756)=((fun (u0 u1:Int)=>(fun (u2:Int)=>(fun (u3:Int)=>(fun (u4:Int)=>(fun (u5:Int)=>Nat.ble (List.length s) 1000=true/\digL s=true/\intLe 0 e=true/\intLe e 1000=true/\magOk s (Int.toNat e)=true/\inR .i64 u0=true/\intLe g u0=true/\intLe (HSub.hSub u0 g) 16=true/\intLe 0 g=true/\intLe u0 1000=true/\(∀J1:Nat->Value,not (intEq u2 0)=true/\inR .i64 u3=true/\inR .i64 (Int.sub u2 1)=true/\inR .i64 u4=true/\(ng=true->inR .i64 (Int.sub 0 u5)=true/\inR .i64 (Int.sub 0 u3)=true/\Q (AV.tuple [AV.int .i64 (Int.sub 0 u5),AV.int .i64 (Int.sub 0 u3)]))/\(ng=false->Q (AV.tuple [AV.int .i64 u3,AV.int .i64 u5])))) (minI u4 10000000000000000)) (Int.add u3 (Int.sub u2 1))) (Int.sub u1 (Int.tmod u1 u2))) (p10R (HSub.hSub u0 g))) (Int.add (Int.ofNat (List.length s)) e) (Int.ofNat (magV s (Int.toNat e)))):=by kernel_rfl
theorem body93:bodyOf tab 93=some (fnOf 93,codeOf 93):=by kernel_rfl
theorem body73:bodyOf tab 73=some (fnOf 73,codeOf 73):=by kernel_rfl
theorem loops73:(loopsOf (codeOf 73)).map (·.1)=[0]:=by kernel_rfl
theorem foldl_ge:∀(r:List UInt8) (n:Nat),n*10^r.length≤r.foldl (fun n b=>n*10+(b.toNat-48)) n
 | [],n=>by simp
 | b::r,n=>by
   have h:=foldl_ge r (n*10+(b.toNat-48))
   have:n*10^(r.length+1)≤(n*10+(b.toNat-48))*10^r.length:=by
    rw [Nat.pow_succ,←Nat.mul_assoc,Nat.mul_right_comm]
    exact Nat.mul_le_mul_right _ (Nat.le_add_right _ _)
   exact Nat.le_trans this h
theorem sp_facts {ng lg:Bool} {s:List UInt8} {e g:Int} (hk:okY14 ng lg s e g=true) (hg:1≤g):hasN s 88 88=0/\g≤s.length+e/\s.length+e≤17:=by
 have h:=hk
 unfold okY14 at h
 rw [decide_eq_true_eq] at h
 have hx:hasN s 88 88=0:=by omega
 refine ⟨hx,by omega,?_⟩
 rcases h with ⟨k1,k2,⟨l1,l2,l3,l4⟩|⟨l1,l2,l3,l4,l5,l6,l7,l8,l9,l10⟩⟩
 · omega
 · unfold magOk at l10
   rw [q_ble_t] at l10
   match s,l3,l4,l5,l10,k1 with
   | [],l3,_,_,_,_=>exact absurd l3 (by decide)
   | c::r,l3,l4,l5,l10,k1=>
     have l5:c.toNat≠48:=l5
     have hd:digL (c::r)=true:=digL_of (by omega)
     have hc:=@digL_at (c::r) hd 0 (by simp)
     have hc:48≤c.toNat/\c.toNat≤57:=hc
     have h1:(c.toNat-48)*10^r.length≤numL (c::r):=by
      have:=foldl_ge r (0*10+(c.toNat-48))
      rw [Nat.zero_mul,Nat.zero_add] at this
      show _≤r.foldl _ (0*10+(c.toNat-48))
      rw [Nat.zero_mul,Nat.zero_add]
      exact this
     have h2:10^r.length≤numL (c::r):=Nat.le_trans (Nat.le_mul_of_pos_left _ (by omega)) h1
     have h3:10^(r.length+e.toNat)≤10^16:=by
      rw [Nat.pow_add]
      exact Nat.le_trans (Nat.mul_le_mul_right _ h2) l10
     have h4:r.length+e.toNat≤16:=(Nat.pow_le_pow_iff_right (by decide)).1 h3
     simp only [List.length_cons]
     omega
theorem p10_bd {k:Int} (h:k≤16):1≤p10R k/\p10R k≤10000000000000000:=by
 unfold p10R
 have h1:1≤10^k.toNat:=Nat.pos_of_ne_zero (by simp)
 have h2:10^k.toNat≤10^16:=Nat.pow_le_pow_right (by decide) (by omega)
 have:(10:Nat)^16=10000000000000000:=by decide
 omega
theorem sp_nums {ng lg:Bool} {s:List UInt8} {e g:Int} (hk:okY14 ng lg s e g=true) (hg:1≤g):(1≤spU s e g/\spU s e g≤10000000000000000)/\(0≤spM s e/\spM s e≤10000000000000000)/\(0≤spM s e%spU s e g/\spM s e%spU s e g<spU s e g/\spM s e%spU s e g≤spM s e)/\(spM s e).tdiv (spU s e g)*spU s e g=spL s e g/\(0≤(spM s e).tdiv (spU s e g)/\(spM s e).tdiv (spU s e g)≤spM s e)/\(spM s e).tmod (spU s e g)=spM s e%spU s e g:=by
 obtain ⟨hx,h1,h2⟩:=sp_facts hk hg
 obtain ⟨_,_,_,_,hv⟩:=okY_num hk hx
 have u:1≤spU s e g/\spU s e g≤10000000000000000:=p10_bd (by show ((s.length:Nat):Int)+e-g≤16;omega)
 have m:0≤spM s e/\spM s e≤10000000000000000:=by unfold spM;exact ⟨Int.ofNat_nonneg _,by show ((magV s e.toNat:Nat):Int)≤_;omega⟩
 have r0:=Int.emod_nonneg (spM s e) (show spU s e g≠0 by omega)
 have r1:=Int.emod_lt_of_pos (spM s e) (show 0<spU s e g by omega)
 have ed:=Int.emod_add_mul_ediv (spM s e) (spU s e g)
 have dn:=Int.ediv_nonneg m.1 (show 0≤spU s e g by omega)
 have pn:0≤spU s e g*(spM s e/spU s e g):=Int.mul_nonneg (by omega) dn
 have td:(spM s e).tdiv (spU s e g)=spM s e/spU s e g:=Int.tdiv_eq_ediv_of_nonneg m.1
 refine ⟨u,m,⟨r0,r1,by omega⟩,?_,?_,Int.tmod_eq_emod_of_nonneg m.1⟩
 · rw [td,Int.mul_comm];unfold spL;omega
 · rw [td];exact ⟨dn,Int.ediv_le_self _ m.1⟩
theorem lv73:LoopVOK Tryz.prog (cfgS cfg GV1) (Cw cfg []) (lb 73 0) 48 [1,2,3,4,5,6,7] v73:=by
 have hS:SumsOK Tryz.prog cfg GV1:=sums_addG sums_nil ((addVal sums_nil) 107 _ rfl)
 intro vs o t Q hv hq J
 unfold v73 at hv
 split at hv
 · rename_i y z v u k nf lf sf ef g w
   cases hv
   obtain ⟨h1,hq'⟩:=asrts_wp hq;clear hq;have hq:=hq';clear hq'
   obtain ⟨h2,hq'⟩:=asrts_wp hq;clear hq;have hq:=hq';clear hq'
   obtain ⟨h3,hq'⟩:=asrts_wp hq;clear hq;have hq:=hq';clear hq'
   obtain ⟨h4,hq'⟩:=asrts_wp hq;clear hq;have hq:=hq';clear hq'
   obtain ⟨h5,hq'⟩:=asrts_wp hq;clear hq;have hq:=hq';clear hq'
   obtain ⟨h6,hq'⟩:=asrts_wp hq;clear hq;have hq:=hq';clear hq'
   obtain ⟨h7,hq'⟩:=asrts_wp hq;clear hq;have hq:=hq';clear hq'
   rw [q_eq_t] at h1 h2 h3
   rw [q_le_t] at h4 h5 h6 h7
   subst h1 h2 h3
   simp only [asrts,Tr.wp] at hq
   refine lvOK hS rfl rfl lok_none (ι:={i:Nat // (i:Int)≤k-g}) (fun x=>[.ptr 14 0,.int .i64 0,.int .i64 0,.ptr 15 0,.int .i64 v,.int .i64 (p10R x.1),.int .i64 (k-x.1)]) (fun _=>⟨2,[.cells [.bool nf,.bool lf,.str sf,.int .i64 ef,.int .i64 g] true none,.cells w true none],[]⟩) (fun x=>(k-g-x.1).toNat) 2 (fun _=>Nat.le_refl _) (fun x J=>?_) (Nat.le_refl _) (fun J=>Wk.refl ⟨⟨0,by omega⟩,J,by dsimp only;rw [show k-((0:Nat):Int)=k by omega];rfl⟩) J
   obtain ⟨i,hi⟩:=x
   dsimp only
   have hb:=@p10_bd i (by omega)
   have hs:p10R ((i+1:Nat):Int)=p10R i*10:=by
    unfold p10R
    show ((10^(i+1):Nat):Int)=((10^i:Nat):Int)*10
    rw [Nat.pow_succ,Int.natCast_mul];rfl
   refine wp_gen fun Q' hQ=>askA_wp ((r73 nf lf sf ef g v (p10R i) (k-i) w J).mpr ?_)
   dsimp only
   have next:(i:Int)<k-g->∀x:Int,x=k-i-1->∃z:{i:Nat // (i:Int)≤k-g},(k-g-z.1).toNat<(k-g-i).toNat/\VW cfg (Cw cfg []) 2 48 [1,2,3,4,5,6,7] [.ptr 14 0,.int .i64 0,.int .i64 0,.ptr 15 0,.int .i64 v,.int .i64 (p10R i*10),.int .i64 x] ⟨2,[.cells [.bool nf,.bool lf,.str sf,.int .i64 ef,.int .i64 g] true none,.cells w true none],[]⟩ [.ptr 14 0,.int .i64 0,.int .i64 0,.ptr 15 0,.int .i64 v,.int .i64 (p10R z.1),.int .i64 (k-z.1)] ⟨2,[.cells [.bool nf,.bool lf,.str sf,.int .i64 ef,.int .i64 g] true none,.cells w true none],[]⟩:=fun h x hx=>by
    subst hx
    exact ⟨⟨i+1,by omega⟩,by dsimp only;omega,VW.of_eq (by dsimp only;rw [hs,show k-((i+1:Nat):Int)=k-i-1 by omega]) rfl⟩
   have fin:(i:Int)=k-g->Q (.exit 0,[.ptr 14 0,.int .i64 0,.int .i64 0,.ptr 15 0,.int .i64 v,.int .i64 (p10R i),.int .i64 (k-i)],⟨2,[.cells [.bool nf,.bool lf,.str sf,.int .i64 ef,.int .i64 g] true none,.cells w true none],[]⟩):=fun h=>by
    rw [h,show k-(k-g)=g by omega];exact hq
   clear hq hs
   generalize p10R i=U at *
   simp only [q_all,reduceCtorEq,loK,hiK,ne_eq]
   (repeat' first|exact trivial|refine ⟨?_,?_⟩|intro)<;>first|omega|refine hQ _ ?_
   · exact next (by omega) _ (by omega)
   · exact ⟨_,_,VW.refl,fin (by omega)⟩
 · cases hv
theorem add93 {S:Sums} (hS:SumsOK Tryz.prog cfg S):SumsOK Tryz.prog cfg (addP S 93 s93):=by
 refine sums_addP hS fun args t v he hv=>?_
 unfold s93 at he
 split at he
 · rename_i ng lg s e g
   cases he
   obtain ⟨h1,hv'⟩:=asrts_run hv;clear hv;have hv:=hv';clear hv'
   obtain ⟨hk,hv'⟩:=asrts_run hv;clear hv;have hv:=hv';clear hv'
   obtain ⟨hg,hv'⟩:=asrts_run hv;clear hv;have hv:=hv';clear hv'
   cases hv
   rw [q_ble_t] at h1
   rw [q_le_t] at hg
   obtain ⟨hx,g1,g2⟩:=sp_facts hk hg
   obtain ⟨he',hl,hd,hm,_⟩:=okY_num hk hx
   obtain ⟨u1,m1,r1,e1,t1,_⟩:=sp_nums hk hg
   refine fpOK Y5s_ok (L:=noL) body93 (by simp) lok_none (wp_gen fun Q' hQ=>askA_wp ((b93 ng lg s e g).mpr ?_)) (by simp [idsA,idsL])
   dsimp only
   have hQ:=hQ _ rfl
   unfold spA spB spH at hQ
   have eu:p10R (Int.sub (Int.add (Int.ofNat s.length) e) g)=spU s e g:=rfl
   have em:Int.ofNat (magV s e.toNat)=spM s e:=rfl
   have mx:maxI (spU s e g) 1=spU s e g:=by rw [q_maxI];omega
   have e2:Int.mul ((spM s e).tdiv (spU s e g)) (spU s e g)=spL s e g:=e1
   rw [eu,em,mx,e2,hx,hd,hm,hk]
   have lb:0≤spL s e g/\spL s e g≤10000000000000000:=by unfold spL;omega
   generalize spL s e g=l at *
   generalize (spM s e).tdiv (spU s e g)=q at *
   generalize spU s e g=u at *
   generalize spM s e=mm at *
   show Nat.ble s.length 1000=true/\_
   rw [show Int.sub (Int.add l u) 1=l+u-1 from rfl]
   have mb:minI (l+u-1) 10000000000000000≤10000000000000000/\0≤minI (l+u-1) 10000000000000000:=by rw [q_minI];omega
   generalize minI (l+u-1) 10000000000000000=h at *
   cases ng<;>simp only [cond_true,cond_false] at hQ<;>simp only [q_all,reduceCtorEq,loK,hiK,ne_eq]<;>(repeat' first|exact trivial|refine ⟨?_,?_⟩|intro)<;>first|contradiction|omega|exact hQ|rfl|(simp only [Int.zero_sub];exact hQ)
 · cases he
theorem add73 {S:Sums} (hS:SumsOK Tryz.prog cfg S):SumsOK Tryz.prog cfg (addP S 73 s73):=by
 have hS':SumsOK Tryz.prog cfg GV1:=sums_addG sums_nil ((addVal sums_nil) 107 _ rfl)
 refine sums_addP hS fun args t v he hv=>?_
 unfold s73 at he
 split at he
 · rename_i ng lg s e g mo da a b c
   cases he
   obtain ⟨h1,hv'⟩:=asrts_run hv;clear hv;have hv:=hv';clear hv'
   obtain ⟨hk,hv'⟩:=asrts_run hv;clear hv;have hv:=hv';clear hv'
   obtain ⟨hg,hv'⟩:=asrts_run hv;clear hv;have hv:=hv';clear hv'
   cases hv
   rw [q_ble_t] at h1
   rw [q_le_t] at hg
   obtain ⟨hx,g1,g2⟩:=sp_facts hk hg
   obtain ⟨he',hl,hd,hm,_⟩:=okY_num hk hx
   obtain ⟨u1,m1,r1,e1,t1,t2⟩:=sp_nums hk hg
   refine fpOK hS' (L:=L73) body73 (by simp) (lok_at loops73 fun i hi e he st Q hw=>?_) (wp_gen fun Q' hQ=>askA_wp ((b73 ng lg s e g mo da a b c).mpr ?_)) (by simp [idsA,idsL])
   · have hi:i=0:=by simp at hi;omega
     subst hi
     cases he
     exact loopE_ok (base0.good hS') (by decide) rfl lv73 hw
   have hQ:=hQ _ rfl
   unfold spA spB spH spL at hQ
   have eu:p10R (Int.add (Int.ofNat s.length) e-g)=spU s e g:=rfl
   have em:Int.ofNat (magV s e.toNat)=spM s e:=rfl
   have t3:Int.tmod (spM s e) (spU s e g)=spM s e%spU s e g:=t2
   dsimp only
   rw [eu,em,t3,hd,hm]
   generalize spM s e%spU s e g=r at *
   generalize spU s e g=u at *
   generalize spM s e=mm at *
   show Nat.ble s.length 1000=true/\_
   rw [show Int.add (Int.sub mm r) (Int.sub u 1)=mm-r+u-1 by show mm-r+(u-1)=_;omega]
   have mb:minI (mm-r+u-1) 10000000000000000≤10000000000000000/\0≤minI (mm-r+u-1) 10000000000000000:=by rw [q_minI];omega
   generalize minI (mm-r+u-1) 10000000000000000=h at *
   cases ng<;>simp only [cond_true,cond_false] at hQ<;>simp only [q_all,reduceCtorEq,loK,hiK,ne_eq]<;>(repeat' first|exact trivial|refine ⟨?_,?_⟩|intro)<;>first|contradiction|omega|exact hQ|rfl|(simp only [Int.zero_sub];exact hQ)
 · cases he
end Go.Ev
end
section
set_option maxRecDepth 100000
set_option maxHeartbeats 1000000
namespace Go.Ev
open Go Go.Proofs
theorem errF_d {ng lg:Bool} {s:List UInt8} {e g:Int} {mo da:List UInt8} {x y z:Int} (h:errF ng lg s e g mo da x y z=0):errD ng lg s e g mo da x y z=0:=by
 unfold errF at h
 cases hE:intEq (errD ng lg s e g mo da x y z) 0 with
 | true=>exact q_eq_t.mp hE
 | false=>rw [hE,cond_false] at h;exact h
theorem errD_m {ng lg:Bool} {s:List UInt8} {e g:Int} {mo da:List UInt8} {x y z:Int} (h:errD ng lg s e g mo da x y z=0):errD ng lg s e g mo da 0 0 0=0/\okDYR ng lg s e g mo=true:=by
 unfold errD at h ⊢
 have hc:errMk 0 0 0 (compsR mo da)=0:=by
  have:1≤compsR mo da/\compsR mo da≤3:=by unfold compsR;cases bytesEq mo []<;>cases bytesEq da []<;>decide
  unfold errMk
  rw [if_neg (by omega),if_neg (by omega)]
 by_cases h1:okDYR ng lg s e g mo=false
 · rw [if_pos h1] at h;omega
 · rw [if_neg h1] at h ⊢
   refine ⟨?_,by simpa using h1⟩
   by_cases h2:bytesEq mo []=false/\seasR mo=0/\someA mo 12=false
   · rw [if_pos h2] at h;omega
   · rw [if_neg h2] at h ⊢
     by_cases h3:bytesEq da []=false/\(bytesEq mo []=true∨0<seasR mo∨someA da 31=false)
     · rw [if_pos h3] at h;omega
     · rw [if_neg h3];exact hc
theorem errF_m {ng lg:Bool} {s:List UInt8} {e g:Int} {mo da:List UInt8} {x y z:Int} (h:errF ng lg s e g mo da x y z=0):errF ng lg s e g mo da 0 0 0=0:=by
 have hd:=errF_d h
 have h0:=(errD_m hd).1
 unfold errF at h ⊢
 rw [h0]
 rw [hd] at h
 exact h
theorem hasN_app (s t:List UInt8) (a b:Int):hasN (s++t) a b=hasN s a b+hasN t a b:=by
 unfold hasN
 rw [List.filter_append,List.length_append]
theorem noX_mem {s:List UInt8} (h:hasN s 88 88=0):∀c∈s,c.toNat≠88:=fun c hc h88=>by
 unfold hasN at h
 rw [List.length_eq_zero_iff,List.filter_eq_nil_iff] at h
 refine h c hc ?_
 rw [h88];rfl
theorem cnd2 {mo t:List UInt8} {c r:Int} (h1:okNu t=true/\nuR t=c) (h2:r=0∨(okNu mo=true/\nuR mo=r)):(bif bytesEq mo t then c else r)=0∨(okNu mo=true/\nuR mo=bif bytesEq mo t then c else r):=by
 cases hb:bytesEq mo t with
 | true=>rw [bytesEq_beq,beq_iff_eq] at hb;subst hb;exact .inr h1
 | false=>exact h2
theorem seas_two (mo:List UInt8):seasR mo=0∨(okNu mo=true/\nuR mo=seasR mo):=by
 unfold seasR
 (repeat' refine cnd2 ⟨by decide,by decide⟩ ?_)
 exact .inl rfl
theorem nu_some {mo:List UInt8} {g:Nat} (hg:g≤99) (h:someA mo g=true) (hx:hasN mo 88 88=0):okNu mo=true/\1≤nuR mo/\nuR mo≤g:=by
 unfold someA at h
 obtain ⟨k,hk,ha⟩:=List.any_eq_true.1 h
 rw [List.mem_range] at hk
 have hn:=noX_mem hx
 match mo,ha,hn with
 | [c0,c1],ha,hn=>
   have hi:=agr_iff.1 ha
   have n0:=hn c0 (by simp)
   have n1:=hn c1 (by simp)
   unfold okNu nuR dg2 dB
   simp only [Bool.and_eq_true,decide_eq_true_eq]
   have e0:(Int.ofNat c0.toNat:Int)=c0.toNat:=rfl
   have e1:(Int.ofNat c1.toNat:Int)=c1.toNat:=rfl
   rw [e0,e1]
   omega
 | [],ha,_=>simp [agr] at ha
 | [_],ha,_=>simp [agr] at ha
 | _::_::_::_,ha,_=>simp [agr] at ha
theorem seaY_ok {y c:Int} (hc:21≤c/\c≤41) (hy : -10000000000000000≤y/\y≤10000000000000000) (h:(c≠24/\c≠28/\c≠30)∨y≠10000000000000000):okYb (seaY y c)=true:=by
 obtain ⟨h1,h2,h3⟩:=fR_sum hc
 rw [okYb_iff]
 unfold seaY flo
 omega
theorem date_ok {ng lg:Bool} {s:List UInt8} {e g:Int} {mo da:List UInt8} {a b c:Int} (h0:errF ng lg s e g mo da a b c=0) (hx:hasXB (s++mo++da)=false) (hs:s.length≤1000):okVl s e=true/\(okY14 ng lg s e g&&Nat.beq (hasN s 88 88) 0)=true/\okNu mo=true/\okNu da=true/\okUn (valR ng s e) (nuR mo) (nuR da)=true/\bytesEq mo []=intEq (nuR mo) 0/\bytesEq da []=intEq (nuR da) 0:=by
 have hd:=errF_d h0
 obtain ⟨hY,_,_,hm,hda⟩:=errD0_ok hd errMk_nn
 have hD:=(errD_m hd).2
 unfold hasXB at hx
 rw [Bool.not_eq_false',q_beq_t,hasN_app,hasN_app] at hx
 have hx1:hasN s 88 88=0:=by omega
 have hx2:hasN mo 88 88=0:=by omega
 have hx3:hasN da 88 88=0:=by omega
 obtain ⟨he,hl,hdg,hmk,hmv⟩:=okY_num hY hx1
 have hy : -10000000000000000≤valR ng s e/\valR ng s e≤10000000000000000:=by unfold valR;cases ng<;>simp only [cond_true,cond_false]<;>omega
 refine ⟨?_,?_,?_⟩
 · unfold okVl
   simp only [Bool.and_eq_true,q_ble_t,q_le_t]
   exact ⟨hs,hdg,he.1,by omega,hmk⟩
 · rw [hY,hx1];rfl
 by_cases h1:seasR mo=0
 · cases hb:bytesEq mo [] with
   | true=>
     have hmo:mo=[]:=by rwa [bytesEq_beq,beq_iff_eq] at hb
     have hda0:bytesEq da []=true:=by
      rw [←Bool.not_eq_false];intro k
      have:=(hda k).1
      rw [hb] at this;cases this
     have hdn:da=[]:=by rwa [bytesEq_beq,beq_iff_eq] at hda0
     subst hmo hdn
     exact ⟨rfl,rfl,okUn_iff.2 ⟨hy,by decide,.inl rfl⟩,rfl,rfl⟩
   | false=>
     obtain ⟨n1,n2,n3⟩:=nu_some (by omega) (hm ⟨hb,h1⟩) hx2
     have e1:false=intEq (nuR mo) 0:=by symm;rw [q_eq_f];omega
     cases hb2:bytesEq da [] with
     | true=>
       have hdn:da=[]:=by rwa [bytesEq_beq,beq_iff_eq] at hb2
       subst hdn
       exact ⟨n1,rfl,okUn_iff.2 ⟨hy,by decide,.inr (.inl ⟨n2,n3⟩)⟩,e1,rfl⟩
     | false=>
       obtain ⟨m1,m2,m3⟩:=nu_some (by omega) (hda hb2).2.2 hx3
       exact ⟨n1,m1,okUn_iff.2 ⟨hy,⟨by omega,m3⟩,.inr (.inl ⟨n2,n3⟩)⟩,e1,by symm;rw [q_eq_f];omega⟩
 · have hz:=h1
   obtain ⟨h1,h2⟩:=(seas_two mo).resolve_left hz
   · have hc:21≤seasR mo/\seasR mo≤41:=by have:=seasR_code mo;omega
     have hb:bytesEq mo []=false:=by
      rw [←Bool.not_eq_true];intro k
      rw [bytesEq_beq,beq_iff_eq] at k;subst k
      exact hz rfl
     have hda0:bytesEq da []=true:=by
      rw [←Bool.not_eq_false];intro k
      exact hz (hda k).2.1
     have hdn:da=[]:=by rwa [bytesEq_beq,beq_iff_eq] at hda0
     subst hdn
     unfold okDYR at hD
     rw [decide_eq_true_eq] at hD
     obtain ⟨_,_,hD⟩:=hD
     refine ⟨h1,rfl,okUn_iff.2 ⟨hy,by decide,.inr (.inr ?_)⟩,?_,rfl⟩
     · rw [h2]
       refine ⟨hc,seaY_ok hc hy ?_⟩
       rcases hD with k|k|k
       · exact .inl k
       · omega
       · refine .inr fun k2=>k ⟨hmk,?_⟩
         unfold valR at k2
         cases ng<;>simp only [cond_true,cond_false] at k2<;>first|omega|exact ⟨by omega,rfl⟩
     · rw [hb,h2];symm;rw [q_eq_f];exact hz
theorem un_bd {y m d:Int} (h:okUn y m d=true) : -3652425000000000002≤unL y m d/\unL y m d≤unH y m d/\unH y m d≤3652425000000002000:=by
 obtain ⟨hy,hd,hm⟩:=okUn_iff.1 h
 unfold unL unH
 cases hm0:intEq m 0 with
 | true=>
   have b1:=@ystR_bd y hy.1 (by omega)
   have ys:ystR (y+1)=ystR y+365+lpR y:=Go.Proofs.YtafekjglclnegaaGreatDoor.yst_succ y
   have bl:0≤lpR y/\lpR y≤1:=Go.Proofs.YtafekjglclnegaaGreatDoor.lp_01 y
   simp only [cond_true]
   omega
 | false=>
   rw [q_eq_f] at hm0
   simp only [cond_false]
   cases h13:intLe 13 m with
   | true=>
     rw [q_le_t] at h13
     simp only [cond_true]
     have hc:21≤m/\m≤41:=by omega
     obtain ⟨⟨f1,f2⟩,n1,n2⟩:=fR_bd hc
     have b0:=@mst_bd y (fR m) hy f1 (by omega)
     have hs:=(mAt_s (12*y+fR m-1+(mR m-1))).2
     rw [show 12*y+fR m-1+(mR m-1)+1=12*y+fR m-1+mR m by omega,show 12*y+fR m-1+(mR m-1)=12*y+(fR m-1)+(mR m-1) by omega] at hs
     have e0:mAtR (12*y+fR m-1)=mstR' y (fR m):=by
      unfold mAtR
      rw [show flo (12*y+fR m-1) 12=y by unfold flo;omega,show moR (12*y+fR m-1) 12+1=fR m by unfold moR;omega]
     have bk:=mAt_bd (12*y+fR m-1) (mR m).toNat
     rw [show ((mR m).toNat:Int)=mR m by omega,hs,e0] at bk
     have:mstR' (flo (12*y+(fR m-1)+(mR m-1)) 12) (moR (12*y+(fR m-1)+(mR m-1)) 12+2)=mstR' (seaY y m) (seaM y m+2):=rfl
     rw [this] at bk
     omega
   | false=>
     rw [q_le_f] at h13
     simp only [cond_false]
     have b2:=@mst_bd y m hy (by omega) (by omega)
     have e:=@mst_s y m (by omega) (by omega)
     have hn:=mlnR_bd y m
     cases intEq d 0<;>simp only [cond_true,cond_false]<;>omega
theorem sp_bd {ng lg:Bool} {s:List UInt8} {e g:Int} (hk:okY14 ng lg s e g=true) (hg:1≤g):(-10000000000000000≤spA ng s e g/\spA ng s e g≤10000000000000000)/\(-10000000000000000≤spB ng s e g/\spB ng s e g≤10000000000000000)/\spA ng s e g≤spB ng s e g:=by
 obtain ⟨u,m,r,_⟩:=sp_nums hk hg
 unfold spA spB spH spL
 rw [q_minI]
 cases ng<;>simp only [cond_true,cond_false]<;>omega
theorem yOf_st {y:Int}:yOfR (ystR y)=y/\yOfR (ystR (y+1)-1)=y:=by
 have ys:ystR (y+1)=ystR y+365+lpR y:=Go.Proofs.YtafekjglclnegaaGreatDoor.yst_succ y
 have bl:0≤lpR y/\lpR y≤1:=Go.Proofs.YtafekjglclnegaaGreatDoor.lp_01 y
 refine ⟨Go.Proofs.YtafekjglclnegaaGreatDoor.yOf_unique (Int.le_refl _) ?_,Go.Proofs.YtafekjglclnegaaGreatDoor.yOf_unique ?_ ?_⟩
 · show ystR y<ystR (y+1);omega
 · show ystR y≤ystR (y+1)-1;omega
 · show ystR (y+1)-1<ystR (y+1);omega
theorem yst_mono {a b:Int} (h:a≤b):ystR a≤ystR b:=Go.Proofs.YtafekjglclnegaaGreatDoor.yst_le h
theorem yst_ends:ystR (-10000000000000000) = -3652425000000000000/\ystR 10000000000000000=3652425000000000000:=by decide
theorem run_ok {a b:Int} (h:a≤b):rChk 0 a 0 b=0:=rChk0.2 ⟨.inl rfl,.inl rfl,.inr ⟨rfl,h⟩⟩
theorem units_ok {a b:Int} (ha : -10000000000000000≤a) (hb:b≤10000000000000000) (h:a≤b):fitB 0 (ystR a) 0 (ystR (b+1)-1) 1=true/\rChk 0 (ystR a) 0 (ystR (b+1)-1)=0:=by
 have m1:=yst_mono h
 have m2:=yst_mono ha
 have m3:=yst_mono hb
 have m4:=yst_mono (show a≤10000000000000000 by omega)
 have m5:=yst_mono (show -10000000000000000≤b by omega)
 obtain ⟨e1,e2⟩:=yst_ends
 have ys:ystR (b+1)=ystR b+365+lpR b:=Go.Proofs.YtafekjglclnegaaGreatDoor.yst_succ b
 have bl:0≤lpR b/\lpR b≤1:=Go.Proofs.YtafekjglclnegaaGreatDoor.lp_01 b
 have hr:rChk 0 (ystR a) 0 (ystR (b+1)-1)=0:=run_ok (by omega)
 refine ⟨fitB_iff.2 ⟨.inl rfl,hr,fun _=>⟨?_,?_⟩,fun _=>⟨?_,?_⟩⟩,hr⟩
 · unfold okH;rw [inCal_iff.2 (by omega),Bool.or_true]
 · show ystR (yOfR (ystR a))=_;rw [yOf_st.1]
 · unfold okH;rw [inCal_iff.2 (by omega),Bool.or_true]
 · show ystR (yOfR (ystR (b+1)-1))+364+lpR (yOfR (ystR (b+1)-1))=_;rw [yOf_st.2];omega
end Go.Ev
end
section
set_option maxRecDepth 100000
set_option maxHeartbeats 4000000
namespace Go.Ev
open Go Go.Proofs
def Y7:Sums:=addG (addP (addP (addP (addP (addP (addP (addP (addP (addP (addP (addP nilS 22 s22) 59 s59) 24 s24) 60 s60) 63 s63) 93 s93) 94 s94) 95 s95) 73 s73) 9 s9) 51 s51) 20 (winS 14 [4] w20)
theorem b7t (ng lg:Bool) (s:List UInt8) (e g:Int) (mo da:List UInt8) (a b c:Int) {Q:AV->Prop}:askA Q (pT Y7 noL 7 [.agg [.bool ng,.bool lg,.str s,.int .i64 e,.int .i64 g,.str mo,.str da,.int .u8 a,.int .u8 b,.int .u8 c]]) (dtN 1000528100281023220243220240)=((fun (u0 u1:Bool) (u2:Prop)=>(fun (u3 u4 u5 u6:Prop)=>(u3->u3/\u3/\u3/\u0=false/\(u4->u4/\u4/\u4/\u1=false/\not (intLe (Int.ofNat (List.length da)) 10)=true/\u2)/\(u5->u5/\u5/\u5/\u1=true/\u2))/\(u6->u6/\u6/\u6/\u0=true/\u2)) (not u0=true) (not u1=true) (not u1=false) (not u0=false)) (not (intLe (Int.ofNat (List.length s)) 40)) (not (intLe (Int.ofNat (List.length mo)) 10)) (Q (AV.bool true))):=by kernel_rfl
theorem b7e (ng lg:Bool) (s:List UInt8) (e g:Int) (mo da:List UInt8) (a b c:Int) {Q:AV->Prop}:askA Q (pT Y7 noL 7 [.agg [.bool ng,.bool lg,.str s,.int .i64 e,.int .i64 g,.str mo,.str da,.int .u8 a,.int .u8 b,.int .u8 c]]) (dtN 10002206666662255627567770006633220223220220)=((fun (u0:Bool) (u5:Int) (u1 u2:Nat) (u3 u4:Prop)=>(fun (u7:Bool) (u6 u9:Prop)=>(fun (ua:Prop)=>u6/\u6/\u6/\u6/\u0=false/\ua/\ua/\ua/\ua/\u7=false/\not (intLe (Int.ofNat u2) 10)=false/\u3/\Nat.ble u1 1000=true/\Nat.ble u2 1000=true/\u4/\inR .i64 g=true/\inR .u8 a=true/\inR .u8 b=true/\inR .u8 c=true/\not (intEq u5 0)=true/\u3/\u4/\not (intLe u5 0)=true/\u9/\u9/\u9/\u9/\u9/\Q (AV.bool true)) (not u7=true)) (not (intLe (Int.ofNat u1) 10)) (not u0=true) (intEq u5 u5=true)) (not (intLe (Int.ofNat (List.length s)) 40)) (errF ng lg s e g mo da a b c) (List.length mo) (List.length da) (Nat.ble (List.length s) 1000=true) (inR .i64 e=true)):=by kernel_rfl
theorem b7s (ng lg:Bool) (s:List UInt8) (e g:Int) (mo da:List UInt8) (a b c:Int) {Q:AV->Prop}:askA Q (pT Y7 noL 7 [.agg [.bool ng,.bool lg,.str s,.int .i64 e,.int .i64 g,.str mo,.str da,.int .u8 a,.int .u8 b,.int .u8 c]]) (dtN 12025522005666306666666666300056666620207006200056666200020700520063000227566322006620002070052006322770006633220223220220)=((fun (u0:Bool) (u6 ud:Int) (u1 u2:Nat) (u3 u4 u5 u7 u9 ua ub uc:Prop)=>(fun (uf:Bool) (ue ug uh ui:Prop)=>(fun (uj:Prop)=>ue/\ue/\ue/\ue/\u0=false/\uj/\uj/\uj/\uj/\uf=false/\not (intLe (Int.ofNat u2) 10)=false/\u3/\ug/\uh/\u4/\u5/\inR .u8 a=true/\inR .u8 b=true/\inR .u8 c=true/\not (intEq u6 0)=false/\u7/\u3/\u9/\ua/\ub/\uc/\u3/\u4/\not (intLe u6 0)=false/\u3/\ug/\uh/\u4/\u5/\not (intEq (errF ng lg s e g mo da 0 0 0) 0)=false/\u7/\u3/\u9/\ua/\ub/\uc/\u7/\u3/\u9/\ua/\okUn (spA ng s e g) 0 0=true/\okUn (spB ng s e g) 0 0=true/\not (and (and true (and (intEq ud (unL (spA ng s e g) 0 0)) true)) (and (and true (and (intEq (HSub.hSub (ystR (HAdd.hAdd (spB ng s e g) 1)) 1) (unH (spB ng s e g) 0 0)) true)) true))=false/\not (and (and true (and (intEq ud ud) true)) (and (and true (and (intEq (HSub.hSub (ystR (HAdd.hAdd (spB ng s e g) 1)) 1) (HSub.hSub (ystR (HAdd.hAdd (spB ng s e g) 1)) 1)) true)) true))=false/\inR .i64 ud=true/\inR .i64 (HSub.hSub (ystR (HAdd.hAdd (spB ng s e g) 1)) 1)=true/\ui/\ui/\Q (AV.bool true)) (not uf=true)) (not (intLe (Int.ofNat u1) 10)) (not u0=true) (Nat.ble u1 1000=true) (Nat.ble u2 1000=true) (intEq (famE 3 0 0 (dZ false false [] 0 0 [] [] 0 0 0) 1 (sZ 0 ud 0 (HSub.hSub (ystR (HAdd.hAdd (spB ng s e g) 1)) 1)) (errF false false [] 0 0 [] [] 0 0 0) 0 (hasXB []) (mZ 0 0 0) (fitB 0 ud 0 (HSub.hSub (ystR (HAdd.hAdd (spB ng s e g) 1)) 1) 1) (rChk 0 ud 0 (HSub.hSub (ystR (HAdd.hAdd (spB ng s e g) 1)) 1)) 0 0) 0=true)) (not (intLe (Int.ofNat (List.length s)) 40)) (errF ng lg s e g mo da a b c) (ystR (spA ng s e g)) (List.length mo) (List.length da) (Nat.ble (List.length s) 1000=true) (inR .i64 e=true) (inR .i64 g=true) (not (intLe g 0)=true) (okY14 ng lg s e g=true) (intLe 1 g=true) (okYb (spA ng s e g)=true) (okYb (spB ng s e g)=true)):=by kernel_rfl
theorem b7x (ng lg:Bool) (s:List UInt8) (e g:Int) (mo da:List UInt8) (a b c:Int) {Q:AV->Prop}:askA Q (pT Y7 noL 7 [.agg [.bool ng,.bool lg,.str s,.int .i64 e,.int .i64 g,.str mo,.str da,.int .u8 a,.int .u8 b,.int .u8 c]]) (dtN 120206227000566663202202200066666666632022022056666270063000666662700630063000227566322000566270063006322770006633220223220220)=((fun (u0 u9 ub:Bool) (u6 ua:Int) (u1 u2:Nat) (u3 u4 u5 u7:Prop)=>(fun (ud:Bool) (uc ue uf ug uh:Prop)=>(fun (ui:Prop)=>uc/\uc/\uc/\uc/\u0=false/\ui/\ui/\ui/\ui/\ud=false/\not (intLe (Int.ofNat u2) 10)=false/\u3/\ue/\uf/\u4/\u5/\inR .u8 a=true/\inR .u8 b=true/\inR .u8 c=true/\not (intEq u6 0)=false/\u7/\u3/\ue/\uf/\u9=true/\u3/\u4/\not (intLe u6 0)=false/\u3/\ue/\uf/\u4/\u5/\not (intEq ua 0)=false/\u7/\u3/\ue/\uf/\u9=true/\u7/\u3/\ue/\uf/\intEq (cond u9 1 0) 1=true/\ug/\ug/\ug/\ug/\ug/\ub=false/\ug/\ug/\ug/\ug/\ug/\ub=false/\u3/\ue/\uf/\u4/\u5/\uh/\uh/\Q (AV.bool true)) (not ud=true)) (not (intLe (Int.ofNat u1) 10)) (not u0=true) (Nat.ble u1 1000=true) (Nat.ble u2 1000=true) (not ub=true) (intEq (famE 2 0 0 (dZ ng lg s e g mo da 0 0 0) 0 (sZ 0 0 0 0) ua g u9 (mZ 0 0 0) (fitB 0 0 0 0 0) (rChk 0 0 0 0) 0 0) 0=true)) (not (intLe (Int.ofNat (List.length s)) 40)) (hasXB (HAppend.hAppend (HAppend.hAppend s mo) da)) (not (and (and (boolEq ng ng) (and (boolEq lg lg) (and (bytesEq s s) (and (intEq e e) (and (intEq g g) true))))) (and (bytesEq mo mo) (and (bytesEq da da) true)))) (errF ng lg s e g mo da a b c) (errF ng lg s e g mo da 0 0 0) (List.length mo) (List.length da) (Nat.ble (List.length s) 1000=true) (inR .i64 e=true) (inR .i64 g=true) (not (intLe g 0)=false)):=by kernel_rfl
theorem b7p (ng lg:Bool) (s:List UInt8) (e g:Int) (mo da:List UInt8) (a b c:Int) {Q:AV->Prop}:askA Q (pT Y7 noL 7 [.agg [.bool ng,.bool lg,.str s,.int .i64 e,.int .i64 g,.str mo,.str da,.int .u8 a,.int .u8 b,.int .u8 c]]) (dtN 120252000666630005666666666663005666666627006370063006666622770002700637006300630002275663220056677777006370063006322770006633220223220220)=((fun (u0 uc uk:Bool) (ua uh:Int) (u1 u2:Nat) (u3 u4 u5 u6 u7 u9 ub ud ue uf ug ui uj:Prop)=>(fun (um:Bool) (us:List AV) (ul un uo up uq ur:Prop)=>(fun (ut uu:Prop)=>ul/\ul/\ul/\ul/\u0=false/\ut/\ut/\ut/\ut/\um=false/\not (intLe (Int.ofNat u2) 10)=false/\u3/\un/\uo/\u4/\u5/\u6/\u7/\u9/\not (intEq ua 0)=false/\ub/\u3/\un/\uo/\uc=false/\ud/\un/\uo/\u5/\u6/\u7/\u9/\intEq ua 0=true/\up/\ue/\uf/\ug/\uq/\ui/\uj/\u3/\u4/\not (intLe ua 0)=false/\u3/\un/\uo/\u4/\u5/\not uk=false/\ub/\u3/\un/\uo/\uc=false/\ud/\un/\uo/\u5/\uk=true/\up/\ue/\uf/\ug/\uq/\ui/\uj/\ub/\u3/\un/\uo/\intEq (cond uc 1 0) 1=false/\ud/\uf/\ug/\uq/\ur/\ur/\isRs us=true/\uu/\uu/\Q (AV.bool true)) (not um=true) (intEq (famE 1 1 (chkS (unR us)) (dZ false false [] 0 0 [] [] 0 0 0) 0 (sZ 0 0 0 0) (errF false false [] 0 0 [] [] 0 0 0) 0 (hasXB []) (mZ 0 0 0) (fitB 0 0 0 0 0) (rChk 0 0 0 0) 0 0) 0=true)) (not (intLe (Int.ofNat u1) 10)) [AV.int .i8 0,AV.int .i64 (unL uh (nuR mo) (nuR da)),AV.int .i8 0,AV.int .i64 (unH uh (nuR mo) (nuR da))] (not u0=true) (Nat.ble u1 1000=true) (Nat.ble u2 1000=true) (not (or uc (intLe 1 g))=true) (okUn uh (nuR mo) (nuR da)=true) (not (and (and true (and (intEq (unL uh (nuR mo) (nuR da)) (unL uh (nuR mo) (nuR da))) true)) (and (and true (and (intEq (unH uh (nuR mo) (nuR da)) (unH uh (nuR mo) (nuR da))) true)) true))=false)) (not (intLe (Int.ofNat (List.length s)) 40)) (hasXB (HAppend.hAppend (HAppend.hAppend s mo) da)) (intEq (errF ng lg s e g mo da 0 0 0) 0) (errF ng lg s e g mo da a b c) (valR ng s e) (List.length mo) (List.length da) (Nat.ble (List.length s) 1000=true) (inR .i64 e=true) (inR .i64 g=true) (inR .u8 a=true) (inR .u8 b=true) (inR .u8 c=true) (not (intLe g 0)=false) (okVl s e=true) (and (okY14 ng lg s e g) (Nat.beq (hasN s 88 88) 0)=true) (okNu mo=true) (okNu da=true) (sameB (bytesEq mo []) (intEq (nuR mo) 0)=true) (sameB (bytesEq da []) (intEq (nuR da) 0)=true)):=by kernel_rfl
theorem body7:bodyOf tab 7=some (fnOf 7,codeOf 7):=by kernel_rfl
theorem Y7_ok:SumsOK Tryz.prog cfg Y7:=add20 (add51 (add9 (add73 (add95 (add94 (add93 (add63 (add60 (add24 (add59 (add22 sums_nil)))))))))))
theorem famE3 {n:Nat} {ef g rk a c:Int} {sz xb mz:Bool}:famE 3 0 0 true 1 sz ef g xb mz true rk a c=0:=by
 unfold famE
 rw [if_neg (by decide),if_neg (by decide),if_neg (by decide),if_pos rfl,if_pos ⟨rfl,rfl⟩,if_pos (by decide),if_pos rfl]
theorem famE2 {rk a c:Int} {dz ft:Bool}:famE 2 0 0 dz 0 true 0 0 true true ft rk a c=0:=by
 unfold famE
 rw [if_neg (by decide),if_neg (by decide),if_pos rfl,if_pos ⟨rfl,rfl,rfl⟩,if_pos rfl,if_pos ⟨rfl,rfl,rfl⟩]
theorem famE1 {ef g rk a c:Int} {xb mz ft:Bool}:famE 1 1 0 true 0 true ef g xb mz ft rk a c=0:=by
 unfold famE
 rw [if_neg (by decide),if_pos rfl,if_pos ⟨rfl,rfl,rfl⟩,if_neg (by decide)]
theorem chk_one {lo hi:Int} (h:lo≤hi):chkS [⟨0,lo,0,hi⟩]=0:=by
 show (if chk1 _ _ 0=0 then (0:Int) else chk1 _ _ 0)=0
 have:chk1 (([⟨0,lo,0,hi⟩]:List Rn).getD (0-1) rn0) (([⟨0,lo,0,hi⟩]:List Rn).getD 0 rn0) 0=0:=by
  show (if rChk 0 lo 0 hi=0 then _ else _)=_
  rw [if_pos (run_ok h),if_neg (fun k=>absurd k.1 (Nat.lt_irrefl 0))]
 rw [if_pos this]
theorem iself (x:Int):intEq x x=true:=q_eq_t.mpr rfl
theorem sself (x:List UInt8):bytesEq x x=true:=by rw [bytesEq_beq,beq_iff_eq]
theorem bself (x:Bool):boolEq x x=true:=by cases x<;>rfl
theorem f7 {ng lg:Bool} {s:List UInt8} {e g:Int} {mo da:List UInt8} {a b c:Int} (he : -9223372036854775808≤e/\e≤9223372036854775807) (hg : -9223372036854775808≤g/\g≤9223372036854775807) (ha:0≤a/\a≤255) (hb:0≤b/\b≤255) (hc:0≤c/\c≤255):FactW Tryz.prog cfg 7 [.agg [.bool ng,.bool lg,.str s,.int .i64 e,.int .i64 g,.str mo,.str da,.int .u8 a,.int .u8 b,.int .u8 c]] [] (.bool true) []:=by
 by_cases hl:s.length≤40/\mo.length≤10/\da.length≤10
 · obtain ⟨hs,hm,hda⟩:=hl
   have l1:intLe (Int.ofNat s.length) 40=true:=by rw [q_le_t];exact Int.ofNat_le.2 hs
   have l2:intLe (Int.ofNat mo.length) 10=true:=by rw [q_le_t];exact Int.ofNat_le.2 hm
   have l3:intLe (Int.ofNat da.length) 10=true:=by rw [q_le_t];exact Int.ofNat_le.2 hda
   have n1:Nat.ble s.length 1000=true:=by rw [q_ble_t];omega
   have n2:Nat.ble mo.length 1000=true:=by rw [q_ble_t];omega
   have n3:Nat.ble da.length 1000=true:=by rw [q_ble_t];omega
   have i1:inR .i64 e=true:=by rw [q_inR_t];exact he
   have i2:inR .i64 g=true:=by rw [q_inR_t];exact hg
   have i3:inR .u8 a=true:=by rw [q_inR_t];exact ha
   have i4:inR .u8 b=true:=by rw [q_inR_t];exact hb
   have i5:inR .u8 c=true:=by rw [q_inR_t];exact hc
   by_cases h0:errF ng lg s e g mo da a b c=0
   · have h1:=errF_m h0
     have hgn:=errF_g h0
     have k0:intLe (0:Int) 0=true:=rfl
     by_cases hg1:1≤g
     · refine fpOK Y7_ok (L:=noL) body7 (by simp) lok_none (wp_gen fun Q' hQ=>askA_wp ((b7s ng lg s e g mo da a b c).mpr ?_)) (by simp [idsA])
       dsimp only
       have hY:=(errD0_ok (errF_d h0) errMk_nn).1
       obtain ⟨s1,s2,s3⟩:=sp_bd hY hg1
       have g0:intLe g 0=false:=by rw [q_le_f];omega
       have g1:intLe 1 g=true:=by rw [q_le_t];exact hg1
       have y1:=okYb_iff.2 s1
       have y2:=okYb_iff.2 s2
       have u1:okUn (spA ng s e g) 0 0=true:=okUn_iff.2 ⟨s1,by decide,.inl rfl⟩
       have u2:okUn (spB ng s e g) 0 0=true:=okUn_iff.2 ⟨s2,by decide,.inl rfl⟩
       obtain ⟨w1,w2⟩:=units_ok s1.1 s2.2 s3
       have z1:unL (spA ng s e g) 0 0=ystR (spA ng s e g):=rfl
       have z2:unH (spB ng s e g) 0 0=ystR (spB ng s e g+1)-1:=rfl
       have d1:=un_bd u1
       have d2:=un_bd u2
       have d3:=yst_mono s3
       rw [z1] at d1
       rw [z2] at d2
       have j1:inR .i64 (ystR (spA ng s e g))=true:=by
        rw [q_inR_t];simp only [loK,hiK]
        have:unH (spA ng s e g) 0 0=ystR (spA ng s e g+1)-1:=rfl
        omega
       have j2:inR .i64 (ystR (spB ng s e g+1)-1)=true:=by
        rw [q_inR_t];simp only [loK,hiK]
        have:unL (spB ng s e g) 0 0=ystR (spB ng s e g):=rfl
        omega
       have dz:dZ false false [] 0 0 [] [] 0 0 0=true:=rfl
       have e0:intEq (0:Int) 0=true:=rfl
       rw [h0,h1,z1,z2,l1,l2,l3,n1,n2,n3,i1,i2,i3,i4,i5,g0,g1,hY,y1,y2,u1,u2,j1,j2,dz,w1,w2,famE3 (n:=0)]
       simp only [iself,k0,Bool.and_true,Bool.not_true,Bool.not_false,true_and,and_true]
       exact hQ _ rfl
     · have hg0:g=0:=by omega
       subst hg0
       cases hx:hasXB (s++mo++da) with
       | true=>
         refine fpOK Y7_ok (L:=noL) body7 (by simp) lok_none (wp_gen fun Q' hQ=>askA_wp ((b7x ng lg s e 0 mo da a b c).mpr ?_)) (by simp [idsA])
         dsimp only
         have sz:sZ 0 0 0 0=true:=rfl
         have mz:mZ 0 0 0=true:=rfl
         rw [hx,h0,h1,l1,l2,l3,n1,n2,n3,i1,i2,i3,i4,i5,sz,mz,famE2]
         simp only [iself,bself,sself,k0,cond_true,Bool.and_true,Bool.not_true,Bool.not_false,true_and,and_true]
         exact hQ _ rfl
       | false=>
         refine fpOK Y7_ok (L:=noL) body7 (by simp) lok_none (wp_gen fun Q' hQ=>askA_wp ((b7p ng lg s e 0 mo da a b c).mpr ?_)) (by simp [idsA])
         dsimp only
         obtain ⟨p1,p2,p3,p4,p5,p6,p7⟩:=date_ok h0 hx (by omega)
         have q6:=sameB_iff.2 p6
         have q7:=sameB_iff.2 p7
         have d1:=un_bd p5
         have hr:isRs [AV.int .i8 0,AV.int .i64 (unL (valR ng s e) (nuR mo) (nuR da)),AV.int .i8 0,AV.int .i64 (unH (valR ng s e) (nuR mo) (nuR da))]=true:=by
          show (inR .i64 _&&(inR .i64 _&&true))=true
          rw [Bool.and_true,Bool.and_eq_true,q_inR_t,q_inR_t];simp only [loK,hiK];omega
         have hu:unR [AV.int .i8 0,AV.int .i64 (unL (valR ng s e) (nuR mo) (nuR da)),AV.int .i8 0,AV.int .i64 (unH (valR ng s e) (nuR mo) (nuR da))]=[⟨0,unL (valR ng s e) (nuR mo) (nuR da),0,unH (valR ng s e) (nuR mo) (nuR da)⟩]:=rfl
         have sz:sZ 0 0 0 0=true:=rfl
         have dz:dZ false false [] 0 0 [] [] 0 0 0=true:=rfl
         have x1:intLe 1 (0:Int)=false:=rfl
         have x2:intEq (0:Int) 1=false:=rfl
         rw [hx,h0,h1,l1,l2,l3,n1,n2,n3,i1,i2,i3,i4,i5,p1,p2,p3,p4,p5,q6,q7,hr,hu,chk_one d1.2.1,sz,dz,famE1]
         simp only [iself,k0,x1,x2,cond_false,Bool.or_false,Bool.and_true,Bool.not_true,Bool.not_false,true_and,and_true]
         exact hQ _ rfl
   · refine fpOK Y7_ok (L:=noL) body7 (by simp) lok_none (wp_gen fun Q' hQ=>askA_wp ((b7e ng lg s e g mo da a b c).mpr ?_)) (by simp [idsA])
     dsimp only
     have hn:=@errF_nn ng lg s e g mo da a b c
     have f0:intEq (errF ng lg s e g mo da a b c) 0=false:=by rw [q_eq_f];exact h0
     have f1:intLe (errF ng lg s e g mo da a b c) 0=false:=by rw [q_le_f];omega
     simp only [l1,l2,l3,n1,n2,n3,i1,i2,i3,i4,i5,f0,f1,iself,bself,sself,Bool.and_true,Bool.not_true,Bool.not_false,true_and,and_true]
     exact hQ _ rfl
 · refine fpOK Y7_ok (L:=noL) body7 (by simp) lok_none (wp_gen fun Q' hQ=>askA_wp ((b7t ng lg s e g mo da a b c).mpr ?_)) (by simp [idsA])
   dsimp only
   have hQ:=hQ _ rfl
   simp only [q_all,reduceCtorEq,loK,hiK,ne_eq]
   (repeat' first|exact trivial|refine ⟨?_,?_⟩|intro)<;>first|contradiction|omega|assumption
end Go.Ev
end
