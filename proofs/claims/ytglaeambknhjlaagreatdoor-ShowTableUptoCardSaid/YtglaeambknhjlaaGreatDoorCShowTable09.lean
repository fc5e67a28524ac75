/- Texts under the proof, joined by a program (prune.py): HDivS, HDivL, HQuo, HGcd, HBits, HExp, HMore, HSetStr. -/
import Derived.Test.YtglaeambknhjlaaGreatDoorCShowTable08
set_option linter.unusedVariables false
set_option linter.unusedSimpArgs false
set_option exponentiation.threshold 20001
set_option maxHeartbeats 8000000
set_option maxRecDepth 100000
section
namespace Go.Proofs.YtglaeambknhjlaaGreatDoor.P
open Go.RowKit Go.Proofs.YtglaeambknhjlaaGreatDoorW.PrintWords
theorem KeepB.grown {w w':World} {g:Nat} (h:KeepB w w' g):w.grownBy w' (some g):=⟨h.os,h.tape,h.output,h.size,fun k hk hne=>h.other k hk (fun e=>hne (by rw [e]))⟩
theorem val_split (us:List Int) (i:Nat) (h:i≤us.length):val us=val (us.take i)+4294967296^i*val (us.drop i):=by
 have:=val_append (us.take i) (us.drop i)
 rw [List.take_append_drop,List.length_take,Nat.min_eq_left h] at this
 exact this
structure DSt (w wr:World) (g1 N cap1 gq m g2 cap2 j:Nat) (X:Int) (vs us qs:List Int):Prop where
 le:j≤m
 ul:us.length=N
 nl:N=m+vs.length
 ql:qs.length=m
 du:Wd us
 dq:Wd qs
 ou:wr.ownsRow w.heap.size 171 1 (.slice (some ⟨g1,0,none⟩) N cap1) N (nums .u32 us)
 oq:wr.ownsRow w.heap.size 171 1 (.slice (some ⟨gq,0,none⟩) m m) m (nums .u32 qs)
 wv:WAt wr (some ⟨g2,0,none⟩) cap2 vs
 below:Below w.heap.size w wr
 eq:X=val (qs.drop j)*4294967296^j*val vs+val us
 lt:val (us.drop j)<val vs
theorem DSt.pure {i m:Nat} {X q:Int} {vs us qs us':List Int} (hn:0<vs.length) (hi:i<m) (hul:us.length=m+vs.length) (hql:qs.length=m) (du:Wd us) (dv:Wd vs) (dq:Wd qs)
  (heq:X=val (qs.drop (i+1))*4294967296^(i+1)*val vs+val us) (hlt:val (us.drop (i+1))<val vs) :
  val ((us.drop i).take (vs.length+1))<4294967296*val vs ∧
  (us'.length=vs.length+1→val ((us.drop i).take (vs.length+1))=q*val vs+val us'→val us'<val vs →
   X=val ((qs.set i q).drop i)*4294967296^i*val vs+val (us.take i++us'++us.drop (i+vs.length+1))∧val ((us.take i++us'++us.drop (i+vs.length+1)).drop i)<val vs):=by
 have h1:=val_split (us.drop (i+1)) vs.length (by rw [List.length_drop]; omega)
 rw [List.drop_drop] at h1
 have p1:=val_nonneg ((du.drop (i+1)).take vs.length)
 have p2:=val_nonneg (du.drop (i+1+vs.length))
 have p3:=val_lt dv
 have pB:(0:Int)<4294967296^vs.length:=Int.pow_pos (by decide)
 have hpost:val (us.drop (i+1+vs.length))=0:=by
  apply Classical.byContradiction
  intro h
  have:=Int.mul_le_mul_of_nonneg_left (show 1≤val (us.drop (i+1+vs.length)) by omega) (Int.le_of_lt pB)
  omega
 have hpost':val (us.drop (i+vs.length+1))=0:=by rw [show i+vs.length+1=i+1+vs.length by omega]; exact hpost
 rw [hpost,Int.mul_zero,Int.add_zero] at h1
 have hd:=drop_rd (xs:=us) (i:=i) (by omega)
 have hw:val ((us.drop i).take (vs.length+1))=rd us (i:Int)+4294967296*val (us.drop (i+1)):=by
  rw [hd,List.take_succ_cons,h1]; rfl
 have hb:=du.rd (i:Int)
 refine ⟨by rw [hw]; omega,fun hl' he hlt' => ?_⟩
 have hs:=val_split us i (by omega)
 have hsd:val (us.drop i)=val ((us.drop i).take (vs.length+1)):=by rw [hw,hd]; rfl
 have e1:val (us.take i++us'++us.drop (i+vs.length+1))=val (us.take i)+4294967296^i*val us':=by
  rw [List.append_assoc,val_append,val_append,hpost',Int.mul_zero,Int.add_zero,List.length_take,Nat.min_eq_left (by omega)]
 have e2:val ((us.take i++us'++us.drop (i+vs.length+1)).drop i)=val us':=by
  rw [List.append_assoc,List.drop_append_of_le_length (by rw [List.length_take]; omega),List.drop_of_length_le (by rw [List.length_take]; omega),List.nil_append,val_append,hpost',Int.mul_zero,Int.add_zero]
 refine ⟨?_,by rw [e2]; exact hlt'⟩
 rw [e1,heq,hs,hsd,he,drop_set_self (by omega)]
 have e3:val (q :: qs.drop (i+1))=q+4294967296*val (qs.drop (i+1)):=rfl
 rw [e3,Int.pow_succ]
 generalize val (qs.drop (i+1))=Q
 generalize (4294967296:Int)^i=P
 generalize val vs=V
 generalize val us'=U
 generalize val (us.take i)=T
 grind
theorem DSt.step {w wr:World} {g1 N cap1 gq m g2 cap2 i:Nat} {X:Int} {vs us qs:List Int} (h:DSt w wr g1 N cap1 gq m g2 cap2 (i+1) X vs us qs) (hn:0<vs.length) (dv:Wd vs) (htop:rd vs ((vs.length-1:Nat):Int)≠0) (h12:g2≠g1) (h1q:gq≠g1) (h2q:g2≠gq) (hg1:w.heap.size≤g1) (hgq:w.heap.size≤gq) (cu:Nat) (hcu:vs.length+1≤cu) (hmax:vs.length≤34359738369) :
  Calls Tryz.prog 245 #[.slice (some ⟨g1,i,none⟩) (vs.length+1) cu,.slice (some ⟨g2,0,none⟩) vs.length cap2] wr fun e w'=>∃ (q:Int) (us':List Int),e = .returned (.int .u32 q)∧0≤q∧q<4294967296∧(∃ v,w'.cell? ⟨gq,i,none⟩=some (.int .u32 v))∧w'.frozen? ⟨gq,i,none⟩=false ∧
   DSt w (w'.setCell ⟨gq,i,none⟩ (.int .u32 q)) g1 N cap1 gq m g2 cap2 i X vs us' (qs.set i q):=by
 have hi:i<m:=h.le
 have hul:=h.ul
 have hnl:=h.nl
 have hpre:(us.take i).length=i:=by rw [List.length_take]; omega
 have hwl:((us.drop i).take (vs.length+1)).length=vs.length+1:=by rw [List.length_take,List.length_drop]; omega
 have hsplit:us.take i++(us.drop i).take (vs.length+1)++us.drop (i+vs.length+1)=us:=by
  rw [List.append_assoc,show i+vs.length+1=i+(vs.length+1) by omega,←List.drop_drop,List.take_append_drop,List.take_append_drop]
 have hW:Win wr w.heap.size g1 N cap1 (us.take i) ((us.drop i).take (vs.length+1)) (us.drop (i+vs.length+1)):=by
  unfold Win; rw [hsplit]; exact h.ou
 have hp:=fun (q:Int) (us':List Int)=>DSt.pure (q:=q) (us':=us') hn hi (by omega) h.ql h.du dv h.dq h.eq h.lt
 have hg:=guess_calls g1 N cap1 cu w.heap.size (us.take i) ((us.drop i).take (vs.length+1)) (us.drop (i+vs.length+1)) vs _ cap2 wr hW h.wv (fun ad he=>by cases he; exact h12) hwl hn ((h.du.drop i).take _) dv htop (hp 0 []).1 hcu hmax
 rw [hpre] at hg
 refine hg.mono fun e w' ⟨q,us',he,hq0,hq1,hl',hd',hW',hk,hve,hvl⟩ => ?_
 obtain ⟨hE,hL⟩:=(hp q us').2 hl' hve hvl
 have hoq:=h.oq.kept hk.grown (Or.inr (by simpa [Value.ownBlock] using h1q))
 have hql:=h.ql
 obtain ⟨hs1,hs2⟩:=own_at hoq (i:Int) (by omega) (by omega)
 have hst:=own_store hoq (i:Int) q
 rw [Int.toNat_natCast] at hs1 hs2 hst
 have hbl:=KeepB.below h.below hk hg1
 have hk2:KeepB w' (w'.setCell ⟨gq,i,none⟩ (.int .u32 q)) gq:=(KeepB.refl w' gq).set i _
 refine ⟨q,us.take i++us'++us.drop (i+vs.length+1),he,hq0,hq1,⟨_,hs1⟩,hs2,?_⟩
 exact {
  le:=by omega
  ul:=by rw [List.length_append,List.length_append,hpre,hl',List.length_drop]; omega
  nl:=hnl
  ql:=by rw [List.length_set]; exact hql
  du:=((h.du.take i).append hd').append (h.du.drop _)
  dq:=wd_set h.dq i hq0 hq1
  ou:=(show w'.ownsRow w.heap.size 171 1 (.slice (some ⟨g1,0,none⟩) N cap1) N _ from hW').kept hk2.grown (Or.inr (by simpa [Value.ownBlock] using (fun e=>h1q e.symm)))
  oq:=hst.1
  wv:=(h.wv.keepB hk (fun ad he=>by cases he; exact h12)).keepB hk2 (fun ad he=>by cases he; exact h2q)
  below:=KeepB.below hbl hk2 hgq
  eq:=hE
  lt:=hL }
theorem DSt.start {w wr:World} {g1 N cap1 gq m g2 cap2 s:Nat} {xs us vs:List Int} (dx:Wd xs) (dz:Wd us) (hs:s≤31) (hm:m+vs.length=xs.length+1) (hn:0<vs.length) (hul:us.length=xs.length+1) (hN:N=xs.length+1) (hu:val us=val xs*2^s) (hv:2147483648*4294967296^(vs.length-1)≤val vs)
  (ou:wr.ownsRow w.heap.size 171 1 (.slice (some ⟨g1,0,none⟩) N cap1) N (nums .u32 us)) (oq:wr.ownsRow w.heap.size 171 1 (.slice (some ⟨gq,0,none⟩) m m) m (nums .u32 (List.replicate m 0)))
  (wv:WAt wr (some ⟨g2,0,none⟩) cap2 vs) (hb:Below w.heap.size w wr):DSt w wr g1 N cap1 gq m g2 cap2 m (val xs*2^s) vs us (List.replicate m 0) where
 le:=Nat.le_refl _
 ul:=by omega
 nl:=by omega
 ql:=by simp
 du:=dz
 dq:=wd_zeros _
 ou:=ou
 oq:=oq
 wv:=wv
 below:=hb
 eq:=by rw [List.drop_of_length_le (by simp),hu]; simp [val]
 lt:=by
  have h1:=val_split us m (by omega)
  have h2:=val_nonneg (dz.take m)
  have h3:=val_lt dx
  have hd:(0:Int)<2^s:=Int.pow_pos (by decide)
  have hd2:(2:Int)^s≤2147483648:=by
   have:=Nat.pow_le_pow_right (n:=2) (by decide) hs
   have:=Int.ofNat_le.2 this
   rw [Int.natCast_pow] at this
   exact this
  have hx:xs.length=m+(vs.length-1):=by omega
  rw [hx,Int.pow_add] at h3
  have pm:(0:Int)<4294967296^m:=Int.pow_pos (by decide)
  have pn:(0:Int)<4294967296^(vs.length-1):=Int.pow_pos (by decide)
  rw [hu] at h1
  generalize (4294967296:Int)^m=M at *
  generalize (4294967296:Int)^(vs.length-1)=K at *
  generalize (2:Int)^s=D at *
  have h4:val xs*D<M*K*D:=Int.mul_lt_mul_of_pos_right h3 hd
  have h5:M*(K*D)≤M*(K*2147483648):=Int.mul_le_mul_of_nonneg_left (Int.mul_le_mul_of_nonneg_left hd2 (Int.le_of_lt pn)) (Int.le_of_lt pm)
  apply Classical.byContradiction
  intro h
  have h6:M*(K*2147483648)≤M*val (us.drop m):=Int.mul_le_mul_of_nonneg_left (by omega) (Int.le_of_lt pm)
  rw [Int.mul_assoc] at h4
  omega
theorem DSt.fin {w wr:World} {g1 N cap1 gq m g2 cap2 s:Nat} {x y:Int} {vs us qs:List Int} (h:DSt w wr g1 N cap1 gq m g2 cap2 0 (x*2^s) vs us qs) (dv:Wd vs) (hv:val vs=y*2^s) :
  val (us.take vs.length)=val us∧x=y*val qs+val us/2^s∧val us/2^s<y:=by
 have hd:(0:Int)<2^s:=Int.pow_pos (by decide)
 have h1:=h.eq
 have h2:=h.lt
 rw [List.drop_zero] at h1 h2
 rw [Int.pow_zero,Int.mul_one,hv] at h1
 have h3:=val_split us vs.length (by have:=h.ul; have:=h.nl; omega)
 have h4:=val_nonneg (h.du.take vs.length)
 have h5:=val_nonneg (h.du.drop vs.length)
 have h6:=val_lt dv
 have hp:(0:Int)<4294967296^vs.length:=Int.pow_pos (by decide)
 have hz:val (us.drop vs.length)=0:=by
  apply Classical.byContradiction
  intro h
  have:=Int.mul_le_mul_of_nonneg_left (show 1≤val (us.drop vs.length) by omega) (Int.le_of_lt hp)
  omega
 rw [hz,Int.mul_zero,Int.add_zero] at h3
 generalize (2:Int)^s=D at *
 have hu:val us=(x-y*val qs)*D:=by
  rw [Int.sub_mul,h1]
  rw [show val qs*(y*D)=y*val qs*D by rw [←Int.mul_assoc,Int.mul_comm (val qs)]]
  omega
 have hq:val us/D=x-y*val qs:=by rw [hu]; exact Int.mul_ediv_cancel _ (by omega)
 refine ⟨h3.symm,by rw [hq]; omega,?_⟩
 rw [hv] at h2
 exact Int.ediv_lt_of_lt_mul hd h2
theorem DSt.wq {w wr:World} {g1 N cap1 gq m g2 cap2 j:Nat} {X:Int} {vs us qs:List Int} (h:DSt w wr g1 N cap1 gq m g2 cap2 j X vs us qs):WAt wr (some ⟨gq,0,none⟩) m qs:=by
 have h1:OwnW wr w.heap.size (.slice (some ⟨gq,0,none⟩) m m) qs:=by unfold OwnW; rw [h.ql]; exact h.oq
 obtain ⟨A,c,he,hw⟩:=h1.wat
 injection he with e1 _ e3
 subst e1 e3
 exact hw
theorem DSt.wu {w wr:World} {g1 N cap1 gq m g2 cap2 j:Nat} {X:Int} {vs us qs:List Int} (h:DSt w wr g1 N cap1 gq m g2 cap2 j X vs us qs):WAt wr (some ⟨g1,0,none⟩) cap1 us:=by
 have h1:OwnW wr w.heap.size (.slice (some ⟨g1,0,none⟩) N cap1) us:=by unfold OwnW; rw [h.ul]; exact h.ou
 obtain ⟨A,c,he,hw⟩:=h1.wat
 injection he with e1 _ e3
 subst e1 e3
 exact hw
theorem tail_q {w wr:World} {g1 N cap1 gq m g2 cap2 j:Nat} {X:Int} {vs us qs:List Int} (h:DSt w wr g1 N cap1 gq m g2 cap2 j X vs us qs) (W:World) (hb:Below wr.heap.size wr W) :
  Calls Tryz.prog 190 #[.slice (some ⟨gq,0,none⟩) m m] W fun e w'=>∃ n:Nat,e = .returned (.slice (some ⟨gq,0,none⟩) n m)∧Cut qs n∧W=w':=by
 have:=trim_calls _ m qs W (h.wq.below hb) h.dq
 rw [h.ql] at this
 exact this
theorem tail_r {w wr:World} {g1 N cap1 gq m g2 cap2 j s:Nat} {X:Int} {vs us qs:List Int} (h:DSt w wr g1 N cap1 gq m g2 cap2 j X vs us qs) (hs:s≤31) (h0:0<vs.length) (hm:vs.length≤34359738369) (W:World) (hb:Below wr.heap.size wr W) :
  Calls Tryz.prog 246 #[.slice (some ⟨g1,0,none⟩) vs.length cap1,.int .i64 s] W fun e w'=>∃ (A':Option Addr) (c':Nat) (zs:List Int),e = .returned (.slice A' zs.length c')∧WAt w' A' c' zs∧Wd zs∧Hid (zs.length=vs.length)∧Hid (val zs=val (us.take vs.length)/2^s)∧Below W.heap.size W w':=by
 have hul:=h.ul
 have hnl:=h.nl
 have hl:(us.take vs.length).length=vs.length:=by rw [List.length_take]; omega
 have:=right_calls _ cap1 (us.take vs.length) s W ((h.wu.below hb).take vs.length (by omega)) (h.du.take _) hs (by omega)
 rw [hl] at this
 exact this.mono fun e w' ⟨A',c',zs,h1,h2,h3,h4,h5,h6⟩=>⟨A',c',zs,h1,h2,h3,h4,h5,h6⟩
theorem lz_spec (x:Int) (h0:0<x) (h1:x<4294967296):∃ s:Nat,s≤31∧(32-(Lib.bitLen x.toNat:Int))=(s:Int)∧x*2^s<4294967296∧2147483648≤x*2^s:=by
 obtain ⟨X,rfl⟩:=Int.eq_ofNat_of_zero_le (Int.le_of_lt h0)
 rw [Int.toNat_natCast]
 have hX:X<2^64:=by omega
 obtain ⟨h2,h3⟩:=bitLenAux_spec 64 X hX
 obtain ⟨h4,h5⟩:=h3 (by omega)
 change X<2^Lib.bitLen X at h2
 change 2^(Lib.bitLen X-1)≤X at h4
 change 1≤Lib.bitLen X at h5
 generalize Lib.bitLen X=n at *
 have hn:n≤32:=by
  apply Classical.byContradiction
  intro hn
  have:2^32≤2^(n-1):=Nat.pow_le_pow_right (by decide) (by omega)
  omega
 have e1:2^(n-1)*2^(32-n)=2147483648:=by rw [←Nat.pow_add,show n-1+(32-n)=31 by omega]
 have e2:2^n*2^(32-n)=4294967296:=by rw [←Nat.pow_add,show n+(32-n)=32 by omega]
 refine ⟨32-n,by omega,by omega,?_,?_⟩
 ·have h6:X*2^(32-n)<2^n*2^(32-n):=Nat.mul_lt_mul_of_pos_right h2 (Nat.pow_pos (by decide))
  rw [e2] at h6
  have:=Int.ofNat_lt.2 h6
  rw [Int.natCast_mul,Int.natCast_pow] at this
  exact this
 ·have h6:2^(n-1)*2^(32-n)≤X*2^(32-n):=Nat.mul_le_mul_right _ h4
  rw [e1] at h6
  have:=Int.ofNat_le.2 h6
  rw [Int.natCast_mul,Int.natCast_pow] at this
  exact this
theorem left_own (A:Option Addr) (c:Nat) (xs:List Int) (n:Nat) (w:World) (hw:WAt w A c xs) (hx:Wd xs) (hn:n≤31) (hm:xs.length≤34359738369) :
  Calls Tryz.prog 244 #[.slice A xs.length c,.int .i64 n] w fun e w'=>∃ (g cap:Nat) (zs:List Int),e = .returned (.slice (some ⟨g,0,none⟩) (xs.length+1) cap)∧OwnW w' w.heap.size (.slice (some ⟨g,0,none⟩) (xs.length+1) cap) zs∧w.heap.size≤g∧g<w'.heap.size∧xs.length+1≤cap∧Wd zs∧Hid (zs.length=xs.length+1)∧Hid (val zs=val xs*2^n)∧Below w.heap.size w w':=by
 refine (left_calls A c xs n w hw hx hn hm).mono fun e w' ⟨v,zs,he,ho,hd,hl,hv,hb⟩ => ?_
 have ho':=ho
 unfold OwnW at ho'
 rw [hl] at ho'
 obtain ⟨g,cap,rfl,hg1,hg2⟩:=World.ownsRow.form ho' (by omega)
 have hc:xs.length+1≤cap:=by
  rcases ho'.2 with ⟨h,_⟩|⟨g',cap',cur,he',_,_,h1,_⟩
  ·cases h
  ·injection he' with _ _ h2
   subst h2; exact h1
 exact ⟨g,cap,zs,he,ho,hg1,hg2,hc,hd,hl,hv,hb⟩
theorem norm_fits (ys vs:List Int) (s:Nat) (yt:Int) (dy:Wd ys) (dv:Wd vs) (hn:0<ys.length) (hs:s≤31) (ht:rd ys ((ys.length-1:Nat):Int)=yt) (hl:vs.length=ys.length+1) (hv:val vs=val ys*2^s) (hs1:yt*2^s<4294967296) (hs2:2147483648≤yt*2^s) :
  val (vs.take ys.length)=val ys*2^s∧rd (vs.take ys.length) ((ys.length-1:Nat):Int)≠0∧2147483648*4294967296^(ys.length-1)≤val ys*2^s:=by
 obtain ⟨m,hm⟩:∃ m,ys.length=m+1:=⟨ys.length-1,by omega⟩
 rw [hm] at ht hl ⊢
 simp only [Nat.add_sub_cancel] at ht ⊢
 have e1:=val_take_succ (xs:=ys) (i:=m) (by omega)
 rw [List.take_of_length_le (by omega),ht] at e1
 have b1:=val_lt (dy.take m)
 rw [List.length_take,Nat.min_eq_left (by omega)] at b1
 have b0:=val_nonneg (dy.take m)
 have hp:(0:Int)<4294967296^m:=Int.pow_pos (by decide)
 have hd:(0:Int)<2^s:=Int.pow_pos (by decide)
 have e2:(2:Int)^(32-s)*2^s=4294967296:=by rw [←Int.pow_add,show 32-s+s=32 by omega]; rfl
 generalize (2:Int)^s=D at *
 generalize (2:Int)^(32-s)=E at *
 have h1:yt<E:=by
  apply Classical.byContradiction
  intro h
  have:=Int.mul_le_mul_of_nonneg_right (show E≤yt by omega) (Int.le_of_lt hd)
  omega
 have h2:(yt+1)*D≤4294967296:=by
  have:=Int.mul_le_mul_of_nonneg_right (show yt+1≤E by omega) (Int.le_of_lt hd)
  omega
 have ex:(4294967296:Int)^(m+1)=4294967296^m*4294967296:=by rw [Int.pow_succ]
 generalize hB:(4294967296:Int)^m=B at *
 have hup:val ys*D<B*4294967296:=by
  have h3:val ys+1≤B*(yt+1):=by rw [e1,Int.mul_add]; omega
  have h4:=Int.mul_le_mul_of_nonneg_right h3 (Int.le_of_lt hd)
  have h5:=Int.mul_le_mul_of_nonneg_left h2 (Int.le_of_lt hp)
  rw [←Int.mul_assoc] at h5
  rw [Int.add_mul] at h4
  omega
 have hlo:2147483648*B≤val ys*D:=by
  rw [e1,Int.add_mul]
  have h6:=Int.mul_le_mul_of_nonneg_left hs2 (Int.le_of_lt hp)
  rw [←Int.mul_assoc] at h6
  have h7:=Int.mul_nonneg b0 (Int.le_of_lt hd)
  omega
 have f1:=val_take_succ (xs:=vs) (i:=m+1) (by omega)
 rw [List.take_of_length_le (by omega),ex] at f1
 have c0:=val_nonneg (dv.take (m+1))
 have r1:=dv.rd ((m+1:Nat):Int)
 have hz:rd vs ((m+1:Nat):Int)=0:=by
  apply Classical.byContradiction
  intro h
  have:=Int.mul_le_mul_of_nonneg_left (show 1≤rd vs ((m+1:Nat):Int) by omega) (show 0≤B*4294967296 by omega)
  omega
 rw [hz,Int.mul_zero,Int.add_zero] at f1
 refine ⟨by omega,?_,hlo⟩
 have f2:=val_take_succ (xs:=vs) (i:=m) (by omega)
 have b2:=val_lt (dv.take m)
 rw [List.length_take,Nat.min_eq_left (by omega),hB] at b2
 rw [hB] at f2
 have hr:rd (vs.take (m+1)) ((m:Nat):Int)=rd vs (m:Int):=by
  rw [rd_lt (by rw [List.length_take]; omega),rd_lt (by omega)]
  simp
 rw [hr]
 intro h
 rw [h,Int.mul_zero] at f2
 omega
theorem divide_long (A:Option Addr) (cx:Nat) (xs:List Int) (A':Option Addr) (cy:Nat) (ys:List Int) (w:World) (hx:WAt w A cx xs) (hy:WAt w A' cy ys) (dx:Wd xs) (dy:Wd ys) (tx:xs.getLast? ≠ some 0) (ty:ys.getLast? ≠ some 0) (hn:1<ys.length) (lx:xs.length≤34359738368) (hge:val ys≤val xs) :
  Calls Tryz.prog 229 #[.slice A xs.length cx,.slice A' ys.length cy] w fun e w'=>∃ A1 c1 qs A2 c2 rs,e = .returned (.tuple #[.slice A1 (List.length qs) c1,.slice A2 (List.length rs) c2])∧Quot w w' (val xs) (val ys) A1 c1 qs A2 c2 rs:=by
 have hll:=len_le_of_val dx dy ty hge
 obtain ⟨ad,rfl⟩:=hy.ptr (by omega)
 have hcy:=hy.cell (j:=ys.length-1) (by omega)
 rw [getD_rd] at hcy
 have htop:rd ys ((ys.length-1:Nat):Int)≠0:=by
  intro h
  apply ty
  rw [List.getLast?_eq_getElem?,List.getElem?_eq_getElem (by omega)]
  rw [rd_lt (by omega)] at h
  rw [h]
 have hbt:=dy.rd ((ys.length-1:Nat):Int)
 generalize ht:rd ys ((ys.length-1:Nat):Int)=yt at hcy htop hbt
 have HT:=Lib.hid ht
 clear ht
 obtain ⟨s,hs31,hse,hs1,hs2⟩:=lz_spec yt (by omega) hbt.2
 have HSE:=Lib.hid hse
 have hb1:((ys.length:Int) == 1)=false:=beq_eq_false_iff_ne.2 (by omega)
 obtain ⟨m,hm⟩:∃ m:Nat,m+ys.length=xs.length+1:=⟨xs.length+1-ys.length,by omega⟩
 have hmk:=print_make (P:=Tryz.prog) 103 171 .u32 4 Tryz.underlying103 infoU32 (by decide) m (by omega)
 rw [show (m:Int)=(xs.length:Int)+1-(ys.length:Int) by omega] at hmk
 have hmb:m≤34359738369:=by omega
 have hm1:1≤m:=by omega
 have HM:=Lib.hid hm
 clear hm hse
 go_enter Tryz.func229,Tryz.ntmps229
 go_wp2_with fail
 refine (compare_words A cx xs (some ad) cy ys _ hx hy dx dy tx ty).mono ?_
 rintro e w1 ⟨r,rfl,hr,hrb,hd⟩
 obtain ⟨⟨nd,hw1⟩⟩:=hd
 have hb1':Below w.heap.size w w1:=by subst hw1; exact below_drewN' _ _
 have hcy1:w1.cell? (ad.add (ys.length-1))=some (.int .u32 yt):=by subst hw1; exact hcy
 have hr0:=sign_nonneg hr
 have hr1:0≤r:=by omega
 have HB1:=Lib.hid hb1'
 clear hr hr0 hw1 hcy hb1'
 go_wp2_with fail
 refine (Tryz.bits_LeadingZeros32 yt _ hbt.1 (by omega)).mono ?_
 rintro e w2 ⟨rfl,hw2⟩
 subst hw2
 rw [HSE.out]
 go_wp2_with fail
 go_region_held3 (fun _=>True) (exact trivial)
  ((first
   | (go_simp; go_at_call 244; with_reducible refine (left_own A cx xs s _ (hx.below (bthen HB1.out (below_drew' _))) dx hs31 (by omega)).mono ?_; rintro e w3 ⟨g1,cap1,us,rfl,ho1,hg1,hg1',hcap1,hd1,hl1,hv1,hb2⟩)
   | (go_simp; go_at_call 244; with_reducible refine (left_own (some ad) cy ys s _ (hy.below (bthen (bthen HB1.out (below_drew' _)) hb2)) dy hs31 (by omega)).mono ?_; rintro e w4 ⟨g2,cap2,vs,rfl,ho2,hg2,hg2',hcap2,hd2,hl2,hv2,hb3⟩; have hq1:(ys.length:Int)≤(cap2:Int):=by omega)))
 have hsz:w.heap.size≤w2.drew.heap.size:=HB1.out.size
 have hown:=own_made w4 w.heap.size 171 .u32 m (by have:=hb2.size; have:=hb3.size; omega) (by omega)
 obtain ⟨hn1,hn2,hn3⟩:=norm_fits ys vs s yt dy hd2 (by omega) hs31 HT.out hl2.out hv2.out hs1 hs2
 have hB4:Below w.heap.size w w4:=bthen (bthen (bthen HB1.out (below_drew' _)) hb2) hb3
 have hvl:(vs.take ys.length).length=ys.length:=by rw [List.length_take,hl2.out]; omega
 obtain ⟨A2,c2,he2,hwv⟩:=ho2.wat
 rw [hl2.out] at he2
 injection he2 with e1 _ e3
 subst e1 e3
 have hou:w3.ownsRow w2.drew.heap.size 171 1 (.slice (some ⟨g1,0,none⟩) (xs.length+1) cap1) (xs.length+1) (nums .u32 us):=by have:=ho1; unfold OwnW at this; rw [hl1.out] at this; exact this
 have hou4:=(own_weaken hou hsz).kept (World.grownBy.mk hb3.os hb3.tape hb3.output hb3.size (row:=none) (fun k hk _=>hb3.block k hk)) (Classical.em _)
 have hS:DSt w (w4.alloc (.cells (madeCells #[.int .u32 0] m) 171)) g1 (xs.length+1) cap1 w4.heap.size m g2 cap2 m (val xs*2^s) (vs.take ys.length) us (List.replicate m 0):=
  DSt.start dx hd1 hs31 (by rw [hvl]; exact HM.out) (by omega) hl1.out rfl hv1.out (by rw [hn1,hvl]; exact hn3) (hou4.alloc _) hown ((hwv.take ys.length (by rw [hl2.out]; omega)).below (below_alloc (Below.refl _ _) _)) (bthen hB4 (below_alloc (Below.refl _ _) _))
 have h12:g2≠g1:=by omega
 have h1q:w4.heap.size≠g1:=by have:=hb3.size; omega
 have h2q:g2≠w4.heap.size:=by omega
 have hgq:w.heap.size≤w4.heap.size:=hB4.size
 have hgg1:w.heap.size≤g1:=by omega
 have hnt:rd (vs.take ys.length) (((vs.take ys.length).length-1:Nat):Int)≠0:=by rw [hvl]; exact hn2
 clear hn2
 have HS:=Lib.hid hS
 have hdv:Wd (vs.take ys.length):=hd2.take _
 clear hb3 hou4 hou hwv ho2 ho1 hown hb2
 generalize hvt:vs.take ys.length=vt at *
 have HV:=Lib.hid hn1
 have HVL:=Lib.hid hvl
 clear hn1 hvt hl1 hv1 hl2 hv2 hd1 hd2 hn3 HT vs hvl
 go_wp2
 go_loopw [12] (fun vz wr=>∃ (z:Int) (j:Nat) (us qs:List Int),vz = .int .i64 z∧Hid (z=(j:Int)-1) ∧ -1≤z∧z<m∧Hid (DSt w wr g1 (xs.length+1) cap1 w4.heap.size m g2 cap2 j (val xs*2^s) vt us qs)) (fun vz _=>(intOf vz+1).toNat)
 case atStart=>exact ⟨_,m,us,_,by go_num,Lib.hid rfl,by omega,by omega,HS⟩
 case round =>
  obtain ⟨z,j,us,qs,rfl,HZ,hz0,hz1,HD⟩:=hrel
  by_cases hz:0≤z
  ·obtain ⟨i,rfl⟩:=Int.eq_ofNat_of_zero_le hz
   have hj:j=i+1:=by have:=HZ.out; omega
   subst hj
   have hi:i<m:=by omega
   have hcp:i+ys.length+1≤cap1:=by have:=HM.out; omega
   have hle:i≤i+ys.length+1:=by omega
   have hc2:i≤cap1:=by omega
   have hg:=DSt.step HD.out (by rw [HVL.out]; omega) hdv hnt h12 h1q h2q hgg1 hgq (cap1-i) (by rw [HVL.out]; omega) (by rw [HVL.out]; omega)
   rw [HVL.out,show ys.length+1=i+ys.length+1-i by omega] at hg
   have HG:=Lib.hid hg
   clear hg
   go_wp2_with fail
   with_reducible refine HG.out.mono ?_
   rintro e w5 ⟨q,us',rfl,hq0,hq1,⟨v,hcv⟩,hfv,hS'⟩
   have HS':=Lib.hid hS'
   clear hS'
   go_wp2
   go_roundw
   case rel=>exact ⟨(i:Int)-1,i,us',qs.set i q,by go_num,Lib.hid rfl,by omega,by omega,HS'⟩
   case measure=>simp [intOf]
  ·have hj:j=0:=by have:=HZ.out; omega
   subst hj
   obtain ⟨F1,F2,F3⟩:=HD.out.fin hdv HV.out
   have F1':=Lib.hid F1
   have F2':=Lib.hid F2
   clear F1 F2
   have hT1:=tail_q HD.out
   have hR1:=tail_r (s:=s) HD.out hs31 (by rw [HVL.out]; omega) (by rw [HVL.out]; omega)
   rw [HVL.out] at hR1
   have HT1:=Lib.hid hT1
   have HR1:=Lib.hid hR1
   clear hT1 hR1
   have hcI:(ys.length:Int)≤(cap1:Int):=by have:=HM.out; omega
   go_wp2_with fail
   go_region_held3 (fun _=>True) (exact trivial)
    ((first
     | (go_simp; go_at_call 190; with_reducible refine (HT1.out _ (below_drew' _)).mono ?_; rintro e w5 ⟨n1,rfl,hcut1,rfl⟩)
     | (go_simp; go_at_call 246; with_reducible refine (HR1.out _ (below_drew' _)).mono ?_; rintro e w6 ⟨A3,c3,rs,rfl,hw6,hd6,hl6,hv6,hb6⟩)
     | (go_simp; go_at_call 190; with_reducible refine (trim_calls A3 c3 rs _ hw6 hd6).mono ?_; rintro e w7 ⟨n2,rfl,hcut2,rfl⟩)))
   go_wp2
   go_ret2
   have hbx:Below wr.heap.size wr w6:=bthen (below_drew' _) hb6
   have e1:(qs.take n1).length=n1:=by rw [List.length_take]; have:=hcut1.le; omega
   have e2:(rs.take n2).length=n2:=by rw [List.length_take]; have:=hcut2.le; omega
   refine ⟨_,_,qs.take n1,_,_,rs.take n2,by rw [e1,e2]; rfl,(HD.out.wq.below hbx).take n1 hcut1.le,hw6.take n2 hcut2.le,HD.out.dq.take n1,hd6.take n2,hcut1.top,hcut2.top,?_,?_,bthen HD.out.below hbx⟩
   ·rw [hcut1.eq,hcut2.eq,hv6.out,←HVL.out,F1'.out]; exact F2'.out
   ·rw [hcut2.eq,hv6.out,←HVL.out,F1'.out]; exact F3
theorem divide_calls (A:Option Addr) (cx:Nat) (xs:List Int) (A':Option Addr) (cy:Nat) (ys:List Int) (w:World) (hx:WAt w A cx xs) (hy:WAt w A' cy ys) (dx:Wd xs) (dy:Wd ys) (tx:xs.getLast? ≠ some 0) (ty:ys.getLast? ≠ some 0) (hn:ys ≠ []) (lx:xs.length≤34359738368) :
  Calls Tryz.prog 229 #[.slice A xs.length cx,.slice A' ys.length cy] w fun e w'=>∃ A1 c1 qs A2 c2 rs,e = .returned (.tuple #[.slice A1 (List.length qs) c1,.slice A2 (List.length rs) c2])∧Quot w w' (val xs) (val ys) A1 c1 qs A2 c2 rs:=by
 by_cases hlt:val xs<val ys
 ·exact divide_lt A cx xs A' cy ys w hx hy dx dy tx ty lx hlt
 ·by_cases h1:1<ys.length
  ·exact divide_long A cx xs A' cy ys w hx hy dx dy tx ty h1 lx (by omega)
  ·match ys,hn,h1 with
   | [y],_,_=>exact divide_one A cx xs A' cy y w hx hy dx dy tx (by simpa using ty) lx (by omega)
   | y :: z :: r,_,h1=>exact absurd (by simp) h1
theorem quot_pos {X Y q r:Int} (h:X=Y*q+r) (h0:0≤r) (h1:r<Y):X/Y=q∧X%Y=r:=by
 have hY:0<Y:=by omega
 subst h
 rw [Int.add_comm,Int.add_mul_ediv_left _ _ (by omega),Int.ediv_eq_zero_of_lt h0 h1,Int.zero_add,Int.add_mul_emod_self_left,Int.emod_eq_of_lt h0 h1]
 exact ⟨rfl,rfl⟩
theorem quot_sg {neg neg':Bool} {xs ys:List Int} {x y q r:Int} (hx:Norm neg xs x) (hy:Norm neg' ys y) (h:val xs=val ys*q+r) (h0:0≤r) (h1:r<val ys):sg (!(neg == neg')) q=x.tdiv y:=by
 have hX:=val_nonneg hx.wd
 have hq:=(quot_pos h h0 h1).1
 have e:(val xs).tdiv (val ys)=q:=by rw [Int.tdiv_eq_ediv_of_nonneg hX,hq]
 rw [hx.eq,hy.eq]
 unfold sg
 cases neg<;>cases neg'<;>simp [Int.neg_tdiv,Int.tdiv_neg,e]
theorem Norm.ne {neg:Bool} {ws:List Int} {x:Int} (h:Norm neg ws x) (hx:x≠0):ws ≠ []:=fun e=>hx (h.nil_iff.1 e)
theorem bcell {w w1:World} {a:Addr} {u:Value} (hb:Below w.heap.size w w1) (h:w.cell? a=some u):w1.cell? a=some u:=(hb.cell (World.block_lt_of_cell? w _ h)).trans h
theorem quo_calls (b o b1 o1 b2 o2:Nat) (x y:Int) (w:World) (hz:Slot w b o) (hx:IntAt w b1 o1 x) (hy:IntAt w b2 o2 y) (hy0:y≠0) {n:Nat} (hs:Bd n x) (hn:n≤big) :
  Calls Tryz.prog 196 #[.pointer (some ⟨b,o,none⟩),.pointer (some ⟨b1,o1,none⟩),.pointer (some ⟨b2,o2,none⟩)] w fun e w'=>e = .returned (.pointer (some ⟨b,o,none⟩))∧IntAt w' b o (x.tdiv y)∧Upd w w' b o (o+2):=by
 obtain ⟨neg,A,c,xs,h1,h2,h3,h4⟩:=hx.out
 obtain ⟨neg',A',c',ys,k1,k2,k3,k4⟩:=hy.out
 have hl1:xs.length≤34359738368:=h4.small hs hn
 have hlt1:=hx.lt
 have hlt2:=hy.lt
 have hyn:=k4.ne hy0
 clear hs hy0
 go_enter Tryz.func196,Tryz.ntmps196
 have hD:=fun (W:World) (hb:Below w.heap.size w W)=>divide_calls A c xs A' c' ys W (h3.below hb) (k3.below hb) h4.wd k4.wd h4.top k4.top hyn hl1
 have HD:=Lib.hid hD
 clear hD
 go_wp2_with fail
 go_region_held3 (fun w'=>w'.cell? ⟨b1,o1+1,none⟩=some (.slice A xs.length c)∧w'.cell? ⟨b2,o2+1,none⟩=some (.slice A' ys.length c'))
  (first|go_keep|exact ⟨h2,k2⟩|exact ⟨bcell (bthen (below_drew' _) hq.below) h2,bcell (bthen (below_drew' _) hq.below) k2⟩)
  ((first
   | (go_simp; go_at_call 229; with_reducible refine (HD.out _ (by first|exact below_drew' _|exact below_drewN' _ _|exact Below.refl _ _)).mono ?_; rintro e w1 ⟨A1,c1,qs,A2,c2,rs,rfl,hq⟩)))
 have hB1:Below w.heap.size w w1:=bthen (below_drew' _) hq.below
 have g1:=bcell hB1 h1
 have g2:=bcell hB1 k1
 have hk:=quot_sg h4 k4 (hq.eq) (val_nonneg hq.dr) hq.lt
 have HK:=Lib.hid hk
 have HQ:=Lib.hid hq
 clear hk hq
 go_wp2_with fail
 go_still_tail 11,(by kernel_rfl)
 change wpList _ _ _ _ _ w1.drew
 go_wp2_with fail
 refine (put_calls b o (!(neg == neg')) _ _ qs _ (hz.upd (Upd.of_below (bthen hB1 (below_drew' _)) 0 0 0)) (HQ.out.wq.below (below_drew' _)) HQ.out.dq).mono ?_
 rintro e w3 ⟨rfl,hx3,hu3⟩
 rw [HK.out] at hx3
 go_wp2
 go_ret
 exact ⟨rfl,hx3,(Upd.of_below (bthen hB1 (below_drew' _)) _ _ _).trans hu3⟩
end Go.Proofs.YtglaeambknhjlaaGreatDoor.P
end
section
namespace Go.Proofs.YtglaeambknhjlaaGreatDoor.P
open Go.RowKit Go.Proofs.YtglaeambknhjlaaGreatDoorW.PrintWords
open Classical in
noncomputable def vmeas (v:Value) (w:World):Nat:=if h:∃ ys,∃ A c,v = .slice A (List.length ys) c∧WAt w A c ys then (val h.choose).toNat else 0
theorem WAt.uniq {w:World} {A:Option Addr} {c c':Nat} {xs ys:List Int} (h:WAt w A c xs) (k:WAt w A c' ys) (hl:xs.length=ys.length):xs=ys:=by
 refine List.ext_getElem hl fun j h1 h2 => ?_
 obtain ⟨ad,rfl⟩:=h.ptr (by omega)
 have e1:=h.cell h1
 have e2:=k.cell h2
 rw [e1] at e2
 rw [getD_rd,getD_rd,rd_lt h1,rd_lt h2] at e2
 injection e2 with e2
 injection e2
theorem vmeas_eq {w:World} {A:Option Addr} {c:Nat} {ys:List Int} (h:WAt w A c ys):vmeas (.slice A ys.length c) w=(val ys).toNat:=by
 have hx:∃ zs,∃ A' c',Value.slice A ys.length c = .slice A' (List.length zs) c'∧WAt w A' c' zs:=⟨ys,A,c,rfl,h⟩
 unfold vmeas
 rw [dif_pos hx]
 obtain ⟨A',c',he,hw⟩:=hx.choose_spec
 generalize hx.choose=zs at he hw ⊢
 injection he with e1 e2 e3
 subst e1
 rw [h.uniq hw e2]
structure GSt (w wr:World) (x y:Int) (A:Option Addr) (c:Nat) (us:List Int) (A':Option Addr) (c':Nat) (vs:List Int):Prop where
 wu:WAt wr A c us
 wv:WAt wr A' c' vs
 du:Wd us
 dv:Wd vs
 tu:us.getLast? ≠ some 0
 tv:vs.getLast? ≠ some 0
 lu:us.length≤34359738368
 lv:vs.length≤34359738368
 below:Below w.heap.size w wr
 gcd:Int.gcd (val us) (val vs)=Int.gcd x y
theorem gcd_turn {u v q r:Int} (h:u=v*q+r) (h0:0≤r) (h1:r<v) (hu:0≤u):Int.gcd v r=Int.gcd u v:=by
 have e:=(quot_pos h h0 h1).2
 obtain ⟨U,rfl⟩:=Int.eq_ofNat_of_zero_le hu
 obtain ⟨V,rfl⟩:=Int.eq_ofNat_of_zero_le (show 0≤v by omega)
 rw [←e]
 show Nat.gcd V (U%V)=Nat.gcd U V
 rw [Nat.gcd_comm U V,Nat.gcd_rec V U,Nat.gcd_comm]
theorem GSt.step {w wr:World} {x y:Int} {A A':Option Addr} {c c':Nat} {us vs:List Int} (h:GSt w wr x y A c us A' c' vs) (hv:0<vs.length) :
  Calls Tryz.prog 229 #[.slice A us.length c,.slice A' vs.length c'] wr fun e w'=>∃ (A1:Option Addr) (c1:Nat) (qs:List Int) (A2:Option Addr) (c2:Nat) (rs:List Int),e = .returned (.tuple #[.slice A1 (List.length qs) c1,.slice A2 (List.length rs) c2])∧Hid (GSt w w' x y A' c' vs A2 c2 rs)∧Hid (vmeas (.slice A2 rs.length c2) w'<vmeas (.slice A' vs.length c') wr):=by
 refine (divide_calls A c us A' c' vs wr h.wu h.wv h.du h.dv h.tu h.tv (by intro e; rw [e] at hv; simp at hv) h.lu).mono fun e w' ⟨A1,c1,qs,A2,c2,rs,he,q⟩=>⟨A1,c1,qs,A2,c2,rs,he,?_,?_⟩
 ·have hl:=len_le_of_val h.dv q.dr q.tr (Int.le_of_lt q.lt)
  have:=h.lv
  exact ⟨h.wv.below q.below,q.wr,h.dv,q.dr,h.tv,q.tr,h.lv,by omega,bthen h.below q.below,(gcd_turn q.eq (val_nonneg q.dr) q.lt (val_nonneg h.du)).trans h.gcd⟩
 ·show vmeas _ _<vmeas _ _
  rw [vmeas_eq q.wr,vmeas_eq h.wv]
  have:=q.lt
  have:=val_nonneg q.dr
  omega
theorem gcd_calls (b o b1 o1 b2 o2:Nat) (u v:Value) (x y:Int) (w:World) (hz:Slot w b o) (hx:IntAt w b1 o1 x) (hy:IntAt w b2 o2 y) (hx0:0≤x) (hy0:0≤y) {n:Nat} (hs:Bd n x) (ht:Bd n y) (hn:n≤big) :
  Calls Tryz.prog 184 #[.pointer (some ⟨b,o,none⟩),u,v,.pointer (some ⟨b1,o1,none⟩),.pointer (some ⟨b2,o2,none⟩)] w fun e w'=>e = .returned (.pointer (some ⟨b,o,none⟩))∧IntAt w' b o (Int.gcd x y)∧Upd w w' b o (o+2):=by
 obtain ⟨neg,A,c,xs,h1,h2,h3,h4⟩:=hx.out
 obtain ⟨neg',A',c',ys,k1,k2,k3,k4⟩:=hy.out
 have hl1:xs.length≤34359738368:=h4.small hs hn
 have hl2:ys.length≤34359738368:=k4.small ht hn
 have hlt1:=hx.lt
 have hlt2:=hy.lt
 clear hs ht
 go_enter Tryz.func184,Tryz.ntmps184
 go_wp2_with fail
 go_quiet (fail)
 generalize hq:w.drewN _=w1
 have hb1:Below w.heap.size w w1:=by subst hq; exact below_drewN' _ _
 have hG:GSt w w1 x y A c xs A' c' ys:=⟨h3.below hb1,k3.below hb1,h4.wd,k4.wd,h4.top,k4.top,hl1,hl2,hb1,by rw [h4.val_eq,k4.val_eq]; rfl⟩
 have HG0:=Lib.hid hG
 clear hG hq
 go_wp2
 go_loopw [11,12] (fun vx vy wr=>∃ (Ax Ay:Option Addr) (cx cy:Nat) (us vs:List Int),vx = .slice Ax us.length cx∧vy = .slice Ay vs.length cy∧Hid (GSt w wr x y Ax cx us Ay cy vs)) (fun _ vy wr=>vmeas vy wr)
 case atStart=>exact ⟨A,A',c,c',xs,ys,rfl,rfl,HG0⟩
 case round =>
  obtain ⟨Ax,Ay,cx,cy,us,vs,rfl,rfl,HG⟩:=hrel
  by_cases hv:0<vs.length
  ·have hvI:(0:Int)<(vs.length:Int):=by omega
   go_wp2_with fail
   with_reducible refine (HG.out.step hv).mono ?_
   rintro e w5 ⟨A1,c1,qs,A2,c2,rs,rfl,HG2,HM⟩
   go_wp2
   go_roundw
   case rel=>exact ⟨Ay,A2,cy,c2,vs,rs,rfl,rfl,HG2⟩
   case measure=>exact HM.out
  ·have hnil:vs = []:=by apply List.length_eq_zero_iff.1; omega
   have hg:=HG.out.gcd
   rw [hnil] at hg
   have HGG:=Lib.hid (show sg false (val us)=(Int.gcd x y:Int) by
    have h0:=val_nonneg HG.out.du
    rw [←hg]
    show val us=((Int.gcd (val us) (val [])):Int)
    rw [show val []=0 from rfl,Int.gcd_zero_right]
    omega)
   clear hnil hg
   go_wp2_with fail
   with_reducible refine (clone_calls Ax cx us _ HG.out.wu (by have:=HG.out.lu; omega)).mono ?_
   rintro e w5 ⟨A3,c3,rfl,hw5,hb5⟩
   go_wp2_with fail
   refine (put_calls b o false A3 c3 us _ (hz.upd (Upd.of_below (bthen HG.out.below hb5) 0 0 0)) hw5 HG.out.du).mono ?_
   rintro e w6 ⟨rfl,hx6,hu6⟩
   rw [HGG.out] at hx6
   go_wp2
   go_ret
   exact ⟨rfl,hx6,(Upd.of_below (bthen HG.out.below hb5) _ _ _).trans hu6⟩
end Go.Proofs.YtglaeambknhjlaaGreatDoor.P
end
section
namespace Go.Proofs.YtglaeambknhjlaaGreatDoor.P
open Go.RowKit Go.Proofs.YtglaeambknhjlaaGreatDoorW.PrintWords
def bl (n:Nat):Nat:=if n=0 then 0 else Nat.log2 n+1
theorem bl_eq {n k:Nat} (hk:1≤k) (h1:2^(k-1)≤n) (h2:n<2^k):bl n=k:=by
 have hn:n≠0:=by have:=Nat.pow_pos (n:=k-1) (show 0<2 by decide); omega
 unfold bl
 rw [if_neg hn]
 have e1:=(Nat.log2_lt hn).2 h2
 have e2:=(Nat.le_log2 hn).2 h1
 omega
theorem bl_words (ws:List Int) (hd:Wd ws) (ht:ws.getLast? ≠ some 0) (hn:0<ws.length) (y:Int) (hy:rd ws ((ws.length-1:Nat):Int)=y):0≤y∧y<4294967296∧32*((ws.length:Int)-1)+(Lib.bitLen y.toNat:Int)=(bl (val ws).toNat:Int)∧Lib.bitLen y.toNat≤32:=by
 obtain ⟨m,hm⟩:∃ m,ws.length=m+1:=⟨ws.length-1,by omega⟩
 rw [hm] at hy ⊢
 simp only [Nat.add_sub_cancel] at hy
 have e1:=val_take_succ (xs:=ws) (i:=m) (by omega)
 rw [List.take_of_length_le (by omega),hy] at e1
 have hb:=hd.rd (m:Int)
 rw [hy] at hb
 have b1:=val_lt (hd.take m)
 rw [List.length_take,Nat.min_eq_left (by omega)] at b1
 have b0:=val_nonneg (hd.take m)
 have hy0:y≠0:=by
  intro h
  apply ht
  rw [List.getLast?_eq_getElem?,List.getElem?_eq_getElem (by omega)]
  rw [←hy,rd_lt (by omega)] at h
  simp only [hm,Nat.add_sub_cancel]
  rw [h]
 obtain ⟨Y,rfl⟩:=Int.eq_ofNat_of_zero_le hb.1
 obtain ⟨T,hT⟩:=Int.eq_ofNat_of_zero_le b0
 rw [Int.toNat_natCast]
 obtain ⟨h2,h3⟩:=bitLenAux_spec 64 Y (by omega)
 obtain ⟨h4,h5⟩:=h3 (by omega)
 change Y<2^Lib.bitLen Y at h2
 change 2^(Lib.bitLen Y-1)≤Y at h4
 change 1≤Lib.bitLen Y at h5
 generalize Lib.bitLen Y=k at *
 have hk:k≤32:=by
  apply Classical.byContradiction
  intro hk
  have:2^32≤2^(k-1):=Nat.pow_le_pow_right (by decide) (by omega)
  omega
 rw [hT] at e1 b1
 have ev:val ws=((T+2^(32*m)*Y:Nat):Int):=by
  rw [e1,Int.natCast_add,Int.natCast_mul,Int.natCast_pow,show (4294967296:Int)^m=((2:Nat):Int)^(32*m) by rw [Int.pow_mul]; rfl]
 have bT:T<2^(32*m):=by
  rw [show (4294967296:Int)^m=((2^(32*m):Nat):Int) by rw [Int.natCast_pow,Int.pow_mul]; rfl] at b1
  exact Int.ofNat_lt.1 b1
 have hbl:bl (T+2^(32*m)*Y)=32*m+k:=by
  refine bl_eq (by omega) ?_ ?_
  ·rw [show 32*m+k-1=32*m+(k-1) by omega,Nat.pow_add]
   have:=Nat.mul_le_mul_left (2^(32*m)) h4
   omega
  ·rw [Nat.pow_add]
   have:=Nat.mul_le_mul_left (2^(32*m)) (show Y+1≤2^k by omega)
   rw [Nat.mul_add] at this
   omega
 refine ⟨hb.1,hb.2,?_,hk⟩
 rw [ev,Int.toNat_natCast,hbl]
 omega
theorem bitLen_calls (b o:Nat) (x:Int) (w:World) (hx:IntAt w b o x) {n:Nat} (hs:Bd n x) (hn:n≤big) :
  Calls Tryz.prog 156 #[.pointer (some ⟨b,o,none⟩)] w fun e w'=>e = .returned (.int .i64 (bl x.natAbs))∧Hid (∃ nd,w'=w.drewN nd):=by
 obtain ⟨neg,A,c,ws,h1,h2,h3,h4⟩:=hx.out
 have hl1:ws.length≤34359738368:=h4.small hs hn
 have hlt1:=hx.lt
 have hv:=h4.val_eq
 clear hs
 by_cases h0:0<ws.length
 ·obtain ⟨ad,rfl⟩:=h3.ptr h0
  have hcy:=h3.cell (j:=ws.length-1) (by omega)
  rw [getD_rd] at hcy
  obtain ⟨hy0,hy1,hy2,hy3⟩:=bl_words ws h4.wd h4.top h0 _ rfl
  rw [hv,Int.toNat_natCast] at hy2
  generalize rd ws ((ws.length-1:Nat):Int)=y at *
  have HY:=Lib.hid hy2
  clear hy2 hv
  clear h3 h4
  generalize ws.length=L at *
  have hne:((L:Int) == 0)=false:=beq_eq_false_iff_ne.2 (by omega)
  go_enter Tryz.func156,Tryz.ntmps156
  go_wp2_with fail
  have q1:IntKind.i64.wrap ((L:Int)-1)=(L:Int)-1:=IntWalk.i64_in _ (by omega)
  have q2:IntKind.i64.wrap (32*((L:Int)-1))=32*((L:Int)-1):=IntWalk.i64_in _ (by omega)
  have q3:0≤(L:Int)-1:=by omega
  have q4:(L:Int)-1<(L:Int):=by omega
  have q5:((L:Int)-1).toNat=L-1:=by omega
  have q6:IntKind.i64.wrap (32*((L:Int)-1)+(Lib.bitLen y.toNat:Int))=32*((L:Int)-1)+(Lib.bitLen y.toNat:Int):=IntWalk.i64_in _ (by omega)
  go_quiet ((go_at_call 215; exact Calls.quiet_of_same (Tryz.bits_Len32 y _ hy0 (by omega))))
  clear q1 q2 q3 q4 q5 q6
  go_wp2
  go_ret
  exact ⟨congrArg (fun v=>Ending.returned (.int .i64 v)) HY.out,⟨_,rfl⟩⟩
 ·have hnil:ws = []:=by apply List.length_eq_zero_iff.1; omega
  subst hnil
  have hx0:x=0:=h4.nil_iff.1 rfl
  subst hx0
  clear hv
  go_enter Tryz.func156,Tryz.ntmps156
  go_wp2
  go_ret
  exact ⟨rfl,⟨0,rfl⟩⟩
theorem bit_words (ws:List Int) (hd:Wd ws) (j t:Nat) (ht:t<32) (hj:j<ws.length):(val ws).toNat/2^(32*j+t)%2=((rd ws (j:Int))/2^t%2).toNat:=by
 have e1:=val_split ws j (by omega)
 rw [drop_rd hj] at e1
 have e2:val (rd ws (j:Int) :: ws.drop (j+1))=rd ws (j:Int)+4294967296*val (ws.drop (j+1)):=rfl
 rw [e2] at e1
 have b0:=val_nonneg (hd.take j)
 have b1:=val_lt (hd.take j)
 rw [List.length_take,Nat.min_eq_left (by omega)] at b1
 have b2:=val_nonneg (hd.drop (j+1))
 have b3:=(hd.rd (j:Int)).1
 generalize rd ws (j:Int)=y at *
 generalize val (ws.drop (j+1))=r at *
 generalize val (ws.take j)=T at *
 obtain ⟨Y,rfl⟩:=Int.eq_ofNat_of_zero_le b3
 obtain ⟨R,rfl⟩:=Int.eq_ofNat_of_zero_le b2
 obtain ⟨T,rfl⟩:=Int.eq_ofNat_of_zero_le b0
 have hp:(4294967296:Int)^j=((2^(32*j):Nat):Int):=by rw [Int.natCast_pow,Int.pow_mul]; rfl
 rw [hp] at e1 b1
 have b4:T<2^(32*j):=Int.ofNat_lt.1 b1
 have ev:val ws=((T+2^(32*j)*(Y+4294967296*R):Nat):Int):=by
  rw [e1,Int.natCast_add,Int.natCast_mul,Int.natCast_add,Int.natCast_mul]; rfl
 rw [ev,Int.toNat_natCast,Nat.pow_add,←Nat.div_div_eq_div_mul,Nat.add_mul_div_left _ _ (Nat.pow_pos (by decide)),Nat.div_eq_of_lt b4,Nat.zero_add]
 have e5:4294967296*R=2^t*(2*(2^(31-t)*R)):=by
  rw [←Nat.mul_assoc,←Nat.mul_assoc,←Nat.pow_succ,←Nat.pow_add,show t+1+(31-t)=32 by omega]
 rw [e5,Nat.add_mul_div_left _ _ (Nat.pow_pos (by decide)),Nat.add_mul_mod_self_left]
 rw [show (2:Int)^t=((2^t:Nat):Int) by rw [Int.natCast_pow]; rfl,←Int.natCast_ediv]
 omega
theorem bit_high (ws:List Int) (hd:Wd ws) (j t:Nat) (hj:ws.length≤j):(val ws).toNat/2^(32*j+t)%2=0:=by
 have b1:=val_lt hd
 have b0:=val_nonneg hd
 obtain ⟨V,hV⟩:=Int.eq_ofNat_of_zero_le b0
 rw [hV] at b1 ⊢
 rw [show (4294967296:Int)^ws.length=((2^(32*ws.length):Nat):Int) by rw [Int.natCast_pow,Int.pow_mul]; rfl] at b1
 have b2:V<2^(32*ws.length):=Int.ofNat_lt.1 b1
 have b3:2^(32*ws.length)≤2^(32*j+t):=Nat.pow_le_pow_right (by decide) (by omega)
 rw [Int.toNat_natCast,Nat.div_eq_of_lt (by omega)]
theorem shr32_eq (x:Int) (n:Nat) (hn:n≤31):shr .u32 x (n:Int)=x/2^n:=by
 unfold shr
 rw [Int.toNat_natCast,Nat.min_eq_left (by show n≤32; omega)]
theorem and_one (x:Int) (h0:0≤x) (h1:x<18446744073709551616):Go.bits .and .u64 x 1=x%2:=by
 obtain ⟨X,rfl⟩:=Int.eq_ofNat_of_zero_le h0
 rw [show (1:Int)=((1:Nat):Int) from rfl,bits_and_u64_nat _ _ (by omega) (by decide)]
 rw [Nat.and_one_is_mod]; omega
theorem bit_calls (b o:Nat) (x:Int) (i:Nat) (w:World) (hx:IntAt w b o x) (hi:i≤1099511627776) {n:Nat} (hs:Bd n x) (hn:n≤big) :
  Calls Tryz.prog 216 #[.pointer (some ⟨b,o,none⟩),.int .i64 i] w fun e w'=>e = .returned (.int .u64 ((x.natAbs/2^i%2:Nat):Int))∧Hid (∃ nd,w'=w.drewN nd):=by
 obtain ⟨neg,A,c,ws,h1,h2,h3,h4⟩:=hx.out
 have hl1:ws.length≤34359738368:=h4.small hs hn
 have hlt1:=hx.lt
 have hv:=h4.val_eq
 have hv2:(val ws).toNat=x.natAbs:=by omega
 clear hs hv
 obtain ⟨j,t,ht,hjt⟩:∃ j t:Nat,t<32∧i=32*j+t:=⟨i/32,i%32,by omega,by omega⟩
 have hd1:Int.tdiv (i:Int) 32=(j:Int):=by rw [Int.tdiv_eq_ediv_of_nonneg (by omega)]; omega
 have hd2:Int.tmod (i:Int) 32=(t:Int):=by rw [Int.tmod_eq_emod_of_nonneg (by omega)]; omega
 have hd3:IntKind.i64.wrap (j:Int)=(j:Int):=IntWalk.i64_in _ (by omega)
 have hd4:IntKind.i64.wrap (t:Int)=(t:Int):=IntWalk.i64_in _ (by omega)
 by_cases h0:j<ws.length
 ·obtain ⟨ad,rfl⟩:=h3.ptr (by omega)
  have hcy:=h3.cell (j:=j) h0
  rw [getD_rd] at hcy
  have hb:=bit_words ws h4.wd j t ht h0
  have hby:=h4.wd.rd (j:Int)
  rw [hv2,←hjt] at hb
  generalize rd ws (j:Int)=y at *
  have h2p:(0:Int)<2^t:=Int.pow_pos (by decide)
  have hy1:0≤y/2^t:=Int.ediv_nonneg hby.1 (Int.le_of_lt h2p)
  have hy2:y/2^t≤y:=Int.ediv_le_self _ hby.1
  have hfin:Go.bits .and .u64 (IntKind.u64.wrap (y/2^t)) 1=((x.natAbs/2^i%2:Nat):Int):=by
   rw [u64w hy1 (by omega),and_one _ hy1 (by omega),hb,Int.toNat_of_nonneg (by omega)]
  have HF:=Lib.hid hfin
  have hge:¬ (ws.length:Int)≤(j:Int):=by omega
  have hs1:=shr32_eq y t (by omega)
  clear hb hv2 hjt hfin hy1 hy2 h2p
  clear h3 h4
  generalize ws.length=L at *
  go_enter Tryz.func216,Tryz.ntmps216
  go_wp2
  go_ret
  exact ⟨congrArg (fun v=>Ending.returned (.int .u64 v)) HF.out,⟨0,rfl⟩⟩
 ·have hb:=bit_high ws h4.wd j t (by omega)
  rw [hv2,←hjt] at hb
  have hge:(ws.length:Int)≤(j:Int):=by omega
  have HB:=Lib.hid hb
  clear hb hv2 hjt h3 h4
  generalize ws.length=L at *
  rw [HB.out]
  go_enter Tryz.func216,Tryz.ntmps216
  go_wp2
  go_ret
  exact ⟨rfl,⟨0,rfl⟩⟩
theorem Bd.mono {n m:Nat} {x:Int} (h:Bd n x) (hm:n≤m):Bd m x:=Nat.lt_of_lt_of_le h (Nat.pow_le_pow_right (by decide) hm)
theorem Bd.pow {n:Nat} {x:Int} (h:Bd n x) (hn:0<n) (k:Nat):Bd (n*k+1) (x^k):=by
 unfold Bd at *
 rw [Int.natAbs_pow]
 have h1:x.natAbs^k≤(2^n)^k:=Nat.pow_le_pow_left (by omega) k
 rw [←Nat.pow_mul] at h1
 have h2:2^(n*k)<2^(n*k+1):=Nat.pow_lt_pow_right (by decide) (by omega)
 omega
theorem bl_spec (Y:Nat):Y<2^bl Y∧∀ i,i<bl Y→2^i≤Y∧i<Y:=by
 unfold bl
 split
 ·rename_i h; subst h; exact ⟨by decide,fun i hi=>by omega⟩
 ·rename_i h
  refine ⟨(Nat.log2_lt h).1 (by omega),fun i hi => ?_⟩
  have h1:2^i≤Y:=(Nat.le_log2 h).1 (by omega)
  have h2:i<2^i:=Nat.lt_two_pow_self
  exact ⟨h1,by omega⟩
theorem mod_bit (Y i:Nat):Y%2^(i+1)=Y%2^i+2^i*(Y/2^i%2):=by rw [Nat.pow_succ,Nat.mod_mul]
structure ESt (w wr:World) (g1 g2 b2 o2:Nat) (x:Int) (Y i j:Nat):Prop where
 o:IntAt wr g1 0 (x^(Y%2^i))
 s:IntAt wr g2 0 (x^(2^j))
 y:IntAt wr b2 o2 Y
 below:Below w.heap.size w wr
theorem ESt.drewN {w wr:World} {g1 g2 b2 o2:Nat} {x:Int} {Y i j:Nat} (h:ESt w wr g1 g2 b2 o2 x Y i j) (nd:Nat):ESt w (wr.drewN nd) g1 g2 b2 o2 x Y i j:=
 ⟨h.o.below (below_drewN' _ _),h.s.below (below_drewN' _ _),h.y.below (below_drewN' _ _),bthen h.below (below_drewN' _ _)⟩
theorem ESt.bds {n Y i:Nat} {x:Int} (hs:Bd n x) (hn0:0<n) (hi:i<bl Y):Bd (n*Y+1) (x^(Y%2^i))∧Bd (n*Y+1) (x^(2^i)):=by
 obtain ⟨h1,h2⟩:=(bl_spec Y).2 i hi
 have h3:n*(Y%2^i)≤n*Y:=Nat.mul_le_mul_left n (Nat.mod_le _ _)
 have h4:n*2^i≤n*Y:=Nat.mul_le_mul_left n h1
 exact ⟨(hs.pow hn0 _).mono (by omega),(hs.pow hn0 _).mono (by omega)⟩
theorem ESt.mul {w wr:World} {g1 g2 b2 o2:Nat} {x:Int} {Y i n:Nat} (h:ESt w wr g1 g2 b2 o2 x Y i i) (h12:g1≠g2) (h1b:w.heap.size≤g1) (h2b:b2<w.heap.size) (hs:Bd n x) (hn0:0<n) (hn:n*Y+n≤big) (hi:i<bl Y) (hb:Y/2^i%2=1) :
  Calls Tryz.prog 200 #[.pointer (some ⟨g1,0,none⟩),.pointer (some ⟨g1,0,none⟩),.pointer (some ⟨g2,0,none⟩)] wr fun e w'=>e = .returned (.pointer (some ⟨g1,0,none⟩))∧ESt w w' g1 g2 b2 o2 x Y (i+1) i:=by
 obtain ⟨B1,B2⟩:=ESt.bds hs hn0 hi
 refine (mul_calls g1 0 g1 0 g2 0 _ _ wr h.o.slot h.o h.s B1 B2 (by omega)).mono fun e w' ⟨he,ho,hu⟩=>⟨he,?_,h.s.upd hu (Or.inl h12.symm),h.y.upd hu (Or.inl (by omega)),hu.below_tmp h.below h1b⟩
 rw [mod_bit,hb,Nat.mul_one,Int.pow_add]; exact ho
theorem ESt.keep {w wr:World} {g1 g2 b2 o2:Nat} {x:Int} {Y i j:Nat} (h:ESt w wr g1 g2 b2 o2 x Y i j) (hb:¬ Y/2^i%2=1):ESt w wr g1 g2 b2 o2 x Y (i+1) j:=
 ⟨by rw [mod_bit,show Y/2^i%2=0 by omega,Nat.mul_zero,Nat.add_zero]; exact h.o,h.s,h.y,h.below⟩
theorem ESt.sq {w wr:World} {g1 g2 b2 o2:Nat} {x:Int} {Y i k n:Nat} (h:ESt w wr g1 g2 b2 o2 x Y k i) (h12:g1≠g2) (h1b:w.heap.size≤g2) (h2b:b2<w.heap.size) (hs:Bd n x) (hn0:0<n) (hn:n*Y+n≤big) (hi:i<bl Y) :
  Calls Tryz.prog 200 #[.pointer (some ⟨g2,0,none⟩),.pointer (some ⟨g2,0,none⟩),.pointer (some ⟨g2,0,none⟩)] wr fun e w'=>e = .returned (.pointer (some ⟨g2,0,none⟩))∧ESt w w' g1 g2 b2 o2 x Y k (i+1):=by
 obtain ⟨B1,B2⟩:=ESt.bds hs hn0 hi
 refine (mul_calls g2 0 g2 0 g2 0 _ _ wr h.s.slot h.s h.s B2 B2 (by omega)).mono fun e w' ⟨he,ho,hu⟩=>⟨he,h.o.upd hu (Or.inl h12),?_,h.y.upd hu (Or.inl (by omega)),hu.below_tmp h.below h1b⟩
 rw [Nat.pow_succ,Int.pow_mul,Int.pow_succ,Int.pow_succ,Int.pow_zero,Int.one_mul]; exact ho
theorem exp_calls (b o b1 o1 b2 o2:Nat) (u:Value) (x:Int) (Y:Nat) (w:World) (hz:Slot w b o) (hx:IntAt w b1 o1 x) (hy:IntAt w b2 o2 Y) {n:Nat} (hs:Bd n x) (hn0:0<n) (hn:n*Y+n≤big) :
  Calls Tryz.prog 159 #[.pointer (some ⟨b,o,none⟩),.pointer (some ⟨b1,o1,none⟩),.pointer (some ⟨b2,o2,none⟩),u] w fun e w'=>e = .returned (.pointer (some ⟨b,o,none⟩))∧IntAt w' b o (x^Y)∧Upd w w' b o (o+2):=by
 have hlt1:=hx.lt
 have hlt2:=hy.lt
 have hlt:=hz.lt
 have hu105:=Tryz.underlying105
 go_enter Tryz.func159,Tryz.ntmps159
 go_wp2_with fail
 refine (newInt_calls 1 _ (by decide) (by decide)).mono ?_
 rintro e w1 ⟨rfl,hx1,hb1⟩
 have hnew:=IntAt.new w1 105 (by decide)
 have hba:=below_alloc (Below.refl w1.heap.size w1) (.cells #[.bool false,.slice none 0 0] 105)
 have hsz:=hb1.size
 go_wp2_with fail
 refine (set_calls w1.heap.size 0 b1 o1 x _ hnew.slot (hx.below (bthen hb1 hba)) (Or.inl (by omega)) hs (by omega)).mono ?_
 rintro e w2 ⟨rfl,hx2,hu2⟩
 have hE:ESt w w2 w.heap.size w1.heap.size b2 o2 x Y 0 0:=⟨by rw [show Y%2^0=0 by rw [Nat.pow_zero,Nat.mod_one],Int.pow_zero]; exact (hx1.below hba).upd hu2 (Or.inl (by have:=hx1.lt; omega)),by rw [Nat.pow_zero,Int.pow_succ,Int.pow_zero,Int.one_mul]; exact hx2,((hy.below hb1).below hba).upd hu2 (Or.inl (by omega)),hu2.below_tmp (bthen hb1 hba) hsz⟩
 have h12:w.heap.size≠w1.heap.size:=by have:=hx1.lt; omega
 generalize hg1:w.heap.size=g1 at *
 generalize hg2:w1.heap.size=g2 at *
 have hYb:Bd Y (Y:Int):=by unfold Bd; rw [Int.natAbs_natCast]; exact Nat.lt_two_pow_self
 have hYn:Y≤big:=by have:=Nat.mul_le_mul_right Y hn0; omega
 have HE:=Lib.hid hE
 go_wp2_with fail
 refine (bitLen_calls b2 o2 (Y:Int) _ HE.out.y hYb hYn).mono ?_
 rintro e w3 ⟨rfl,⟨nd,hw3⟩⟩
 rw [Int.natAbs_natCast]
 have hE3:ESt w w3 g1 g2 b2 o2 x Y 0 0:=by subst hw3; exact hE.drewN nd
 have HE3:=Lib.hid hE3
 clear hE HE hE3 hw3
 have hbl:bl Y≤1099511627777:=by
  apply Classical.byContradiction
  intro h
  have:=((bl_spec Y).2 (bl Y-1) (by omega)).2
  unfold big at hYn
  omega
 have hsz2:w.heap.size≤g1:=by omega
 have hsz3:w.heap.size≤g2:=by omega
 have HBIG:=Lib.hid (show Y≤1099511627776 from hYn)
 have HN:=Lib.hid hn
 have HYN:=Lib.hid hYn
 clear hn hYn
 go_wp2
 go_loopw [18] (fun vi wr=>∃ i:Nat,i≤bl Y∧vi = .int .i64 i∧Hid (ESt w wr g1 g2 b2 o2 x Y i (min i (bl Y-1)))) (fun vi _=>bl Y-(intOf vi).toNat)
 case atStart=>exact ⟨0,by omega,by go_num,by rw [Nat.min_eq_left (by omega)]; exact HE3⟩
 case round =>
  obtain ⟨i,hi,rfl,HR⟩:=hrel
  by_cases hil:i<bl Y
  ·have hib:i≤1099511627776:=by omega
   rw [Nat.min_eq_left (by omega)] at HR
   go_wp2_with fail
   refine (bit_calls b2 o2 (Y:Int) i _ HR.out.y hib hYb HYN.out).mono ?_
   rintro e w4 ⟨rfl,⟨nd4,hw4⟩⟩
   rw [Int.natAbs_natCast]
   have HR4:=Lib.hid (show ESt w w4 g1 g2 b2 o2 x Y i i by subst hw4; exact HR.out.drewN nd4)
   clear hw4
   by_cases hbit:Y/2^i%2=1
   ·rw [hbit]
    go_wp2_with fail
    refine (HR4.out.mul h12 hsz2 (by omega) hs hn0 HN.out hil hbit).mono ?_
    rintro e w5 ⟨rfl,hE5⟩
    have HE5:=Lib.hid hE5
    clear hE5
    go_wp2_with fail
    refine (bitLen_calls b2 o2 (Y:Int) _ HE5.out.y hYb HYN.out).mono ?_
    rintro e w6 ⟨rfl,⟨nd6,hw6⟩⟩
    rw [Int.natAbs_natCast]
    have HE6:=Lib.hid (show ESt w w6 g1 g2 b2 o2 x Y (i+1) i by subst hw6; exact HE5.out.drewN nd6)
    clear hw6
    by_cases hnx:i+1<bl Y
    ·go_wp2_with fail
     refine (HE6.out.sq h12 hsz3 (by omega) hs hn0 HN.out hil).mono ?_
     rintro e w7 ⟨rfl,hE7⟩
     have HE7:=Lib.hid hE7
     clear hE7
     go_wp2
     go_roundw
     case rel=>exact ⟨i+1,by omega,by go_num,by rw [Nat.min_eq_left (by omega)]; exact HE7⟩
     case measure=>simp [intOf]; omega
    ·go_wp2
     go_roundw
     case rel=>exact ⟨i+1,by omega,by go_num,by rw [Nat.min_eq_right (by omega),show bl Y-1=i by omega]; exact HE6⟩
     case measure=>simp [intOf]; omega
   ·have hbv:Y/2^i%2=0:=by omega
    rw [hbv]
    have HE5:=Lib.hid (HR4.out.keep hbit)
    go_wp2_with fail
    refine (bitLen_calls b2 o2 (Y:Int) _ HE5.out.y hYb HYN.out).mono ?_
    rintro e w6 ⟨rfl,⟨nd6,hw6⟩⟩
    rw [Int.natAbs_natCast]
    have HE6:=Lib.hid (show ESt w w6 g1 g2 b2 o2 x Y (i+1) i by subst hw6; exact HE5.out.drewN nd6)
    clear hw6
    by_cases hnx:i+1<bl Y
    ·go_wp2_with fail
     refine (HE6.out.sq h12 hsz3 (by omega) hs hn0 HN.out hil).mono ?_
     rintro e w7 ⟨rfl,hE7⟩
     have HE7:=Lib.hid hE7
     clear hE7
     go_wp2
     go_roundw
     case rel=>exact ⟨i+1,by omega,by go_num,by rw [Nat.min_eq_left (by omega)]; exact HE7⟩
     case measure=>simp [intOf]; omega
    ·go_wp2
     go_roundw
     case rel=>exact ⟨i+1,by omega,by go_num,by rw [Nat.min_eq_right (by omega),show bl Y-1=i by omega]; exact HE6⟩
     case measure=>simp [intOf]; omega
  ·have hi':i=bl Y:=by omega
   subst hi'
   have hfin:x^(Y%2^bl Y)=x^Y:=by rw [Nat.mod_eq_of_lt (bl_spec Y).1]
   have ho:=HR.out.o
   rw [hfin] at ho
   have HO:=Lib.hid ho
   have hPb:Bd (n*Y+1) (x^Y):=hs.pow hn0 Y
   have hPn:n*Y+1≤big:=by have:=HN.out; omega
   clear hfin ho
   go_wp2_with fail
   refine (set_calls b o g1 0 (x^Y) _ (hz.upd (Upd.of_below HR.out.below 0 0 0)) HO.out (Or.inl (by omega)) hPb hPn).mono ?_
   rintro e w8 ⟨rfl,hx8,hu8⟩
   go_wp2
   go_ret
   exact ⟨rfl,hx8,(Upd.of_below HR.out.below _ _ _).trans hu8⟩
theorem more_step {u z P cc t a y:Int} (h:u+P*cc=z*t+a):u+P*((cc+y*t)%4294967296)+P*4294967296*((cc+y*t)/4294967296)=(z+P*y)*t+a:=by
 have e:=Int.emod_add_mul_ediv (cc+y*t) 4294967296
 generalize (cc+y*t)%4294967296=r at *
 generalize (cc+y*t)/4294967296=q at *
 have e2:P*r+P*4294967296*q=P*(cc+y*t):=by rw [←e]; grind
 have e3:(z+P*y)*t+a=z*t+a+P*(y*t):=by grind
 rw [e3,←h,Int.add_assoc,e2]
 grind
theorem more_calls (v:Value) (zs:List Int) (t a:Int) (base:Nat) (w:World) (ho:OwnW w base v zs) (hb:base≤w.heap.size) (hd:Wd zs) (ht:0≤t∧t<4294967296) (ha:0≤a∧a<4294967296) (hl:zs.length≤34359738368) :
  Calls Tryz.prog 219 #[v,.int .u32 t,.int .u32 a] w fun e w'=>∃ (v':Value) (rs:List Int),e = .returned v'∧OwnW w' base v' rs∧Wd rs∧val rs=val zs*t+a∧rs.length≤zs.length+1∧Below base w w':=by
 obtain ⟨A,c,rfl,hw⟩:=ho.wat
 go_enter Tryz.func219,Tryz.ntmps219
 have hwl:zs.length≤9223372036854775807:=hw.lmax
 go_wp2
 go_loopw [7,13] (fun vc vi wr=>∃ (i:Nat) (cc:Int) (us:List Int),i≤zs.length∧vc = .int .u64 cc∧vi = .int .i64 i∧0≤cc∧cc<4294967296∧Hid (us.length=zs.length)∧Wd us∧Hid (OwnW wr base (.slice A zs.length c) us)∧Below base w wr∧Hid (val (us.take i)+4294967296^i*cc=val (zs.take i)*t+a)∧Hid (us.drop i=zs.drop i)) (fun _ vi _=>zs.length-(intOf vi).toNat)
 case atStart=>exact ⟨0,a,zs,by omega,by go_num,by go_num,ha.1,ha.2,Lib.hid rfl,hd,Lib.hid ho,Below.refl _ _,Lib.hid (by simp [val]),Lib.hid rfl⟩
 case round =>
  obtain ⟨i,cc,us,hi,rfl,rfl,hc0,hc1,HL,hud,HO,hB,HV,HD⟩:=hrel
  by_cases hil:i<zs.length
  ·have hrow:wr.ownsRow base 171 1 (.slice A zs.length c) zs.length (nums .u32 us):=by have:=HO.out; unfold OwnW at this; rw [HL.out] at this; exact this
   obtain ⟨g,cap,he,hg0,hg1⟩:=World.ownsRow.form hrow (by omega)
   injection he with e1 _ e3
   subst e1 e3
   obtain ⟨hs1,hs2⟩:=own_at hrow (i:Int) (by omega) (by omega)
   have hst:=own_store hrow (i:Int) ((cc+rd us (i:Int)*t)%4294967296)
   have hy:=hud.rd (i:Int)
   have hul:i<us.length:=by rw [HL.out]; exact hil
   have hvs:=val_set_take hul ((cc+rd us (i:Int)*t)%4294967296)
   have hvz:=val_take_succ (xs:=zs) hil
   have hde:=HD.out
   rw [drop_rd hul,drop_rd hil] at hde
   injection hde with hd1 hd2
   rw [←hd1] at hvz
   rw [Int.toNat_natCast] at hs1 hs2 hst
   have HST:=Lib.hid hst
   have HVS:=Lib.hid hvs
   have HVZ:=Lib.hid hvz
   have HD2:=Lib.hid hd2
   clear hst hvs hvz hd1 hd2 hrow
   generalize rd us (i:Int)=y at *
   have hp:=prod_bd hy ht
   obtain ⟨hp0,hp1⟩:=hp
   obtain ⟨hy0,hy1⟩:=hy
   have hup:=Below.setCell hB hg0 (p:=⟨g,i,none⟩) (.int .u32 ((cc+y*t)%4294967296))
   have fin:Hid (OwnW (wr.setCell ⟨g,i,none⟩ (.int .u32 ((cc+y*t)%4294967296))) base (.slice (some ⟨g,0,none⟩) zs.length c) (us.set i ((cc+y*t)%4294967296)))∧Hid (val ((us.set i ((cc+y*t)%4294967296)).take (i+1))+4294967296^(i+1)*((cc+y*t)/4294967296)=val (zs.take (i+1))*t+a)∧Hid ((us.set i ((cc+y*t)%4294967296)).drop (i+1)=zs.drop (i+1)):=by
    refine ⟨?_,?_,?_⟩
    ·show OwnW _ _ _ _
     unfold OwnW
     rw [List.length_set,HL.out]
     exact HST.out.1
    ·show _=_
     rw [HVS.out,HVZ.out,Int.pow_succ]
     exact more_step HV.out
    ·show _=_
     rw [drop_set_lt (by omega)]
     exact HD2.out
   have hw2:Wd (us.set i ((cc+y*t)%4294967296)):=wd_set hud _ (by omega) (by omega)
   have hl2:Hid ((us.set i ((cc+y*t)%4294967296)).length=zs.length):=(List.length_set ..).trans HL.out
   go_wp2
   go_roundw
   case rel=>exact ⟨i+1,(cc+y*t)/4294967296,_,by omega,by go_num,by go_num,by omega,by omega,hl2,hw2,fin.1,hup,fin.2.1,fin.2.2⟩
   case measure=>simp [intOf]; omega
  ·have hi':i=zs.length:=by omega
   subst hi'
   have hv:=HV.out
   rw [List.take_length,List.take_of_length_le (by rw [HL.out]; omega)] at hv
   have HVV:=Lib.hid hv
   clear hv
   by_cases hz:0<cc
   ·have hlt:=WAt.lit wr [cc] (by simp)
    have HLR:=Lib.hid hlt.reads
    have hbl:=below_alloc (Below.refl wr.heap.size wr) (.cells #[.int .u32 cc] 171)
    have hrow:wr.ownsRow base 171 1 (.slice A zs.length c) us.length (nums .u32 us):=HO.out
    have hrow2:=hrow.alloc (.cells #[.int .u32 cc] 171)
    have HRW:=Lib.hid hrow2
    clear hrow hrow2 hlt
    have hwb:base≤wr.heap.size:=Nat.le_trans hb hB.size
    have hbw:=hB.trans ((below_alloc (Below.refl wr.heap.size wr) (.cells #[.int .u32 cc] 171)).mono hwb)
    have hbs:=hbw.size
    have hll:(us.length+1)*4≤140737488355328:=by rw [HL.out]; omega
    have hsb:base≤(wr.alloc (.cells #[.int .u32 cc] 171)).heap.size:=by omega
    go_wp2_with (at_builtin; refine print_append_row base rfl _ _ 103 171 .u32 4 rfl Tryz.underlying103 infoU32 (by decide) (.slice A zs.length c) us [cc] (some ⟨wr.heap.size,0,none⟩) 1 1 rfl rfl HRW.out HLR.out hbw hsb hll ?_; intro v1 w1 hown hb hg hat)
    have HN:=Lib.hid hown
    clear hown hg hat
    go_wp2
    go_ret
    refine ⟨v1,us ++ [cc],rfl,HN.out,hud.append (Wd.cons hc0 hc1 Wd.nil),?_,?_,hb⟩
    ·rw [val_append,HL.out,←HVV.out]; simp [val]
    ·rw [List.length_append,HL.out]; simp
   ·have hz0:cc=0:=by omega
    subst hz0
    go_wp2
    go_ret
    refine ⟨.slice A zs.length c,rfl,us,HO.out,hud,?_,?_,hB⟩
    ·have:=HVV.out; rw [Int.mul_zero,Int.add_zero] at this; exact this
    ·rw [HL.out]; omega
def dval (l:List UInt8):Nat:=l.foldl (fun a c=>a*10+(c.toNat-48)) 0
def Dig (l:List UInt8):Prop:=∀ c∈l,48≤c.toNat∧c.toNat≤57
theorem ba_loop_length (s:ByteArray):∀ (d i:Nat) (r:List UInt8),d=s.size-i→(ByteArray.toList.loop s i r).length=r.length+d:=by
 intro d
 induction d with
 | zero=>intro i r h; rw [ByteArray.toList.loop,if_neg (by omega)]; simp
 | succ d ih=>intro i r h; rw [ByteArray.toList.loop,if_pos (by omega),ih (i+1) _ (by omega),List.length_cons]; omega
theorem ba_toList_length (s:ByteArray):s.toList.length=s.size:=by
 unfold ByteArray.toList
 rw [ba_loop_length s s.size 0 [] (by omega)]; simp
theorem ba_mem (s:ByteArray) (i:Nat) (h:i<s.size):s[i]'h∈s.data.toList:=by
 show s.data[i]'h∈s.data.toList
 exact Array.mem_toList_iff.2 (Array.getElem_mem h)
structure SSt (w wr:World) (s s':ByteArray) (k:Nat) (v:Value) (zs:List Int):Prop where
 le:k≤s.size
 rest:s'.data.toList=s.data.toList.drop k
 own:OwnW wr w.heap.size v zs
 wd:Wd zs
 len:zs.length≤k
 eq:val zs=dval (s.data.toList.take k)
 below:Below w.heap.size w wr
theorem SSt.size {w wr:World} {s s':ByteArray} {k:Nat} {v:Value} {zs:List Int} (h:SSt w wr s s' k v zs):s'.size+k=s.size:=by
 have h1:s'.size=s'.data.toList.length:=rfl
 have h2:s.size=s.data.toList.length:=rfl
 have h3:=h.le
 rw [h.rest,List.length_drop] at h1
 omega
theorem dval_foldl (l:List UInt8) (a:Nat):l.foldl (fun a c=>a*10+(c.toNat-48)) a=a*10^l.length+dval l:=by
 induction l generalizing a with
 | nil=>simp [dval]
 | cons x xs ih =>
  have e:dval (x :: xs)=(0*10+(x.toNat-48))*10^xs.length+dval xs:=by
   rw [←ih]; rfl
  rw [List.foldl_cons,ih,List.length_cons,Nat.pow_succ,e]
  generalize 10^xs.length=P
  rw [Nat.add_mul,Nat.mul_assoc,Nat.mul_comm 10 P,Nat.zero_mul,Nat.zero_add,Nat.add_assoc]
theorem dval_cons (x:UInt8) (xs:List UInt8):dval (x :: xs)=(x.toNat-48)*10^xs.length+dval xs:=by
 have:=dval_foldl xs (0*10+(x.toNat-48))
 rw [Nat.zero_mul,Nat.zero_add] at this
 rw [←this]; show List.foldl _ _ _=_
 rw [List.foldl_cons,Nat.zero_mul,Nat.zero_add]
theorem dval_append (a b:List UInt8):dval (a++b)=dval a*10^b.length+dval b:=by
 show (a++b).foldl _ 0=_
 rw [List.foldl_append,dval_foldl b]; rfl
theorem dval_lt (l:List UInt8) (h:Dig l):dval l<10^l.length:=by
 induction l with
 | nil=>simp [dval]
 | cons x xs ih =>
  rw [dval_cons,List.length_cons,Nat.pow_succ]
  have h1:=ih (fun c hc=>h c (List.mem_cons_of_mem _ hc))
  have h2:=h x List.mem_cons_self
  have h3:(x.toNat-48)*10^xs.length≤9*10^xs.length:=Nat.mul_le_mul_right _ (by omega)
  omega
theorem Dig.take {l:List UInt8} (h:Dig l) (n:Nat):Dig (l.take n):=fun c hc=>h c (List.mem_of_mem_take hc)
theorem Dig.drop {l:List UInt8} (h:Dig l) (n:Nat):Dig (l.drop n):=fun c hc=>h c (List.mem_of_mem_drop hc)
theorem dval_take_succ (l:List UInt8) (j:Nat) (h:j<l.length):dval (l.take (j+1))=dval (l.take j)*10+(l[j].toNat-48):=by
 rw [List.take_succ_eq_append_getElem h,dval_append]
 simp [dval]
theorem dig_step (s:ByteArray) (hd:Dig s.data.toList) (j:Nat) (h:j<s.size):∃ d:Nat,d≤9∧rd (bytesOf s) (j:Int)=(d:Int)+48∧dval (s.data.toList.take (j+1))=dval (s.data.toList.take j)*10+d:=by
 have hl:j<s.data.toList.length:=by rw [data_length]; exact h
 have h1:=hd _ (List.getElem_mem hl)
 refine ⟨s.data.toList[j].toNat-48,by omega,?_,dval_take_succ _ _ hl⟩
 rw [rd_lt (by rw [bytesOf_length]; exact h)]
 simp only [bytesOf,List.getElem_map]
 omega
theorem ex_data (s:ByteArray) (a b:Nat):(s.extract a b).data.toList=(s.data.toList.drop a).take (b-a):=by
 rw [ByteArray.data_extract,Array.toList_extract]
theorem OwnW.below {w w':World} {base:Nat} {v:Value} {zs:List Int} (h:OwnW w base v zs) (hb:Below w.heap.size w w'):OwnW w' base v zs:=
 World.ownsRow.kept (row:=none) h (World.grownBy.mk hb.os hb.tape hb.output hb.size (fun k hk _=>hb.block k hk)) (Classical.em _)
theorem SSt.step {w wo:World} {s s':ByteArray} {k:Nat} {Aw:Option Addr} {cw:Nat} {zs:List Int} (h:SSt w wo s s' k (.slice Aw zs.length cw) zs) (h1:s.size≤1048576) (n pt tm:Nat) (hn:n≤s'.size) (hn1:1≤n) (hpt:pt=dval ((s'.extract 0 n).data.toList.take n)) (htm:tm=10^n) (hlt:pt<tm) (hle:tm≤1000000000) (W:World) (hb:Below wo.heap.size wo W) :
  Calls Tryz.prog 219 #[.slice Aw zs.length cw,.int .u32 tm,.int .u32 pt] W fun e w'=>∃ (v':Value) (rs:List Int),e = .returned v'∧Hid (SSt w w' s (s'.extract n s'.size) (k+n) v' rs):=by
 have hsz:=h.size
 have hlen:=h.len
 have hle2:=h.le
 have hbb:=bthen h.below hb
 refine (more_calls _ zs tm pt w.heap.size W (h.own.below hb) hbb.size h.wd (by omega) (by omega) (by omega)).mono fun e w' ⟨v',rs,he,ho,hd,hv,hl,hB⟩=>⟨v',rs,he,?_⟩
 have hs'l:s'.data.toList.length=s'.size:=data_length s'
 exact {
  le:=by omega
  rest:=by rw [ex_data,List.take_of_length_le (by rw [List.length_drop]; omega),h.rest,List.drop_drop]
  own:=ho
  wd:=hd
  len:=by omega
  eq:=by
   rw [ex_data,List.drop_zero,Nat.sub_zero,List.take_take,Nat.min_self,h.rest] at hpt
   have hl2:((s.data.toList.drop k).take n).length=n:=by rw [List.length_take,←h.rest,hs'l]; omega
   rw [hv,h.eq,List.take_add,dval_append,hl2,←hpt,←htm]
   simp
  below:=hbb.trans hB }
theorem setString_calls (b o:Nat) (s:ByteArray) (u:Value) (w:World) (hz:Slot w b o) (hd:Dig s.data.toList) (h0:0<s.size) (h1:s.size≤1048576) :
  Calls Tryz.prog 166 #[.pointer (some ⟨b,o,none⟩),.string s,u] w fun e w'=>e = .returned (.tuple #[.pointer (some ⟨b,o,none⟩),.bool true])∧IntAt w' b o (dval s.data.toList)∧Upd w w' b o (o+2):=by
 have hb0:=hd (s[0]'h0) (ba_mem s 0 h0)
 have hb45:(((s[0]'h0).toNat:Int) == 45)=false:=beq_eq_false_iff_ne.2 (by omega)
 have hb43:(((s[0]'h0).toNat:Int) == 43)=false:=beq_eq_false_iff_ne.2 (by omega)
 have hse:s.toList.isEmpty=false:=by
  cases hs:s.toList with
  | nil=>have:=congrArg List.length hs; rw [ba_toList_length] at this; have h9:s.size=0:=this; omega
  | cons x xs=>rfl
 go_enter Tryz.func166,Tryz.ntmps166
 go_wp2
 go_loopw [1,9] (fun vs vw wr=>∃ (k:Nat) (s':ByteArray) (zs:List Int),vs = .string s'∧Hid (SSt w wr s s' k vw zs)) (fun vs _ _=>match vs with|.string s'=>s'.size|_=>0)
 case atStart=>exact ⟨0,s,[],rfl,Lib.hid ⟨by omega,rfl,⟨rfl,Or.inl ⟨rfl,rfl⟩⟩,Wd.nil,by simp,rfl,Below.refl _ _⟩⟩
 case round =>
  obtain ⟨k,s',zs,rfl,HS⟩:=hrel
  rename_i vw
  by_cases hk:0<s'.size
  ·have hsz:s'.size≤1048576:=by have:=HS.out.size; omega
   have q1:IntKind.i64.wrap ((s'.size:Int)-1)=(s'.size:Int)-1:=IntWalk.i64_in _ (by omega)
   obtain ⟨n,hn⟩:∃ n:Nat,n=(s'.size-1)%9+1:=⟨_,rfl⟩
   have q2:Int.tmod ((s'.size:Int)-1) 9=(n:Int)-1:=by rw [Int.tmod_eq_emod_of_nonneg (by omega)]; omega
   have hn1:1≤n:=by omega
   have hn9:n≤9:=by omega
   have hns:n≤s'.size:=by omega
   have hnsI:(n:Int)≤(s'.size:Int):=by omega
   clear hn
   obtain ⟨Aw,cw,rfl,hww⟩:=HS.out.own.wat
   have hP:(s'.extract 0 n).size=n:=by rw [ByteArray.size_extract]; omega
   have kb:=fun W=>print_bytes (P:=Tryz.prog) 9 95 5 Tryz.underlying9 Tryz.underlying95 Tryz.underlying5 (s'.extract 0 n) W
   rw [hP] at kb
   have hpd:Dig (s'.extract 0 n).data.toList:=by rw [ex_data,HS.out.rest]; exact ((hd.drop _).drop _).take _
   have HP:=Lib.hid hP
   clear hP
   have hrd:=bytes_reads wr 5 (s'.extract 0 n) (by have:=HP.out; omega)
   rw [HP.out] at hrd
   have HRD:=Lib.hid hrd
   have HBB:=Lib.hid (bytes_below (Below.refl wr.heap.size wr) (Nat.le_refl _) 5 (s'.extract 0 n))
   clear hrd
   have hSp:Hid (∀ j,j<n→∃ d:Nat,d≤9∧rd (bytesOf (s'.extract 0 n)) (j:Int)=(d:Int)+48∧dval ((s'.extract 0 n).data.toList.take (j+1))=dval ((s'.extract 0 n).data.toList.take j)*10+d):=Lib.hid (fun j hj=>dig_step _ hpd j (by rw [HP.out]; exact hj))
   go_wp2
   generalize hwb:Lib.bytesWorld wr 5 (s'.extract 0 n)=wb at HRD HBB ⊢
   obtain ⟨wo,rfl⟩:∃ wo:World,wo=wr:=⟨_,rfl⟩
   clear hwb kb
   go_loopw [11,12,51] (fun vp vt vi w2=>∃ (j pt tm:Nat),j≤n∧vp = .int .u32 pt∧vt = .int .u32 tm∧vi = .int .i64 j∧Hid (pt=dval ((s'.extract 0 n).data.toList.take j))∧Hid (tm=10^j)∧pt<tm∧tm≤1000000000∧Below wb.heap.size wb w2) (fun _ _ vi _=>n-(intOf vi).toNat)
   case atStart=>exact ⟨0,0,1,by omega,by go_num,by go_num,by go_num,Lib.hid (by simp [dval]),Lib.hid rfl,by omega,by omega,Below.refl _ _⟩
   case round =>
    obtain ⟨j,pt,tm,hj,rfl,rfl,rfl,HPT,HTM,hpt,htm,hB2⟩:=hrel
    by_cases hjn:j<n
    ·obtain ⟨d,hd9,hrdd,hdv⟩:=hSp.out j hjn
     obtain ⟨ad,he,hc⟩:=(HRD.out.below hB2).at_ (j:Int) (by omega) (by omega)
     injection he with he
     subst he
     rw [hrdd,Int.toNat_natCast] at hc
     have HDV:=Lib.hid hdv
     have htm2:tm*10≤1000000000:=by
      rw [HTM.out]
      have:10^j≤10^8:=Nat.pow_le_pow_right (by decide) (by omega)
      omega
     have hc2:=hc
     rw [add_plain] at hc2
     clear hrdd hdv
     have hjI:(j:Int)<(n:Int):=by omega
     go_wp2
     go_roundw
     case rel=>exact ⟨j+1,pt*10+d,tm*10,by omega,by go_num,by go_num,by go_num,Lib.hid (by rw [HDV.out,←HPT.out]),Lib.hid (by rw [Nat.pow_succ,←HTM.out]),by omega,htm2,hB2⟩
     case measure=>simp [intOf]; omega
    ·have hjn':j=n:=by omega
     subst hjn'
     have hjI:¬ (j:Int)<(j:Int):=by omega
     have hBo:Below wo.heap.size wo wr:=bthen HBB.out hB2
     have hst:=HS.out.step h1 j pt tm hns hn1 HPT.out HTM.out hpt htm
     have HST:=Lib.hid hst
     clear hst
     have hsw:s'.size≤9223372036854775807:=by omega
     go_wp2_with fail
     go_region_held3 (fun _=>True) (exact trivial)
      ((first
       | (go_simp; go_at_call 219; with_reducible refine (HST.out _ (bthen hBo (below_drew' _))).mono ?_; rintro e w5 ⟨v',rs,rfl,HS2⟩)))
     go_wp2
     go_roundw
     case rel=>exact ⟨k+j,s'.extract j s'.size,rs,by go_num,HS2⟩
     case measure=>have e1:=HS2.out.size; have e2:=HS.out.size; simp; omega
  ·obtain ⟨Aw,cw,rfl,hww⟩:=HS.out.own.wat
   have hfin:sg false (val zs)=((dval s.data.toList:Nat):Int):=by
    have e1:=HS.out.size
    have e2:=HS.out.eq
    rw [List.take_of_length_le (by rw [data_length]; omega)] at e2
    exact e2
   have HF:=Lib.hid hfin
   clear hfin
   go_wp2_with fail
   refine (put_calls b o false Aw cw zs _ (hz.upd (Upd.of_below HS.out.below 0 0 0)) hww HS.out.wd).mono ?_
   rintro e w5 ⟨rfl,hx5,hu5⟩
   rw [HF.out] at hx5
   go_wp2
   go_ret2
   exact ⟨rfl,hx5,(Upd.of_below HS.out.below _ _ _).trans hu5⟩
end Go.Proofs.YtglaeambknhjlaaGreatDoor.P
end
