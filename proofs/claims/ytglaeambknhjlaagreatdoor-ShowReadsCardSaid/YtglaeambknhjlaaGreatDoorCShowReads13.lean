/- Texts under the proof, joined by a program (prune.py): HDivide, HRatTen, HAddAlias, HRatEven, QRatDigits, P105, HZeros, QRef4, QFrac, Q0, Q183, Q184, Q135, Q185, Q136, Q137, Q187, QPure1, QPure2, Q139, Q140. -/
import Derived.Test.YtglaeambknhjlaaGreatDoorCShowReads12
import Derived.Test.YtglaeambknhjlaaGreatDoorCShowReads09
import Derived.Test.YtglaeambknhjlaaGreatDoorCShowReads03
import Derived.Test.YtglaeambknhjlaaGreatDoorCShowReads02
import Derived.Test.YtglaeambknhjlaaGreatDoorCShowReads11
import Derived.Test.YtglaeambknhjlaaGreatDoorProg
import Derived.Below
import Derived.Deep.Draws
import Derived.Deep.AppendLies
import Derived.Maps.AppendAt
import Derived.OwnWalk
import Derived.Laws.BytesArg
import Derived.Laws.MakeOwn
import Derived.Laws.OwnMore
import Derived.Deep.OwnRows
import Derived.Tactics
import Derived.Lib.ConvBytes
import Derived.Laws.Slices
import Derived.WalkKit
import Derived.KernelRfl
import Derived.RowKit3
import Derived.Deep.LoopGhost
import Derived.Deep.QuietTactic
import Derived.BigQuiet
import Derived.WideLaws
import Derived.Deep.DeepCutAuto
import Derived.Deep.CutBlock
import Derived.Deep.RegionHeld3
import Derived.Laws.Rows
import Derived.Lib.AppendStr
import Derived.ArgAppend
import Derived.Laws.IdiomCopy
import Derived.OrdersHeld
import Derived.Laws.BitsLemmas
import Derived.RowKit
import Derived.Test.YtglaeambknhjlaaGreatDoorCShowReads00
import Derived.Test.YtglaeambknhjlaaGreatDoorCShowReads01
set_option linter.unusedVariables false
set_option linter.unusedSimpArgs false
set_option exponentiation.threshold 20001
set_option maxHeartbeats 8000000
set_option maxRecDepth 100000
section
namespace Go.Proofs.ZP
open Go.RowKit Go.Proofs.ZW.Wa
theorem rless_calls (A1:Option Addr) (c1:Nat) (xs:List Int) (A2:Option Addr) (c2:Nat) (ys:List Int) (w:World) (h1:Kd.C (Kd.int .i64) w A1 xs.length xs) (k1:xs.length≤c1) (h2:Kd.C (Kd.int .i64) w A2 ys.length ys) (k2:ys.length≤c2)
  (hx:Ld xs) (hy:Ld ys) (tx:xs.getLast? ≠ some 0) (ty:ys.getLast? ≠ some 0) (hm:xs.length≤1099511627776) :
  Calls Tryz.prog 204 #[.slice A1 xs.length c1,.slice A2 ys.length c2] w fun e w'=>e = .returned (.bool (decide (lv xs<lv ys)))∧Below w.heap.size w w':=by
 obtain ⟨k,hk⟩:=(less_ev xs ys hx hy tx ty hm).rounds
 exact (ZP.c1_less.calls k A1 c1 xs A2 c2 ys _ w h1 k1 h2 k2 hk).mono fun e w' ⟨he,hd⟩=>⟨he,by obtain ⟨n,rfl⟩:=hd; exact zap _ _⟩
theorem rfits_calls (A1:Option Addr) (c1:Nat) (xs:List Int) (A2:Option Addr) (c2:Nat) (ys:List Int) (up:Nat) (w:World) (h1:Kd.C (Kd.int .i64) w A1 xs.length xs) (k1:xs.length≤c1) (h2:Kd.C (Kd.int .i64) w A2 ys.length ys) (k2:ys.length≤c2)
  (hx:Ld xs) (hy:Ld ys) (hu:up≤xs.length) (hlx:xs.length≤1000000000000) (hly:ys.length≤1000000000000) (hY:0<lv ys) (hlt:lv (xs.drop up)<10000*lv ys) :
  Calls Tryz.prog 205 #[.slice A1 xs.length c1,.slice A2 ys.length c2,.int .i64 up] w fun e w'=>e = .returned (.int .i64 (lv (xs.drop up)/lv ys))∧Below w.heap.size w w':=by
 obtain ⟨k,hk⟩:=(fits_ev xs ys hx hy up hu hlx hly hY hlt).rounds
 exact ZP.c1_fits.calls k A1 c1 xs A2 c2 ys up _ w h1 k1 h2 k2 hk
structure QSt (w w1 wr:World) (g c1 n:Nat) (A2:Option Addr) (c2:Nat) (ys:List Int) (gq:Nat) (X0:Int) (xs q:List Int) (j:Nat):Prop where
 dv:DV X0 (lv ys) n xs q j
 le:j+ys.length≤n+1
 ox:wr.ownsRow w.heap.size 3 1 (.slice (some ⟨g,0,none⟩) n c1) n (nums .i64 xs)
 oy:wr.ownsRow w1.heap.size 3 1 (.slice A2 ys.length c2) ys.length (nums .i64 ys)
 oq:wr.ownsRow w.heap.size 3 1 (.slice (some ⟨gq,0,none⟩) n n) n (nums .i64 q)
 below:Below w.heap.size w wr
theorem QSt.below' {w w1 wr w':World} {g c1 n:Nat} {A2:Option Addr} {c2:Nat} {ys:List Int} {gq:Nat} {X0:Int} {xs q:List Int} {j:Nat} (h:QSt w w1 wr g c1 n A2 c2 ys gq X0 xs q j) (hb:Below wr.heap.size wr w'):QSt w w1 w' g c1 n A2 c2 ys gq X0 xs q j where
 dv:=h.dv
 le:=h.le
 ox:=zbV h.ox hb
 oy:=zbV h.oy hb
 oq:=zbV h.oq hb
 below:=bthen h.below hb
theorem QSt.next {w w1 wr w':World} {g c1 n:Nat} {A2:Option Addr} {c2:Nat} {ys:List Int} {gq:Nat} {X0:Int} {xs q zs:List Int} {up:Nat} (h:QSt w w1 wr g c1 n A2 c2 ys gq X0 xs q (up+1)) (hY:0<lv ys) (hyl:0<ys.length)
  (hgw:w.heap.size≤g) (hg1:g<w1.heap.size) (hgq:w1.heap.size≤gq) (hqy:∀ g2,A2=some ⟨g2,0,none⟩→g2≠gq) (hw1:w.heap.size≤w1.heap.size)
  (z1:Ld zs) (z2:zs.length=n) (t:Int) (ht:lv (xs.drop up)/lv ys=t) (z3:lv zs=lv xs-10000^up*(t*lv ys))
  (ox:w'.ownsRow w.heap.size 3 1 (.slice (some ⟨g,0,none⟩) n c1) n (nums .i64 zs)) (hk:KeepB (wr.setCell ⟨gq,up,none⟩ (.int .i64 t)) w' g) :
  Hid (QSt w w1 w' g c1 n A2 c2 ys gq X0 zs (q.set up t) up):=by
 subst ht
 have hle:=h.le
 have hu:up<n:=by omega
 have hst:=zbb h.oq (up:Int) (lv (xs.drop up)/lv ys)
 rw [Int.toNat_natCast] at hst
 have hB:=h.below.setCell (p:=⟨gq,up,none⟩) (show w.heap.size≤gq by omega) (.int .i64 (lv (xs.drop up)/lv ys))
 have hk2:KeepB wr (wr.setCell ⟨gq,up,none⟩ (.int .i64 (lv (xs.drop up)/lv ys))) gq:=(KeepB.refl wr gq).set up _
 obtain ⟨g2,he2,hg2,hg2'⟩:=zcS h.oy hyl
 exact {
  dv:=(h.dv.step hY hu).2.2.2.2 zs z1 z2 z3
  le:=by omega
  ox:=ox
  oy:=by
   refine (h.oy.kept hk2.grown (Or.inr ?_)).kept hk.grown (Or.inr ?_)
   ·subst he2
    have:=hqy g2 rfl
    simpa [Value.ownBlock] using this
   ·subst he2
    have:g2≠g:=by omega
    simpa [Value.ownBlock] using this
  oq:=hst.1.kept hk.grown (Or.inr (by
   have:gq≠g:=by omega
   simpa [Value.ownBlock] using this))
  below:=KeepB.below hB hk hgw }
theorem QSt.set {w w1 wr:World} {g c1 n:Nat} {A2:Option Addr} {c2:Nat} {ys:List Int} {gq:Nat} {X0:Int} {xs q:List Int} {j:Nat} (h:QSt w w1 wr g c1 n A2 c2 ys gq X0 xs q j) (hyl:0<ys.length) (hgq:g≠gq) (hqy:∀ g2,A2=some ⟨g2,0,none⟩→g2≠gq) (up:Nat) (t:Int) :
  (wr.setCell ⟨gq,up,none⟩ (.int .i64 t)).ownsRow w.heap.size 3 1 (.slice (some ⟨g,0,none⟩) n c1) n (nums .i64 xs)∧(wr.setCell ⟨gq,up,none⟩ (.int .i64 t)).ownsRow w1.heap.size 3 1 (.slice A2 ys.length c2) ys.length (nums .i64 ys):=by
 have hk2:KeepB wr (wr.setCell ⟨gq,up,none⟩ (.int .i64 t)) gq:=(KeepB.refl wr gq).set up _
 obtain ⟨g2,he2,hg2,hg2'⟩:=zcS h.oy hyl
 refine ⟨h.ox.kept hk2.grown (Or.inr (by simpa [Value.ownBlock] using hgq)),h.oy.kept hk2.grown (Or.inr ?_)⟩
 subst he2
 have:=hqy g2 rfl
 simpa [Value.ownBlock] using this
theorem lim_ne {n:Nat} (h:0<n):0<(lim n).length:=by rw [zcx h]; simp
theorem DV.start {xs ys:List Int} (hx:Ld xs) (hy:Ld ys) (ty:ys.getLast? ≠ some 0) (hyl:0<ys.length) (hle:ys.length≤xs.length):DV (lv xs) (lv ys) xs.length xs (List.replicate xs.length 0) (xs.length-ys.length+1) where
 lx:=hx
 lq:=Ld.zeros _
 nx:=rfl
 nq:=by simp
 eq:=by rw [lv_zeros,Int.zero_mul,Int.zero_add]
 lt:=by
  have h1:=lv_lt hx
  have h2:=lv_top hy ty (by intro e; rw [e] at hyl; simp at hyl)
  have h3:(10000:Int)^xs.length=10000^(xs.length-ys.length+1)*10000^(ys.length-1):=by rw [←Int.pow_add]; congr 1; omega
  rw [h3] at h1
  exact Int.lt_of_lt_of_le h1 (Int.mul_le_mul_of_nonneg_left h2 (Int.le_of_lt (zcw _)))
 zero:=fun j hj=>by
  unfold Go.Proofs.ZW.Wa.rd
  rw [List.getD_eq_getElem?_getD,List.getElem?_replicate]
  split<;>rfl
theorem divide_small (a b:Nat) (w:World) (ha:(T a).size≤137438953472) (hb:(T b).size≤137438953472) (hlt:a<b) :
  Calls Tryz.prog 128 #[.string (T a),.string (T b)] w fun e w'=>e = .returned (.tuple #[.string ⟨#[48]⟩,.string (T a)])∧Below w.heap.size w w':=by
 have HA:=fun W=>zbq (T a) W (T_can a).2.1 (show _≤_ by omega)
 have HB:=fun W=>zbq (T b) W (T_can b).2.1 (show _≤_ by omega)
 rw [za8] at HA HB
 have hla:=za0 a
 have hlb:=za0 b
 have hxd:=zch a
 have hyd:=zch b
 have htx:=lim_top a
 have hty:=lim_top b
 have HD:=Lib.hid (show decide (lv (lim a)<lv (lim b))=true by rw [zbL,zbL,decide_eq_true_iff]; omega)
 generalize lim a=xs at *
 generalize lim b=ys at *
 go_enter Tryz.func128,Tryz.ntmps128
 go_wp2_with fail
 refine (HA _).mono ?_
 rintro e w1 ⟨A1,c1,rfl,ho1,hb1⟩
 go_wp2_with fail
 refine (HB _).mono ?_
 rintro e w2 ⟨A2,c2,rfl,ho2,hb2⟩
 have ho1':=zbV ho1 hb2
 obtain ⟨hC1,hl1⟩:=own_C ho1'
 obtain ⟨hC2,hl2⟩:=own_C ho2
 have HL:=rless_calls A1 c1 xs A2 c2 ys w2 hC1 hl1 hC2 hl2 hxd hyd htx hty (show _≤_ by omega)
 rw [HD.out] at HL
 have hB:=bthen hb1 hb2
 clear hC1 hC2 ho1 ho2 ho1' HD
 go_wp2_with fail
 refine HL.mono ?_
 rintro e w3 ⟨rfl,hb3⟩
 go_wp2
 go_ret2
 exact ⟨rfl,bthen hB hb3⟩
theorem divide_great (a b:Nat) (w:World) (ha:(T a).size≤137438953472) (hb:(T b).size≤137438953472) (hle:b≤a) (hb0:0<b) :
  Calls Tryz.prog 128 #[.string (T a),.string (T b)] w fun e w'=>e = .returned (.tuple #[.string (T (a/b)),.string (T (a%b))])∧Below w.heap.size w w':=by
 have HA:=fun W=>zbq (T a) W (T_can a).2.1 (show _≤_ by omega)
 have HB:=fun W=>zbq (T b) W (T_can b).2.1 (show _≤_ by omega)
 rw [za8] at HA HB
 have hla:=za0 a
 have hlb:=za0 b
 have hxd:=zch a
 have hyd:=zch b
 have htx:=lim_top a
 have hty:=lim_top b
 have hyl:=lim_ne hb0
 have hlen:=lim_len_le hle
 have HXV:=Lib.hid (zbL a)
 have HYV:=Lib.hid (zbL b)
 have HD:=Lib.hid (show decide (lv (lim a)<lv (lim b))=false by rw [zbL,zbL,decide_eq_false_iff_not]; omega)
 have HQR:Hid (∀ Q R:Int,Q=(a:Int)/(b:Int)∧R=(a:Int)%(b:Int)→Q.toNat=a/b∧R.toNat=a%b):=Lib.hid (by
  rintro Q R ⟨rfl,rfl⟩
  rw [←Int.natCast_ediv,←Int.natCast_emod]
  exact ⟨rfl,rfl⟩)
 have hls1:(T (a/b)).size≤(T a).size:=by rw [zb2,zb2]; exact zbH (Nat.div_le_self a b)
 have hls2:(T (a%b)).size≤(T a).size:=by rw [zb2,zb2]; exact zbH (Nat.mod_le a b)
 have hll1:=za0 (a/b)
 have hll2:=za0 (a%b)
 have hY:0<lv (lim b):=by rw [zbL]; omega
 generalize hxs:lim a=xs at *
 generalize hys:lim b=ys at *
 clear hxs hys
 have hmk:=zb5 (P:=Tryz.prog) 92 3 .i64 8 Tryz.underlying92 infoI64 (by decide) xs.length (by omega)
 go_enter Tryz.func128,Tryz.ntmps128
 go_wp2_with fail
 refine (HA _).mono ?_
 rintro e w1 ⟨A1,c1,rfl,ho1,hb1⟩
 obtain ⟨g,rfl,hg0,hg1⟩:=zcS ho1 (by omega)
 go_wp2_with fail
 refine (HB _).mono ?_
 rintro e w2 ⟨A2,c2,rfl,ho2,hb2⟩
 have ho1':=zbV ho1 hb2
 obtain ⟨hC1,hl1⟩:=own_C ho1'
 obtain ⟨hC2,hl2⟩:=own_C ho2
 have HL:=rless_calls _ c1 xs A2 c2 ys w2 hC1 hl1 hC2 hl2 hxd hyd htx hty (show _≤_ by omega)
 rw [HD.out] at HL
 have hB:=bthen hb1 hb2
 clear hC1 hC2 HD
 go_wp2_with fail
 refine HL.mono ?_
 rintro e w3 ⟨rfl,hb3⟩
 have hs23:=hb2.size
 have hs33:=hb3.size
 have hs11:=hb1.size
 have HS:Hid (QSt w w1 (w3.alloc (.cells (madeCells #[.int .i64 0] xs.length) 3)) g c1 xs.length A2 c2 ys w3.heap.size (lv xs) xs (List.replicate xs.length 0) (xs.length-ys.length+1)):=Lib.hid {
  dv:=DV.start hxd hyd hty hyl hlen
  le:=by omega
  ox:=(zbV ho1' hb3).alloc _
  oy:=(zbV ho2 hb3).alloc _
  oq:=zcR w3 w.heap.size 3 .i64 xs.length (by omega) (by omega)
  below:=bthen (bthen hB hb3) (zaa (Below.refl _ _) _) }
 have HQY:=Lib.hid (fun g2 (h:A2=some ⟨g2,0,none⟩)=>show g2≠w3.heap.size by have:=(ho2.lt g2 (by rw [h]; rfl)).2; omega)
 have hgq:w1.heap.size≤w3.heap.size:=by omega
 have hggq:g≠w3.heap.size:=by omega
 clear ho1 ho2 ho1' hb1 hb2 hb3 hB
 have hnmax:xs.length≤274877906944:=by omega
 go_wp2
 clear hmk
 go_loopw [9] (fun vz wr=>∃ (z:Int) (j:Nat) (zs q:List Int),vz = .int .i64 z∧Hid (z=(j:Int)-1) ∧ -1≤z∧z≤274877906944∧Hid (QSt w w1 wr g c1 xs.length A2 c2 ys w3.heap.size (lv xs) zs q j)) (fun vz _=>(intOf vz+1).toNat)
 case atStart=>exact ⟨_,xs.length-ys.length+1,xs,_,by go_num,Lib.hid (by omega),by omega,by omega,HS⟩
 case round =>
  obtain ⟨z,j,zs,q,rfl,HZ,hz0,hz1,HD⟩:=hrel
  have hzl:=HD.out.dv.nx
  have hql:=HD.out.dv.nq
  by_cases hz:0≤z
  ·obtain ⟨up,rfl⟩:=Int.eq_ofNat_of_zero_le hz
   have hj:j=up+1:=by have:=HZ.out; omega
   subst hj
   have hle:=HD.out.le
   have hun:up<xs.length:=by omega
   obtain ⟨ht0,ht9,hlt,hR,-⟩:=HD.out.dv.step hY hun
   have hox:=HD.out.ox
   rw [←hzl] at hox
   obtain ⟨hC1,hl1⟩:=own_C hox
   obtain ⟨hC2,hl2⟩:=own_C HD.out.oy
   have HF:=rfits_calls _ c1 zs A2 c2 ys up wr hC1 hl1 hC2 hl2 HD.out.dv.lx hyd (by omega) (by omega) (by omega) hY hlt
   rw [hzl] at HF
   obtain ⟨t,ht⟩:∃ t,lv (zs.drop up)/lv ys=t:=⟨_,rfl⟩
   rw [ht] at HF ht0 ht9 hR
   have HT:=Lib.hid ht
   have HR:=Lib.hid hR
   have HZL:=Lib.hid hzl
   clear ht hR hC1 hC2 hox hzl hql hlt hl1 hl2
   go_wp2_with fail
   refine HF.mono ?_
   rintro e w5 ⟨rfl,hb5⟩
   have HD5:=Lib.hid (HD.out.below' hb5)
   obtain ⟨hs1,hs2⟩:=zb1 HD5.out.oq (up:Int) (by omega) (by omega)
   rw [Int.toNat_natCast] at hs1 hs2
   obtain ⟨old,hold⟩:∃ old,rd q (up:Int)=old:=⟨_,rfl⟩
   rw [hold] at hs1
   clear hold HF hb5
   by_cases htp:0<t
   ·have hset:=HD5.out.set hyl hggq HQY.out up t
    have HTK:=rtake_calls w.heap.size w1.heap.size g c1 xs.length A2 c2 zs ys up t _ hset.1 hset.2 HZL.out HD.out.dv.lx hyd hg1 ⟨ht0,ht9⟩ (by omega) (by omega) HR.out
    have HTK:=Lib.hid HTK
    clear hset
    go_wp2_with fail
    refine HTK.out.mono ?_
    rintro e w7 ⟨zs',rfl,z1,z2,z3,z4,z5⟩
    have HN:=HD5.out.next hY hyl hg0 hg1 hgq HQY.out (by omega) z1 z2 t HT.out z3 z4 z5
    clear z1 z2 z3 z4 z5
    go_wp2
    go_roundw
    case rel=>exact ⟨(up:Int)-1,up,zs',q.set up t,by go_num,Lib.hid rfl,by omega,by omega,HN⟩
    case measure=>simp [intOf]
   ·have ht00:t=0:=by omega
    subst ht00
    have hset:=HD5.out.set hyl hggq HQY.out up 0
    have HN:=HD5.out.next hY hyl hg0 hg1 hgq HQY.out (by omega) HD.out.dv.lx HZL.out 0 HT.out (by rw [Int.zero_mul,Int.mul_zero,Int.sub_zero]) hset.1 (KeepB.refl _ _)
    clear hset
    go_wp2
    go_roundw
    case rel=>exact ⟨(up:Int)-1,up,zs,q.set up 0,by go_num,Lib.hid rfl,by omega,by omega,HN⟩
    case measure=>simp [intOf]
  ·have hj:j=0:=by have:=HZ.out; omega
   subst hj
   obtain ⟨F1,F2⟩:=HD.out.dv.done hY
   obtain ⟨G1,G2⟩:=HQR.out (lv q) (lv zs) (by rw [F1,F2,HXV.out,HYV.out]; exact ⟨rfl,rfl⟩)
   have hox:=HD.out.ox
   have hoq:=HD.out.oq
   have hB:=HD.out.below
   rw [←hzl] at hox
   rw [←hql] at hoq
   obtain ⟨hC1,hl1⟩:=own_C hox
   obtain ⟨hC2,hl2⟩:=own_C hoq
   have HTQ:=zcs _ _ q wr hC2 hl2 HD.out.dv.lq
   have HTX:=fun W (hb:Below wr.heap.size wr W)=>zcs _ _ zs W (Kd.C_below hC1 hb) hl1 HD.out.dv.lx
   rw [G1] at HTQ
   rw [G2] at HTX
   have HC1:=Lib.hid hC1
   have HC2:=Lib.hid hC2
   have HZL:=Lib.hid hzl
   have HQL:=Lib.hid hql
   rw [hql] at HTQ
   rw [hzl] at HTX
   have HTQ:=Lib.hid HTQ
   have HTX:=Lib.hid HTX
   clear hC1 hC2 hox hoq F1 F2 G1 G2 hzl hql HA HB HL
   go_wp2_with fail
   with_reducible refine HTQ.out.mono ?_
   rintro e w5 ⟨m,rfl,hm,htk,rfl⟩
   have hml:m=(lim (a/b)).length:=by rw [←htk,List.length_take]; have:=HQL.out; omega
   have hC3:=Kd.C_take HC2.out (show m≤q.length by have:=HQL.out; omega)
   rw [htk] at hC3
   subst hml
   have HTC:=Lib.hid (c1_text.calls (some ⟨w3.heap.size,0,none⟩) xs.length (lim (a/b)) (T (a/b)) wr hC3 (show _≤_ by have:=HQL.out; omega) (zdi (a/b) (show _≤_ by omega)))
   clear hC3 htk
   go_wp2_with fail
   with_reducible refine HTC.out.mono ?_
   rintro e w6 ⟨rfl,hb6⟩
   go_wp2_with fail
   with_reducible refine (HTX.out _ hb6).mono ?_
   rintro e w7 ⟨m2,rfl,hm2,htk2,rfl⟩
   have hml2:m2=(lim (a%b)).length:=by rw [←htk2,List.length_take]; have:=HZL.out; omega
   have hC4:=Kd.C_take (Kd.C_below HC1.out hb6) (show m2≤zs.length by have:=HZL.out; omega)
   rw [htk2] at hC4
   subst hml2
   have HTD:=Lib.hid (c1_text.calls (some ⟨g,0,none⟩) c1 (lim (a%b)) (T (a%b)) w6 hC4 (show _≤_ by have:=HZL.out; omega) (zdi (a%b) (show _≤_ by omega)))
   clear hC4 htk2
   go_wp2_with fail
   with_reducible refine HTD.out.mono ?_
   rintro e w8 ⟨rfl,hb8⟩
   have hB8:=bthen (bthen hB hb6) hb8
   go_wp2
   go_ret2
   exact ⟨rfl,hB8⟩
def c1_Divide.f (a0 a1:ByteArray):Option (ByteArray×ByteArray):=(numP a0).bind fun x=>(numP a1).bind fun y=>if y=0 then none else some (T (x/y),T (x%y))
theorem c1_Divide.calls (a0 a1:ByteArray) (r1 r2:ByteArray) (w:World) (h:c1_Divide.f a0 a1=some (r1,r2)) :
  Calls Tryz.prog 128 #[.string a0,.string a1] w fun e w'=>e = .returned (.tuple #[.string r1,.string r2])∧Below w.heap.size w w':=by
 unfold c1_Divide.f at h
 obtain ⟨x,hx,h3⟩:=Option.bind_eq_some_iff.1 h
 obtain ⟨y,hy,h4⟩:=Option.bind_eq_some_iff.1 h3
 clear h h3
 obtain ⟨rfl,h1⟩:=zdv hx
 obtain ⟨rfl,h2⟩:=zdv hy
 split at h4
 ·cases h4
 ·rename_i hc
  have h:=Option.some.inj h4
  injection h with e1 e2
  subst e1; subst e2
  by_cases hlt:x<y
  ·rw [Nat.div_eq_of_lt hlt,Nat.mod_eq_of_lt hlt,show T 0=⟨#[48]⟩ by unfold T; rw [zbo (by decide)]; rfl]
   exact divide_small x y w h1 h2 hlt
  ·exact divide_great x y w h1 h2 (by omega) (by omega)
def tenR (n:Int):Rat:=if n<0 then (((10:Int)^n.natAbs:Int):Rat)⁻¹ else (((10:Int)^n.natAbs:Int):Rat)
theorem bd_ten (k:Nat):Bd (4*k+1) ((10:Int)^k):=(show Bd 4 (10:Int) by unfold Bd; decide).pow (by decide) k
theorem ten_ne (k:Nat):(((10:Int)^k:Int):Rat)≠0:=fun h=>by
 have h1:=Rat.intCast_eq_zero_iff.1 h
 have h2:(0:Int)<10^k:=Int.pow_pos (by decide)
 omega
theorem Bdr.tenR (n:Int):Bdr (4*n.natAbs+1) (tenR n):=by
 unfold ZP.tenR
 split
 ·exact (Bdr.int (bd_ten _) (by omega)).inv (ten_ne _)
 ·exact Bdr.int (bd_ten _) (by omega)
theorem zcm (n:Int) (w:World) (h0 : -100000≤n) (h1:n≤100000) :
  Calls Tryz.prog 136 #[.int .i64 n] w fun e w'=>∃ g,e = .returned (.pointer (some ⟨g,0,none⟩))∧w.heap.size≤g∧RatAt w' g (tenR n)∧Below w.heap.size w w':=by
 have hnew:=IntAt.new w 105 (by decide)
 have hba:=zaa (Below.refl w.heap.size w) (.cells #[.bool false,.slice none 0 0] 105)
 have hu105:=Tryz.underlying105
 have hu112:=Tryz.underlying112
 have HBT:=Lib.hid (bd_ten n.natAbs)
 by_cases hn:n<0
 ·have HT:=Lib.hid (show tenR n=(((10:Int)^n.natAbs:Int):Rat)⁻¹ by unfold tenR; rw [if_pos hn])
  go_enter Tryz.func136,Tryz.ntmps136
  go_wp2_with fail
  refine (zaR 10 _ (by decide) (by decide)).mono ?_
  rintro e w1 ⟨N1,rfl,hN1,hx1,hb1⟩
  have hz1:=hnew.slot.below hb1
  have hB1:=bthen hba hb1
  have hl1:=hx1.lt
  go_wp2_with fail
  rw [show max n (-n)=((n.natAbs:Nat):Int) by omega]
  refine (zaR (n.natAbs:Int) _ (by omega) (by omega)).mono ?_
  rintro e w2 ⟨N2,rfl,hN2,hx2,hb2⟩
  have hx12:=hx1.below hb2
  have hz2:=hz1.below hb2
  have hB2:=bthen hB1 hb2
  clear hnew hba hb1 hb2 hx1 hz1 hB1
  go_wp2_with fail
  refine (zdz w.heap.size 0 N1 0 N2 0 _ 10 n.natAbs _ hz2 hx12 hx2 (show Bd 4 (10:Int) by unfold Bd; decide) (by decide) (by unfold big; omega)).mono ?_
  rintro e w3 ⟨rfl,hp3,hu3⟩
  have hB3:=hu3.new hB2 (Nat.le_refl _)
  have hs3:=hB3.size
  have hnewR:=RatAt.new w3 112 (by decide)
  have hbaR:=zaa (Below.refl w3.heap.size w3) (.cells #[.bool false,.slice none 0 0,.bool false,.slice none 0 0] 112)
  clear hx12 hx2 hz2 hu3
  go_wp2_with fail
  refine (zaP w3.heap.size w.heap.size 0 _ _ hnewR.slot (hp3.below hbaR) HBT.out (by unfold big; omega)).mono ?_
  rintro e w4 ⟨rfl,hz4,hu4⟩
  have hB4:=hu4.new (bthen hB3 hbaR) hs3
  clear hp3 hnewR hbaR hu4
  go_wp2_with fail
  refine (inv_calls w3.heap.size w3.heap.size _ _ hz4.slot hz4 (ten_ne _) (Bdr.int HBT.out (by omega)) (by unfold big; omega)).mono ?_
  rintro e w5 ⟨rfl,hz5,hu5⟩
  go_wp2
  go_ret
  exact ⟨_,rfl,hs3,by rw [HT.out]; exact hz5,hu5.new hB4 hs3⟩
 ·have HT:=Lib.hid (show tenR n=(((10:Int)^n.natAbs:Int):Rat) by unfold tenR; rw [if_neg hn])
  go_enter Tryz.func136,Tryz.ntmps136
  go_wp2_with fail
  refine (zaR 10 _ (by decide) (by decide)).mono ?_
  rintro e w1 ⟨N1,rfl,hN1,hx1,hb1⟩
  have hz1:=hnew.slot.below hb1
  have hB1:=bthen hba hb1
  have hl1:=hx1.lt
  go_wp2_with fail
  rw [show max n (-n)=((n.natAbs:Nat):Int) by omega]
  refine (zaR (n.natAbs:Int) _ (by omega) (by omega)).mono ?_
  rintro e w2 ⟨N2,rfl,hN2,hx2,hb2⟩
  have hx12:=hx1.below hb2
  have hz2:=hz1.below hb2
  have hB2:=bthen hB1 hb2
  clear hnew hba hb1 hb2 hx1 hz1 hB1
  go_wp2_with fail
  refine (zdz w.heap.size 0 N1 0 N2 0 _ 10 n.natAbs _ hz2 hx12 hx2 (show Bd 4 (10:Int) by unfold Bd; decide) (by decide) (by unfold big; omega)).mono ?_
  rintro e w3 ⟨rfl,hp3,hu3⟩
  have hB3:=hu3.new hB2 (Nat.le_refl _)
  have hs3:=hB3.size
  have hnewR:=RatAt.new w3 112 (by decide)
  have hbaR:=zaa (Below.refl w3.heap.size w3) (.cells #[.bool false,.slice none 0 0,.bool false,.slice none 0 0] 112)
  clear hx12 hx2 hz2 hu3
  go_wp2_with fail
  refine (zaP w3.heap.size w.heap.size 0 _ _ hnewR.slot (hp3.below hbaR) HBT.out (by unfold big; omega)).mono ?_
  rintro e w4 ⟨rfl,hz4,hu4⟩
  have hB4:=hu4.new (bthen hB3 hbaR) hs3
  clear hp3 hnewR hbaR hu4
  go_wp2
  go_ret
  exact ⟨_,rfl,hs3,by rw [HT.out]; exact hz4,hB4⟩
theorem addA_same_false (b o b1 o1 b2 o2:Nat) (x y:Int) (w:World) (hz:Slot w b o) (hx:IntAt w b1 o1 x) (hy:IntAt w b2 o2 y) {n:Nat} (hs:Bd n x) (ht:Bd n y) (hn:n≤big) (hx0:0≤x) (hy0:0≤y) :
    Calls Tryz.prog 199 #[.pointer (some ⟨b,o,none⟩),.pointer (some ⟨b1,o1,none⟩),.pointer (some ⟨b2,o2,none⟩)] w fun e w'=>e = .returned (.pointer (some ⟨b,o,none⟩))∧IntAt w' b o (x+y)∧Upd w w' b o (o+2):=by
  obtain ⟨neg,A,c,ws,h1,h2,h3,h4⟩:=hx.out
  obtain ⟨neg',A',c',ws',k1,k2,k3,k4⟩:=hy.out
  have hl1:ws.length≤34359738368:=h4.small hs hn
  have hl2:ws'.length≤34359738368:=k4.small ht hn
  have ex:=h4.eq
  have ey:=k4.eq
  clear hs ht
  have hneg:neg=false:=by cases neg; rfl; exact absurd (h4.neg_iff.1 rfl) (by omega)
  have hneg':neg'=false:=by cases neg'; rfl; exact absurd (k4.neg_iff.1 rfl) (by omega)
  subst hneg; subst hneg'
  have hk:sg false (val ws+val ws')=x+y:=by rw [ex,ey]; unfold sg; simp<;>omega
  have HK:=Lib.hid hk
  have LL1:=Lib.hid (show ws.length≤35184372088832 by omega)
  have LL2:=Lib.hid (show ws'.length≤35184372088832 by omega)
  clear ex ey hk
  go_enter Tryz.func199,Tryz.ntmps199
  go_wp2_with fail
  go_quiet (fail)
  generalize hq:w.drewN _=w1
  have HB1:=Lib.hid (show Below w.heap.size w w1 from by subst hq; exact zap _ _)
  have g1:w1.cell? ⟨b1,o1,none⟩=some (.bool false):=by subst hq; exact h1
  have g2:w1.cell? ⟨b1,o1+1,none⟩=some (.slice A ws.length c):=by subst hq; exact h2
  have g3:w1.cell? ⟨b2,o2,none⟩=some (.bool false):=by subst hq; exact k1
  have g4:w1.cell? ⟨b2,o2+1,none⟩=some (.slice A' ws'.length c'):=by subst hq; exact k2
  clear hq h1 h2 k1 k2
  go_wp2_with fail
  go_region_with ((first
      | (go_simp; go_at_call 233; refine (zdl A c ws A' c' ws' _ (h3.below (bthen HB1.out (zad _))) (k3.below (bthen HB1.out (zad _))) h4.wd k4.wd LL1.out LL2.out).mono ?_; rintro e w2 ⟨A2,c2,zs,rfl,hw2,hz2,hv2,hzl2,hb2⟩; have HV2:=Lib.hid hv2; clear hv2 hzl2; have g1:=(hb2.cell (p:=⟨b1,o1,none⟩) (World.block_lt_of_cell? _ _ g1)).trans g1)
      | (go_simp; go_at_call 187; refine (zaH b o false A2 c2 zs _ (hz.upd (Upd.of_below (bthen (bthen HB1.out (zad _)) hb2) 0 0 0)) hw2 hz2).mono ?_; rintro e w3 ⟨rfl,hx3,hu3⟩)))
  all_goals
    have hfin:sg false (val zs)=x+y:=by rw [HV2.out]; exact HK.out
    rw [hfin] at hx3
    go_wp2
    go_ret
    exact ⟨rfl,hx3,(((Upd.of_below HB1.out _ _ _).trans (Upd.of_below (zad _) _ _ _)).trans (Upd.of_below hb2 _ _ _)).trans hu3⟩
theorem zdG (b o b1 o1 b2 o2:Nat) (x y:Int) (w:World) (hz:Slot w b o) (hx:IntAt w b1 o1 x) (hy:IntAt w b2 o2 y) {n:Nat} (hs:Bd n x) (ht:Bd n y) (hn:n≤big) (hx0:x<0) (hy0:0≤y) (hxy:x+y≤0) :
    Calls Tryz.prog 199 #[.pointer (some ⟨b,o,none⟩),.pointer (some ⟨b1,o1,none⟩),.pointer (some ⟨b2,o2,none⟩)] w fun e w'=>e = .returned (.pointer (some ⟨b,o,none⟩))∧IntAt w' b o (x+y)∧Upd w w' b o (o+2):=by
  obtain ⟨neg,A,c,ws,h1,h2,h3,h4⟩:=hx.out
  obtain ⟨neg',A',c',ws',k1,k2,k3,k4⟩:=hy.out
  have hl1:ws.length≤34359738368:=h4.small hs hn
  have hl2:ws'.length≤34359738368:=k4.small ht hn
  have ex:=h4.eq
  have ey:=k4.eq
  clear hs ht
  have hneg:neg=true:=h4.neg_iff.2 hx0
  have hneg':neg'=false:=by cases neg'; rfl; exact absurd (k4.neg_iff.1 rfl) (by omega)
  subst hneg; subst hneg'
  have hva:=h4.val_eq
  have hvb:=k4.val_eq
  have hk:sg true (val ws-val ws')=x+y:=by rw [ex,ey]; unfold sg; simp<;>omega
  have hle:val ws'≤val ws:=by omega
  have HK:=Lib.hid hk
  have HLE:=Lib.hid hle
  have HLL:=Lib.hid (show ws'.length≤ws.length from zaY h4.wd k4.wd k4.top hle)
  have LL1:=Lib.hid (show ws.length≤35184372088832 by omega)
  have LL2:=Lib.hid (show ws'.length≤35184372088832 by omega)
  clear ex ey hk hle hva hvb
  go_enter Tryz.func199,Tryz.ntmps199
  go_wp2_with fail
  go_quiet (fail)
  generalize hq:w.drewN _=w1
  have HB1:=Lib.hid (show Below w.heap.size w w1 from by subst hq; exact zap _ _)
  have g1:w1.cell? ⟨b1,o1,none⟩=some (.bool true):=by subst hq; exact h1
  have g2:w1.cell? ⟨b1,o1+1,none⟩=some (.slice A ws.length c):=by subst hq; exact h2
  have g3:w1.cell? ⟨b2,o2,none⟩=some (.bool false):=by subst hq; exact k1
  have g4:w1.cell? ⟨b2,o2+1,none⟩=some (.slice A' ws'.length c'):=by subst hq; exact k2
  clear hq h1 h2 k1 k2
  go_wp2_with fail
  go_region_held3 (fun w'=>w'.cell? ⟨b1,o1,none⟩=some (.bool true)∧w'.cell? ⟨b1,o1+1,none⟩=some (.slice A ws.length c)∧w'.cell? ⟨b2,o2,none⟩=some (.bool false)∧w'.cell? ⟨b2,o2+1,none⟩=some (.slice A' ws'.length c'))
    (first|go_keep|exact ⟨g1,g2,g3,g4⟩)
    ((first
      | (go_simp; go_at_call 230; refine (zaZ A c ws A' c' ws' _ (h3.below (bthen HB1.out (zad _))) (k3.below (bthen HB1.out (zad _))) h4.wd k4.wd h4.top k4.top).mono ?_; rintro e w2 ⟨r,rfl,hr,hrb,⟨⟨nd,rfl⟩⟩⟩)))
  rename_i hHeld
  generalize hq:w1.drewN _=w2 at hHeld ⊢
  have HB2:=Lib.hid (show Below w1.heap.size w1 w2 from by subst hq; exact zap _ _)
  clear hq g1 g2 g3 g4
  obtain ⟨g1,g2,g3,g4⟩:=hHeld
  have hr0:=zbh hr
  have hr1:0≤r:=by have:=HLE.out; omega
  have HB12:=Lib.hid (bthen HB1.out HB2.out)
  clear hr hr0 HB1 HB2
  have HB1:=HB12
  clear HB12
  go_wp2_with fail
  go_region_with ((first
      | (go_simp; go_at_call 234; refine (zb7 A c ws A' c' ws' _ (h3.below (bthen HB1.out (zad _))) (k3.below (bthen HB1.out (zad _))) h4.wd k4.wd LL1.out HLE.out HLL.out).mono ?_; rintro e w4 ⟨A2,c2,zs,rfl,hw2,hz2,hv2,hzl2,hb2⟩; have HV2:=Lib.hid hv2; clear hv2 hzl2; have gg:=(hb2.cell (p:=⟨b1,o1,none⟩) (World.block_lt_of_cell? _ _ g1)).trans g1)
      | (go_simp; go_at_call 187; refine (zaH b o true A2 c2 zs _ (hz.upd (Upd.of_below (bthen (bthen HB1.out (zad _)) hb2) 0 0 0)) hw2 hz2).mono ?_; rintro e w3 ⟨rfl,hx3,hu3⟩)))
  all_goals
    have hfin:sg true (val zs)=x+y:=by rw [HV2.out]; exact HK.out
    rw [hfin] at hx3
    go_wp2
    go_ret
    exact ⟨rfl,hx3,(((Upd.of_below HB1.out _ _ _).trans (Upd.of_below (zad _) _ _ _)).trans (Upd.of_below hb2 _ _ _)).trans hu3⟩
def halfS (x:Rat):Int:=((x-(x.floor:Rat)).num*(Rat.divInt 1 2).den-(Rat.divInt 1 2).num*(x-(x.floor:Rat)).den).sign
def evenR (x:Rat):Int:=if 0<halfS x∨(halfS x=0∧x.floor.natAbs%2=1) then x.floor+1 else x.floor
theorem bd_floor {x:Rat} {n:Nat} (h:Bdr n x):Bd n x.floor:=by
 rw [Rat.floor_def]
 exact h.1.le (Int.natAbs_ediv_le_natAbs _ _)
theorem Bdr.half:Bdr 2 (Rat.divInt 1 2):=by
 refine Bdr.divInt (by decide) ?_ ?_<;>(unfold Bd; decide)
theorem zdE (b N:Nat) (x:Int) (w:World) (hx:IntAt w b 0 x) (hy:IntAt w N 0 1) {n:Nat} (hs:Bd n x) (hn0:0<n) (hn:n≤big) :
  Calls Tryz.prog 199 #[.pointer (some ⟨b,0,none⟩),.pointer (some ⟨b,0,none⟩),.pointer (some ⟨N,0,none⟩)] w fun e w'=>e = .returned (.pointer (some ⟨b,0,none⟩))∧IntAt w' b 0 (x+1)∧Upd w w' b 0 2:=by
 have h1:Bd n (1:Int):=by
  unfold Bd
  have:2^1≤2^n:=Nat.pow_le_pow_right (by decide) hn0
  have:(1:Int).natAbs=1:=rfl
  omega
 by_cases h:0≤x
 ·exact addA_same_false b 0 b 0 N 0 x 1 w hx.slot hx hy hs h1 hn h (by decide)
 ·exact zdG b 0 b 0 N 0 x 1 w hx.slot hx hy hs h1 hn (by omega) (by decide) (by omega)
end Go.Proofs.ZP
end
section
namespace Go.Proofs.ZQ
open Go.RowKit Go.Proofs.ZW.Wa Go.Proofs.ZP
def zer (k:Nat):ByteArray:=⟨(List.replicate k (48:UInt8)).toArray⟩
def padT (t:ByteArray) (p:Nat):ByteArray:=if t.size<p+1 then zer (p+1-t.size)++t else t
def ptT (t:ByteArray) (p:Nat):ByteArray:=if 0<p then t.extract 0 (t.size-p)++⟨#[46]⟩++t.extract (t.size-p) t.size else t
def dgt (m:Int) (p:Nat):ByteArray:=if m<0 then ⟨#[45]⟩++ptT (padT (T m.natAbs) p) p else ptT (padT (T m.natAbs) p) p
noncomputable def digR (x:Rat) (p:Int):ByteArray×Int:=if p<0∨600<p then (⟨#[]⟩,1) else if 600<(T (evenR (x*tenR p)).natAbs).size then (⟨#[]⟩,7) else (dgt (evenR (x*tenR p)) p.toNat,0)
noncomputable def rat_Digits.f (a0_0 a0_1:ByteArray) (a1:Int):Option (ByteArray×Int):=by classical exact if h:∃ x,RR a0_0 a0_1 x then some (digR h.choose a1) else some (⟨#[]⟩,3)
theorem zcO (k:Nat):(zer k).size=k:=by show (List.replicate k (48:UInt8)).toArray.size=k; simp
theorem bd_even {x:Rat} {n:Nat} (h:Bdr n x):Bd (n+1) (evenR x):=by
 unfold evenR
 have h1:=bd_floor h
 split
 ·refine h1.add ?_
  unfold Bd at *
  have:=h.2
  unfold Bd at this
  have h3:=x.den_pos
  have h4:(1:Int).natAbs=1:=rfl
  rw [Int.natAbs_natCast] at this
  omega
 ·exact h1.mono (by omega)
theorem RR.uniq {a b:ByteArray} {x y:Rat} (h:RR a b x) (k:RR a b y):x=y:=by
 refine Rat.ext (wtext_inj (h.num.symm.trans k.num)) (T_inj (h.den.symm.trans k.den))
end Go.Proofs.ZQ
end
section
namespace Go.Proofs.ZP
open Go.RowKit Go.Proofs.ZW.Wa Go.Proofs.ZW.Wb Go.Proofs.ZW.Wc
attribute [local go_sem] zaC zaB zaM zaL zaz zay zaF zaE
def c1_Common.l0:Nat→ByteArray→ByteArray→Option (ByteArray)
 | 0,_,_=>none
 | k+1,x0,x1=>if x1.toList=([48]:List UInt8) then (some x0) else ((c1_Divide.f x0 x1).bind fun bt301=>(c1_Common.l0 k x1 bt301.2))
def c1_Common.f (k:Nat) (a0:ByteArray) (a1:ByteArray):Option (ByteArray):=c1_Common.l0 k a0 a1
theorem c1_Common.calls (k:Nat) (a0:ByteArray) (a1:ByteArray) (r:ByteArray) (w:World) (h:c1_Common.f k a0 a1=some r) :
  Calls Tryz.prog 95 #[.string a0,.string a1] w fun e w'=>e = .returned (.string r)∧Below w.heap.size w w':=by
 have HB:=Aside0.mk (Below.refl w.heap.size w)
 have H:(c1_Common.l0 k a0 a1)=some r:=h
 clear h
 have H':=Aside0.mk H
 clear H
 go_enter Tryz.func95,Tryz.ntmps95
 go_wp2
 go_loopg [0,1] k (fun kq v0 v1 w'=>∃ (x0_1:ByteArray) (x1_1:ByteArray),v0 = .string x0_1∧v1 = .string x1_1∧Aside0 (c1_Common.l0 kq x0_1 x1_1=some r)∧Aside0 (kq≤k)∧Aside0 (Below w.heap.size w w'))
 case atStart=>exact ⟨(a0),(a1),(by first|rfl|(simp; done)|(simp [*]; done)),(by first|rfl|(simp; done)|(simp [*]; done)),H',⟨Nat.le_refl _⟩,⟨by repeat (first|(with_reducible first|exact HB.out|apply zaa|apply zab|apply zac)|exact HB.out)⟩⟩
 case round =>
  clear H'
  try clear p2
  obtain ⟨x0_1,x1_1,rfl,rfl,HA,HK1,HB⟩:=hrel
  cases gk with
  | zero=>exact absurd HA.out (by simp [c1_Common.l0])
  | succ k1 =>
   have H:=HA.out
   clear HA
   simp only [c1_Common.l0] at H
   by_cases c3:x1_1.toList=([48]:List UInt8)
   ·rw [if_pos c3] at H
    have c3b0:(x1_1.toList == ([48]:List UInt8))=true:=beq_iff_eq.mpr c3
    have c3b1:(x1_1.toList != ([48]:List UInt8))=false:=bne_eq_false_iff_eq.mpr c3
    clear c3
    obtain rfl:=Option.some.inj H
    go_wp2
    go_ret
    exact ⟨by first|rfl|(simp [zao,zan]<;>rfl)|(simp [*,zao,zan]<;>rfl),by repeat (first|(with_reducible first|exact HB.out|apply zaa|apply zab|apply zac)|exact HB.out)⟩
   ·rw [if_neg c3] at H
    have c3b0:(x1_1.toList == ([48]:List UInt8))=false:=beq_eq_false_iff_ne.mpr c3
    have c3b1:(x1_1.toList != ([48]:List UInt8))=true:=bne_iff_ne.mpr c3
    replace H:=Option.bind_eq_some_iff.mp H
    obtain ⟨⟨t301,t302⟩,A40,H⟩:=H
    replace H:(c1_Common.l0 k1 x1_1 t302)=some r:=H
    have A4:=Aside0.mk A40
    clear A40
    have H':=Aside0.mk H
    clear H
    go_wp2_with (first|((with_reducible refine zav (f:=128) rfl ?_); refine za5 (some 12) rfl rfl Tryz.func128 (by kernel_rfl) rfl #[.string x0_1,.string x1_1] rfl (by (try simp only [List.map_toArray,List.map_cons,List.map_nil]); first|done|rfl|(simp only [List.length_drop,List.length_take]; rfl)) ?_; (with_reducible refine (c1_Divide.calls x0_1 x1_1 t301 t302 _ A4.out).mono ?_); rintro e w5 ⟨rfl,hb⟩; refine ⟨_,rfl,?_⟩; have n0_:=Aside0.mk (zam (by repeat (first|(with_reducible first|exact HB.out|apply zaa|apply zab|apply zac)|exact HB.out)) hb); clear HB; have HB:=n0_; clear n0_; (try clear hb); (try clear hb2); (try clear hk); (try clear hi)))
    go_roundg k1
    case measure=>have:=HK1.out; omega
    case rel=>exact ⟨(x1_1),(t302),(by first|rfl|(simp; done)|(simp [*]; done)),(by first|rfl|(simp; done)|(simp [*]; done)),H',⟨by have:=HK1.out; omega⟩,⟨by repeat (first|(with_reducible first|exact HB.out|apply zaa|apply zab|apply zac)|exact HB.out)⟩⟩
end Go.Proofs.ZP
end
section
namespace Go.Proofs.ZP
open Go.RowKit Go.Proofs.ZW.Wa
def zer (k:Nat):ByteArray:=⟨(List.replicate k (48:UInt8)).toArray⟩
def c2_Zeros.f (a0:Int):Option ByteArray:=if 0≤a0∧a0≤1099511627776 then some (zer a0.toNat) else none
end Go.Proofs.ZP
end
section
namespace Go.Proofs.ZQ
open Go.RowKit Go.Proofs.ZW.Wa Go.Proofs.ZP
def c1_Minus.f (a0 a1:ByteArray):Option ByteArray:=ZP.c1_Minus.f a0 a1
theorem c1_Minus.calls (a0 a1:ByteArray) (r:ByteArray) (w:World) (h:c1_Minus.f a0 a1=some r) :
  Calls Tryz.prog 130 #[.string a0,.string a1] w fun e w'=>e = .returned (.string r)∧Below w.heap.size w w':=ZP.c1_Minus.calls a0 a1 r w h
theorem Minus_T {a b:Nat} (ha:(T a).size≤137438953472) (hb:(T b).size≤137438953472) (h:b≤a):c1_Minus.f (T a) (T b)=some (T (a-b)):=by
 unfold c1_Minus.f ZP.c1_Minus.f
 rw [numP_T ha,numP_T hb]
 show (if b≤a then some (T (a-b)) else none)=_
 rw [if_pos h]
def c1_Divide.f (a0 a1:ByteArray):Option (ByteArray×ByteArray):=ZP.c1_Divide.f a0 a1
theorem c1_Divide.calls (a0 a1:ByteArray) (r1 r2:ByteArray) (w:World) (h:c1_Divide.f a0 a1=some (r1,r2)) :
  Calls Tryz.prog 128 #[.string a0,.string a1] w fun e w'=>e = .returned (.tuple #[.string r1,.string r2])∧Below w.heap.size w w':=ZP.c1_Divide.calls a0 a1 r1 r2 w h
theorem Divide_T {a b:Nat} (ha:(T a).size≤137438953472) (hb:(T b).size≤137438953472) (h:0<b):c1_Divide.f (T a) (T b)=some (T (a/b),T (a%b)):=by
 unfold c1_Divide.f ZP.c1_Divide.f
 rw [numP_T ha,numP_T hb]
 show (if b=0 then none else some (T (a/b),T (a%b)))=_
 rw [if_neg (by omega)]
theorem T_zero:T 0=⟨#[48]⟩:=by unfold T; rw [zbo (by decide)]; rfl
theorem T_one:T 1=⟨#[49]⟩:=by unfold T; rw [zbo (by decide)]; rfl
theorem T_is0 {n:Nat}:(T n).toList=([48]:List UInt8)↔n=0:=by
 rw [ba_toList]
 constructor
 ·intro h
  refine T_inj ?_
  rw [T_zero]
  exact (zaD h)
 ·rintro rfl
  rw [T_zero]
theorem common_ev:∀ (b a:Nat),(T a).size≤137438953472→(T b).size≤137438953472→Ev (fun k=>ZP.c1_Common.l0 k (T a) (T b)) (T (Nat.gcd a b)):=by
 intro b
 induction b using Nat.strongRecOn with
 | ind b ih =>
  intro a ha hb
  rcases Nat.eq_zero_or_pos b with h0|h0
  ·subst h0
   rw [Nat.gcd_zero_right]
   refine Ev.step (f:=fun _=>some (T a)) (fun k => ?_) (Ev.now _)
   simp only [ZP.c1_Common.l0]
   rw [if_pos (T_is0.2 rfl)]
  ·have hm:=Nat.mod_lt a h0
   have hr:=ih (a%b) hm b hb (Nat.le_trans (zbl (Nat.le_of_lt hm)) hb)
   have hd:ZP.c1_Divide.f (T a) (T b)=some (T (a/b),T (a%b)):=Divide_T ha hb h0
   rw [Nat.gcd_comm a b,Nat.gcd_rec b a,Nat.gcd_comm]
   refine Ev.step (f:=fun k=>ZP.c1_Common.l0 k (T b) (T (a%b))) (fun k => ?_) hr
   simp only [ZP.c1_Common.l0]
   rw [if_neg (fun e=>by have:=T_is0.1 e; omega),hd]
   rfl
def c1_Common.f (a0 a1:ByteArray):Option ByteArray:=(numT a0).bind fun x=>(numT a1).bind fun y=>some (T (Nat.gcd x y))
theorem c1_Common.calls (a0 a1:ByteArray) (r:ByteArray) (w:World) (h:c1_Common.f a0 a1=some r) :
  Calls Tryz.prog 95 #[.string a0,.string a1] w fun e w'=>e = .returned (.string r)∧Below w.heap.size w w':=by
 unfold c1_Common.f at h
 obtain ⟨x,hx,h⟩:=Option.bind_eq_some_iff.1 h
 obtain ⟨y,hy,h⟩:=Option.bind_eq_some_iff.1 h
 obtain rfl:=Option.some.inj h
 obtain ⟨rfl,h1⟩:=zbD hx
 obtain ⟨rfl,h2⟩:=zbD hy
 obtain ⟨k,hk⟩:=(common_ev y x h1 h2).rounds
 exact ZP.c1_Common.calls k _ _ _ w hk
theorem Common_T {a b:Nat} (ha:(T a).size≤137438953472) (hb:(T b).size≤137438953472):c1_Common.f (T a) (T b)=some (T (Nat.gcd a b)):=by
 unfold c1_Common.f
 rw [zdu ha,zdu hb]; rfl
def c2_Zeros.f (a0:Int):Option ByteArray:=ZP.c2_Zeros.f a0
theorem Zeros_n (n:Nat) (h:n≤1099511627776):c2_Zeros.f n=some (zer n):=by
 unfold c2_Zeros.f ZP.c2_Zeros.f
 rw [if_pos (by omega),Int.toNat_natCast]; rfl
def sgn (s:Bool) (a:Nat):Int:=if s then -(a:Int) else a
theorem zc6 (s:Bool) (a:Nat):(sgn s a).natAbs=a:=by cases s<;>simp [sgn]
theorem zcF (x:Int):sgn (decide (x<0)) x.natAbs=x:=by
 unfold sgn
 by_cases h:x<0
 ·rw [decide_eq_true h,if_pos rfl]; omega
 ·rw [decide_eq_false h,if_neg (by decide)]; omega
theorem zcJ (s:Bool) (a b:Nat) (hb:0<b) :
  (Rat.divInt (sgn s a) b).num.natAbs=a/Nat.gcd a b∧(Rat.divInt (sgn s a) b).den=b/Nat.gcd a b∧decide ((Rat.divInt (sgn s a) b).num<0)=(s && decide (a≠0)):=by
 obtain ⟨h1,h2⟩:=div_parts (sgn s a) b (by omega)
 have hg:Int.gcd (sgn s a) b=Nat.gcd a b:=by unfold Int.gcd; rw [zc6,Int.natAbs_natCast]
 rw [hg,zc6] at h1
 rw [hg,Int.natAbs_natCast] at h2
 refine ⟨?_,h2,?_⟩
 ·rw [h1]
  generalize a/Nat.gcd a b=q
  unfold sg; split<;>simp
 ·rw [h1]
  have hb':¬ ((b:Nat):Int)<0:=by omega
  have hgp:0<Nat.gcd a b:=Nat.gcd_pos_of_pos_right _ hb
  have hq:a≠0→0<a/Nat.gcd a b:=fun ha=>Nat.div_pos (Nat.le_of_dvd (by omega) (Nat.gcd_dvd_left a b)) hgp
  cases s
  ·have:¬ (sgn false a)<0:=by simp [sgn]
   have e:¬ ((a/Nat.gcd a b:Nat):Int)<0:=Int.not_lt.2 (Int.natCast_nonneg _)
   simp only [this,hb',sg,decide_false,bne_self_eq_false,Bool.false_eq_true,if_false,e,Bool.false_and]
  ·by_cases ha:a=0
   ·subst ha
    simp [sgn,sg]
   ·have h3:=hq ha
    generalize a/Nat.gcd a b=q at *
    have:(sgn true a)<0:=by simp [sgn]; omega
    have e : -(q:Int)<0:=by omega
    simp only [this,hb',sg,decide_true,decide_false,Bool.true_bne,Bool.not_false,if_true,e,ne_eq,ha,not_false_eq_true,Bool.true_and]
theorem sgn_mul (s t:Bool) (a b:Nat):sgn s a*sgn t b=sgn (s != t) (a*b):=by
 cases s<;>cases t<;>simp [sgn,Int.neg_mul,Int.mul_neg]
theorem sgn_add_same (s:Bool) (a b:Nat):sgn s a+sgn s b=sgn s (a+b):=by cases s<;>simp [sgn]<;>omega
theorem sgn_add_ge (s t:Bool) (a b:Nat) (h:s≠t) (hle:b≤a):sgn s a+sgn t b=sgn s (a-b):=by cases s<;>cases t<;>simp [sgn] at *<;>omega
theorem sgn_add_lt (s t:Bool) (a b:Nat) (h:s≠t) (hle:a≤b):sgn s a+sgn t b=sgn t (b-a):=by cases s<;>cases t<;>simp [sgn] at *<;>omega
theorem zc5 (s:Bool) (a b:Nat):sgn s a*(b:Int)=sgn s (a*b):=by cases s<;>simp [sgn,Int.neg_mul]
def near (a b:Nat):Nat:=if b<2*(a%b)∨(2*(a%b)=b∧a/b%2=1) then a/b+1 else a/b
theorem num_mul (u v:Int) (hv:v≠0):(Rat.divInt u v).num*v=u*(Rat.divInt u v).den:=by
 have h:=Rat.num_divInt_den (Rat.divInt u v)
 have hd:((Rat.divInt u v).den:Int)≠0:=by have:=(Rat.divInt u v).den_nz; omega
 exact (Rat.divInt_eq_divInt_iff hd hv).1 h
theorem sign_scale {p q v d:Int} (hv:0<v) (hd:0<d) (h:p*v=d*q):p.sign=q.sign:=by
 have h1:(p*v).sign=p.sign:=by rw [Int.sign_mul,Int.sign_eq_one_of_pos hv,Int.mul_one]
 have h2:(d*q).sign=q.sign:=by rw [Int.sign_mul,Int.sign_eq_one_of_pos hd,Int.one_mul]
 rw [←h1,h,h2]
theorem zcy (a:Int):((a:Int):Rat)=Rat.divInt a 1:=by
 refine Rat.ext ?_ ?_
 ·rw [Rat.num_divInt]; simp
 ·rw [Rat.den_divInt]; simp
theorem sub_floor (x:Rat):x-(x.floor:Rat)=Rat.divInt (x.num%x.den) x.den:=by
 have hd:(x.den:Int)≠0:=by have:=x.den_nz; omega
 have h1:((x.floor:Int):Rat)=Rat.divInt x.floor 1:=zcy _
 conv=>lhs; lhs; rw [←Rat.num_divInt_den x]
 rw [h1,Rat.divInt_sub_divInt _ _ hd (by decide),Int.mul_one,Int.mul_one,Rat.floor_def]
 congr 1
 have:=Int.emod_add_mul_ediv x.num x.den
 rw [Int.mul_comm] at this
 omega
theorem half_sign (x:Rat):halfS x=(2*(x.num%x.den)-x.den).sign:=by
 have hd:(0:Int)<x.den:=by have:=x.den_pos; omega
 have e1:(Rat.divInt 1 2).den=2:=by decide
 have e2:(Rat.divInt 1 2).num=1:=by decide
 unfold halfS
 rw [e1,e2,sub_floor]
 have hn:=num_mul (x.num%x.den) x.den (by omega)
 have hp:(0:Int)<(Rat.divInt (x.num%x.den) x.den).den:=by have:=(Rat.divInt (x.num%x.den) x.den).den_pos; omega
 refine sign_scale hd hp ?_
 generalize (Rat.divInt (x.num%x.den) x.den).num=n at *
 generalize ((Rat.divInt (x.num%x.den) x.den).den:Int)=m at *
 grind
theorem even_eq (x:Rat):evenR x=if (x.den:Int)<2*(x.num%x.den)∨(2*(x.num%x.den)=x.den∧(x.num/x.den).natAbs%2=1) then x.num/x.den+1 else x.num/x.den:=by
 have h1:0<halfS x↔(x.den:Int)<2*(x.num%x.den):=by rw [half_sign,Int.sign_pos_iff]; omega
 have h2:halfS x=0↔2*(x.num%x.den)=x.den:=by rw [half_sign,Int.sign_eq_zero_iff_zero]; omega
 unfold evenR
 rw [Rat.floor_def]
 simp only [h1,h2]
theorem even_sgn (s:Bool) (a b:Nat) (hb:0<b):(if (b:Int)<2*(sgn s a%b)∨(2*(sgn s a%b)=b∧(sgn s a/b).natAbs%2=1) then sgn s a/b+1 else sgn s a/b)=sgn s (near a b):=by
 have h1:=Nat.div_add_mod a b
 have h2:=Nat.mod_lt a hb
 cases s
 ·have e1:sgn false a=a:=rfl
  have e2:((a:Int))%b=((a%b:Nat):Int):=(Int.natCast_emod _ _).symm
  have e3:((a:Int))/b=((a/b:Nat):Int):=(Int.natCast_ediv _ _).symm
  rw [e1,e2,e3]
  unfold near
  generalize a%b=r at *
  generalize a/b=q at *
  have e4:∀ n,sgn false n=n:=fun _=>rfl
  rw [e4]
  simp only [Int.natAbs_natCast]
  split<;>split<;>omega
 ·have e1:sgn true a = -a:=rfl
  have e4:∀ n,sgn true n = -n:=fun _=>rfl
  rw [e1,e4]
  by_cases hz:a%b=0
  ·have e5:(-(a:Int))/b = -((a/b:Nat):Int)∧(-(a:Int))%b=0:=by
    refine (Int.ediv_emod_unique (by omega)).2 ⟨?_,by omega,by omega⟩
    rw [hz,Nat.add_zero] at h1
    have:((b*(a/b):Nat):Int)=a:=by rw [h1]
    rw [Int.natCast_mul] at this
    rw [Int.mul_neg]; omega
   rw [e5.1,e5.2]
   unfold near
   rw [hz]
   generalize a/b=q at *
   split<;>split<;>omega
  ·have e5:(-(a:Int))/b = -((a/b:Nat):Int)-1∧(-(a:Int))%b=b-((a%b:Nat):Int):=by
    refine (Int.ediv_emod_unique (by omega)).2 ⟨?_,by omega,by omega⟩
    have:((b*(a/b)+a%b:Nat):Int)=a:=by rw [h1]
    rw [Int.natCast_add,Int.natCast_mul] at this
    rw [Int.mul_sub,Int.mul_neg,Int.mul_one]; omega
   rw [e5.1,e5.2]
   unfold near
   generalize a%b=r at *
   generalize a/b=q at *
   split<;>split<;>omega
theorem even_near (x:Rat):evenR x=sgn (decide (x.num<0)) (near x.num.natAbs x.den):=by
 have h:=even_sgn (decide (x.num<0)) x.num.natAbs x.den x.den_pos
 have hs:sgn (decide (x.num<0)) x.num.natAbs=x.num:=by
  unfold sgn
  by_cases h:x.num<0
  ·rw [decide_eq_true h,if_pos rfl]; omega
  ·rw [decide_eq_false h,if_neg (by decide)]; omega
 rw [hs] at h
 rw [even_eq]
 exact h
theorem near_scale (a b k:Nat) (hk:0<k):near (a*k) (b*k)=near a b:=by
 unfold near
 rw [Nat.mul_div_mul_right _ _ hk,Nat.mul_mod_mul_right]
 have h1:b*k<2*(a%b*k)↔b<2*(a%b):=by
  rw [←Nat.mul_assoc]; exact Nat.mul_lt_mul_right hk
 have h2:2*(a%b*k)=b*k↔2*(a%b)=b:=by
  rw [←Nat.mul_assoc]; exact Nat.mul_left_inj (by omega)
 simp only [h1,h2]
theorem near_div (x:Rat) (a b:Nat) (hb:0<b) (h:x.num.natAbs*b=a*x.den):near x.num.natAbs x.den=near a b:=by
 rw [←near_scale x.num.natAbs x.den b hb,h,Nat.mul_comm x.den b,near_scale a b x.den x.den_pos]
end Go.Proofs.ZQ
end
section
namespace Go.Proofs.ZQ
open Go.RowKit Go.Proofs.ZW.Wa Go.Proofs.ZW.Wb Go.Proofs.ZW.Wc
attribute [local go_sem] zaC zaB zaM zaL zaz zay zaF zaE
noncomputable def errW:Option Int→Value
 | none => .nilIface
 | some c => .iface 0 (.int .i64 c)
theorem zao:errW none = .nilIface:=rfl
theorem zan (c:Int):errW (some c) = .iface 0 (.int .i64 c):=rfl
theorem info3:(Tryz.prog.info? 3).map (fun i=>(i.zero,i.size,i.bytes))=some (some (.int .i64 0),1,8):=by kernel_rfl
theorem info171:(Tryz.prog.info? 171).map (fun i=>(i.zero,i.size,i.bytes))=some (some (.int .u32 0),1,4):=by kernel_rfl
noncomputable def c2_Told.j0:Nat→Bool→Bool→ByteArray→ByteArray→Option (ByteArray×ByteArray×Int)
 | 0,_,_,_,_=>none
 | k+1,x13,x558000,x558001,x558002=>if x13=true then (some ((⟨#[]⟩:ByteArray),(⟨#[]⟩:ByteArray),7)) else (if x558000=true then (if 1+x558001.size≤9223372036854775807 then (some ((⟨#[45]⟩:ByteArray)++x558001,x558002,0)) else (none)) else (some (x558001,x558002,0)))
noncomputable def c2_Told.f (k:Nat) (a0_0:Bool) (a0_1:ByteArray) (a0_2:ByteArray):Option (ByteArray×ByteArray×Int):=if (a0_1.size:Int)>600 then (c2_Told.j0 k true a0_0 a0_1 a0_2) else (c2_Told.j0 k (decide ((a0_2.size:Int)>600)) a0_0 a0_1 a0_2)
noncomputable def c2_Lowest.f (a0:Bool) (a1:ByteArray) (a2:ByteArray):Option (Bool×ByteArray×ByteArray):=if a1.toList=([48]:List UInt8) then (some (false,(⟨#[48]⟩:ByteArray),(⟨#[49]⟩:ByteArray))) else ((c1_Common.f a1 a2).bind fun t560=>((c1_Divide.f a1 t560).bind fun bt561=>((c1_Divide.f a2 t560).bind fun bt563=>(some (a0,bt561.1,bt563.1)))))
noncomputable def c2_Right.j0:Nat→ByteArray→Bool→ByteArray→ByteArray→Option (Bool)
 | 0,_,_,_,_=>none
 | k+1,x3,x12,x407000,x407001=>if x12=true then (if 1≤(x3.size:Int) then (if (x3.extract 1 x3.size).toList=([48]:List UInt8) then (some false) else ((c1_Right.f (x3.extract 1 x3.size)).bind fun t407=>(if t407=true then ((c1_Right.f x407001).bind fun t408=>(if t408=true then (if x407001.toList=([48]:List UInt8) then (some false) else ((c1_Common.f (x3.extract 1 x3.size) x407001).bind fun t409=>(some (t409.toList == ([49]:List UInt8))))) else (some false))) else (some false)))) else (none)) else ((c1_Right.f x3).bind fun t410=>(if t410=true then ((c1_Right.f x407001).bind fun t411=>(if t411=true then (if x407001.toList=([48]:List UInt8) then (some false) else ((c1_Common.f x3 x407001).bind fun t412=>(some (t412.toList == ([49]:List UInt8))))) else (some false))) else (some false)))
noncomputable def c2_Right.f (k:Nat) (a0_0:ByteArray) (a0_1:ByteArray):Option (Bool):=if a0_0.toList=([]:List UInt8) then (c2_Right.j0 k a0_0 false a0_0 a0_1) else (if 0<(a0_0.size:Int) then (c2_Right.j0 k a0_0 ((bt a0_0 0) == 45) a0_0 a0_1) else (none))
mutual
noncomputable def c2_New.j0:Nat→ByteArray→ByteArray→Bool→Option (ByteArray×ByteArray×Int)
 | 0,_,_,_=>none
 | k+1,x0,x1,x6=>if x6=true then (if 1≤(x0.size:Int) then (c2_New.j1 k (x0.extract 1 x0.size) x1 x6) else (none)) else (c2_New.j1 k x0 x1 x6)
noncomputable def c2_New.j1:Nat→ByteArray→ByteArray→Bool→Option (ByteArray×ByteArray×Int)
 | 0,_,_,_=>none
 | k+1,x0,x1,x6=>(c1_Right.f x0).bind fun t566=>(if t566=true then ((c1_Right.f x1).bind fun t567=>(c2_New.j2 k x0 x1 x6 (!t567))) else (c2_New.j2 k x0 x1 x6 true))
noncomputable def c2_New.j2:Nat→ByteArray→ByteArray→Bool→Bool→Option (ByteArray×ByteArray×Int)
 | 0,_,_,_,_=>none
 | k+1,x0,x1,x6,x24=>if x24=true then (some ((⟨#[]⟩:ByteArray),(⟨#[]⟩:ByteArray),3)) else (if x1.toList=([48]:List UInt8) then (some ((⟨#[]⟩:ByteArray),(⟨#[]⟩:ByteArray),8)) else ((c2_Lowest.f x6 x0 x1).bind fun bt568=>((c2_Told.f k bt568.1 bt568.2.1 bt568.2.2).bind fun bt571=>(some (bt571.1,bt571.2.1,bt571.2.2)))))
end
noncomputable def c2_New.f (k:Nat) (a0:ByteArray) (a1:ByteArray):Option (ByteArray×ByteArray×Int):=if a0.toList=([]:List UInt8) then (c2_New.j0 k a0 a1 false) else (if 0<(a0.size:Int) then (c2_New.j0 k a0 a1 ((bt a0 0) == 45)) else (none))
noncomputable def c2_Whole.f (a0:Int):Option (Bool×ByteArray×ByteArray):=if a0<0 then ((c1_Of.f (IntKind.u64.wrap ((IntKind.u64.wrap (wrap64 (-(wrap64 (a0+1)))))+1))).bind fun t414=>(some (true,t414,(⟨#[49]⟩:ByteArray)))) else ((c1_Of.f (IntKind.u64.wrap (a0))).bind fun t415=>(some (false,t415,(⟨#[49]⟩:ByteArray))))
noncomputable def c2_Read.j0:Nat→Bool→ByteArray→ByteArray→Option (Bool×ByteArray×ByteArray)
 | 0,_,_,_=>none
 | k+1,x10,x417000,x417001=>if x10=true then ((c2_Whole.f 0).bind fun bt418=>(some (bt418.1,bt418.2.1,bt418.2.2))) else (if 0<(x417000.size:Int) then (if (bt x417000 0)=45 then (if 1≤(x417000.size:Int) then (some (true,x417000.extract 1 x417000.size,x417001)) else (none)) else (some (false,x417000,x417001))) else (none))
noncomputable def c2_Read.f (k:Nat) (a0_0:ByteArray) (a0_1:ByteArray):Option (Bool×ByteArray×ByteArray):=if a0_0.toList=([]:List UInt8) then (c2_Read.j0 k true a0_0 a0_1) else (c2_Read.j0 k (a0_1.toList == ([]:List UInt8)) a0_0 a0_1)
noncomputable def c2_Of.f (k:Nat) (a0:Int):Option (ByteArray×ByteArray):=(c2_Whole.f a0).bind fun bt575=>((c2_Told.f k bt575.1 bt575.2.1 bt575.2.2).bind fun bt578=>(some (bt578.1,bt578.2.1)))
end Go.Proofs.ZQ
end
section
namespace Go.Proofs.ZQ
open Go.RowKit Go.Proofs.ZW.Wa Go.Proofs.ZP
def Fr (x:Rat):Bool×ByteArray×ByteArray:=(decide (x.num<0),T x.num.natAbs,T x.den)
theorem zb9 {x:Int} (h:x<0):wtext x=(⟨#[45]⟩:ByteArray)++T x.natAbs:=by
 refine (zaD (zaT h)).trans (zaD ?_).symm
 simp
theorem told_ev (x:Rat):Ev (fun k=>c2_Told.f k (Fr x).1 (Fr x).2.1 (Fr x).2.2) (toldR x):=by
 have s1:=zas (n:=x.num.natAbs) (k:=600) (by decide)
 have s2:=zas (n:=x.den) (k:=600) (by decide)
 unfold c2_Told.f
 show Ev (fun k=>if ((T x.num.natAbs).size:Int)>600 then _ else _) _
 by_cases h1:((T x.num.natAbs).size:Int)>600
 ·refine Ev.congr (fun k=>if_pos h1) (Ev.step (f:=fun _=>some (⟨#[]⟩,⟨#[]⟩,7)) (fun k => ?_) ?_)
  ·simp only [c2_Told.j0]
   rw [if_pos trivial]
  ·have:toldR x=(⟨#[]⟩,⟨#[]⟩,7):=if_neg (fun h=>by have:=s1.2 h.1; omega)
   rw [this]; exact Ev.now _
 ·refine Ev.congr (fun k=>if_neg h1) ?_
  by_cases h2:((T x.den).size:Int)>600
  ·refine Ev.step (f:=fun _=>some (⟨#[]⟩,⟨#[]⟩,7)) (fun k => ?_) ?_
   ·show c2_Told.j0 (k+1) (decide (((T x.den).size:Int)>600)) _ _ _=_
    rw [decide_eq_true h2]
    simp only [c2_Told.j0]
    rw [if_pos trivial]
   ·have:toldR x=(⟨#[]⟩,⟨#[]⟩,7):=if_neg (fun h=>by have:=s2.2 h.2; omega)
    rw [this]; exact Ev.now _
  ·have ht:toldR x=(wtext x.num,T x.den,0):=if_pos ⟨s1.1 (by omega),s2.1 (by omega)⟩
   rw [ht]
   refine Ev.step (f:=fun _=>some (wtext x.num,T x.den,0)) (fun k => ?_) (Ev.now _)
   show c2_Told.j0 (k+1) (decide (((T x.den).size:Int)>600)) (decide (x.num<0)) (T x.num.natAbs) (T x.den)=_
   rw [decide_eq_false h2]
   simp only [c2_Told.j0]
   rw [if_neg (by decide)]
   by_cases hn:x.num<0
   ·rw [if_pos (decide_eq_true hn),if_pos (by omega),zb9 hn]
   ·rw [if_neg (by simpa using hn),zaK (by omega)]
theorem T_1:(⟨#[49]⟩:ByteArray)=T 1:=T_one.symm
theorem T_0:(⟨#[48]⟩:ByteArray)=T 0:=T_zero.symm
theorem fr_of (s:Bool) (a b:Nat) (hb:0<b):Fr (Rat.divInt (sgn s a) b)=(s && decide (a≠0),T (a/Nat.gcd a b),T (b/Nat.gcd a b)):=by
 obtain ⟨h1,h2,h3⟩:=zcJ s a b hb
 unfold Fr
 rw [h1,h2,h3]
def spl (a:ByteArray):Bool×ByteArray:=if a.data.toList.head? = some 45 then (true,a.extract 1 a.size) else (false,a)
theorem spl_wtext (s:Bool) (m:Nat) (h:s=true→m≠0):spl (wtext (sgn s m))=(s,T m):=by
 have hz:sgn s m=0→s=false:=fun e=>by
  cases s
  ·rfl
  ·have:=h rfl
   simp [sgn] at e
   omega
 unfold spl
 cases s
 ·have:wtext (sgn false m)=T m:=by rw [zaK (by simp [sgn]),zc6]
  rw [this,if_neg ?_]
  intro e
  rcases hd:(T m).data.toList with _|⟨c,t⟩
  ·rw [hd] at e; simp at e
  ·rw [hd] at e
   injection e with e
   subst e
   exact zcN m t hd
 ·have hneg:sgn true m<0:=by have:=h rfl; simp [sgn]; omega
  have hw:=zaT hneg
  rw [zc6] at hw
  have e:(wtext (sgn true m)).extract 1 (wtext (sgn true m)).size=T m:=by
   refine (zaD ?_).trans (zaD rfl).symm
   rw [ByteArray.data_extract,Array.toList_extract,List.extract_eq_take_drop,←zak,hw,List.length_cons,List.drop_succ_cons,List.drop_zero,Nat.add_sub_cancel,List.take_length]
  rw [hw,List.head?_cons,if_pos rfl,e]
theorem spl_neg {a:ByteArray} (h:(spl a).1=true):a=(⟨#[45]⟩:ByteArray)++(spl a).2∧(spl a).2=a.extract 1 a.size:=by
 unfold spl at h ⊢
 split at h
 ·rename_i hh
  rw [if_pos hh]
  refine ⟨?_,rfl⟩
  rcases hd:a.data.toList with _|⟨c,t⟩
  ·rw [hd] at hh; simp at hh
  ·rw [hd] at hh
   injection hh with hh
   subst hh
   refine (zaD hd).trans (zaD ?_).symm
   rw [ByteArray.data_append,Array.toList_append,ByteArray.data_extract,Array.toList_extract,List.extract_eq_take_drop,hd,←zak,hd]
   simp
 ·cases h
theorem spl_pos {a:ByteArray} (h:(spl a).1=false):(spl a).2=a:=by
 unfold spl at h ⊢
 split at h
 ·cases h
 ·rename_i hh; rw [if_neg hh]
theorem rr_iff (a b:ByteArray) (x:Rat):RR a b x↔∃ m n:Nat,(spl a).2=T m∧b=T n∧m<10^600∧n<10^600∧0<n∧Nat.gcd m n=1∧((spl a).1=true→m≠0)∧x=Rat.divInt (sgn (spl a).1 m) n:=by
 constructor
 ·intro h
  have hs:spl a=(decide (x.num<0),T x.num.natAbs):=by
   rw [h.num]
   conv=>lhs; rw [←zcF x.num]
   exact spl_wtext _ _ (fun e=>by have:=of_decide_eq_true e; omega)
  rw [hs]
  refine ⟨x.num.natAbs,x.den,rfl,h.den,h.ln,h.ld,x.den_pos,x.reduced,fun e=>by have:=of_decide_eq_true e; omega,?_⟩
  show x=Rat.divInt (sgn (decide (x.num<0)) x.num.natAbs) x.den
  rw [zcF,zbN]
 ·rintro ⟨m,n,h1,h2,h3,h4,h5,h6,h7,h8⟩
  obtain ⟨f1,f2,f3⟩:=zcJ (spl a).1 m n h5
  rw [h6,Nat.div_one] at f1 f2
  rw [←h8] at f1 f2 f3
  have hnum:x.num=sgn (spl a).1 m:=by
   rw [←zcF x.num,f1,f3]
   cases hs:(spl a).1
   ·rfl
   ·rw [decide_eq_true (h7 hs)]; rfl
  refine ⟨?_,by rw [f2]; exact h2,by rw [f1]; exact h3,by rw [f2]; exact h4⟩
  rw [hnum]
  cases hs:(spl a).1
  ·rw [zaK (by simp [sgn]),zc6,←h1]; exact (spl_pos hs).symm
  ·rw [zb9 (by have:=h7 hs; simp [sgn]; omega),zc6,←h1]; exact (spl_neg hs).1
def coreB (neg:Bool) (t b:ByteArray):Bool:=rightB t && rightB b && decide (b≠T 0) && decide (neg=true→t≠T 0) && decide (Nat.gcd (dval t.data.toList) (dval b.data.toList)=1)
theorem core_iff (a b:ByteArray):coreB (spl a).1 (spl a).2 b=true↔∃ x,RR a b x:=by
 unfold coreB
 simp only [Bool.and_eq_true,decide_eq_true_eq]
 constructor
 ·rintro ⟨⟨⟨⟨h1,h2⟩,h3⟩,h4⟩,h5⟩
  obtain ⟨m,hm,hm2⟩:=right_iff.1 h1
  obtain ⟨n,hn,hn2⟩:=right_iff.1 h2
  rw [hm,hn,za8,za8] at h5
  refine ⟨_,(rr_iff a b _).2 ⟨m,n,hm,hn,hm2,hn2,?_,h5,fun e => ?_,rfl⟩⟩
  ·rcases Nat.eq_zero_or_pos n with h0|h0
   ·subst h0; exact absurd hn h3
   ·exact h0
  ·intro h0; subst h0; exact h4 e hm
 ·rintro ⟨x,hx⟩
  obtain ⟨m,n,h1,h2,h3,h4,h5,h6,h7,h8⟩:=(rr_iff a b x).1 hx
  rw [h1,h2,za8,za8]
  exact ⟨⟨⟨⟨right_iff.2 ⟨m,rfl,h3⟩,right_iff.2 ⟨n,rfl,h4⟩⟩,fun e=>by have:=T_inj e; omega⟩,fun e e2=>h7 e (T_inj e2)⟩,h6⟩
theorem b48 {s:ByteArray}:s.toList=([48]:List UInt8)↔s=T 0:=by
 rw [ba_toList]
 constructor
 ·intro h; rw [T_zero]; exact zaD h
 ·rintro rfl; rw [T_zero]
theorem b49 {s:ByteArray}:(s.toList == ([49]:List UInt8))=decide (s=T 1):=by
 rw [Bool.eq_iff_iff,beq_iff_eq,decide_eq_true_eq,ba_toList]
 constructor
 ·intro h; rw [T_one]; exact zaD h
 ·rintro rfl; rw [T_one]
theorem right_core (t b:ByteArray) (neg:Bool) (h:neg=true→t≠T 0):((c1_Right.f t).bind fun t410=>(if t410=true then ((c1_Right.f b).bind fun t411=>(if t411=true then (if b.toList=([48]:List UInt8) then (some false) else ((c1_Common.f t b).bind fun t412=>(some (t412.toList == ([49]:List UInt8))))) else (some false))) else (some false)))=some (coreB neg t b):=by
 unfold c1_Right.f coreB
 rw [Option.bind_some,Option.bind_some]
 cases h1:rightB t
 ·rw [if_neg (by decide)]; simp
 ·rw [if_pos rfl]
  cases h2:rightB b
  ·rw [if_neg (by decide)]; simp
  ·obtain ⟨m,rfl,hm2⟩:=right_iff.1 h1
   obtain ⟨n,rfl,hn2⟩:=right_iff.1 h2
   have sm:=(zas (k:=600) (by decide)).2 hm2
   have sn:=(zas (k:=600) (by decide)).2 hn2
   rw [if_pos rfl]
   by_cases h3:T n=T 0
   ·rw [if_pos (b48.2 h3)]; simp [h3]
   ·rw [if_neg (fun e=>h3 (b48.1 e)),Common_T (by omega) (by omega),Option.bind_some,b49,za8,za8]
    have e1:(T (Nat.gcd m n)=T 1)↔Nat.gcd m n=1:=T_eq_iff
    by_cases hn:neg=true
    ·have h4:=h hn
     simp [h3,h4,e1]
    ·simp [h3,hn,e1]
theorem bt0 {s:ByteArray} (h:0<s.size):(bt s 0 == 45)=(spl s).1:=by
 have hl:0<s.data.toList.length:=by rw [zak]; exact h
 have hb:=bt_nth s hl
 have hb':bt s 0=(s.data.toList[0].toNat:Int):=hb
 have hh:s.data.toList.head? = some s.data.toList[0]:=by rw [List.head?_eq_getElem?,List.getElem?_eq_getElem hl]
 unfold spl
 rw [hh,hb']
 by_cases hc:s.data.toList[0]=45
 ·rw [hc,if_pos rfl]; rfl
 ·rw [if_neg (fun e=>hc (Option.some.inj e))]
  have:(s.data.toList[0].toNat:Int)≠45:=fun e=>hc (UInt8.toNat_inj.1 (by
   have h2:(45:UInt8).toNat=45:=rfl
   omega))
  exact beq_eq_false_iff_ne.2 this
theorem spl_empty {s:ByteArray} (h:s.toList=([]:List UInt8)):spl s=(false,s):=by
 unfold spl
 rw [ba_toList] at h
 rw [h,if_neg (by simp)]
theorem size_pos_of {s:ByteArray} (h:¬ s.toList=([]:List UInt8)):0<s.size:=by
 rw [ba_toList] at h
 rw [←zak]
 exact List.length_pos_iff.2 h
theorem right_j (a b:ByteArray):Ev (fun k=>c2_Right.j0 k a (spl a).1 a b) (coreB (spl a).1 (spl a).2 b):=by
 refine Ev.step (f:=fun _=>some (coreB (spl a).1 (spl a).2 b)) (fun k => ?_) (Ev.now _)
 simp only [c2_Right.j0]
 cases hs:(spl a).1
 ·rw [if_neg (by decide),spl_pos hs]
  exact right_core a b false (fun e=>by cases e)
 ·obtain ⟨e1,e2⟩:=spl_neg hs
  have hsz:1≤(a.size:Int):=by
   have:a.size=1+(spl a).2.size:=by
    have h:=congrArg ByteArray.size e1
    rw [ByteArray.size_append] at h
    exact h
   omega
  rw [if_pos rfl,if_pos hsz,←e2]
  by_cases h0:(spl a).2=T 0
  ·rw [if_pos (b48.2 h0)]
   unfold coreB
   rw [h0]; simp
  ·rw [if_neg (fun e=>h0 (b48.1 e))]
   exact right_core _ b true (fun _=>h0)
theorem right_ev (a b:ByteArray):Ev (fun k=>c2_Right.f k a b) (coreB (spl a).1 (spl a).2 b):=by
 unfold c2_Right.f
 by_cases h:a.toList=([]:List UInt8)
 ·refine Ev.congr (fun k=>if_pos h) ?_
  have:=right_j a b
  rw [spl_empty h] at this ⊢
  exact this
 ·have hp:=size_pos_of h
  refine Ev.congr (fun k=>(if_neg h).trans (if_pos (by omega))) ?_
  rw [bt0 hp]
  exact right_j a b
theorem fr_int (n:Int):Fr (Rat.divInt n 1)=(decide (n<0),T n.natAbs,T 1):=by
 have h:=fr_of (decide (n<0)) n.natAbs 1 (by decide)
 rw [zcF,Nat.gcd_one_right,Nat.div_one,Nat.div_one] at h
 refine h.trans ?_
 by_cases hn:n<0
 ·rw [decide_eq_true hn,decide_eq_true (show n.natAbs≠0 by omega)]; rfl
 ·rw [decide_eq_false hn]; rfl
theorem whole_f (n:Int) (h0 : -9223372036854775808≤n) (h1:n<9223372036854775808):c2_Whole.f n=some (Fr (Rat.divInt n 1)):=by
 rw [fr_int]
 unfold c2_Whole.f c1_Of.f
 by_cases hn:n<0
 ·have e:IntKind.u64.wrap ((IntKind.u64.wrap (wrap64 (-(wrap64 (n+1)))))+1)=(n.natAbs:Int):=by
   have e1:wrap64 (n+1)=n+1:=by unfold wrap64; omega
   have e2:wrap64 (-(n+1)) = -(n+1):=by unfold wrap64; omega
   rw [e1,e2]
   have e3:IntKind.u64.wrap (-(n+1)) = -(n+1):=u64w (by omega) (by omega)
   rw [e3,u64w (by omega) (by omega)]; omega
  rw [if_pos hn,e,if_pos (by omega),Option.bind_some,Int.toNat_natCast,decide_eq_true hn,T_1]
 ·rw [if_neg hn,u64w (by omega) (by omega),if_pos (by omega),Option.bind_some,decide_eq_false hn,T_1]
  have:n.toNat=n.natAbs:=by omega
  rw [this]
theorem told_int (n:Int) (h0 : -9223372036854775808≤n) (h1:n<9223372036854775808):toldR (Rat.divInt n 1)=(wtext n,⟨#[49]⟩,0):=by
 have hf:=fr_int n
 unfold Fr at hf
 have e1:(Rat.divInt n 1).num=n:=by rw [Rat.num_divInt]; simp
 have e2:(Rat.divInt n 1).den=1:=by rw [Rat.den_divInt]; simp
 unfold toldR
 have hs:Sm (Rat.divInt n 1):=by
  unfold Sm
  rw [e1,e2]
  have h:(10:Nat)^20≤10^600:=Nat.pow_le_pow_right (by decide) (by decide)
  have h2:n.natAbs<10^20:=by
   have:(10:Nat)^20=100000000000000000000:=by decide
   omega
  have h3:1<(10:Nat)^20:=by decide
  exact ⟨Nat.lt_of_lt_of_le h2 h,Nat.lt_of_lt_of_le h3 h⟩
 rw [if_pos hs,e1,e2,T_one]
theorem of_ev (n:Int) (h0 : -9223372036854775808≤n) (h1:n<9223372036854775808):Ev (fun k=>c2_Of.f k n) (wtext n,⟨#[49]⟩):=by
 unfold c2_Of.f
 rw [whole_f n h0 h1]
 refine Ev.congr (f:=fun k=>(c2_Told.f k (Fr (Rat.divInt n 1)).1 (Fr (Rat.divInt n 1)).2.1 (Fr (Rat.divInt n 1)).2.2).bind fun bt578=>(some (bt578.1,bt578.2.1))) (fun k=>rfl) ?_
 have h:=told_ev (Rat.divInt n 1)
 rw [told_int n h0 h1] at h
 exact Ev.bind h (Ev.now _)
end Go.Proofs.ZQ
end
section
namespace Go.Proofs.ZQ
open Go.RowKit Go.Proofs.ZW.Wa Go.Proofs.ZW.Wb Go.Proofs.ZW.Wc
attribute [local go_sem] zaC zaB zaM zaL zaz zay zaF zaE
noncomputable def c2_Near.f (a0:ByteArray) (a1:ByteArray):Option (ByteArray):=(c1_Divide.f a0 a1).bind fun bt421=>((c1_Times.f bt421.2 (⟨#[50]⟩:ByteArray)).bind fun t423=>((c1_Compare.f t423 a1).bind fun t424=>(if t424>0 then ((c1_Plus.f bt421.1 (⟨#[49]⟩:ByteArray)).bind fun t425=>(some t425)) else (if t424=0 then (if 0≤(wrap64 ((bt421.1.size:Int)-1)) then (if (wrap64 ((bt421.1.size:Int)-1))<(bt421.1.size:Int) then (if ((((bt bt421.1 (wrap64 ((bt421.1.size:Int)-1)))-48)%256)%2)=1 then ((c1_Plus.f bt421.1 (⟨#[49]⟩:ByteArray)).bind fun t426=>(some t426)) else (some bt421.1)) else (none)) else (none)) else (some bt421.1)))))
noncomputable def c2_Steps.f (a0_0:Bool) (a0_1:ByteArray) (a0_2:ByteArray) (a1:Int):Option (ByteArray):=if a1≥0 then ((c2_Zeros.f a1).bind fun t428=>(if 1+t428.size≤9223372036854775807 then ((c1_Times.f a0_1 ((⟨#[49]⟩:ByteArray)++t428)).bind fun t429=>((c2_Near.f t429 a0_2).bind fun t430=>(some t430))) else (none))) else ((c2_Zeros.f (wrap64 (-a1))).bind fun t431=>(if 1+t431.size≤9223372036854775807 then ((c1_Times.f a0_2 ((⟨#[49]⟩:ByteArray)++t431)).bind fun t432=>((c2_Near.f a0_1 t432).bind fun t433=>(some t433))) else (none)))
noncomputable def c2_Steps.B2:List Nat:=[0,1,0,4,12,31,0,64,255,511]
end Go.Proofs.ZQ
end
