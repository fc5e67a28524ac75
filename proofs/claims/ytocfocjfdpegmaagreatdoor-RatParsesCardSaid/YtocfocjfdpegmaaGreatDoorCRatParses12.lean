/- Texts under the proof, joined by a program (prune.py): HDivide, HAddAlias, HRatEven, QRatDigits, P43, HZeros, QRef4, QFrac, Q0. -/
import Derived.Test.YtocfocjfdpegmaaGreatDoorCRatParses11
import Derived.Test.YtocfocjfdpegmaaGreatDoorCRatParses03
import Derived.Test.YtocfocjfdpegmaaGreatDoorCRatParses08
import Derived.Test.YtocfocjfdpegmaaGreatDoorCRatParses09
import Derived.Test.YtocfocjfdpegmaaGreatDoorCRatParses02
import Derived.Test.YtocfocjfdpegmaaGreatDoorCRatParses10
import Derived.Test.YtocfocjfdpegmaaGreatDoorProg
import Derived.Below
import Derived.Deep.Draws
import Derived.Deep.AppendLies
import Derived.Maps.AppendAt
import Derived.OwnWalk
import Derived.Laws.BytesArg
import Derived.Laws.MakeOwn
import Derived.Laws.OwnMore
import Derived.Deep.OwnRows
import Derived.Tactics
import Derived.Lib.ConvBytes
import Derived.Laws.Slices
import Derived.WalkKit
import Derived.KernelRfl
import Derived.RowKit3
import Derived.Deep.LoopGhost
import Derived.Deep.QuietTactic
import Derived.BigQuiet
import Derived.WideLaws
import Derived.Deep.DeepCutAuto
import Derived.Deep.CutBlock
import Derived.Deep.RegionHeld3
import Derived.Laws.Rows
import Derived.Lib.AppendStr
import Derived.ArgAppend
import Derived.Laws.IdiomCopy
import Derived.OrdersHeld
import Derived.Laws.BitsLemmas
import Derived.RowKit
import Derived.Test.YtocfocjfdpegmaaGreatDoorCRatParses00
import Derived.Test.YtocfocjfdpegmaaGreatDoorCRatParses01
set_option linter.unusedVariables false
set_option linter.unusedSimpArgs false
set_option exponentiation.threshold 20001
set_option maxHeartbeats 8000000
set_option maxRecDepth 100000
section
namespace Go.Proofs.ZP
open Go.RowKit Go.Proofs.ZW.Wa
theorem rless_calls (A1:Option Addr) (c1:Nat) (xs:List Int) (A2:Option Addr) (c2:Nat) (ys:List Int) (w:World) (h1:Kd.C (Kd.int .i64) w A1 xs.length xs) (k1:xs.length≤c1) (h2:Kd.C (Kd.int .i64) w A2 ys.length ys) (k2:ys.length≤c2)
  (hx:Ld xs) (hy:Ld ys) (tx:xs.getLast? ≠ some 0) (ty:ys.getLast? ≠ some 0) (hm:xs.length≤1099511627776) :
  Calls Tryz.prog 216 #[.slice A1 xs.length c1,.slice A2 ys.length c2] w fun e w'=>e = .returned (.bool (decide (lv xs<lv ys)))∧Below w.heap.size w w':=by
 obtain ⟨k,hk⟩:=(less_ev xs ys hx hy tx ty hm).rounds
 exact (ZP.c1_less.calls k A1 c1 xs A2 c2 ys _ w h1 k1 h2 k2 hk).mono fun e w' ⟨he,hd⟩=>⟨he,by obtain ⟨n,rfl⟩:=hd; exact zai _ _⟩
theorem rfits_calls (A1:Option Addr) (c1:Nat) (xs:List Int) (A2:Option Addr) (c2:Nat) (ys:List Int) (up:Nat) (w:World) (h1:Kd.C (Kd.int .i64) w A1 xs.length xs) (k1:xs.length≤c1) (h2:Kd.C (Kd.int .i64) w A2 ys.length ys) (k2:ys.length≤c2)
  (hx:Ld xs) (hy:Ld ys) (hu:up≤xs.length) (hlx:xs.length≤1000000000000) (hly:ys.length≤1000000000000) (hY:0<lv ys) (hlt:lv (xs.drop up)<10000*lv ys) :
  Calls Tryz.prog 217 #[.slice A1 xs.length c1,.slice A2 ys.length c2,.int .i64 up] w fun e w'=>e = .returned (.int .i64 (lv (xs.drop up)/lv ys))∧Below w.heap.size w w':=by
 obtain ⟨k,hk⟩:=(fits_ev xs ys hx hy up hu hlx hly hY hlt).rounds
 exact ZP.c1_fits.calls k A1 c1 xs A2 c2 ys up _ w h1 k1 h2 k2 hk
structure QSt (w w1 wr:World) (g c1 n:Nat) (A2:Option Addr) (c2:Nat) (ys:List Int) (gq:Nat) (X0:Int) (xs q:List Int) (j:Nat):Prop where
 dv:DV X0 (lv ys) n xs q j
 le:j+ys.length≤n+1
 ox:wr.ownsRow w.heap.size 3 1 (.slice (some ⟨g,0,none⟩) n c1) n (nums .i64 xs)
 oy:wr.ownsRow w1.heap.size 3 1 (.slice A2 ys.length c2) ys.length (nums .i64 ys)
 oq:wr.ownsRow w.heap.size 3 1 (.slice (some ⟨gq,0,none⟩) n n) n (nums .i64 q)
 below:Below w.heap.size w wr
theorem QSt.below' {w w1 wr w':World} {g c1 n:Nat} {A2:Option Addr} {c2:Nat} {ys:List Int} {gq:Nat} {X0:Int} {xs q:List Int} {j:Nat} (h:QSt w w1 wr g c1 n A2 c2 ys gq X0 xs q j) (hb:Below wr.heap.size wr w'):QSt w w1 w' g c1 n A2 c2 ys gq X0 xs q j where
 dv:=h.dv
 le:=h.le
 ox:=zbC h.ox hb
 oy:=zbC h.oy hb
 oq:=zbC h.oq hb
 below:=bthen h.below hb
theorem QSt.next {w w1 wr w':World} {g c1 n:Nat} {A2:Option Addr} {c2:Nat} {ys:List Int} {gq:Nat} {X0:Int} {xs q zs:List Int} {up:Nat} (h:QSt w w1 wr g c1 n A2 c2 ys gq X0 xs q (up+1)) (hY:0<lv ys) (hyl:0<ys.length)
  (hgw:w.heap.size≤g) (hg1:g<w1.heap.size) (hgq:w1.heap.size≤gq) (hqy:∀ g2,A2=some ⟨g2,0,none⟩→g2≠gq) (hw1:w.heap.size≤w1.heap.size)
  (z1:Ld zs) (z2:zs.length=n) (t:Int) (ht:lv (xs.drop up)/lv ys=t) (z3:lv zs=lv xs-10000^up*(t*lv ys))
  (ox:w'.ownsRow w.heap.size 3 1 (.slice (some ⟨g,0,none⟩) n c1) n (nums .i64 zs)) (hk:KeepB (wr.setCell ⟨gq,up,none⟩ (.int .i64 t)) w' g) :
  Hid (QSt w w1 w' g c1 n A2 c2 ys gq X0 zs (q.set up t) up):=by
 subst ht
 have hle:=h.le
 have hu:up<n:=by omega
 have hst:=zaX h.oq (up:Int) (lv (xs.drop up)/lv ys)
 rw [Int.toNat_natCast] at hst
 have hB:=h.below.setCell (p:=⟨gq,up,none⟩) (show w.heap.size≤gq by omega) (.int .i64 (lv (xs.drop up)/lv ys))
 have hk2:KeepB wr (wr.setCell ⟨gq,up,none⟩ (.int .i64 (lv (xs.drop up)/lv ys))) gq:=(KeepB.refl wr gq).set up _
 obtain ⟨g2,he2,hg2,hg2'⟩:=own_head h.oy hyl
 exact {
  dv:=(h.dv.step hY hu).2.2.2.2 zs z1 z2 z3
  le:=by omega
  ox:=ox
  oy:=by
   refine (h.oy.kept hk2.grown (Or.inr ?_)).kept hk.grown (Or.inr ?_)
   ·subst he2
    have:=hqy g2 rfl
    simpa [Value.ownBlock] using this
   ·subst he2
    have:g2≠g:=by omega
    simpa [Value.ownBlock] using this
  oq:=hst.1.kept hk.grown (Or.inr (by
   have:gq≠g:=by omega
   simpa [Value.ownBlock] using this))
  below:=KeepB.below hB hk hgw }
theorem QSt.set {w w1 wr:World} {g c1 n:Nat} {A2:Option Addr} {c2:Nat} {ys:List Int} {gq:Nat} {X0:Int} {xs q:List Int} {j:Nat} (h:QSt w w1 wr g c1 n A2 c2 ys gq X0 xs q j) (hyl:0<ys.length) (hgq:g≠gq) (hqy:∀ g2,A2=some ⟨g2,0,none⟩→g2≠gq) (up:Nat) (t:Int) :
  (wr.setCell ⟨gq,up,none⟩ (.int .i64 t)).ownsRow w.heap.size 3 1 (.slice (some ⟨g,0,none⟩) n c1) n (nums .i64 xs)∧(wr.setCell ⟨gq,up,none⟩ (.int .i64 t)).ownsRow w1.heap.size 3 1 (.slice A2 ys.length c2) ys.length (nums .i64 ys):=by
 have hk2:KeepB wr (wr.setCell ⟨gq,up,none⟩ (.int .i64 t)) gq:=(KeepB.refl wr gq).set up _
 obtain ⟨g2,he2,hg2,hg2'⟩:=own_head h.oy hyl
 refine ⟨h.ox.kept hk2.grown (Or.inr (by simpa [Value.ownBlock] using hgq)),h.oy.kept hk2.grown (Or.inr ?_)⟩
 subst he2
 have:=hqy g2 rfl
 simpa [Value.ownBlock] using this
theorem lim_ne {n:Nat} (h:0<n):0<(lim n).length:=by rw [zcc h]; simp
theorem DV.start {xs ys:List Int} (hx:Ld xs) (hy:Ld ys) (ty:ys.getLast? ≠ some 0) (hyl:0<ys.length) (hle:ys.length≤xs.length):DV (lv xs) (lv ys) xs.length xs (List.replicate xs.length 0) (xs.length-ys.length+1) where
 lx:=hx
 lq:=Ld.zeros _
 nx:=rfl
 nq:=by simp
 eq:=by rw [lv_zeros,Int.zero_mul,Int.zero_add]
 lt:=by
  have h1:=lv_lt hx
  have h2:=lv_top hy ty (by intro e; rw [e] at hyl; simp at hyl)
  have h3:(10000:Int)^xs.length=10000^(xs.length-ys.length+1)*10000^(ys.length-1):=by rw [←Int.pow_add]; congr 1; omega
  rw [h3] at h1
  exact Int.lt_of_lt_of_le h1 (Int.mul_le_mul_of_nonneg_left h2 (Int.le_of_lt (zca _)))
 zero:=fun j hj=>by
  unfold Go.Proofs.ZW.Wa.rd
  rw [List.getD_eq_getElem?_getD,List.getElem?_replicate]
  split<;>rfl
theorem divide_small (a b:Nat) (w:World) (ha:(T a).size≤137438953472) (hb:(T b).size≤137438953472) (hlt:a<b) :
  Calls Tryz.prog 156 #[.string (T a),.string (T b)] w fun e w'=>e = .returned (.tuple #[.string ⟨#[48]⟩,.string (T a)])∧Below w.heap.size w w':=by
 have HA:=fun W=>zbU (T a) W (T_can a).2.1 (show _≤_ by omega)
 have HB:=fun W=>zbU (T b) W (T_can b).2.1 (show _≤_ by omega)
 rw [zc4] at HA HB
 have hla:=za8 a
 have hlb:=za8 b
 have hxd:=lim_ld a
 have hyd:=lim_ld b
 have htx:=lim_top a
 have hty:=lim_top b
 have HD:=Lib.hid (show decide (lv (lim a)<lv (lim b))=true by rw [zcg,zcg,decide_eq_true_iff]; omega)
 generalize lim a=xs at *
 generalize lim b=ys at *
 go_enter Tryz.func156,Tryz.ntmps156
 go_wp2_with fail
 refine (HA _).mono ?_
 rintro e w1 ⟨A1,c1,rfl,ho1,hb1⟩
 go_wp2_with fail
 refine (HB _).mono ?_
 rintro e w2 ⟨A2,c2,rfl,ho2,hb2⟩
 have ho1':=zbC ho1 hb2
 obtain ⟨hC1,hl1⟩:=own_C ho1'
 obtain ⟨hC2,hl2⟩:=own_C ho2
 have HL:=rless_calls A1 c1 xs A2 c2 ys w2 hC1 hl1 hC2 hl2 hxd hyd htx hty (show _≤_ by omega)
 rw [HD.out] at HL
 have hB:=bthen hb1 hb2
 clear hC1 hC2 ho1 ho2 ho1' HD
 go_wp2_with fail
 refine HL.mono ?_
 rintro e w3 ⟨rfl,hb3⟩
 go_wp2
 go_ret2
 exact ⟨rfl,bthen hB hb3⟩
theorem divide_great (a b:Nat) (w:World) (ha:(T a).size≤137438953472) (hb:(T b).size≤137438953472) (hle:b≤a) (hb0:0<b) :
  Calls Tryz.prog 156 #[.string (T a),.string (T b)] w fun e w'=>e = .returned (.tuple #[.string (T (a/b)),.string (T (a%b))])∧Below w.heap.size w w':=by
 have HA:=fun W=>zbU (T a) W (T_can a).2.1 (show _≤_ by omega)
 have HB:=fun W=>zbU (T b) W (T_can b).2.1 (show _≤_ by omega)
 rw [zc4] at HA HB
 have hla:=za8 a
 have hlb:=za8 b
 have hxd:=lim_ld a
 have hyd:=lim_ld b
 have htx:=lim_top a
 have hty:=lim_top b
 have hyl:=lim_ne hb0
 have hlen:=lim_len_le hle
 have HXV:=Lib.hid (zcg a)
 have HYV:=Lib.hid (zcg b)
 have HD:=Lib.hid (show decide (lv (lim a)<lv (lim b))=false by rw [zcg,zcg,decide_eq_false_iff_not]; omega)
 have HQR:Hid (∀ Q R:Int,Q=(a:Int)/(b:Int)∧R=(a:Int)%(b:Int)→Q.toNat=a/b∧R.toNat=a%b):=Lib.hid (by
  rintro Q R ⟨rfl,rfl⟩
  rw [←Int.natCast_ediv,←Int.natCast_emod]
  exact ⟨rfl,rfl⟩)
 have hls1:(T (a/b)).size≤(T a).size:=by rw [zc2,zc2]; exact zcf (Nat.div_le_self a b)
 have hls2:(T (a%b)).size≤(T a).size:=by rw [zc2,zc2]; exact zcf (Nat.mod_le a b)
 have hll1:=za8 (a/b)
 have hll2:=za8 (a%b)
 have hY:0<lv (lim b):=by rw [zcg]; omega
 generalize hxs:lim a=xs at *
 generalize hys:lim b=ys at *
 clear hxs hys
 have hmk:=zbw (P:=Tryz.prog) 205 3 .i64 8 Tryz.underlying205 infoI64 (by decide) xs.length (by omega)
 go_enter Tryz.func156,Tryz.ntmps156
 go_wp2_with fail
 refine (HA _).mono ?_
 rintro e w1 ⟨A1,c1,rfl,ho1,hb1⟩
 obtain ⟨g,rfl,hg0,hg1⟩:=own_head ho1 (by omega)
 go_wp2_with fail
 refine (HB _).mono ?_
 rintro e w2 ⟨A2,c2,rfl,ho2,hb2⟩
 have ho1':=zbC ho1 hb2
 obtain ⟨hC1,hl1⟩:=own_C ho1'
 obtain ⟨hC2,hl2⟩:=own_C ho2
 have HL:=rless_calls _ c1 xs A2 c2 ys w2 hC1 hl1 hC2 hl2 hxd hyd htx hty (show _≤_ by omega)
 rw [HD.out] at HL
 have hB:=bthen hb1 hb2
 clear hC1 hC2 HD
 go_wp2_with fail
 refine HL.mono ?_
 rintro e w3 ⟨rfl,hb3⟩
 have hs23:=hb2.size
 have hs33:=hb3.size
 have hs11:=hb1.size
 have HS:Hid (QSt w w1 (w3.alloc (.cells (madeCells #[.int .i64 0] xs.length) 3)) g c1 xs.length A2 c2 ys w3.heap.size (lv xs) xs (List.replicate xs.length 0) (xs.length-ys.length+1)):=Lib.hid {
  dv:=DV.start hxd hyd hty hyl hlen
  le:=by omega
  ox:=(zbC ho1' hb3).alloc _
  oy:=(zbC ho2 hb3).alloc _
  oq:=zcb w3 w.heap.size 3 .i64 xs.length (by omega) (by omega)
  below:=bthen (bthen hB hb3) (zaa (Below.refl _ _) _) }
 have HQY:=Lib.hid (fun g2 (h:A2=some ⟨g2,0,none⟩)=>show g2≠w3.heap.size by have:=(ho2.lt g2 (by rw [h]; rfl)).2; omega)
 have hgq:w1.heap.size≤w3.heap.size:=by omega
 have hggq:g≠w3.heap.size:=by omega
 clear ho1 ho2 ho1' hb1 hb2 hb3 hB
 have hnmax:xs.length≤274877906944:=by omega
 go_wp2
 clear hmk
 go_loopw [9] (fun vz wr=>∃ (z:Int) (j:Nat) (zs q:List Int),vz = .int .i64 z∧Hid (z=(j:Int)-1) ∧ -1≤z∧z≤274877906944∧Hid (QSt w w1 wr g c1 xs.length A2 c2 ys w3.heap.size (lv xs) zs q j)) (fun vz _=>(intOf vz+1).toNat)
 case atStart=>exact ⟨_,xs.length-ys.length+1,xs,_,by go_num,Lib.hid (by omega),by omega,by omega,HS⟩
 case round =>
  obtain ⟨z,j,zs,q,rfl,HZ,hz0,hz1,HD⟩:=hrel
  have hzl:=HD.out.dv.nx
  have hql:=HD.out.dv.nq
  by_cases hz:0≤z
  ·obtain ⟨up,rfl⟩:=Int.eq_ofNat_of_zero_le hz
   have hj:j=up+1:=by have:=HZ.out; omega
   subst hj
   have hle:=HD.out.le
   have hun:up<xs.length:=by omega
   obtain ⟨ht0,ht9,hlt,hR,-⟩:=HD.out.dv.step hY hun
   have hox:=HD.out.ox
   rw [←hzl] at hox
   obtain ⟨hC1,hl1⟩:=own_C hox
   obtain ⟨hC2,hl2⟩:=own_C HD.out.oy
   have HF:=rfits_calls _ c1 zs A2 c2 ys up wr hC1 hl1 hC2 hl2 HD.out.dv.lx hyd (by omega) (by omega) (by omega) hY hlt
   rw [hzl] at HF
   obtain ⟨t,ht⟩:∃ t,lv (zs.drop up)/lv ys=t:=⟨_,rfl⟩
   rw [ht] at HF ht0 ht9 hR
   have HT:=Lib.hid ht
   have HR:=Lib.hid hR
   have HZL:=Lib.hid hzl
   clear ht hR hC1 hC2 hox hzl hql hlt hl1 hl2
   go_wp2_with fail
   refine HF.mono ?_
   rintro e w5 ⟨rfl,hb5⟩
   have HD5:=Lib.hid (HD.out.below' hb5)
   obtain ⟨hs1,hs2⟩:=zbP HD5.out.oq (up:Int) (by omega) (by omega)
   rw [Int.toNat_natCast] at hs1 hs2
   obtain ⟨old,hold⟩:∃ old,rd q (up:Int)=old:=⟨_,rfl⟩
   rw [hold] at hs1
   clear hold HF hb5
   by_cases htp:0<t
   ·have hset:=HD5.out.set hyl hggq HQY.out up t
    have HTK:=rtake_calls w.heap.size w1.heap.size g c1 xs.length A2 c2 zs ys up t _ hset.1 hset.2 HZL.out HD.out.dv.lx hyd hg1 ⟨ht0,ht9⟩ (by omega) (by omega) HR.out
    have HTK:=Lib.hid HTK
    clear hset
    go_wp2_with fail
    refine HTK.out.mono ?_
    rintro e w7 ⟨zs',rfl,z1,z2,z3,z4,z5⟩
    have HN:=HD5.out.next hY hyl hg0 hg1 hgq HQY.out (by omega) z1 z2 t HT.out z3 z4 z5
    clear z1 z2 z3 z4 z5
    go_wp2
    go_roundw
    case rel=>exact ⟨(up:Int)-1,up,zs',q.set up t,by go_num,Lib.hid rfl,by omega,by omega,HN⟩
    case measure=>simp [intOf]
   ·have ht00:t=0:=by omega
    subst ht00
    have hset:=HD5.out.set hyl hggq HQY.out up 0
    have HN:=HD5.out.next hY hyl hg0 hg1 hgq HQY.out (by omega) HD.out.dv.lx HZL.out 0 HT.out (by rw [Int.zero_mul,Int.mul_zero,Int.sub_zero]) hset.1 (KeepB.refl _ _)
    clear hset
    go_wp2
    go_roundw
    case rel=>exact ⟨(up:Int)-1,up,zs,q.set up 0,by go_num,Lib.hid rfl,by omega,by omega,HN⟩
    case measure=>simp [intOf]
  ·have hj:j=0:=by have:=HZ.out; omega
   subst hj
   obtain ⟨F1,F2⟩:=HD.out.dv.done hY
   obtain ⟨G1,G2⟩:=HQR.out (lv q) (lv zs) (by rw [F1,F2,HXV.out,HYV.out]; exact ⟨rfl,rfl⟩)
   have hox:=HD.out.ox
   have hoq:=HD.out.oq
   have hB:=HD.out.below
   rw [←hzl] at hox
   rw [←hql] at hoq
   obtain ⟨hC1,hl1⟩:=own_C hox
   obtain ⟨hC2,hl2⟩:=own_C hoq
   have HTQ:=zcB _ _ q wr hC2 hl2 HD.out.dv.lq
   have HTX:=fun W (hb:Below wr.heap.size wr W)=>zcB _ _ zs W (Kd.C_below hC1 hb) hl1 HD.out.dv.lx
   rw [G1] at HTQ
   rw [G2] at HTX
   have HC1:=Lib.hid hC1
   have HC2:=Lib.hid hC2
   have HZL:=Lib.hid hzl
   have HQL:=Lib.hid hql
   rw [hql] at HTQ
   rw [hzl] at HTX
   have HTQ:=Lib.hid HTQ
   have HTX:=Lib.hid HTX
   clear hC1 hC2 hox hoq F1 F2 G1 G2 hzl hql HA HB HL
   go_wp2_with fail
   with_reducible refine HTQ.out.mono ?_
   rintro e w5 ⟨m,rfl,hm,htk,rfl⟩
   have hml:m=(lim (a/b)).length:=by rw [←htk,List.length_take]; have:=HQL.out; omega
   have hC3:=Kd.C_take HC2.out (show m≤q.length by have:=HQL.out; omega)
   rw [htk] at hC3
   subst hml
   have HTC:=Lib.hid (c1_text.calls (some ⟨w3.heap.size,0,none⟩) xs.length (lim (a/b)) (T (a/b)) wr hC3 (show _≤_ by have:=HQL.out; omega) (text_lim (a/b) (show _≤_ by omega)))
   clear hC3 htk
   go_wp2_with fail
   with_reducible refine HTC.out.mono ?_
   rintro e w6 ⟨rfl,hb6⟩
   go_wp2_with fail
   with_reducible refine (HTX.out _ hb6).mono ?_
   rintro e w7 ⟨m2,rfl,hm2,htk2,rfl⟩
   have hml2:m2=(lim (a%b)).length:=by rw [←htk2,List.length_take]; have:=HZL.out; omega
   have hC4:=Kd.C_take (Kd.C_below HC1.out hb6) (show m2≤zs.length by have:=HZL.out; omega)
   rw [htk2] at hC4
   subst hml2
   have HTD:=Lib.hid (c1_text.calls (some ⟨g,0,none⟩) c1 (lim (a%b)) (T (a%b)) w6 hC4 (show _≤_ by have:=HZL.out; omega) (text_lim (a%b) (show _≤_ by omega)))
   clear hC4 htk2
   go_wp2_with fail
   with_reducible refine HTD.out.mono ?_
   rintro e w8 ⟨rfl,hb8⟩
   have hB8:=bthen (bthen hB hb6) hb8
   go_wp2
   go_ret2
   exact ⟨rfl,hB8⟩
def c1_Divide.f (a0 a1:ByteArray):Option (ByteArray×ByteArray):=(numP a0).bind fun x=>(numP a1).bind fun y=>if y=0 then none else some (T (x/y),T (x%y))
theorem c1_Divide.calls (a0 a1:ByteArray) (r1 r2:ByteArray) (w:World) (h:c1_Divide.f a0 a1=some (r1,r2)) :
  Calls Tryz.prog 156 #[.string a0,.string a1] w fun e w'=>e = .returned (.tuple #[.string r1,.string r2])∧Below w.heap.size w w':=by
 unfold c1_Divide.f at h
 obtain ⟨x,hx,h3⟩:=Option.bind_eq_some_iff.1 h
 obtain ⟨y,hy,h4⟩:=Option.bind_eq_some_iff.1 h3
 clear h h3
 obtain ⟨rfl,h1⟩:=numP_some hx
 obtain ⟨rfl,h2⟩:=numP_some hy
 split at h4
 ·cases h4
 ·rename_i hc
  have h:=Option.some.inj h4
  injection h with e1 e2
  subst e1; subst e2
  by_cases hlt:x<y
  ·rw [Nat.div_eq_of_lt hlt,Nat.mod_eq_of_lt hlt,show T 0=⟨#[48]⟩ by unfold T; rw [zbW (by decide)]; rfl]
   exact divide_small x y w h1 h2 hlt
  ·exact divide_great x y w h1 h2 (by omega) (by omega)
theorem addA_same_false (b o b1 o1 b2 o2:Nat) (x y:Int) (w:World) (hz:Slot w b o) (hx:IntAt w b1 o1 x) (hy:IntAt w b2 o2 y) {n:Nat} (hs:Bd n x) (ht:Bd n y) (hn:n≤big) (hx0:0≤x) (hy0:0≤y) :
    Calls Tryz.prog 164 #[.pointer (some ⟨b,o,none⟩),.pointer (some ⟨b1,o1,none⟩),.pointer (some ⟨b2,o2,none⟩)] w fun e w'=>e = .returned (.pointer (some ⟨b,o,none⟩))∧IntAt w' b o (x+y)∧Upd w w' b o (o+2):=by
  obtain ⟨neg,A,c,ws,h1,h2,h3,h4⟩:=hx.out
  obtain ⟨neg',A',c',ws',k1,k2,k3,k4⟩:=hy.out
  have hl1:ws.length≤34359738368:=h4.small hs hn
  have hl2:ws'.length≤34359738368:=k4.small ht hn
  have ex:=h4.eq
  have ey:=k4.eq
  clear hs ht
  have hneg:neg=false:=by cases neg; rfl; exact absurd (h4.neg_iff.1 rfl) (by omega)
  have hneg':neg'=false:=by cases neg'; rfl; exact absurd (k4.neg_iff.1 rfl) (by omega)
  subst hneg; subst hneg'
  have hk:sg false (val ws+val ws')=x+y:=by rw [ex,ey]; unfold sg; simp<;>omega
  have HK:=Lib.hid hk
  have LL1:=Lib.hid (show ws.length≤35184372088832 by omega)
  have LL2:=Lib.hid (show ws'.length≤35184372088832 by omega)
  clear ex ey hk
  go_enter Tryz.func164,Tryz.ntmps164
  go_wp2_with fail
  go_quiet (fail)
  generalize hq:w.drewN _=w1
  have HB1:=Lib.hid (show Below w.heap.size w w1 from by subst hq; exact zai _ _)
  have g1:w1.cell? ⟨b1,o1,none⟩=some (.bool false):=by subst hq; exact h1
  have g2:w1.cell? ⟨b1,o1+1,none⟩=some (.slice A ws.length c):=by subst hq; exact h2
  have g3:w1.cell? ⟨b2,o2,none⟩=some (.bool false):=by subst hq; exact k1
  have g4:w1.cell? ⟨b2,o2+1,none⟩=some (.slice A' ws'.length c'):=by subst hq; exact k2
  clear hq h1 h2 k1 k2
  go_wp2_with fail
  go_region_with ((first
      | (go_simp; go_at_call 220; refine (zcJ A c ws A' c' ws' _ (h3.below (bthen HB1.out (zac _))) (k3.below (bthen HB1.out (zac _))) h4.wd k4.wd LL1.out LL2.out).mono ?_; rintro e w2 ⟨A2,c2,zs,rfl,hw2,hz2,hv2,hzl2,hb2⟩; have HV2:=Lib.hid hv2; clear hv2 hzl2; have g1:=(hb2.cell (p:=⟨b1,o1,none⟩) (World.block_lt_of_cell? _ _ g1)).trans g1)
      | (go_simp; go_at_call 136; refine (zax b o false A2 c2 zs _ (hz.upd (Upd.of_below (bthen (bthen HB1.out (zac _)) hb2) 0 0 0)) hw2 hz2).mono ?_; rintro e w3 ⟨rfl,hx3,hu3⟩)))
  all_goals
    have hfin:sg false (val zs)=x+y:=by rw [HV2.out]; exact HK.out
    rw [hfin] at hx3
    go_wp2
    go_ret
    exact ⟨rfl,hx3,(((Upd.of_below HB1.out _ _ _).trans (Upd.of_below (zac _) _ _ _)).trans (Upd.of_below hb2 _ _ _)).trans hu3⟩
theorem zc1 (b o b1 o1 b2 o2:Nat) (x y:Int) (w:World) (hz:Slot w b o) (hx:IntAt w b1 o1 x) (hy:IntAt w b2 o2 y) {n:Nat} (hs:Bd n x) (ht:Bd n y) (hn:n≤big) (hx0:x<0) (hy0:0≤y) (hxy:x+y≤0) :
    Calls Tryz.prog 164 #[.pointer (some ⟨b,o,none⟩),.pointer (some ⟨b1,o1,none⟩),.pointer (some ⟨b2,o2,none⟩)] w fun e w'=>e = .returned (.pointer (some ⟨b,o,none⟩))∧IntAt w' b o (x+y)∧Upd w w' b o (o+2):=by
  obtain ⟨neg,A,c,ws,h1,h2,h3,h4⟩:=hx.out
  obtain ⟨neg',A',c',ws',k1,k2,k3,k4⟩:=hy.out
  have hl1:ws.length≤34359738368:=h4.small hs hn
  have hl2:ws'.length≤34359738368:=k4.small ht hn
  have ex:=h4.eq
  have ey:=k4.eq
  clear hs ht
  have hneg:neg=true:=h4.neg_iff.2 hx0
  have hneg':neg'=false:=by cases neg'; rfl; exact absurd (k4.neg_iff.1 rfl) (by omega)
  subst hneg; subst hneg'
  have hva:=h4.val_eq
  have hvb:=k4.val_eq
  have hk:sg true (val ws-val ws')=x+y:=by rw [ex,ey]; unfold sg; simp<;>omega
  have hle:val ws'≤val ws:=by omega
  have HK:=Lib.hid hk
  have HLE:=Lib.hid hle
  have HLL:=Lib.hid (show ws'.length≤ws.length from zaQ h4.wd k4.wd k4.top hle)
  have LL1:=Lib.hid (show ws.length≤35184372088832 by omega)
  have LL2:=Lib.hid (show ws'.length≤35184372088832 by omega)
  clear ex ey hk hle hva hvb
  go_enter Tryz.func164,Tryz.ntmps164
  go_wp2_with fail
  go_quiet (fail)
  generalize hq:w.drewN _=w1
  have HB1:=Lib.hid (show Below w.heap.size w w1 from by subst hq; exact zai _ _)
  have g1:w1.cell? ⟨b1,o1,none⟩=some (.bool true):=by subst hq; exact h1
  have g2:w1.cell? ⟨b1,o1+1,none⟩=some (.slice A ws.length c):=by subst hq; exact h2
  have g3:w1.cell? ⟨b2,o2,none⟩=some (.bool false):=by subst hq; exact k1
  have g4:w1.cell? ⟨b2,o2+1,none⟩=some (.slice A' ws'.length c'):=by subst hq; exact k2
  clear hq h1 h2 k1 k2
  go_wp2_with fail
  go_region_held3 (fun w'=>w'.cell? ⟨b1,o1,none⟩=some (.bool true)∧w'.cell? ⟨b1,o1+1,none⟩=some (.slice A ws.length c)∧w'.cell? ⟨b2,o2,none⟩=some (.bool false)∧w'.cell? ⟨b2,o2+1,none⟩=some (.slice A' ws'.length c'))
    (first|go_keep|exact ⟨g1,g2,g3,g4⟩)
    ((first
      | (go_simp; go_at_call 203; refine (zaR A c ws A' c' ws' _ (h3.below (bthen HB1.out (zac _))) (k3.below (bthen HB1.out (zac _))) h4.wd k4.wd h4.top k4.top).mono ?_; rintro e w2 ⟨r,rfl,hr,hrb,⟨⟨nd,rfl⟩⟩⟩)))
  rename_i hHeld
  generalize hq:w1.drewN _=w2 at hHeld ⊢
  have HB2:=Lib.hid (show Below w1.heap.size w1 w2 from by subst hq; exact zai _ _)
  clear hq g1 g2 g3 g4
  obtain ⟨g1,g2,g3,g4⟩:=hHeld
  have hr0:=za7 hr
  have hr1:0≤r:=by have:=HLE.out; omega
  have HB12:=Lib.hid (bthen HB1.out HB2.out)
  clear hr hr0 HB1 HB2
  have HB1:=HB12
  clear HB12
  go_wp2_with fail
  go_region_with ((first
      | (go_simp; go_at_call 221; refine (zbK A c ws A' c' ws' _ (h3.below (bthen HB1.out (zac _))) (k3.below (bthen HB1.out (zac _))) h4.wd k4.wd LL1.out HLE.out HLL.out).mono ?_; rintro e w4 ⟨A2,c2,zs,rfl,hw2,hz2,hv2,hzl2,hb2⟩; have HV2:=Lib.hid hv2; clear hv2 hzl2; have gg:=(hb2.cell (p:=⟨b1,o1,none⟩) (World.block_lt_of_cell? _ _ g1)).trans g1)
      | (go_simp; go_at_call 136; refine (zax b o true A2 c2 zs _ (hz.upd (Upd.of_below (bthen (bthen HB1.out (zac _)) hb2) 0 0 0)) hw2 hz2).mono ?_; rintro e w3 ⟨rfl,hx3,hu3⟩)))
  all_goals
    have hfin:sg true (val zs)=x+y:=by rw [HV2.out]; exact HK.out
    rw [hfin] at hx3
    go_wp2
    go_ret
    exact ⟨rfl,hx3,(((Upd.of_below HB1.out _ _ _).trans (Upd.of_below (zac _) _ _ _)).trans (Upd.of_below hb2 _ _ _)).trans hu3⟩
def halfS (x:Rat):Int:=((x-(x.floor:Rat)).num*(Rat.divInt 1 2).den-(Rat.divInt 1 2).num*(x-(x.floor:Rat)).den).sign
def evenR (x:Rat):Int:=if 0<halfS x∨(halfS x=0∧x.floor.natAbs%2=1) then x.floor+1 else x.floor
theorem bd_floor {x:Rat} {n:Nat} (h:Bdr n x):Bd n x.floor:=by
 rw [Rat.floor_def]
 exact h.1.le (Int.natAbs_ediv_le_natAbs _ _)
theorem Bdr.half:Bdr 2 (Rat.divInt 1 2):=by
 refine Bdr.divInt (by decide) ?_ ?_<;>(unfold Bd; decide)
theorem zcZ (b N:Nat) (x:Int) (w:World) (hx:IntAt w b 0 x) (hy:IntAt w N 0 1) {n:Nat} (hs:Bd n x) (hn0:0<n) (hn:n≤big) :
  Calls Tryz.prog 164 #[.pointer (some ⟨b,0,none⟩),.pointer (some ⟨b,0,none⟩),.pointer (some ⟨N,0,none⟩)] w fun e w'=>e = .returned (.pointer (some ⟨b,0,none⟩))∧IntAt w' b 0 (x+1)∧Upd w w' b 0 2:=by
 have h1:Bd n (1:Int):=by
  unfold Bd
  have:2^1≤2^n:=Nat.pow_le_pow_right (by decide) hn0
  have:(1:Int).natAbs=1:=rfl
  omega
 by_cases h:0≤x
 ·exact addA_same_false b 0 b 0 N 0 x 1 w hx.slot hx hy hs h1 hn h (by decide)
 ·exact zc1 b 0 b 0 N 0 x 1 w hx.slot hx hy hs h1 hn (by omega) (by decide) (by omega)
theorem even_calls (g:Nat) (x:Rat) (w:World) (hx:RatAt w g x) {n:Nat} (hs:Bdr n x) (hn0:0<n) (hn:4*n+10≤big) :
  Calls Tryz.prog 135 #[.pointer (some ⟨g,0,none⟩)] w fun e w'=>∃ D,e = .returned (.pointer (some ⟨D,0,none⟩))∧w.heap.size≤D∧IntAt w' D 0 (evenR x)∧Below w.heap.size w w':=by
 have hu112:=Tryz.underlying83
 have hnb:n≤big:=by omega
 have hbf:=bd_floor hs
 have hlx:=hx.lt
 have HE:=Lib.hid (show evenR x=if 0<halfS x∨(halfS x=0∧x.floor.natAbs%2=1) then x.floor+1 else x.floor from rfl)
 have HH:=Lib.hid (show halfS x=((x-(x.floor:Rat)).num*(Rat.divInt 1 2).den-(Rat.divInt 1 2).num*(x-(x.floor:Rat)).den).sign from rfl)
 go_enter Tryz.func135,Tryz.ntmps135
 go_wp2_with fail
 refine (floor_calls g x _ hx hs hnb).mono ?_
 rintro e w1 ⟨D,rfl,hD,hq1,hb1⟩
 have hx1:=hx.below hb1
 have hlq:=hq1.lt
 have hs1:=hb1.size
 have hbA:=bthen (zaa (Below.refl w1.heap.size w1) (.cells #[.bool false,.slice none 0 0,.bool false,.slice none 0 0] 83)) (zaa (Below.refl _ _) (.cells #[.bool false,.slice none 0 0,.bool false,.slice none 0 0] 83))
 have hr2:RatAt ((w1.alloc (.cells #[.bool false,.slice none 0 0,.bool false,.slice none 0 0] 83)).alloc (.cells #[.bool false,.slice none 0 0,.bool false,.slice none 0 0] 83)) (w1.heap.size+1) 0:=by
  have h:=RatAt.new (w1.alloc (.cells #[.bool false,.slice none 0 0,.bool false,.slice none 0 0] 83)) 83 (by decide)
  rwa [World.size_alloc] at h
 have hr1:=(RatAt.new w1 83 (by decide)).slot.below (zaa (Below.refl (w1.alloc (.cells #[.bool false,.slice none 0 0,.bool false,.slice none 0 0] 83)).heap.size (w1.alloc (.cells #[.bool false,.slice none 0 0,.bool false,.slice none 0 0] 83))) (.cells #[.bool false,.slice none 0 0,.bool false,.slice none 0 0] 83))
 have hqA:=hq1.below hbA
 have hxA:=hx1.below hbA
 have hBA:=bthen hb1 hbA
 clear hq1 hx1 hb1 hbA hx
 go_wp2_with fail
 refine (zaP (w1.heap.size+1) D 0 x.floor _ hr2.slot hqA hbf hnb).mono ?_
 rintro e w2 ⟨rfl,hf2,hu2⟩
 have hq2:=hqA.upd hu2 (Or.inl (by omega))
 have hx2:=hxA.upd hu2 (by omega)
 have hr2':=hr1.upd hu2
 have hB2:=hu2.new hBA (by omega)
 clear hqA hxA hr1 hr2 hu2 hBA
 have hsub:=hs.sub (Bdr.int hbf hn0)
 have HSUB:=Lib.hid hsub
 clear hsub
 go_wp2_with fail
 refine (rsub_calls w1.heap.size g (w1.heap.size+1) x (x.floor:Rat) _ hr2' hx2 hf2 hs (Bdr.int hbf hn0) (by omega)).mono ?_
 rintro e w3 ⟨rfl,hd3,hu3⟩
 have hq3:=hq2.upd hu3 (Or.inl (by omega))
 have hB3:=hu3.new hB2 hs1
 clear hq2 hx2 hf2 hr2' hu3 hB2
 go_wp2_with fail
 refine (newRat_calls 1 2 _ (by decide) (by decide) (by decide) (by decide) (by decide)).mono ?_
 rintro e w4 ⟨N,rfl,hN,hh4,hb4⟩
 have hd4:=hd3.below hb4
 have hq4:=hq3.below hb4
 have hB4:=bthen hB3 hb4
 clear hd3 hq3 hB3 hb4
 go_wp2_with fail
 refine (rcmp_calls w1.heap.size N _ _ _ hd4 hh4 HSUB.out Bdr.half (by omega)).mono ?_
 rintro e w5 ⟨rfl,hb5⟩
 have hq5:=hq4.below hb5
 have hB5:=bthen hB4 hb5
 rw [←HH.out]
 clear hd4 hh4 hq4 hB4 hb5 HH
 by_cases h1:0<halfS x
 ·have HV:=Lib.hid (show evenR x=x.floor+1 by rw [HE.out,if_pos (Or.inl h1)])
  clear HE
  go_wp2_with fail
  refine (za2 1 _ (by decide) (by decide)).mono ?_
  rintro e w7 ⟨N7,rfl,hN7,hn7,hb7⟩
  have hq7:=hq5.below hb7
  go_wp2_with fail
  refine (zcZ D N7 x.floor _ hq7 hn7 hbf hn0 hnb).mono ?_
  rintro e w8 ⟨rfl,hq8,hu8⟩
  have hB8:=hu8.new (bthen hB5 hb7) hD
  go_wp2
  go_ret
  exact ⟨_,rfl,hD,by rw [HV.out]; exact hq8,hB8⟩
 ·by_cases h2:halfS x=0
  ·rw [h2]
   by_cases h3:x.floor.natAbs%2=1
   ·have HV:=Lib.hid (show evenR x=x.floor+1 by rw [HE.out,if_pos (Or.inr ⟨h2,h3⟩)])
    clear HE h1 h2
    go_wp2_with fail
    refine (bit_calls D 0 x.floor 0 _ hq5 (by omega) hbf hnb).mono ?_
    rintro e w6 ⟨rfl,⟨nd,hw6⟩⟩
    have hb6:Below w5.heap.size w5 w6:=by subst hw6; exact zai _ _
    have hq6:=hq5.below hb6
    have hB6:=bthen hB5 hb6
    rw [show x.floor.natAbs/2^0%2=1 by rw [Nat.pow_zero,Nat.div_one]; exact h3]
    clear hw6 h3
    go_wp2_with fail
    refine (za2 1 _ (by decide) (by decide)).mono ?_
    rintro e w7 ⟨N7,rfl,hN7,hn7,hb7⟩
    have hq7:=hq6.below hb7
    go_wp2_with fail
    refine (zcZ D N7 x.floor _ hq7 hn7 hbf hn0 hnb).mono ?_
    rintro e w8 ⟨rfl,hq8,hu8⟩
    have hB8:=hu8.new (bthen hB6 hb7) hD
    go_wp2
    go_ret
    exact ⟨_,rfl,hD,by rw [HV.out]; exact hq8,hB8⟩
   ·have HV:=Lib.hid (show evenR x=x.floor by rw [HE.out,if_neg (fun h=>h.elim h1 (fun h=>h3 h.2))])
    clear HE h1 h2
    go_wp2_with fail
    refine (bit_calls D 0 x.floor 0 _ hq5 (by omega) hbf hnb).mono ?_
    rintro e w6 ⟨rfl,⟨nd,hw6⟩⟩
    have hb6:Below w5.heap.size w5 w6:=by subst hw6; exact zai _ _
    have hq6:=hq5.below hb6
    have hB6:=bthen hB5 hb6
    rw [show x.floor.natAbs/2^0%2=0 by rw [Nat.pow_zero,Nat.div_one]; omega]
    clear hw6 h3
    go_wp2
    go_ret
    exact ⟨_,rfl,hD,by rw [HV.out]; exact hq6,hB6⟩
  ·have hne:(halfS x == 0)=false:=beq_eq_false_iff_ne.2 h2
   have HV:=Lib.hid (show evenR x=x.floor by rw [HE.out,if_neg (fun h=>h.elim h1 (fun h=>h2 h.1))])
   clear HE h2
   go_wp2
   go_ret
   exact ⟨_,rfl,hD,by rw [HV.out]; exact hq5,hB5⟩
theorem steps_calls (g:Nat) (x:Rat) (p:Int) (w:World) (hx:RatAt w g x) {n:Nat} (hs:Bdr n x) (hn0:0<n) (h0 : -10000≤p) (h1:p≤10000) (hn:n≤1000000) :
  Calls Tryz.prog 58 #[.pointer (some ⟨g,0,none⟩),.int .i64 p] w fun e w'=>∃ D,e = .returned (.pointer (some ⟨D,0,none⟩))∧w.heap.size≤D∧IntAt w' D 0 (evenR (x*tenR p))∧Below w.heap.size w w':=by
 have hu112:=Tryz.underlying83
 have hnew:=RatAt.new w 83 (by decide)
 have hba:=zaa (Below.refl w.heap.size w) (.cells #[.bool false,.slice none 0 0,.bool false,.slice none 0 0] 83)
 have htn:=Bdr.tenR p
 have HBM:=Lib.hid (hs.mul htn)
 have HTN:=Lib.hid htn
 have hpn:p.natAbs≤10000:=by omega
 clear htn
 go_enter Tryz.func58,Tryz.ntmps58
 go_wp2_with fail
 refine (zbN p _ (by omega) (by omega)).mono ?_
 rintro e w1 ⟨G,rfl,hG,ht1,hb1⟩
 go_wp2_with fail
 refine (zbv w.heap.size g G x _ _ (hnew.slot.below hb1) ((hx.below hba).below hb1) ht1 hs HTN.out (by unfold big; omega)).mono ?_
 rintro e w2 ⟨rfl,hm2,hu2⟩
 have hB2:=hu2.new (bthen hba hb1) (Nat.le_refl _)
 have hs2:=hB2.size
 clear hnew hba hx ht1 hu2
 go_wp2_with fail
 refine (even_calls w.heap.size _ _ hm2 HBM.out (by omega) (by unfold big; omega)).mono ?_
 rintro e w3 ⟨D,rfl,hD,hq3,hb3⟩
 go_wp2
 go_ret
 exact ⟨_,rfl,Nat.le_trans hs2 hD,hq3,bthen hB2 hb3⟩
end Go.Proofs.ZP
end
section
namespace Go.Proofs.ZQ
open Go.RowKit Go.Proofs.ZW.Wa Go.Proofs.ZP
def zer (k:Nat):ByteArray:=⟨(List.replicate k (48:UInt8)).toArray⟩
def padT (t:ByteArray) (p:Nat):ByteArray:=if t.size<p+1 then zer (p+1-t.size)++t else t
def ptT (t:ByteArray) (p:Nat):ByteArray:=if 0<p then t.extract 0 (t.size-p)++⟨#[46]⟩++t.extract (t.size-p) t.size else t
def dgt (m:Int) (p:Nat):ByteArray:=if m<0 then ⟨#[45]⟩++ptT (padT (T m.natAbs) p) p else ptT (padT (T m.natAbs) p) p
noncomputable def digR (x:Rat) (p:Int):ByteArray×Int:=if p<0∨600<p then (⟨#[]⟩,1) else if 600<(T (evenR (x*tenR p)).natAbs).size then (⟨#[]⟩,7) else (dgt (evenR (x*tenR p)) p.toNat,0)
noncomputable def rat_Digits.f (a0_0 a0_1:ByteArray) (a1:Int):Option (ByteArray×Int):=by classical exact if h:∃ x,RR a0_0 a0_1 x then some (digR h.choose a1) else some (⟨#[]⟩,3)
theorem zer_size (k:Nat):(zer k).size=k:=by show (List.replicate k (48:UInt8)).toArray.size=k; simp
theorem repeatL_48 (k:Nat):Lib.repeatL [48] k=List.replicate k (48:UInt8):=by
 induction k with
 | zero=>rfl
 | succ k ih=>rw [Lib.repeatL,ih]; rfl
theorem repeat_zer (k:Nat) (w:World) (h:k≤140737488355328) :
  Calls Tryz.prog 61 #[.string ⟨#[48]⟩,.int .i64 k] w fun e w'=>e = .returned (.string (zer k))∧Below w.heap.size w w':=by
 have h1:=Tryz.strings_Repeat ⟨#[48]⟩ k w (by omega) (by show 1*k≤_; omega)
 have e:Lib.repeatL (⟨#[48]⟩:ByteArray).data.toList k=List.replicate k (48:UInt8):=repeatL_48 k
 rw [e] at h1
 exact h1
theorem bd_even {x:Rat} {n:Nat} (h:Bdr n x):Bd (n+1) (evenR x):=by
 unfold evenR
 have h1:=bd_floor h
 split
 ·refine h1.add ?_
  unfold Bd at *
  have:=h.2
  unfold Bd at this
  have h3:=x.den_pos
  have h4:(1:Int).natAbs=1:=rfl
  rw [Int.natAbs_natCast] at this
  omega
 ·exact h1.mono (by omega)
theorem RR.uniq {a b:ByteArray} {x y:Rat} (h:RR a b x) (k:RR a b y):x=y:=by
 refine Rat.ext (wtext_inj (h.num.symm.trans k.num)) (T_inj (h.den.symm.trans k.den))
theorem digits_no (a b:ByteArray) (p:Int) (w:World) (h:¬ ∃ x,RR a b x) :
  Calls Tryz.prog 15 #[.agg #[.string a,.string b],.int .i64 p] w fun e w'=>e = .returned (.tuple #[.string ⟨#[]⟩,.int .i64 3])∧Below w.heap.size w w':=by
 have hba:=zaa (Below.refl w.heap.size w) (.cells #[.string a,.string b] 23)
 have c0:(w.alloc (.cells #[.string a,.string b] 23)).cell? ⟨w.heap.size,0,none⟩=some (.string a):=(zaf (zau w (.cells #[.string a,.string b] 23)) 0).trans rfl
 have c1:(w.alloc (.cells #[.string a,.string b] 23)).cell? ⟨w.heap.size,1,none⟩=some (.string b):=(zaf (zau w (.cells #[.string a,.string b] 23)) 1).trans rfl
 have HR:=fun W=>read_no a b W h
 clear h
 go_enter Tryz.func15,Tryz.ntmps15
 go_wp2_with fail
 refine (HR _).mono ?_
 rintro e w1 ⟨rfl,hb1⟩
 go_wp2
 go_ret2
 exact ⟨rfl,bthen hba hb1⟩
theorem digits_arg (a b:ByteArray) (x:Rat) (p:Int) (w:World) (h:RR a b x) (hp:p<0∨600<p) :
  Calls Tryz.prog 15 #[.agg #[.string a,.string b],.int .i64 p] w fun e w'=>e = .returned (.tuple #[.string ⟨#[]⟩,.int .i64 1])∧Below w.heap.size w w':=by
 have hba:=zaa (Below.refl w.heap.size w) (.cells #[.string a,.string b] 23)
 have c0:(w.alloc (.cells #[.string a,.string b] 23)).cell? ⟨w.heap.size,0,none⟩=some (.string a):=(zaf (zau w (.cells #[.string a,.string b] 23)) 0).trans rfl
 have c1:(w.alloc (.cells #[.string a,.string b] 23)).cell? ⟨w.heap.size,1,none⟩=some (.string b):=(zaf (zau w (.cells #[.string a,.string b] 23)) 1).trans rfl
 have HR:=fun W=>read_yes x W h.ln h.ld
 rw [←h.num,←h.den] at HR
 clear h
 by_cases h0:p<0
 ·clear hp
  go_enter Tryz.func15,Tryz.ntmps15
  go_wp2_with fail
  refine (HR _).mono ?_
  rintro e w1 ⟨g,rfl,hg,hx1,hb1⟩
  clear hx1
  go_wp2
  go_ret2
  exact ⟨rfl,bthen hba hb1⟩
 ·have h1:600<p:=by omega
  clear hp
  go_enter Tryz.func15,Tryz.ntmps15
  go_wp2_with fail
  refine (HR _).mono ?_
  rintro e w1 ⟨g,rfl,hg,hx1,hb1⟩
  clear hx1
  go_wp2
  go_ret2
  exact ⟨rfl,bthen hba hb1⟩
theorem digits_walk (a b:ByteArray) (x:Rat) (p:Nat) (w:World) (h:RR a b x) (hp:p≤600) :
  Calls Tryz.prog 15 #[.agg #[.string a,.string b],.int .i64 p] w fun e w'=>e = .returned (.tuple #[.string (digR x p).1,.int .i64 (digR x p).2])∧Below w.heap.size w w':=by
 have hba:=zaa (Below.refl w.heap.size w) (.cells #[.string a,.string b] 23)
 have c0:(w.alloc (.cells #[.string a,.string b] 23)).cell? ⟨w.heap.size,0,none⟩=some (.string a):=(zaf (zau w (.cells #[.string a,.string b] 23)) 0).trans rfl
 have c1:(w.alloc (.cells #[.string a,.string b] 23)).cell? ⟨w.heap.size,1,none⟩=some (.string b):=(zaf (zau w (.cells #[.string a,.string b] 23)) 1).trans rfl
 have HR:=fun W=>read_yes x W h.ln h.ld
 rw [←h.num,←h.den] at HR
 have HD:=Lib.hid (show digR x p=if 600<(T (evenR (x*tenR p)).natAbs).size then (⟨#[]⟩,7) else (dgt (evenR (x*tenR p)) p,0) by unfold digR; rw [if_neg (by omega),Int.toNat_natCast])
 have HB:=Lib.hid h.bd
 have HBE:=Lib.hid (bd_even (h.bd.mul (Bdr.tenR p)))
 have hu105:=Tryz.underlying70
 clear h
 go_enter Tryz.func15,Tryz.ntmps15
 go_wp2_with fail
 refine (HR _).mono ?_
 rintro e w1 ⟨g,rfl,hg,hx1,hb1⟩
 have hB1:=bthen hba hb1
 clear hba hb1 c0 c1 HR
 go_wp2_with fail
 refine (steps_calls g x p _ hx1 HB.out (by decide) (by omega) (by omega) (by omega)).mono ?_
 rintro e w2 ⟨D,rfl,hD,hm2,hb2⟩
 have hB2:=bthen hB1 hb2
 clear hx1 hB1 hb2 hD hg
 generalize evenR (x*tenR p)=m at *
 have hnew:=IntAt.new w2 70 (by decide)
 have hba:=zaa (Below.refl w2.heap.size w2) (.cells #[.bool false,.slice none 0 0] 70)
 have hlD:=hm2.lt
 have hpn:(p:Int).natAbs≤600:=by omega
 go_wp2_with fail
 refine (zcs w2.heap.size 0 D 0 m _ hnew.slot (hm2.below hba) HBE.out (by unfold big; omega)).mono ?_
 rintro e w3 ⟨rfl,ha3,hu3⟩
 have hm3:=(hm2.below hba).upd hu3 (Or.inl (by omega))
 have hb3:=hu3.new hba (Nat.le_refl _)
 have hB3:=bthen hB2 hb3
 clear hnew hba hm2 hu3 hb3 hB2 hlD
 go_wp2_with fail
 refine (zck w2.heap.size 0 (m.natAbs:Int) _ ha3 HBE.out.abs (by unfold big; omega)).mono ?_
 rintro e w4 ⟨rfl,hb4⟩
 have hm4:=hm3.below hb4
 have hB4:=bthen hB3 hb4
 rw [za5 (show (0:Int)≤(m.natAbs:Int) by omega),Int.natAbs_natCast]
 have htp:=zb6 m.natAbs
 have HDG:=Lib.hid (show dgt m p=if m<0 then ⟨#[45]⟩++ptT (padT (T m.natAbs) p) p else ptT (padT (T m.natAbs) p) p from rfl)
 clear ha3 hm3 hB3 hb4
 generalize T m.natAbs=t at *
 by_cases hL:600<t.size
 ·have hLI:(600:Int)<(t.size:Int):=by omega
  have HV:=Lib.hid (show digR x p=(⟨#[]⟩,7) by rw [HD.out,if_pos hL])
  clear HD hL hm4 HDG
  go_wp2
  go_ret2
  exact ⟨by rw [HV.out]; rfl,hB4⟩
 ·have hLI:¬ (600:Int)<(t.size:Int):=by omega
  have HV:=Lib.hid (show digR x p=(dgt m p,0) by rw [HD.out,if_neg hL])
  clear HD
  by_cases hP:t.size<p+1
  ·have hPI:(0:Int)<(p:Int)+1-(t.size:Int):=by omega
   go_wp2_with fail
   rw [show (p:Int)+1-(t.size:Int)=((p+1-t.size:Nat):Int) by omega]
   refine (repeat_zer (p+1-t.size) _ (by omega)).mono ?_
   rintro e w5 ⟨rfl,hb5⟩
   have hm5:=hm4.below hb5
   have hB5:=bthen hB4 hb5
   have hU:padT t p=zer (p+1-t.size)++t:=by unfold padT; rw [if_pos hP]
   rw [hU] at HDG
   have hzs:=zer_size (p+1-t.size)
   have hcs:(zer (p+1-t.size)++t).size=p+1:=by rw [ByteArray.size_append,hzs]; omega
   have HCS:=Lib.hid (show p+1≤(zer (p+1-t.size)++t).size∧(zer (p+1-t.size)++t).size≤2000 by omega)
   have hc1:(zer (p+1-t.size)).size+t.size≤9223372036854775807:=by omega
   clear hU hzs hm4 hB4 hb5 hcs
   generalize zer (p+1-t.size)=z at *
   have hp0:0<p:=by omega
   have hp0I:(0:Int)<(p:Int):=by omega
   go_wp2_with fail
   generalize z++t=u at *
   have hus:=HCS.out
   have hw:IntKind.i64.wrap ((u.size:Int)-(p:Int))=((u.size-p:Nat):Int):=by rw [IntKind.wrap_i64]; omega
   have hu2:((u.size-p:Nat):Int)≤(u.size:Int):=by omega
   have hu3:u.size-p≤u.size:=by omega
   have hx1:(u.extract 0 (u.size-p)).size+1≤9223372036854775807:=by rw [ByteArray.size_extract]; omega
   have hx2:(u.extract 0 (u.size-p)++⟨#[46]⟩).size+(u.extract (u.size-p) u.size).size≤9223372036854775807:=by
    rw [ByteArray.size_append,ByteArray.size_extract,ByteArray.size_extract]
    have:(⟨#[46]⟩:ByteArray).size=1:=rfl
    omega
   have hy1:min (u.size-p) u.size+1≤9223372036854775807:=by omega
   have hy2:u.size-p+1≤9223372036854775807:=by omega
   have HYS:=Lib.hid (show (u.extract 0 (u.size-p)++⟨#[46]⟩++u.extract (u.size-p) u.size).size≤10000 by
    rw [ByteArray.size_append,ByteArray.size_append,ByteArray.size_extract,ByteArray.size_extract]
    have:(⟨#[46]⟩:ByteArray).size=1:=rfl
    omega)
   have hPT:ptT u p=u.extract 0 (u.size-p)++⟨#[46]⟩++u.extract (u.size-p) u.size:=by unfold ptT; rw [if_pos hp0]
   rw [hPT] at HDG
   clear hus hPT
   go_quiet (fail)
   generalize hqd:w5.drewN _=w6
   have hb6:Below w5.heap.size w5 w6:=by subst hqd; exact zai _ _
   have hm6:=hm5.below hb6
   have hB6:=bthen hB5 hb6
   clear hqd hw hu2 hu3 hx1 hx2 hy1 hy2
   generalize (u.extract 0 (u.size-p)++⟨#[46]⟩++u.extract (u.size-p) u.size)=y at *
   go_wp2_with fail
   refine (zaI D 0 m _ hm6).mono ?_
   rintro e w7 ⟨rfl,rfl⟩
   have hys:1+y.size≤9223372036854775807:=by have:=HYS.out; omega
   by_cases hm0:m<0
   ·have hsg:m.sign = -1:=Int.sign_eq_neg_one_of_neg hm0
    have HF:=Lib.hid (show digR x p=(⟨#[45]⟩++y,0) by rw [HV.out,HDG.out,if_pos hm0])
    rw [hsg]
    clear hsg hm0
    go_wp2
    go_ret2
    exact ⟨by rw [HF.out]; rfl,hB6⟩
   ·have hsg:¬ m.sign<0:=fun h=>hm0 (Int.neg_of_sign_eq_neg_one (by rcases Int.sign_trichotomy m with e|e|e<;>omega))
    have HF:=Lib.hid (show digR x p=(y,0) by rw [HV.out,HDG.out,if_neg hm0])
    go_wp2
    go_ret2
    exact ⟨by rw [HF.out]; rfl,hB6⟩
  ·have hPI:¬ (0:Int)<(p:Int)+1-(t.size:Int):=by omega
   have hU:padT t p=t:=by unfold padT; rw [if_neg hP]
   rw [hU] at HDG
   by_cases hp0:0<p
   ·have hp0I:(0:Int)<(p:Int):=by omega
    have HCS:=Lib.hid (show p+1≤t.size∧t.size≤2000 by omega)
    clear hU
    go_wp2_with fail
    generalize t=u at *
    have hus:=HCS.out
    have hw:IntKind.i64.wrap ((u.size:Int)-(p:Int))=((u.size-p:Nat):Int):=by rw [IntKind.wrap_i64]; omega
    have hu2:((u.size-p:Nat):Int)≤(u.size:Int):=by omega
    have hu3:u.size-p≤u.size:=by omega
    have hx1:(u.extract 0 (u.size-p)).size+1≤9223372036854775807:=by rw [ByteArray.size_extract]; omega
    have hx2:(u.extract 0 (u.size-p)++⟨#[46]⟩).size+(u.extract (u.size-p) u.size).size≤9223372036854775807:=by
     rw [ByteArray.size_append,ByteArray.size_extract,ByteArray.size_extract]
     have:(⟨#[46]⟩:ByteArray).size=1:=rfl
     omega
    have hy1:min (u.size-p) u.size+1≤9223372036854775807:=by omega
    have hy2:u.size-p+1≤9223372036854775807:=by omega
    have HYS:=Lib.hid (show (u.extract 0 (u.size-p)++⟨#[46]⟩++u.extract (u.size-p) u.size).size≤10000 by
     rw [ByteArray.size_append,ByteArray.size_append,ByteArray.size_extract,ByteArray.size_extract]
     have:(⟨#[46]⟩:ByteArray).size=1:=rfl
     omega)
    have hPT:ptT u p=u.extract 0 (u.size-p)++⟨#[46]⟩++u.extract (u.size-p) u.size:=by unfold ptT; rw [if_pos hp0]
    rw [hPT] at HDG
    clear hus hPT
    go_quiet (fail)
    generalize hqd:w4.drewN _=w6
    have hb6:Below w4.heap.size w4 w6:=by subst hqd; exact zai _ _
    have hm6:=hm4.below hb6
    have hB6:=bthen hB4 hb6
    clear hqd hw hu2 hu3 hx1 hx2 hy1 hy2
    generalize (u.extract 0 (u.size-p)++⟨#[46]⟩++u.extract (u.size-p) u.size)=y at *
    go_wp2_with fail
    refine (zaI D 0 m _ hm6).mono ?_
    rintro e w7 ⟨rfl,rfl⟩
    have hys:1+y.size≤9223372036854775807:=by have:=HYS.out; omega
    by_cases hm0:m<0
    ·have hsg:m.sign = -1:=Int.sign_eq_neg_one_of_neg hm0
     have HF:=Lib.hid (show digR x p=(⟨#[45]⟩++y,0) by rw [HV.out,HDG.out,if_pos hm0])
     rw [hsg]
     clear hsg hm0
     go_wp2
     go_ret2
     exact ⟨by rw [HF.out]; rfl,hB6⟩
    ·have hsg:¬ m.sign<0:=fun h=>hm0 (Int.neg_of_sign_eq_neg_one (by rcases Int.sign_trichotomy m with e|e|e<;>omega))
     have HF:=Lib.hid (show digR x p=(y,0) by rw [HV.out,HDG.out,if_neg hm0])
     go_wp2
     go_ret2
     exact ⟨by rw [HF.out]; rfl,hB6⟩
   ·have hp0I:¬ (0:Int)<(p:Int):=by omega
    have hPT:ptT t p=t:=by unfold ptT; rw [if_neg hp0]
    rw [hPT] at HDG
    have HYS:=Lib.hid (show t.size≤10000 by omega)
    clear hU hPT
    generalize t=y at *
    go_wp2_with fail
    refine (zaI D 0 m _ hm4).mono ?_
    rintro e w7 ⟨rfl,rfl⟩
    have hys:1+y.size≤9223372036854775807:=by have:=HYS.out; omega
    by_cases hm0:m<0
    ·have hsg:m.sign = -1:=Int.sign_eq_neg_one_of_neg hm0
     have HF:=Lib.hid (show digR x p=(⟨#[45]⟩++y,0) by rw [HV.out,HDG.out,if_pos hm0])
     rw [hsg]
     clear hsg hm0
     go_wp2
     go_ret2
     exact ⟨by rw [HF.out]; rfl,hB4⟩
    ·have hsg:¬ m.sign<0:=fun h=>hm0 (Int.neg_of_sign_eq_neg_one (by rcases Int.sign_trichotomy m with e|e|e<;>omega))
     have HF:=Lib.hid (show digR x p=(y,0) by rw [HV.out,HDG.out,if_neg hm0])
     go_wp2
     go_ret2
     exact ⟨by rw [HF.out]; rfl,hB4⟩
theorem rat_Digits.calls (a0_0 a0_1:ByteArray) (a1:Int) (r1:ByteArray) (r2:Int) (w:World) (h:rat_Digits.f a0_0 a0_1 a1=some (r1,r2)) :
  Calls Tryz.prog 15 #[.agg #[.string a0_0,.string a0_1],.int .i64 a1] w fun e w'=>e = .returned (.tuple #[.string r1,.int .i64 r2])∧Below w.heap.size w w':=by
 unfold rat_Digits.f at h
 by_cases hx:∃ x,RR a0_0 a0_1 x
 ·rw [dif_pos hx] at h
  have h:=Option.some.inj h
  have hc:=hx.choose_spec
  generalize hx.choose=x at h hc
  by_cases hp:a1<0∨600<a1
  ·unfold digR at h
   rw [if_pos hp] at h
   injection h with h1 h2
   subst h1; subst h2
   exact digits_arg _ _ x a1 w hc hp
  ·obtain ⟨p,rfl⟩:=Int.eq_ofNat_of_zero_le (show 0≤a1 by omega)
   have:=digits_walk a0_0 a0_1 x p w hc (by omega)
   rw [h] at this
   exact this
 ·rw [dif_neg hx] at h
  have h:=Option.some.inj h
  injection h with h1 h2
  subst h1; subst h2
  exact digits_no _ _ a1 w hx
end Go.Proofs.ZQ
end
section
namespace Go.Proofs.ZP
open Go.RowKit Go.Proofs.ZW.Wa Go.Proofs.ZW.Wb Go.Proofs.ZW.Wc
attribute [local go_sem] zaH zaF zaW zaV zaA zaz zaG zaE
def c1_Common.l0:Nat→ByteArray→ByteArray→Option (ByteArray)
 | 0,_,_=>none
 | k+1,x0,x1=>if x1.toList=([48]:List UInt8) then (some x0) else ((c1_Divide.f x0 x1).bind fun bt207=>(c1_Common.l0 k x1 bt207.2))
def c1_Common.f (k:Nat) (a0:ByteArray) (a1:ByteArray):Option (ByteArray):=c1_Common.l0 k a0 a1
theorem c1_Common.calls (k:Nat) (a0:ByteArray) (a1:ByteArray) (r:ByteArray) (w:World) (h:c1_Common.f k a0 a1=some r) :
  Calls Tryz.prog 73 #[.string a0,.string a1] w fun e w'=>e = .returned (.string r)∧Below w.heap.size w w':=by
 have HB:=Aside0.mk (Below.refl w.heap.size w)
 have H:(c1_Common.l0 k a0 a1)=some r:=h
 clear h
 have H':=Aside0.mk H
 clear H
 go_enter Tryz.func73,Tryz.ntmps73
 go_wp2
 go_loopg [0,1] k (fun kq v0 v1 w'=>∃ (x0_1:ByteArray) (x1_1:ByteArray),v0 = .string x0_1∧v1 = .string x1_1∧Aside0 (c1_Common.l0 kq x0_1 x1_1=some r)∧Aside0 (kq≤k)∧Aside0 (Below w.heap.size w w'))
 case atStart=>exact ⟨(a0),(a1),(by first|rfl|(simp; done)|(simp [*]; done)),(by first|rfl|(simp; done)|(simp [*]; done)),H',⟨Nat.le_refl _⟩,⟨by repeat (first|(with_reducible first|exact HB.out|apply zaa|apply zab|apply zae)|exact HB.out)⟩⟩
 case round =>
  clear H'
  try clear p2
  obtain ⟨x0_1,x1_1,rfl,rfl,HA,HK1,HB⟩:=hrel
  cases gk with
  | zero=>exact absurd HA.out (by simp [c1_Common.l0])
  | succ k1 =>
   have H:=HA.out
   clear HA
   simp only [c1_Common.l0] at H
   by_cases c3:x1_1.toList=([48]:List UInt8)
   ·rw [if_pos c3] at H
    have c3b0:(x1_1.toList == ([48]:List UInt8))=true:=beq_iff_eq.mpr c3
    have c3b1:(x1_1.toList != ([48]:List UInt8))=false:=bne_eq_false_iff_eq.mpr c3
    clear c3
    obtain rfl:=Option.some.inj H
    go_wp2
    go_ret
    exact ⟨by first|rfl|(simp [zak,zaj]<;>rfl)|(simp [*,zak,zaj]<;>rfl),by repeat (first|(with_reducible first|exact HB.out|apply zaa|apply zab|apply zae)|exact HB.out)⟩
   ·rw [if_neg c3] at H
    have c3b0:(x1_1.toList == ([48]:List UInt8))=false:=beq_eq_false_iff_ne.mpr c3
    have c3b1:(x1_1.toList != ([48]:List UInt8))=true:=bne_iff_ne.mpr c3
    replace H:=Option.bind_eq_some_iff.mp H
    obtain ⟨⟨t207,t208⟩,A40,H⟩:=H
    replace H:(c1_Common.l0 k1 x1_1 t208)=some r:=H
    have A4:=Aside0.mk A40
    clear A40
    have H':=Aside0.mk H
    clear H
    go_wp2_with (first|((with_reducible refine zaD (f:=156) rfl ?_); refine zbR (some 12) rfl rfl Tryz.func156 (by kernel_rfl) rfl #[.string x0_1,.string x1_1] rfl (by (try simp only [List.map_toArray,List.map_cons,List.map_nil]); first|done|rfl|(simp only [List.length_drop,List.length_take]; rfl)) ?_; (with_reducible refine (c1_Divide.calls x0_1 x1_1 t207 t208 _ A4.out).mono ?_); rintro e w5 ⟨rfl,hb⟩; refine ⟨_,rfl,?_⟩; have n0_:=Aside0.mk (zar (by repeat (first|(with_reducible first|exact HB.out|apply zaa|apply zab|apply zae)|exact HB.out)) hb); clear HB; have HB:=n0_; clear n0_; (try clear hb); (try clear hb2); (try clear hk); (try clear hi)))
    go_roundg k1
    case measure=>have:=HK1.out; omega
    case rel=>exact ⟨(x1_1),(t208),(by first|rfl|(simp; done)|(simp [*]; done)),(by first|rfl|(simp; done)|(simp [*]; done)),H',⟨by have:=HK1.out; omega⟩,⟨by repeat (first|(with_reducible first|exact HB.out|apply zaa|apply zab|apply zae)|exact HB.out)⟩⟩
end Go.Proofs.ZP
end
section
namespace Go.Proofs.ZP
open Go.RowKit Go.Proofs.ZW.Wa
def zer (k:Nat):ByteArray:=⟨(List.replicate k (48:UInt8)).toArray⟩
theorem zeros_step (n i:Nat) (h:i<n):(List.replicate i (48:Int)++List.replicate (n-i) 0).set i 48=List.replicate (i+1) 48++List.replicate (n-(i+1)) 0:=by
 obtain ⟨d,hd⟩:∃ d,n-i=d+1:=⟨n-i-1,by omega⟩
 rw [hd,show n-(i+1)=d by omega,List.set_append_right _ _ (by simp),List.length_replicate,Nat.sub_self,List.replicate_succ,List.set_cons_zero,List.replicate_succ',List.append_assoc]; rfl
theorem zeros_str (n:Nat):strOfNums (List.replicate n (48:Int))=zer n:=by
 unfold strOfNums zer
 rw [List.map_replicate]; rfl
def ZSt (w wr:World) (n i:Nat):Prop:=wr.ownsRow w.heap.size 5 1 (.slice (some ⟨w.heap.size,0,none⟩) n n) n (nums .u8 (List.replicate i (48:Int)++List.replicate (n-i) 0))∧Below w.heap.size w wr
theorem zeros_walk (n:Nat) (w:World) (hn:n≤1099511627776) :
  Calls Tryz.prog 65 #[.int .i64 n] w fun e w'=>e = .returned (.string (zer n))∧Below w.heap.size w w':=by
 have hmk:=zbw (P:=Tryz.prog) 133 5 .u8 1 Tryz.underlying133 infoU8 (by decide) n (by omega)
 have H0:Hid (ZSt w (w.alloc (.cells (madeCells #[.int .u8 0] n) 5)) n 0):=Lib.hid ⟨zcb w w.heap.size 5 .u8 n (Nat.le_refl _) (by omega),zaa (Below.refl _ _) _⟩
 go_enter Tryz.func65,Tryz.ntmps65
 go_wp2
 clear hmk
 go_loopw [9] (fun vi wr=>∃ i:Nat,i≤n∧vi = .int .i64 i∧Hid (ZSt w wr n i)) (fun vi _=>n-(intOf vi).toNat)
 case atStart=>exact ⟨0,Nat.zero_le _,rfl,H0⟩
 case round =>
  obtain ⟨i,hi,rfl,HZ⟩:=hrel
  by_cases hin:i<n
  ·obtain ⟨hs1,hs2⟩:=zbP HZ.out.1 (i:Int) (by omega) (by omega)
   rw [Int.toNat_natCast] at hs1 hs2
   have hst:=zaX HZ.out.1 (i:Int) 48
   rw [Int.toNat_natCast,zeros_step n i hin] at hst
   have HN:Hid (ZSt w (wr.setCell ⟨w.heap.size,i,none⟩ (.int .u8 48)) n (i+1)):=Lib.hid ⟨hst.1,HZ.out.2.setCell (Nat.le_refl _) _⟩
   clear hst
   generalize rd (List.replicate i (48:Int)++List.replicate (n-i) 0) (i:Int)=u at hs1
   go_wp2
   go_roundw
   case rel=>exact ⟨i+1,by omega,by go_num,HN⟩
   case measure=>simp [intOf]; omega
  ·obtain rfl:i=n:=by omega
   have ho:=HZ.out.1
   rw [Nat.sub_self,List.replicate_zero,List.append_nil] at ho
   have hcv:=own_string (P:=Tryz.prog) Tryz.underlying133 Tryz.underlying5 Tryz.underlying9 ho
   rw [zeros_str] at hcv
   have hB:=HZ.out.2
   clear ho
   go_wp2
   go_ret
   exact ⟨rfl,hB⟩
def c2_Zeros.f (a0:Int):Option ByteArray:=if 0≤a0∧a0≤1099511627776 then some (zer a0.toNat) else none
theorem c2_Zeros.calls (a0:Int) (r:ByteArray) (w:World) (h:c2_Zeros.f a0=some r) :
  Calls Tryz.prog 65 #[.int .i64 a0] w fun e w'=>e = .returned (.string r)∧Below w.heap.size w w':=by
 unfold c2_Zeros.f at h
 split at h
 ·rename_i hc
  obtain rfl:=Option.some.inj h
  obtain ⟨n,rfl⟩:=Int.eq_ofNat_of_zero_le hc.1
  rw [Int.toNat_natCast]
  exact zeros_walk n w (by omega)
 ·cases h
end Go.Proofs.ZP
end
section
namespace Go.Proofs.ZQ
open Go.RowKit Go.Proofs.ZW.Wa Go.Proofs.ZP
def c1_Minus.f (a0 a1:ByteArray):Option ByteArray:=ZP.c1_Minus.f a0 a1
def c1_Divide.f (a0 a1:ByteArray):Option (ByteArray×ByteArray):=ZP.c1_Divide.f a0 a1
theorem c1_Divide.calls (a0 a1:ByteArray) (r1 r2:ByteArray) (w:World) (h:c1_Divide.f a0 a1=some (r1,r2)) :
  Calls Tryz.prog 156 #[.string a0,.string a1] w fun e w'=>e = .returned (.tuple #[.string r1,.string r2])∧Below w.heap.size w w':=ZP.c1_Divide.calls a0 a1 r1 r2 w h
theorem Divide_T {a b:Nat} (ha:(T a).size≤137438953472) (hb:(T b).size≤137438953472) (h:0<b):c1_Divide.f (T a) (T b)=some (T (a/b),T (a%b)):=by
 unfold c1_Divide.f ZP.c1_Divide.f
 rw [numP_T ha,numP_T hb]
 show (if b=0 then none else some (T (a/b),T (a%b)))=_
 rw [if_neg (by omega)]
theorem T_zero:T 0=⟨#[48]⟩:=by unfold T; rw [zbW (by decide)]; rfl
theorem T_one:T 1=⟨#[49]⟩:=by unfold T; rw [zbW (by decide)]; rfl
theorem T_is0 {n:Nat}:(T n).toList=([48]:List UInt8)↔n=0:=by
 rw [ba_toList]
 constructor
 ·intro h
  refine T_inj ?_
  rw [T_zero]
  exact (zaT h)
 ·rintro rfl
  rw [T_zero]
theorem common_ev:∀ (b a:Nat),(T a).size≤137438953472→(T b).size≤137438953472→Ev (fun k=>ZP.c1_Common.l0 k (T a) (T b)) (T (Nat.gcd a b)):=by
 intro b
 induction b using Nat.strongRecOn with
 | ind b ih =>
  intro a ha hb
  rcases Nat.eq_zero_or_pos b with h0|h0
  ·subst h0
   rw [Nat.gcd_zero_right]
   refine Ev.step (f:=fun _=>some (T a)) (fun k => ?_) (Ev.now _)
   simp only [ZP.c1_Common.l0]
   rw [if_pos (T_is0.2 rfl)]
  ·have hm:=Nat.mod_lt a h0
   have hr:=ih (a%b) hm b hb (Nat.le_trans (T_size_mono (Nat.le_of_lt hm)) hb)
   have hd:ZP.c1_Divide.f (T a) (T b)=some (T (a/b),T (a%b)):=Divide_T ha hb h0
   rw [Nat.gcd_comm a b,Nat.gcd_rec b a,Nat.gcd_comm]
   refine Ev.step (f:=fun k=>ZP.c1_Common.l0 k (T b) (T (a%b))) (fun k => ?_) hr
   simp only [ZP.c1_Common.l0]
   rw [if_neg (fun e=>by have:=T_is0.1 e; omega),hd]
   rfl
def c1_Common.f (a0 a1:ByteArray):Option ByteArray:=(numT a0).bind fun x=>(numT a1).bind fun y=>some (T (Nat.gcd x y))
theorem c1_Common.calls (a0 a1:ByteArray) (r:ByteArray) (w:World) (h:c1_Common.f a0 a1=some r) :
  Calls Tryz.prog 73 #[.string a0,.string a1] w fun e w'=>e = .returned (.string r)∧Below w.heap.size w w':=by
 unfold c1_Common.f at h
 obtain ⟨x,hx,h⟩:=Option.bind_eq_some_iff.1 h
 obtain ⟨y,hy,h⟩:=Option.bind_eq_some_iff.1 h
 obtain rfl:=Option.some.inj h
 obtain ⟨rfl,h1⟩:=numT_some hx
 obtain ⟨rfl,h2⟩:=numT_some hy
 obtain ⟨k,hk⟩:=(common_ev y x h1 h2).rounds
 exact ZP.c1_Common.calls k _ _ _ w hk
theorem Common_T {a b:Nat} (ha:(T a).size≤137438953472) (hb:(T b).size≤137438953472):c1_Common.f (T a) (T b)=some (T (Nat.gcd a b)):=by
 unfold c1_Common.f
 rw [numT_T ha,numT_T hb]; rfl
def c2_Zeros.f (a0:Int):Option ByteArray:=ZP.c2_Zeros.f a0
theorem c2_Zeros.calls (a0:Int) (r:ByteArray) (w:World) (h:c2_Zeros.f a0=some r) :
  Calls Tryz.prog 65 #[.int .i64 a0] w fun e w'=>e = .returned (.string r)∧Below w.heap.size w w':=ZP.c2_Zeros.calls a0 r w h
theorem Zeros_n (n:Nat) (h:n≤1099511627776):c2_Zeros.f n=some (zer n):=by
 unfold c2_Zeros.f ZP.c2_Zeros.f
 rw [if_pos (by omega),Int.toNat_natCast]; rfl
def sgn (s:Bool) (a:Nat):Int:=if s then -(a:Int) else a
theorem sgn_abs (s:Bool) (a:Nat):(sgn s a).natAbs=a:=by cases s<;>simp [sgn]
theorem fr_lowest (s:Bool) (a b:Nat) (hb:0<b) :
  (Rat.divInt (sgn s a) b).num.natAbs=a/Nat.gcd a b∧(Rat.divInt (sgn s a) b).den=b/Nat.gcd a b∧decide ((Rat.divInt (sgn s a) b).num<0)=(s && decide (a≠0)):=by
 obtain ⟨h1,h2⟩:=div_parts (sgn s a) b (by omega)
 have hg:Int.gcd (sgn s a) b=Nat.gcd a b:=by unfold Int.gcd; rw [sgn_abs,Int.natAbs_natCast]
 rw [hg,sgn_abs] at h1
 rw [hg,Int.natAbs_natCast] at h2
 refine ⟨?_,h2,?_⟩
 ·rw [h1]
  generalize a/Nat.gcd a b=q
  unfold sg; split<;>simp
 ·rw [h1]
  have hb':¬ ((b:Nat):Int)<0:=by omega
  have hgp:0<Nat.gcd a b:=Nat.gcd_pos_of_pos_right _ hb
  have hq:a≠0→0<a/Nat.gcd a b:=fun ha=>Nat.div_pos (Nat.le_of_dvd (by omega) (Nat.gcd_dvd_left a b)) hgp
  cases s
  ·have:¬ (sgn false a)<0:=by simp [sgn]
   have e:¬ ((a/Nat.gcd a b:Nat):Int)<0:=Int.not_lt.2 (Int.natCast_nonneg _)
   simp only [this,hb',sg,decide_false,bne_self_eq_false,Bool.false_eq_true,if_false,e,Bool.false_and]
  ·by_cases ha:a=0
   ·subst ha
    simp [sgn,sg]
   ·have h3:=hq ha
    generalize a/Nat.gcd a b=q at *
    have:(sgn true a)<0:=by simp [sgn]; omega
    have e : -(q:Int)<0:=by omega
    simp only [this,hb',sg,decide_true,decide_false,Bool.true_bne,Bool.not_false,if_true,e,ne_eq,ha,not_false_eq_true,Bool.true_and]
theorem int_div1 (a:Int):((a:Int):Rat)=Rat.divInt a 1:=by
 refine Rat.ext ?_ ?_
 ·rw [Rat.num_divInt]; simp
 ·rw [Rat.den_divInt]; simp
end Go.Proofs.ZQ
end
section
namespace Go.Proofs.ZQ
open Go.RowKit Go.Proofs.ZW.Wa Go.Proofs.ZW.Wb Go.Proofs.ZW.Wc
attribute [local go_sem] zaH zaF zaW zaV zaA zaz zaG zaE
noncomputable def errW:Option Int→Value
 | none => .nilIface
 | some c => .iface 241 (.int .i64 c)
theorem zak:errW none = .nilIface:=rfl
theorem zaj (c:Int):errW (some c) = .iface 241 (.int .i64 c):=rfl
theorem info3:(Tryz.prog.info? 3).map (fun i=>(i.zero,i.size,i.bytes))=some (some (.int .i64 0),1,8):=by kernel_rfl
theorem info144:(Tryz.prog.info? 144).map (fun i=>(i.zero,i.size,i.bytes))=some (some (.int .u32 0),1,4):=by kernel_rfl
end Go.Proofs.ZQ
end
