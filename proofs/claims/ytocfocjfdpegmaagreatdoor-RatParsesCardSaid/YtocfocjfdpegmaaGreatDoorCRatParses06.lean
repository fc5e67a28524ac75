/- Texts under the proof, joined by a program (prune.py): HExp, HMore, HSetStr, HDivMod, HDec, P71, HRev, HRatBase, SText. -/
import Derived.Test.YtocfocjfdpegmaaGreatDoorCRatParses05
import Derived.Test.YtocfocjfdpegmaaGreatDoorCRatParses02
set_option linter.unusedVariables false
set_option linter.unusedSimpArgs false
set_option exponentiation.threshold 20001
set_option maxHeartbeats 8000000
set_option maxRecDepth 100000
section
namespace Go.Proofs.ZP
open Go.RowKit Go.Proofs.ZW.Wa
theorem Bd.mono {n m:Nat} {x:Int} (h:Bd n x) (hm:n≤m):Bd m x:=Nat.lt_of_lt_of_le h (Nat.pow_le_pow_right (by decide) hm)
theorem Bd.pow {n:Nat} {x:Int} (h:Bd n x) (hn:0<n) (k:Nat):Bd (n*k+1) (x^k):=by
 unfold Bd at *
 rw [Int.natAbs_pow]
 have h1:x.natAbs^k≤(2^n)^k:=Nat.pow_le_pow_left (by omega) k
 rw [←Nat.pow_mul] at h1
 have h2:2^(n*k)<2^(n*k+1):=Nat.pow_lt_pow_right (by decide) (by omega)
 omega
theorem bl_spec (Y:Nat):Y<2^bl Y∧∀ i,i<bl Y→2^i≤Y∧i<Y:=by
 unfold bl
 split
 ·rename_i h; subst h; exact ⟨by decide,fun i hi=>by omega⟩
 ·rename_i h
  refine ⟨(Nat.log2_lt h).1 (by omega),fun i hi => ?_⟩
  have h1:2^i≤Y:=(Nat.le_log2 h).1 (by omega)
  have h2:i<2^i:=Nat.lt_two_pow_self
  exact ⟨h1,by omega⟩
theorem mod_bit (Y i:Nat):Y%2^(i+1)=Y%2^i+2^i*(Y/2^i%2):=by rw [Nat.pow_succ,Nat.mod_mul]
structure ESt (w wr:World) (g1 g2 b2 o2:Nat) (x:Int) (Y i j:Nat):Prop where
 o:IntAt wr g1 0 (x^(Y%2^i))
 s:IntAt wr g2 0 (x^(2^j))
 y:IntAt wr b2 o2 Y
 below:Below w.heap.size w wr
theorem ESt.drewN {w wr:World} {g1 g2 b2 o2:Nat} {x:Int} {Y i j:Nat} (h:ESt w wr g1 g2 b2 o2 x Y i j) (nd:Nat):ESt w (wr.drewN nd) g1 g2 b2 o2 x Y i j:=
 ⟨h.o.below (zai _ _),h.s.below (zai _ _),h.y.below (zai _ _),bthen h.below (zai _ _)⟩
theorem ESt.bds {n Y i:Nat} {x:Int} (hs:Bd n x) (hn0:0<n) (hi:i<bl Y):Bd (n*Y+1) (x^(Y%2^i))∧Bd (n*Y+1) (x^(2^i)):=by
 obtain ⟨h1,h2⟩:=(bl_spec Y).2 i hi
 have h3:n*(Y%2^i)≤n*Y:=Nat.mul_le_mul_left n (Nat.mod_le _ _)
 have h4:n*2^i≤n*Y:=Nat.mul_le_mul_left n h1
 exact ⟨(hs.pow hn0 _).mono (by omega),(hs.pow hn0 _).mono (by omega)⟩
theorem ESt.mul {w wr:World} {g1 g2 b2 o2:Nat} {x:Int} {Y i n:Nat} (h:ESt w wr g1 g2 b2 o2 x Y i i) (h12:g1≠g2) (h1b:w.heap.size≤g1) (h2b:b2<w.heap.size) (hs:Bd n x) (hn0:0<n) (hn:n*Y+n≤big) (hi:i<bl Y) (hb:Y/2^i%2=1) :
  Calls Tryz.prog 159 #[.pointer (some ⟨g1,0,none⟩),.pointer (some ⟨g1,0,none⟩),.pointer (some ⟨g2,0,none⟩)] wr fun e w'=>e = .returned (.pointer (some ⟨g1,0,none⟩))∧ESt w w' g1 g2 b2 o2 x Y (i+1) i:=by
 obtain ⟨B1,B2⟩:=ESt.bds hs hn0 hi
 refine (zbs g1 0 g1 0 g2 0 _ _ wr h.o.slot h.o h.s B1 B2 (by omega)).mono fun e w' ⟨he,ho,hu⟩=>⟨he,?_,h.s.upd hu (Or.inl h12.symm),h.y.upd hu (Or.inl (by omega)),hu.below_tmp h.below h1b⟩
 rw [mod_bit,hb,Nat.mul_one,Int.pow_add]; exact ho
theorem ESt.keep {w wr:World} {g1 g2 b2 o2:Nat} {x:Int} {Y i j:Nat} (h:ESt w wr g1 g2 b2 o2 x Y i j) (hb:¬ Y/2^i%2=1):ESt w wr g1 g2 b2 o2 x Y (i+1) j:=
 ⟨by rw [mod_bit,show Y/2^i%2=0 by omega,Nat.mul_zero,Nat.add_zero]; exact h.o,h.s,h.y,h.below⟩
theorem ESt.sq {w wr:World} {g1 g2 b2 o2:Nat} {x:Int} {Y i k n:Nat} (h:ESt w wr g1 g2 b2 o2 x Y k i) (h12:g1≠g2) (h1b:w.heap.size≤g2) (h2b:b2<w.heap.size) (hs:Bd n x) (hn0:0<n) (hn:n*Y+n≤big) (hi:i<bl Y) :
  Calls Tryz.prog 159 #[.pointer (some ⟨g2,0,none⟩),.pointer (some ⟨g2,0,none⟩),.pointer (some ⟨g2,0,none⟩)] wr fun e w'=>e = .returned (.pointer (some ⟨g2,0,none⟩))∧ESt w w' g1 g2 b2 o2 x Y k (i+1):=by
 obtain ⟨B1,B2⟩:=ESt.bds hs hn0 hi
 refine (zbs g2 0 g2 0 g2 0 _ _ wr h.s.slot h.s h.s B2 B2 (by omega)).mono fun e w' ⟨he,ho,hu⟩=>⟨he,h.o.upd hu (Or.inl h12),?_,h.y.upd hu (Or.inl (by omega)),hu.below_tmp h.below h1b⟩
 rw [Nat.pow_succ,Int.pow_mul,Int.pow_succ,Int.pow_succ,Int.pow_zero,Int.one_mul]; exact ho
theorem exp_calls (b o b1 o1 b2 o2:Nat) (u:Value) (x:Int) (Y:Nat) (w:World) (hz:Slot w b o) (hx:IntAt w b1 o1 x) (hy:IntAt w b2 o2 Y) {n:Nat} (hs:Bd n x) (hn0:0<n) (hn:n*Y+n≤big) :
  Calls Tryz.prog 110 #[.pointer (some ⟨b,o,none⟩),.pointer (some ⟨b1,o1,none⟩),.pointer (some ⟨b2,o2,none⟩),u] w fun e w'=>e = .returned (.pointer (some ⟨b,o,none⟩))∧IntAt w' b o (x^Y)∧Upd w w' b o (o+2):=by
 have hlt1:=hx.lt
 have hlt2:=hy.lt
 have hlt:=hz.lt
 have hu105:=Tryz.underlying70
 go_enter Tryz.func110,Tryz.ntmps110
 go_wp2_with fail
 refine (zbV 1 _ (by decide) (by decide)).mono ?_
 rintro e w1 ⟨rfl,hx1,hb1⟩
 have hnew:=IntAt.new w1 70 (by decide)
 have hba:=zaa (Below.refl w1.heap.size w1) (.cells #[.bool false,.slice none 0 0] 70)
 have hsz:=hb1.size
 go_wp2_with fail
 refine (zcl w1.heap.size 0 b1 o1 x _ hnew.slot (hx.below (bthen hb1 hba)) (Or.inl (by omega)) hs (by omega)).mono ?_
 rintro e w2 ⟨rfl,hx2,hu2⟩
 have hE:ESt w w2 w.heap.size w1.heap.size b2 o2 x Y 0 0:=⟨by rw [show Y%2^0=0 by rw [Nat.pow_zero,Nat.mod_one],Int.pow_zero]; exact (hx1.below hba).upd hu2 (Or.inl (by have:=hx1.lt; omega)),by rw [Nat.pow_zero,Int.pow_succ,Int.pow_zero,Int.one_mul]; exact hx2,((hy.below hb1).below hba).upd hu2 (Or.inl (by omega)),hu2.below_tmp (bthen hb1 hba) hsz⟩
 have h12:w.heap.size≠w1.heap.size:=by have:=hx1.lt; omega
 generalize hg1:w.heap.size=g1 at *
 generalize hg2:w1.heap.size=g2 at *
 have hYb:Bd Y (Y:Int):=by unfold Bd; rw [Int.natAbs_natCast]; exact Nat.lt_two_pow_self
 have hYn:Y≤big:=by have:=Nat.mul_le_mul_right Y hn0; omega
 have HE:=Lib.hid hE
 go_wp2_with fail
 refine (zcr b2 o2 (Y:Int) _ HE.out.y hYb hYn).mono ?_
 rintro e w3 ⟨rfl,⟨nd,hw3⟩⟩
 rw [Int.natAbs_natCast]
 have hE3:ESt w w3 g1 g2 b2 o2 x Y 0 0:=by subst hw3; exact hE.drewN nd
 have HE3:=Lib.hid hE3
 clear hE HE hE3 hw3
 have hbl:bl Y≤1099511627777:=by
  apply Classical.byContradiction
  intro h
  have:=((bl_spec Y).2 (bl Y-1) (by omega)).2
  unfold big at hYn
  omega
 have hsz2:w.heap.size≤g1:=by omega
 have hsz3:w.heap.size≤g2:=by omega
 have HBIG:=Lib.hid (show Y≤1099511627776 from hYn)
 have HN:=Lib.hid hn
 have HYN:=Lib.hid hYn
 clear hn hYn
 go_wp2
 go_loopw [18] (fun vi wr=>∃ i:Nat,i≤bl Y∧vi = .int .i64 i∧Hid (ESt w wr g1 g2 b2 o2 x Y i (min i (bl Y-1)))) (fun vi _=>bl Y-(intOf vi).toNat)
 case atStart=>exact ⟨0,by omega,by go_num,by rw [Nat.min_eq_left (by omega)]; exact HE3⟩
 case round =>
  obtain ⟨i,hi,rfl,HR⟩:=hrel
  by_cases hil:i<bl Y
  ·have hib:i≤1099511627776:=by omega
   rw [Nat.min_eq_left (by omega)] at HR
   go_wp2_with fail
   refine (bit_calls b2 o2 (Y:Int) i _ HR.out.y hib hYb HYN.out).mono ?_
   rintro e w4 ⟨rfl,⟨nd4,hw4⟩⟩
   rw [Int.natAbs_natCast]
   have HR4:=Lib.hid (show ESt w w4 g1 g2 b2 o2 x Y i i by subst hw4; exact HR.out.drewN nd4)
   clear hw4
   by_cases hbit:Y/2^i%2=1
   ·rw [hbit]
    go_wp2_with fail
    refine (HR4.out.mul h12 hsz2 (by omega) hs hn0 HN.out hil hbit).mono ?_
    rintro e w5 ⟨rfl,hE5⟩
    have HE5:=Lib.hid hE5
    clear hE5
    go_wp2_with fail
    refine (zcr b2 o2 (Y:Int) _ HE5.out.y hYb HYN.out).mono ?_
    rintro e w6 ⟨rfl,⟨nd6,hw6⟩⟩
    rw [Int.natAbs_natCast]
    have HE6:=Lib.hid (show ESt w w6 g1 g2 b2 o2 x Y (i+1) i by subst hw6; exact HE5.out.drewN nd6)
    clear hw6
    by_cases hnx:i+1<bl Y
    ·go_wp2_with fail
     refine (HE6.out.sq h12 hsz3 (by omega) hs hn0 HN.out hil).mono ?_
     rintro e w7 ⟨rfl,hE7⟩
     have HE7:=Lib.hid hE7
     clear hE7
     go_wp2
     go_roundw
     case rel=>exact ⟨i+1,by omega,by go_num,by rw [Nat.min_eq_left (by omega)]; exact HE7⟩
     case measure=>simp [intOf]; omega
    ·go_wp2
     go_roundw
     case rel=>exact ⟨i+1,by omega,by go_num,by rw [Nat.min_eq_right (by omega),show bl Y-1=i by omega]; exact HE6⟩
     case measure=>simp [intOf]; omega
   ·have hbv:Y/2^i%2=0:=by omega
    rw [hbv]
    have HE5:=Lib.hid (HR4.out.keep hbit)
    go_wp2_with fail
    refine (zcr b2 o2 (Y:Int) _ HE5.out.y hYb HYN.out).mono ?_
    rintro e w6 ⟨rfl,⟨nd6,hw6⟩⟩
    rw [Int.natAbs_natCast]
    have HE6:=Lib.hid (show ESt w w6 g1 g2 b2 o2 x Y (i+1) i by subst hw6; exact HE5.out.drewN nd6)
    clear hw6
    by_cases hnx:i+1<bl Y
    ·go_wp2_with fail
     refine (HE6.out.sq h12 hsz3 (by omega) hs hn0 HN.out hil).mono ?_
     rintro e w7 ⟨rfl,hE7⟩
     have HE7:=Lib.hid hE7
     clear hE7
     go_wp2
     go_roundw
     case rel=>exact ⟨i+1,by omega,by go_num,by rw [Nat.min_eq_left (by omega)]; exact HE7⟩
     case measure=>simp [intOf]; omega
    ·go_wp2
     go_roundw
     case rel=>exact ⟨i+1,by omega,by go_num,by rw [Nat.min_eq_right (by omega),show bl Y-1=i by omega]; exact HE6⟩
     case measure=>simp [intOf]; omega
  ·have hi':i=bl Y:=by omega
   subst hi'
   have hfin:x^(Y%2^bl Y)=x^Y:=by rw [Nat.mod_eq_of_lt (bl_spec Y).1]
   have ho:=HR.out.o
   rw [hfin] at ho
   have HO:=Lib.hid ho
   have hPb:Bd (n*Y+1) (x^Y):=hs.pow hn0 Y
   have hPn:n*Y+1≤big:=by have:=HN.out; omega
   clear hfin ho
   go_wp2_with fail
   refine (zcl b o g1 0 (x^Y) _ (hz.upd (Upd.of_below HR.out.below 0 0 0)) HO.out (Or.inl (by omega)) hPb hPn).mono ?_
   rintro e w8 ⟨rfl,hx8,hu8⟩
   go_wp2
   go_ret
   exact ⟨rfl,hx8,(Upd.of_below HR.out.below _ _ _).trans hu8⟩
theorem more_step {u z P cc t a y:Int} (h:u+P*cc=z*t+a):u+P*((cc+y*t)%4294967296)+P*4294967296*((cc+y*t)/4294967296)=(z+P*y)*t+a:=by
 have e:=Int.emod_add_mul_ediv (cc+y*t) 4294967296
 generalize (cc+y*t)%4294967296=r at *
 generalize (cc+y*t)/4294967296=q at *
 have e2:P*r+P*4294967296*q=P*(cc+y*t):=by rw [←e]; grind
 have e3:(z+P*y)*t+a=z*t+a+P*(y*t):=by grind
 rw [e3,←h,Int.add_assoc,e2]
 grind
theorem more_calls (v:Value) (zs:List Int) (t a:Int) (base:Nat) (w:World) (ho:OwnW w base v zs) (hb:base≤w.heap.size) (hd:Wd zs) (ht:0≤t∧t<4294967296) (ha:0≤a∧a<4294967296) (hl:zs.length≤34359738368) :
  Calls Tryz.prog 214 #[v,.int .u32 t,.int .u32 a] w fun e w'=>∃ (v':Value) (rs:List Int),e = .returned v'∧OwnW w' base v' rs∧Wd rs∧val rs=val zs*t+a∧rs.length≤zs.length+1∧Below base w w':=by
 obtain ⟨A,c,rfl,hw⟩:=ho.wat
 go_enter Tryz.func214,Tryz.ntmps214
 have hwl:zs.length≤9223372036854775807:=hw.lmax
 go_wp2
 go_loopw [7,13] (fun vc vi wr=>∃ (i:Nat) (cc:Int) (us:List Int),i≤zs.length∧vc = .int .u64 cc∧vi = .int .i64 i∧0≤cc∧cc<4294967296∧Hid (us.length=zs.length)∧Wd us∧Hid (OwnW wr base (.slice A zs.length c) us)∧Below base w wr∧Hid (val (us.take i)+4294967296^i*cc=val (zs.take i)*t+a)∧Hid (us.drop i=zs.drop i)) (fun _ vi _=>zs.length-(intOf vi).toNat)
 case atStart=>exact ⟨0,a,zs,by omega,by go_num,by go_num,ha.1,ha.2,Lib.hid rfl,hd,Lib.hid ho,Below.refl _ _,Lib.hid (by simp [val]),Lib.hid rfl⟩
 case round =>
  obtain ⟨i,cc,us,hi,rfl,rfl,hc0,hc1,HL,hud,HO,hB,HV,HD⟩:=hrel
  by_cases hil:i<zs.length
  ·have hrow:wr.ownsRow base 144 1 (.slice A zs.length c) zs.length (nums .u32 us):=by have:=HO.out; unfold OwnW at this; rw [HL.out] at this; exact this
   obtain ⟨g,cap,he,hg0,hg1⟩:=World.ownsRow.form hrow (by omega)
   injection he with e1 _ e3
   subst e1 e3
   obtain ⟨hs1,hs2⟩:=zbP hrow (i:Int) (by omega) (by omega)
   have hst:=zaX hrow (i:Int) ((cc+rd us (i:Int)*t)%4294967296)
   have hy:=hud.rd (i:Int)
   have hul:i<us.length:=by rw [HL.out]; exact hil
   have hvs:=za6 hul ((cc+rd us (i:Int)*t)%4294967296)
   have hvz:=zao (xs:=zs) hil
   have hde:=HD.out
   rw [zcd hul,zcd hil] at hde
   injection hde with hd1 hd2
   rw [←hd1] at hvz
   rw [Int.toNat_natCast] at hs1 hs2 hst
   have HST:=Lib.hid hst
   have HVS:=Lib.hid hvs
   have HVZ:=Lib.hid hvz
   have HD2:=Lib.hid hd2
   clear hst hvs hvz hd1 hd2 hrow
   generalize rd us (i:Int)=y at *
   have hp:=prod_bd hy ht
   obtain ⟨hp0,hp1⟩:=hp
   obtain ⟨hy0,hy1⟩:=hy
   have hup:=Below.setCell hB hg0 (p:=⟨g,i,none⟩) (.int .u32 ((cc+y*t)%4294967296))
   have fin:Hid (OwnW (wr.setCell ⟨g,i,none⟩ (.int .u32 ((cc+y*t)%4294967296))) base (.slice (some ⟨g,0,none⟩) zs.length c) (us.set i ((cc+y*t)%4294967296)))∧Hid (val ((us.set i ((cc+y*t)%4294967296)).take (i+1))+4294967296^(i+1)*((cc+y*t)/4294967296)=val (zs.take (i+1))*t+a)∧Hid ((us.set i ((cc+y*t)%4294967296)).drop (i+1)=zs.drop (i+1)):=by
    refine ⟨?_,?_,?_⟩
    ·show OwnW _ _ _ _
     unfold OwnW
     rw [List.length_set,HL.out]
     exact HST.out.1
    ·show _=_
     rw [HVS.out,HVZ.out,Int.pow_succ]
     exact more_step HV.out
    ·show _=_
     rw [drop_set_lt (by omega)]
     exact HD2.out
   have hw2:Wd (us.set i ((cc+y*t)%4294967296)):=zbA hud _ (by omega) (by omega)
   have hl2:Hid ((us.set i ((cc+y*t)%4294967296)).length=zs.length):=(List.length_set ..).trans HL.out
   go_wp2
   go_roundw
   case rel=>exact ⟨i+1,(cc+y*t)/4294967296,_,by omega,by go_num,by go_num,by omega,by omega,hl2,hw2,fin.1,hup,fin.2.1,fin.2.2⟩
   case measure=>simp [intOf]; omega
  ·have hi':i=zs.length:=by omega
   subst hi'
   have hv:=HV.out
   rw [List.take_length,List.take_of_length_le (by rw [HL.out]; omega)] at hv
   have HVV:=Lib.hid hv
   clear hv
   by_cases hz:0<cc
   ·have hlt:=WAt.lit wr [cc] (by simp)
    have HLR:=Lib.hid hlt.reads
    have hbl:=zaa (Below.refl wr.heap.size wr) (.cells #[.int .u32 cc] 144)
    have hrow:wr.ownsRow base 144 1 (.slice A zs.length c) us.length (nums .u32 us):=HO.out
    have hrow2:=hrow.alloc (.cells #[.int .u32 cc] 144)
    have HRW:=Lib.hid hrow2
    clear hrow hrow2 hlt
    have hwb:base≤wr.heap.size:=Nat.le_trans hb hB.size
    have hbw:=hB.trans ((zaa (Below.refl wr.heap.size wr) (.cells #[.int .u32 cc] 144)).mono hwb)
    have hbs:=hbw.size
    have hll:(us.length+1)*4≤140737488355328:=by rw [HL.out]; omega
    have hsb:base≤(wr.alloc (.cells #[.int .u32 cc] 144)).heap.size:=by omega
    go_wp2_with (at_builtin; refine zaN base rfl _ _ 68 144 .u32 4 rfl Tryz.underlying68 zcD (by decide) (.slice A zs.length c) us [cc] (some ⟨wr.heap.size,0,none⟩) 1 1 rfl rfl HRW.out HLR.out hbw hsb hll ?_; intro v1 w1 hown hb hg hat)
    have HN:=Lib.hid hown
    clear hown hg hat
    go_wp2
    go_ret
    refine ⟨v1,us ++ [cc],rfl,HN.out,hud.append (Wd.cons hc0 hc1 Wd.nil),?_,?_,hb⟩
    ·rw [za0,HL.out,←HVV.out]; simp [val]
    ·rw [List.length_append,HL.out]; simp
   ·have hz0:cc=0:=by omega
    subst hz0
    go_wp2
    go_ret
    refine ⟨.slice A zs.length c,rfl,us,HO.out,hud,?_,?_,hB⟩
    ·have:=HVV.out; rw [Int.mul_zero,Int.add_zero] at this; exact this
    ·rw [HL.out]; omega
def dval (l:List UInt8):Nat:=l.foldl (fun a c=>a*10+(c.toNat-48)) 0
def Dig (l:List UInt8):Prop:=∀ c∈l,48≤c.toNat∧c.toNat≤57
theorem ba_loop_length (s:ByteArray):∀ (d i:Nat) (r:List UInt8),d=s.size-i→(ByteArray.toList.loop s i r).length=r.length+d:=by
 intro d
 induction d with
 | zero=>intro i r h; rw [ByteArray.toList.loop,if_neg (by omega)]; simp
 | succ d ih=>intro i r h; rw [ByteArray.toList.loop,if_pos (by omega),ih (i+1) _ (by omega),List.length_cons]; omega
theorem ba_toList_length (s:ByteArray):s.toList.length=s.size:=by
 unfold ByteArray.toList
 rw [ba_loop_length s s.size 0 [] (by omega)]; simp
theorem ba_mem (s:ByteArray) (i:Nat) (h:i<s.size):s[i]'h∈s.data.toList:=by
 show s.data[i]'h∈s.data.toList
 exact Array.mem_toList_iff.2 (Array.getElem_mem h)
structure SSt (w wr:World) (s s':ByteArray) (k:Nat) (v:Value) (zs:List Int):Prop where
 le:k≤s.size
 rest:s'.data.toList=s.data.toList.drop k
 own:OwnW wr w.heap.size v zs
 wd:Wd zs
 len:zs.length≤k
 eq:val zs=dval (s.data.toList.take k)
 below:Below w.heap.size w wr
theorem SSt.size {w wr:World} {s s':ByteArray} {k:Nat} {v:Value} {zs:List Int} (h:SSt w wr s s' k v zs):s'.size+k=s.size:=by
 have h1:s'.size=s'.data.toList.length:=rfl
 have h2:s.size=s.data.toList.length:=rfl
 have h3:=h.le
 rw [h.rest,List.length_drop] at h1
 omega
theorem dval_foldl (l:List UInt8) (a:Nat):l.foldl (fun a c=>a*10+(c.toNat-48)) a=a*10^l.length+dval l:=by
 induction l generalizing a with
 | nil=>simp [dval]
 | cons x xs ih =>
  have e:dval (x :: xs)=(0*10+(x.toNat-48))*10^xs.length+dval xs:=by
   rw [←ih]; rfl
  rw [List.foldl_cons,ih,List.length_cons,Nat.pow_succ,e]
  generalize 10^xs.length=P
  rw [Nat.add_mul,Nat.mul_assoc,Nat.mul_comm 10 P,Nat.zero_mul,Nat.zero_add,Nat.add_assoc]
theorem zbE (x:UInt8) (xs:List UInt8):dval (x :: xs)=(x.toNat-48)*10^xs.length+dval xs:=by
 have:=dval_foldl xs (0*10+(x.toNat-48))
 rw [Nat.zero_mul,Nat.zero_add] at this
 rw [←this]; show List.foldl _ _ _=_
 rw [List.foldl_cons,Nat.zero_mul,Nat.zero_add]
theorem za9 (a b:List UInt8):dval (a++b)=dval a*10^b.length+dval b:=by
 show (a++b).foldl _ 0=_
 rw [List.foldl_append,dval_foldl b]; rfl
theorem dval_lt (l:List UInt8) (h:Dig l):dval l<10^l.length:=by
 induction l with
 | nil=>simp [dval]
 | cons x xs ih =>
  rw [zbE,List.length_cons,Nat.pow_succ]
  have h1:=ih (fun c hc=>h c (List.mem_cons_of_mem _ hc))
  have h2:=h x List.mem_cons_self
  have h3:(x.toNat-48)*10^xs.length≤9*10^xs.length:=Nat.mul_le_mul_right _ (by omega)
  omega
theorem Dig.take {l:List UInt8} (h:Dig l) (n:Nat):Dig (l.take n):=fun c hc=>h c (List.mem_of_mem_take hc)
theorem Dig.drop {l:List UInt8} (h:Dig l) (n:Nat):Dig (l.drop n):=fun c hc=>h c (List.mem_of_mem_drop hc)
theorem zbX (l:List UInt8) (j:Nat) (h:j<l.length):dval (l.take (j+1))=dval (l.take j)*10+(l[j].toNat-48):=by
 rw [List.take_succ_eq_append_getElem h,za9]
 simp [dval]
theorem dig_step (s:ByteArray) (hd:Dig s.data.toList) (j:Nat) (h:j<s.size):∃ d:Nat,d≤9∧rd (bytesOf s) (j:Int)=(d:Int)+48∧dval (s.data.toList.take (j+1))=dval (s.data.toList.take j)*10+d:=by
 have hl:j<s.data.toList.length:=by rw [zah]; exact h
 have h1:=hd _ (List.getElem_mem hl)
 refine ⟨s.data.toList[j].toNat-48,by omega,?_,zbX _ _ hl⟩
 rw [rd_lt (by rw [zcz]; exact h)]
 simp only [bytesOf,List.getElem_map]
 omega
theorem ex_data (s:ByteArray) (a b:Nat):(s.extract a b).data.toList=(s.data.toList.drop a).take (b-a):=by
 rw [ByteArray.data_extract,Array.toList_extract]
theorem OwnW.below {w w':World} {base:Nat} {v:Value} {zs:List Int} (h:OwnW w base v zs) (hb:Below w.heap.size w w'):OwnW w' base v zs:=
 World.ownsRow.kept (row:=none) h (World.grownBy.mk hb.os hb.tape hb.output hb.size (fun k hk _=>hb.block k hk)) (Classical.em _)
theorem SSt.step {w wo:World} {s s':ByteArray} {k:Nat} {Aw:Option Addr} {cw:Nat} {zs:List Int} (h:SSt w wo s s' k (.slice Aw zs.length cw) zs) (h1:s.size≤1048576) (n pt tm:Nat) (hn:n≤s'.size) (hn1:1≤n) (hpt:pt=dval ((s'.extract 0 n).data.toList.take n)) (htm:tm=10^n) (hlt:pt<tm) (hle:tm≤1000000000) (W:World) (hb:Below wo.heap.size wo W) :
  Calls Tryz.prog 214 #[.slice Aw zs.length cw,.int .u32 tm,.int .u32 pt] W fun e w'=>∃ (v':Value) (rs:List Int),e = .returned v'∧Hid (SSt w w' s (s'.extract n s'.size) (k+n) v' rs):=by
 have hsz:=h.size
 have hlen:=h.len
 have hle2:=h.le
 have hbb:=bthen h.below hb
 refine (more_calls _ zs tm pt w.heap.size W (h.own.below hb) hbb.size h.wd (by omega) (by omega) (by omega)).mono fun e w' ⟨v',rs,he,ho,hd,hv,hl,hB⟩=>⟨v',rs,he,?_⟩
 have hs'l:s'.data.toList.length=s'.size:=zah s'
 exact {
  le:=by omega
  rest:=by rw [ex_data,List.take_of_length_le (by rw [List.length_drop]; omega),h.rest,List.drop_drop]
  own:=ho
  wd:=hd
  len:=by omega
  eq:=by
   rw [ex_data,List.drop_zero,Nat.sub_zero,List.take_take,Nat.min_self,h.rest] at hpt
   have hl2:((s.data.toList.drop k).take n).length=n:=by rw [List.length_take,←h.rest,hs'l]; omega
   rw [hv,h.eq,List.take_add,za9,hl2,←hpt,←htm]
   simp
  below:=hbb.trans hB }
theorem zcm (b o:Nat) (s:ByteArray) (u:Value) (w:World) (hz:Slot w b o) (hd:Dig s.data.toList) (h0:0<s.size) (h1:s.size≤1048576) :
  Calls Tryz.prog 152 #[.pointer (some ⟨b,o,none⟩),.string s,u] w fun e w'=>e = .returned (.tuple #[.pointer (some ⟨b,o,none⟩),.bool true])∧IntAt w' b o (dval s.data.toList)∧Upd w w' b o (o+2):=by
 have hb0:=hd (s[0]'h0) (ba_mem s 0 h0)
 have hb45:(((s[0]'h0).toNat:Int) == 45)=false:=beq_eq_false_iff_ne.2 (by omega)
 have hb43:(((s[0]'h0).toNat:Int) == 43)=false:=beq_eq_false_iff_ne.2 (by omega)
 have hse:s.toList.isEmpty=false:=by
  cases hs:s.toList with
  | nil=>have:=congrArg List.length hs; rw [ba_toList_length] at this; have h9:s.size=0:=this; omega
  | cons x xs=>rfl
 go_enter Tryz.func152,Tryz.ntmps152
 go_wp2
 go_loopw [1,9] (fun vs vw wr=>∃ (k:Nat) (s':ByteArray) (zs:List Int),vs = .string s'∧Hid (SSt w wr s s' k vw zs)) (fun vs _ _=>match vs with|.string s'=>s'.size|_=>0)
 case atStart=>exact ⟨0,s,[],rfl,Lib.hid ⟨by omega,rfl,⟨rfl,Or.inl ⟨rfl,rfl⟩⟩,Wd.nil,by simp,rfl,Below.refl _ _⟩⟩
 case round =>
  obtain ⟨k,s',zs,rfl,HS⟩:=hrel
  rename_i vw
  by_cases hk:0<s'.size
  ·have hsz:s'.size≤1048576:=by have:=HS.out.size; omega
   have q1:IntKind.i64.wrap ((s'.size:Int)-1)=(s'.size:Int)-1:=IntWalk.i64_in _ (by omega)
   obtain ⟨n,hn⟩:∃ n:Nat,n=(s'.size-1)%9+1:=⟨_,rfl⟩
   have q2:Int.tmod ((s'.size:Int)-1) 9=(n:Int)-1:=by rw [Int.tmod_eq_emod_of_nonneg (by omega)]; omega
   have hn1:1≤n:=by omega
   have hn9:n≤9:=by omega
   have hns:n≤s'.size:=by omega
   have hnsI:(n:Int)≤(s'.size:Int):=by omega
   clear hn
   obtain ⟨Aw,cw,rfl,hww⟩:=HS.out.own.wat
   have hP:(s'.extract 0 n).size=n:=by rw [ByteArray.size_extract]; omega
   have kb:=fun W=>print_bytes (P:=Tryz.prog) 9 133 5 Tryz.underlying9 Tryz.underlying133 Tryz.underlying5 (s'.extract 0 n) W
   rw [hP] at kb
   have hpd:Dig (s'.extract 0 n).data.toList:=by rw [ex_data,HS.out.rest]; exact ((hd.drop _).drop _).take _
   have HP:=Lib.hid hP
   clear hP
   have hrd:=bytes_reads wr 5 (s'.extract 0 n) (by have:=HP.out; omega)
   rw [HP.out] at hrd
   have HRD:=Lib.hid hrd
   have HBB:=Lib.hid (bytes_below (Below.refl wr.heap.size wr) (Nat.le_refl _) 5 (s'.extract 0 n))
   clear hrd
   have hSp:Hid (∀ j,j<n→∃ d:Nat,d≤9∧rd (bytesOf (s'.extract 0 n)) (j:Int)=(d:Int)+48∧dval ((s'.extract 0 n).data.toList.take (j+1))=dval ((s'.extract 0 n).data.toList.take j)*10+d):=Lib.hid (fun j hj=>dig_step _ hpd j (by rw [HP.out]; exact hj))
   go_wp2
   generalize hwb:Lib.bytesWorld wr 5 (s'.extract 0 n)=wb at HRD HBB ⊢
   obtain ⟨wo,rfl⟩:∃ wo:World,wo=wr:=⟨_,rfl⟩
   clear hwb kb
   go_loopw [11,12,51] (fun vp vt vi w2=>∃ (j pt tm:Nat),j≤n∧vp = .int .u32 pt∧vt = .int .u32 tm∧vi = .int .i64 j∧Hid (pt=dval ((s'.extract 0 n).data.toList.take j))∧Hid (tm=10^j)∧pt<tm∧tm≤1000000000∧Below wb.heap.size wb w2) (fun _ _ vi _=>n-(intOf vi).toNat)
   case atStart=>exact ⟨0,0,1,by omega,by go_num,by go_num,by go_num,Lib.hid (by simp [dval]),Lib.hid rfl,by omega,by omega,Below.refl _ _⟩
   case round =>
    obtain ⟨j,pt,tm,hj,rfl,rfl,rfl,HPT,HTM,hpt,htm,hB2⟩:=hrel
    by_cases hjn:j<n
    ·obtain ⟨d,hd9,hrdd,hdv⟩:=hSp.out j hjn
     obtain ⟨ad,he,hc⟩:=(HRD.out.below hB2).at_ (j:Int) (by omega) (by omega)
     injection he with he
     subst he
     rw [hrdd,Int.toNat_natCast] at hc
     have HDV:=Lib.hid hdv
     have htm2:tm*10≤1000000000:=by
      rw [HTM.out]
      have:10^j≤10^8:=Nat.pow_le_pow_right (by decide) (by omega)
      omega
     have hc2:=hc
     rw [zbe] at hc2
     clear hrdd hdv
     have hjI:(j:Int)<(n:Int):=by omega
     go_wp2
     go_roundw
     case rel=>exact ⟨j+1,pt*10+d,tm*10,by omega,by go_num,by go_num,by go_num,Lib.hid (by rw [HDV.out,←HPT.out]),Lib.hid (by rw [Nat.pow_succ,←HTM.out]),by omega,htm2,hB2⟩
     case measure=>simp [intOf]; omega
    ·have hjn':j=n:=by omega
     subst hjn'
     have hjI:¬ (j:Int)<(j:Int):=by omega
     have hBo:Below wo.heap.size wo wr:=bthen HBB.out hB2
     have hst:=HS.out.step h1 j pt tm hns hn1 HPT.out HTM.out hpt htm
     have HST:=Lib.hid hst
     clear hst
     have hsw:s'.size≤9223372036854775807:=by omega
     go_wp2_with fail
     go_region_held3 (fun _=>True) (exact trivial)
      ((first
       | (go_simp; go_at_call 214; with_reducible refine (HST.out _ (bthen hBo (zac _))).mono ?_; rintro e w5 ⟨v',rs,rfl,HS2⟩)))
     go_wp2
     go_roundw
     case rel=>exact ⟨k+j,s'.extract j s'.size,rs,by go_num,HS2⟩
     case measure=>have e1:=HS2.out.size; have e2:=HS.out.size; simp; omega
  ·obtain ⟨Aw,cw,rfl,hww⟩:=HS.out.own.wat
   have hfin:sg false (val zs)=((dval s.data.toList:Nat):Int):=by
    have e1:=HS.out.size
    have e2:=HS.out.eq
    rw [List.take_of_length_le (by rw [zah]; omega)] at e2
    exact e2
   have HF:=Lib.hid hfin
   clear hfin
   go_wp2_with fail
   refine (zax b o false Aw cw zs _ (hz.upd (Upd.of_below HS.out.below 0 0 0)) hww HS.out.wd).mono ?_
   rintro e w5 ⟨rfl,hx5,hu5⟩
   rw [HF.out] at hx5
   go_wp2
   go_ret2
   exact ⟨rfl,hx5,(Upd.of_below HS.out.below _ _ _).trans hu5⟩
theorem quot_eu {neg neg':Bool} {xs ys:List Int} {x y q r:Int} (hx:Norm neg xs x) (hy:Norm neg' ys y) (h:val xs=val ys*q+r) (h0:0≤r) (h1:r<val ys) :
  (neg=true∧r≠0→sg (!(neg == neg')) (q+1)=x/y∧val ys-r=x%y)∧(¬ (neg=true∧r≠0)→sg (!(neg == neg')) q=x/y∧r=x%y):=by
 have hY:0<val ys:=by omega
 rw [hx.eq,hy.eq]
 unfold sg
 generalize val xs=X at *
 generalize val ys=Y at *
 have eX:X/Y=q∧X%Y=r:=(Int.ediv_emod_unique hY).2 ⟨by omega,h0,h1⟩
 have eN:r≠0→(-X)/Y = -(q+1)∧(-X)%Y=Y-r:=fun hr=>(Int.ediv_emod_unique hY).2 ⟨by rw [Int.mul_neg,Int.mul_add]; omega,by omega,by omega⟩
 have eZ:r=0→(-X)/Y = -q∧(-X)%Y=0:=fun hr=>(Int.ediv_emod_unique hY).2 ⟨by rw [Int.mul_neg]; omega,by omega,by omega⟩
 constructor
 ·rintro ⟨rfl,hr⟩
  obtain ⟨e1,e2⟩:=eN hr
  cases neg'<;>simp [Int.ediv_neg,Int.emod_neg,e1,e2]
 ·intro hn
  cases neg
  ·cases neg'<;>simp [Int.ediv_neg,Int.emod_neg,eX.1,eX.2]
  ·have hr:r=0:=by
    apply Classical.byContradiction
    intro h; exact hn ⟨rfl,h⟩
   obtain ⟨e1,e2⟩:=eZ hr
   cases neg'<;>simp [Int.ediv_neg,Int.emod_neg,e1,e2,hr]
theorem quo_len {w w':World} {xs ys qs rs:List Int} {A1 A2:Option Addr} {c1 c2:Nat} (dx:Wd xs) (q:Quot w w' (val xs) (val ys) A1 c1 qs A2 c2 rs):qs.length≤xs.length:=by
 refine zaQ dx q.dq q.tq ?_
 have h0:=zap q.dr
 have h1:=zap q.dq
 have h2:=q.lt
 have h3:=q.eq
 have h4:1*val qs≤val ys*val qs:=Int.mul_le_mul_of_nonneg_right (by omega) h1
 omega
theorem divMod_calls (b o b1 o1 b2 o2 b3 o3:Nat) (x y:Int) (w:World) (hz:Slot w b o) (hm:Slot w b3 o3) (hzm:b≠b3) (hx:IntAt w b1 o1 x) (hy:IntAt w b2 o2 y) (hy0:y≠0) {n:Nat} (hs:Bd n x) (ht:Bd n y) (hn:n≤big) :
  Calls Tryz.prog 162 #[.pointer (some ⟨b,o,none⟩),.pointer (some ⟨b1,o1,none⟩),.pointer (some ⟨b2,o2,none⟩),.pointer (some ⟨b3,o3,none⟩)] w fun e w'=>e = .returned (.tuple #[.pointer (some ⟨b,o,none⟩),.pointer (some ⟨b3,o3,none⟩)])∧IntAt w' b o (x/y)∧IntAt w' b3 o3 (x%y)∧∃ w1,Upd w w1 b o (o+2)∧Upd w1 w' b3 o3 (o3+2):=by
 obtain ⟨neg,A,c,xs,h1,h2,h3,h4⟩:=hx.out
 obtain ⟨neg',A',c',ys,k1,k2,k3,k4⟩:=hy.out
 have hl1:xs.length≤34359738368:=h4.small hs hn
 have hl2:ys.length≤34359738368:=k4.small ht hn
 have hlt1:=hx.lt
 have hlt2:=hy.lt
 have hyn:=k4.ne hy0
 clear hs hy0 ht
 have hD:=fun (W:World) (hb:Below w.heap.size w W)=>zcq A c xs A' c' ys W (h3.below hb) (k3.below hb) h4.wd k4.wd h4.top k4.top hyn hl1
 have HD:=Lib.hid hD
 clear hD
 go_enter Tryz.func162,Tryz.ntmps162
 go_wp2_with fail
 go_region_held3 (fun w'=>w'.cell? ⟨b1,o1+1,none⟩=some (.slice A xs.length c)∧w'.cell? ⟨b2,o2+1,none⟩=some (.slice A' ys.length c'))
  (first|go_keep|exact ⟨h2,k2⟩|exact ⟨bcell (bthen (zac _) hq.below) h2,bcell (bthen (zac _) hq.below) k2⟩)
  ((first
   | (go_simp; go_at_call 202; with_reducible refine (HD.out _ (by first|exact zac _|exact zai _ _|exact Below.refl _ _)).mono ?_; rintro e w1 ⟨A1,c1,qs,A2,c2,rs,rfl,hq⟩)))
 have hB1:Below w.heap.size w w1:=bthen (zac _) hq.below
 have HB1:=Lib.hid hB1
 have g1:=bcell hB1 h1
 have g2:=bcell hB1 k1
 have g4:=bcell hB1 k2
 have hk:=quot_eu h4 k4 hq.eq (zap hq.dr) hq.lt
 have HK:=Lib.hid hk
 have HQ:=Lib.hid hq
 clear hk hq hB1
 go_wp2_with fail
 refine (zbz A' c' ys _ (k3.below HB1.out) (by omega)).mono ?_
 rintro e w2 ⟨A3,c3,rfl,hw2,hb2⟩
 have HB2:=Lib.hid (bthen HB1.out hb2)
 have m1:=bcell hb2 g1
 have m2:=bcell hb2 g2
 have HQr:=Lib.hid (HQ.out.wr.below hb2)
 have HQq:=Lib.hid (HQ.out.wq.below hb2)
 clear g1 g2 g4 hb2 h1 h2 k1 k2
 by_cases hng:neg=true
 ·by_cases hr:0<rs.length
  ·have hrI:(0:Int)<(rs.length:Int):=by omega
   subst hng
   go_wp2_with fail
   go_quiet (fail)
   generalize hqd:w2.drewN _=w3
   have hb3:Below w2.heap.size w2 w3:=by subst hqd; exact zai _ _
   have m3:=bcell hb3 m1
   clear hqd
   go_wp2_with fail
   have hrv:val rs≠0:=by
    have h1:=val_pos HQ.out.dr HQ.out.tr (by intro e; rw [e] at hr; simp at hr)
    have h2:(0:Int)<4294967296^(rs.length-1):=Int.pow_pos (by decide)
    omega
   have hkk:=HK.out.1 ⟨by first|trivial|rfl,hrv⟩
   have HKK:=Lib.hid (show sg (!neg') (val qs+1)=x/y∧val ys-val rs=x%y by revert hkk; cases neg'<;>exact id)
   have hql:=quo_len h4.wd HQ.out
   have hrl:=zaQ k4.wd HQ.out.dr HQ.out.tr (Int.le_of_lt HQ.out.lt)
   have hlt:=Int.le_of_lt HQ.out.lt
   have HLT:=Lib.hid hlt
   have HB3:=Lib.hid (bthen HB2.out hb3)
   have HRR:=Lib.hid (HQr.out.below hb3)
   have HQQ:=Lib.hid (HQq.out.below hb3)
   have HYY:=Lib.hid (hw2.below hb3)
   have hla:=zaa (Below.refl w3.heap.size w3) (.cells #[.int .u32 1] 144)
   have HLA:=Lib.hid hla
   have HLI:=Lib.hid (WAt.lit w3 [1] (by simp))
   clear hkk hrv hlt hla
   refine (zcJ A1 c1 qs (some ⟨w3.heap.size,0,none⟩) 1 [1] _ (HQQ.out.below HLA.out) HLI.out HQ.out.dq (Wd.cons (by decide) (by decide) Wd.nil) (by omega) (by simp)).mono ?_
   rintro e w4 ⟨A4,c4,zs,rfl,hw4,hz4,hv4,hl4,hb4⟩
   have HV4:=Lib.hid hv4
   have HB4:=Lib.hid (bthen HLA.out hb4)
   clear hv4 hl4 hb4
   go_wp2_with fail
   refine (zbK A3 c3 ys A2 c2 rs _ (HYY.out.below HB4.out) (HRR.out.below HB4.out) k4.wd HQ.out.dr (by omega) HLT.out hrl).mono ?_
   rintro e w5 ⟨A5,c5,ts,rfl,hw5,hz5,hv5,hl5,hb5⟩
   have HV5:=Lib.hid hv5
   have HB5:=Lib.hid hb5
   clear hv5 hl5 hb5
   have HBX:=Lib.hid (bthen (bthen HB3.out HB4.out) HB5.out)
   have HKX:=Lib.hid (show sg (!neg') (val zs)=x/y∧sg false (val ts)=x%y by rw [HV4.out,HV5.out]; exact HKK.out)
   go_wp2_with fail
   refine (zax b o (!neg') _ _ zs _ (hz.upd (Upd.of_below HBX.out 0 0 0)) (hw4.below HB5.out) hz4).mono ?_
   rintro e w6 ⟨rfl,hx6,hu6⟩
   rw [HKX.out.1] at hx6
   go_wp2_with fail
   refine (zax b3 o3 false _ _ ts _ ((hm.upd (Upd.of_below HBX.out 0 0 0)).upd hu6) (hw5.upd hu6) hz5).mono ?_
   rintro e w7 ⟨rfl,hx7,hu7⟩
   rw [HKX.out.2] at hx7
   go_wp2
   go_ret2
   exact ⟨rfl,hx6.upd hu7 (Or.inl hzm),hx7,w6,(Upd.of_below HBX.out _ _ _).trans hu6,hu7⟩
  ·have hrI:¬ (0:Int)<(rs.length:Int):=by omega
   subst hng
   go_wp2_with fail
   go_quiet (fail)
   generalize hqd:w2.drewN _=w3
   have hb3:Below w2.heap.size w2 w3:=by subst hqd; exact zai _ _
   have m3:=bcell hb3 m1
   clear hqd
   go_wp2_with fail
   have hkk:=HK.out.2 (by rintro ⟨_,h⟩; apply h; rw [List.length_eq_zero_iff.1 (show rs.length=0 by omega)]; rfl)
   have HKK:=Lib.hid (show sg (!neg') (val qs)=x/y∧val rs=x%y by revert hkk; cases neg'<;>exact id)
   clear hkk
   have HB3:=Lib.hid (bthen HB2.out hb3)
   have HRR:=Lib.hid (HQr.out.below hb3)
   have HQQ:=Lib.hid (HQq.out.below hb3)
   refine (zax b o (!neg') _ _ qs _ (hz.upd (Upd.of_below HB3.out 0 0 0)) HQQ.out HQ.out.dq).mono ?_
   rintro e w6 ⟨rfl,hx6,hu6⟩
   rw [HKK.out.1] at hx6
   go_wp2_with fail
   refine (zax b3 o3 false _ _ rs _ ((hm.upd (Upd.of_below HB3.out 0 0 0)).upd hu6) (HRR.out.upd hu6) HQ.out.dr).mono ?_
   rintro e w7 ⟨rfl,hx7,hu7⟩
   rw [show sg false (val rs)=x%y from HKK.out.2] at hx7
   go_wp2
   go_ret2
   exact ⟨rfl,hx6.upd hu7 (Or.inl hzm),hx7,w6,(Upd.of_below HB3.out _ _ _).trans hu6,hu7⟩
 ·have hng':neg=false:=by simpa using hng
  subst hng'
  go_wp2_with fail
  go_quiet (fail)
  generalize hqd:w2.drewN _=w3
  have hb3:Below w2.heap.size w2 w3:=by subst hqd; exact zai _ _
  have m3:=bcell hb3 m1
  clear hqd
  go_wp2_with fail
  have hkk:=HK.out.2 (by rintro ⟨h,_⟩; simp at h)
  have HKK:=Lib.hid (show sg neg' (val qs)=x/y∧val rs=x%y by revert hkk; cases neg'<;>exact id)
  clear hkk
  have HB3:=Lib.hid (bthen HB2.out hb3)
  have HRR:=Lib.hid (HQr.out.below hb3)
  have HQQ:=Lib.hid (HQq.out.below hb3)
  refine (zax b o (neg') _ _ qs _ (hz.upd (Upd.of_below HB3.out 0 0 0)) HQQ.out HQ.out.dq).mono ?_
  rintro e w6 ⟨rfl,hx6,hu6⟩
  rw [HKK.out.1] at hx6
  go_wp2_with fail
  refine (zax b3 o3 false _ _ rs _ ((hm.upd (Upd.of_below HB3.out 0 0 0)).upd hu6) (HRR.out.upd hu6) HQ.out.dr).mono ?_
  rintro e w7 ⟨rfl,hx7,hu7⟩
  rw [show sg false (val rs)=x%y from HKK.out.2] at hx7
  go_wp2
  go_ret2
  exact ⟨rfl,hx6.upd hu7 (Or.inl hzm),hx7,w6,(Upd.of_below HB3.out _ _ _).trans hu6,hu7⟩
def rdig (n:Nat):List UInt8:=if h:n=0 then [] else UInt8.ofNat (48+n%10) :: rdig (n/10)
termination_by n
decreasing_by omega
def decl (n:Nat):List UInt8:=if n=0 then [48] else (rdig n).reverse
theorem zb1:rdig 0 = []:=by rw [rdig]; rfl
theorem zbI {n:Nat} (h:0<n):rdig n=UInt8.ofNat (48+n%10) :: rdig (n/10):=by rw [rdig,dif_neg (by omega)]
theorem zaZ (d:Nat) (h:d<10):(UInt8.ofNat (48+d)).toNat=48+d:=by
  rw [UInt8.toNat_ofNat']; omega
def pad:Nat→Nat→List UInt8
  | 0,_ => []
  | k+1,r=>UInt8.ofNat (48+r%10) :: pad k (r/10)
theorem rdig_split (k r q:Nat) (hr:r<10^k) (hq:0<q):rdig (q*10^k+r)=pad k r++rdig q:=by
  induction k generalizing r with
  | zero => have : r = 0 := by omega
            subst this; simp [pad]
  | succ k ih =>
    have hp:0<10^k:=Nat.pow_pos (by decide)
    have h1:0<q*10^(k+1):=Nat.mul_pos hq (Nat.pow_pos (by decide))
    have e1:q*10^(k+1)+r=10*(q*10^k)+r:=by rw [Nat.pow_succ,←Nat.mul_assoc]; omega
    rw [zbI (by omega),e1]
    have e2:(10*(q*10^k)+r)%10=r%10:=by omega
    have e3:(10*(q*10^k)+r)/10=q*10^k+r/10:=by omega
    rw [e2,e3,ih (r/10) (by rw [Nat.pow_succ] at hr; omega)]
    rfl
theorem dval_rdig (n:Nat):dval (rdig n).reverse=n:=by
  induction n using Nat.strongRecOn with
  | ind n ih =>
    rcases Nat.eq_zero_or_pos n with h|h
    · subst h; rw [zb1]; rfl
    · rw [zbI h,List.reverse_cons,za9,ih (n/10) (by omega)]
      simp only [List.length_singleton,dval,List.foldl_cons,List.foldl_nil,zaZ _ (Nat.mod_lt n (by decide))]
      omega
theorem dig_rdig (n:Nat):Dig (rdig n):=by
  induction n using Nat.strongRecOn with
  | ind n ih =>
    rcases Nat.eq_zero_or_pos n with h|h
    · subst h; rw [zb1]; intro c hc; cases hc
    · rw [zbI h]
      intro c hc
      rcases List.mem_cons.1 hc with rfl|hc
      · rw [zaZ _ (Nat.mod_lt n (by decide))]; omega
      · exact ih (n/10) (by omega) c hc
theorem dval_decl (n:Nat):dval (decl n)=n:=by
  unfold decl
  split
  · rename_i h; subst h; rfl
  · exact dval_rdig n
theorem dig_decl (n:Nat):Dig (decl n):=by
  unfold decl
  split
  · intro c hc; simp at hc; subst hc; decide
  · intro c hc; exact dig_rdig n c (List.mem_reverse.1 hc)
end Go.Proofs.ZP
end
section
namespace Go.Proofs.ZP
open Go.RowKit Go.Proofs.ZW.Wa Go.Proofs.ZW.Wb Go.Proofs.ZW.Wc
attribute [local go_sem] zaH zaF zaW zaV zaA zaz zaG zaE
def sRbb.l0:Nat→List Int→Int→Int→Option (List Int)
 | 0,_,_,_=>none
 | k+1,x0,x2,x3=>if x2<x3 then (if 0≤x3 then (if x3<(x0.length:Int) then (if 0≤x2 then (if x2<(x0.length:Int) then (sRbb.l0 k ((x0.set (x2:Int).toNat (rd x0 x3)).set (x3:Int).toNat (rd x0 x2)) (wrap64 (x2+1)) (wrap64 (x3-1))) else (none)) else (none)) else (none)) else (none)) else (some x0)
def sRbb.f (k:Nat) (l0:List Int):Option (List Int):=sRbb.l0 k l0 0 (wrap64 ((l0.length:Int)-1))
def sRbb.T3:Bool×List (List Nat×List Nat):=(true,[([],[]),([],[]),([],[]),([],[]),([],[]),([],[]),([4,5],[4,5]),([6],[6]),([],[]),([],[]),([8,9],[8,9]),([10],[10]),([0,1,0,1,4,5,6,7,11],[0,1]),([12,7,0,1,4,5,6,7,11],[7,12]),([2,3,0,1,2,3,4,5,6,7,8,9,10,11,12,13],[2,3]),([14,11,13,0,1,2,3,4,5,6,7,8,9,10,11,12,13],[11,14])])
def sRbb.B3:List Nat:=[0,0,0,0,0,0,48,112,0,0,768,1792,4083,8179,16383,32767]
theorem sRbb.tab3:rtab .any (opsOf Tryz.f140 3)=sRbb.T3:=by kernel_rfl
theorem sRbb.bits3:waitsOk sRbb.T3.2 sRbb.B3=true:=by kernel_rfl
theorem sRbb.calls (k : Nat) (P0_ : Nat → Prop) (u9000_ : Value) (l0 : List Int) (r : List Int) (w0 w : World) (hB : Below w0.heap.size w0 w) (ho0 : Kd.R (Kd.int .u8) 5 w w0.heap.size P0_ u9000_ l0) (h : sRbb.f k l0 = some r) :
  Calls Tryz.prog 140 #[u9000_] w fun e w'=>e = .returned (.tuple #[])∧Kd.R (Kd.int .u8) 5 w' w0.heap.size (fun k_=>(P0_ k_∨w.heap.size≤k_)) u9000_ r∧Below w0.heap.size w0 w'∧Kept w w' (fun k_=>P0_ k_):=by
 have HO0:=Aside0.mk (show Kd.R (Kd.int .u8) 5 w w0.heap.size (fun k_=>(P0_ k_∨w.heap.size≤k_)) u9000_ l0 from Kd.R_mono ho0 (fun k_ hk=>(.inl hk)))
 have HK:=Aside0.mk (Kept.refl w (fun k_=>P0_ k_))
 have HW0:=Aside0.mk hB.size
 have HB:=Aside0.mk hB
 clear hB
 have H:(sRbb.l0 k l0 0 (wrap64 ((l0.length:Int)-1)))=some r:=h
 clear h
 have H':=Aside0.mk H
 clear H
 obtain ⟨Ao2,co2,eo2⟩:=Kd.R_slice HO0.out
 subst eo2
 go_enter Tryz.func140,Tryz.ntmps140
 go_wp2
 go_loopg [2,3] k (fun kq v2 v3 w'=>∃ (x0_1:List Int) (x2_1:Int) (x3_1:Int),v2 = .int .i64 x2_1∧v3 = .int .i64 x3_1∧Aside0 (sRbb.l0 kq x0_1 x2_1 x3_1=some r)∧Aside0 (kq≤k)∧Aside0 (Kd.R (Kd.int .u8) 5 w' w0.heap.size (fun k_=>(P0_ k_∨w.heap.size≤k_)) (.slice Ao2 l0.length co2) x0_1)∧Aside0 (Kept w w' (fun k_=>P0_ k_))∧Aside0 (Below w0.heap.size w0 w'))
 case atStart=>exact ⟨(l0),(0),(wrap64 ((l0.length:Int)-1)),(by first|rfl|(simp; done)|(simp [*]; done)),(by first|rfl|(simp; done)|(simp [*]; done)),H',⟨Nat.le_refl _⟩,⟨by (with_reducible repeat (first|apply Kd.R_alloc|apply Kd.R_drewN|apply Kd.R_drew)); exact HO0.out⟩,⟨by repeat (first|(with_reducible first|exact HK.out|apply Kept.alloc|apply Kept.drewN|apply Kept.drew)|exact HK.out)⟩,⟨by repeat (first|(with_reducible first|exact HB.out|apply zaa|apply zab|apply zae)|exact HB.out)⟩⟩
 case round =>
  clear H'
  try clear c1
  try clear p2
  obtain ⟨x0_1,x2_1,x3_1,rfl,rfl,HA,HK1,HO_0,HK,HB⟩:=hrel
  have hl0_1:=(Kd.R_reads' HO_0.out).1
  rw [hl0_1] at HO_0
  (try simp only [hl0_1])
  cases gk with
  | zero=>exact absurd HA.out (by simp [sRbb.l0])
  | succ k1 =>
   have H:=HA.out
   clear HA
   simp only [sRbb.l0] at H
   by_cases c3:x2_1<x3_1
   ·rw [if_pos c3] at H
    have c3b0:decide (x2_1<x3_1)=true:=decide_eq_true c3
    clear c3
    by_cases c4:0≤x3_1
    ·rw [if_pos c4] at H
     have c4b0:decide (0≤x3_1)=true:=decide_eq_true c4
     clear c4
     by_cases c5:x3_1<(x0_1.length:Int)
     ·rw [if_pos c5] at H
      have c5b0:decide (x3_1<(x0_1.length:Int))=true:=decide_eq_true c5
      clear c5
      by_cases c6:0≤x2_1
      ·rw [if_pos c6] at H
       have c6b0:decide (0≤x2_1)=true:=decide_eq_true c6
       clear c6
       by_cases c7:x2_1<(x0_1.length:Int)
       ·rw [if_pos c7] at H
        have c7b0:decide (x2_1<(x0_1.length:Int))=true:=decide_eq_true c7
        clear c7
        obtain ⟨y230,hy230⟩:∃ y_:List Int,y_=(x0_1.set (x2_1:Int).toNat (rd x0_1 x3_1)):=⟨_,rfl⟩
        replace H:(sRbb.l0 k1 (y230.set (x3_1:Int).toNat (rd x0_1 x2_1)) (wrap64 (x2_1+1)) (wrap64 (x3_1-1)))=some r:=by first|(rw [hy230]; with_reducible exact H)|(have H2_:=(Option.bind_some _ _).symm.trans H; rw [hy230]; with_reducible exact H2_)|(have H2_:=(Option.bind_some _ _).symm.trans H; with_reducible exact H2_)|with_reducible exact H|(rw [hy230]; exact H)|exact H
        have Ny230:=Aside0.mk hy230
        clear hy230
        obtain ⟨y231,hy231⟩:∃ y_:List Int,y_=(y230.set (x3_1:Int).toNat (rd x0_1 x2_1)):=⟨_,rfl⟩
        replace H:(sRbb.l0 k1 y231 (wrap64 (x2_1+1)) (wrap64 (x3_1-1)))=some r:=by first|(rw [hy231]; with_reducible exact H)|(have H2_:=(Option.bind_some _ _).symm.trans H; rw [hy231]; with_reducible exact H2_)|(have H2_:=(Option.bind_some _ _).symm.trans H; with_reducible exact H2_)|with_reducible exact H|(rw [hy231]; exact H)|exact H
        have Ny231:=Aside0.mk hy231
        clear hy231
        have H':=Aside0.mk H
        clear H
        try go_wp2
        have n0_:=Aside0.mk (Kd.R_drew HO_0.out)
        have n1_:=Aside0.mk (Kept.drew HK.out)
        have n2_:=Aside0.mk (zae HB.out)
        clear HO_0
        clear HK
        clear HB
        have HO_0:=n0_
        have HK:=n1_
        have HB:=n2_
        clear n0_ n1_ n2_
        have p228:0≤(x3_1:Int):=of_decide_eq_true (by first|(with_reducible assumption)|assumption)
        have q228:x3_1<(x0_1.length:Int):=of_decide_eq_true (by first|(with_reducible assumption)|assumption)
        obtain ⟨ad228,e228,hx228_0⟩:=Kd.at_int (Kd.R_reads' HO_0.out).2.2 x3_1 p228 q228
        cases e228
        replace p228:=eq_true p228
        replace q228:=eq_true q228
        have p229:0≤(x2_1:Int):=of_decide_eq_true (by first|(with_reducible assumption)|assumption)
        have q229:x2_1<(x0_1.length:Int):=of_decide_eq_true (by first|(with_reducible assumption)|assumption)
        obtain ⟨ad229,e229,hx229_0⟩:=Kd.at_int (Kd.R_reads' HO_0.out).2.2 x2_1 p229 q229
        obtain rfl:ad228=ad229:=(by injection e229)
        replace p229:=eq_true p229
        replace q229:=eq_true q229
        have p8:0≤(x2_1:Int):=of_decide_eq_true (by first|(with_reducible assumption)|assumption)
        have q8:(x2_1:Int)<((x0_1.length:Int):Int):=of_decide_eq_true (by first|(with_reducible assumption)|assumption)
        obtain ⟨go8,co8,eo8,gb8,gl8,cl8,HG8⟩:=Kd.R_form HO_0.out (by omega)
        (first|cases eo8|(injection eo8 with ea_ en_ ec_; (first|subst ea_|(injection ea_ with ea_; subst ea_)); subst ec_; clear en_))
        have GB8:=Aside0.mk gb8
        have GG8:=Aside0.mk HG8
        clear gb8 gl8 HG8
        have HMgo8:=Aside0.mk (show (P0_ go8∨w.heap.size≤go8) from (HO_0.out.1 _ rfl))
        (first|simp only [zbe] at hx228_0|skip)
        (first|simp only [zbe] at hx229_0|skip)
        obtain ⟨hx8_0,hf8_0⟩:=Kd.R_celln 0 HO_0.out (x2_1:Int) p8 q8
        replace p8:=eq_true p8
        replace q8:=eq_true q8
        have HP11:=Kd.R_putn HO_0.out (x2_1:Int) (rd x0_1 x3_1)
        rw [←Ny230.out] at HP11
        have HQ11:=Aside0.mk HP11
        clear HP11
        have p9:0≤(x3_1:Int):=of_decide_eq_true (by first|(with_reducible assumption)|assumption)
        have q9:(x3_1:Int)<((x0_1.length:Int):Int):=of_decide_eq_true (by first|(with_reducible assumption)|assumption)
        obtain ⟨hx9_0,hf9_0⟩:=Kd.R_celln 0 HQ11.out (x3_1:Int) p9 q9
        replace p9:=eq_true p9
        replace q9:=eq_true q9
        have HP12:=Kd.R_putn HQ11.out (x3_1:Int) (rd x0_1 x2_1)
        rw [←Ny231.out] at HP12
        have HQ12:=Aside0.mk HP12
        clear HP12
        refine start_ (n:=16) (S:=fun w'=>w'.cell? ⟨go8,(x3_1).toNat,none⟩=some (.int .u8 (rd x0_1 x3_1))∧w'.cell? ⟨go8,(x2_1).toNat,none⟩=some (.int .u8 (rd x0_1 x2_1))) (ds:=[13,15]) #[false,false,false,false,false,false,false,false,false,false,false,false,false,false,false,false] (by kernel_rfl) rfl rfl ⟨hx228_0,hx229_0⟩ (fun hHeld => ?_); refine with_tabW sRbb.tab3 sRbb.bits3 (fun HT_ HW_ => ?_)
        generalize wr.drew=w10 at HO_0 HK HB GG8 HQ11 HQ12 hf8_0 hf9_0 hx228_0 hx229_0 hx8_0 hx9_0 hHeld ⊢
        refine pure_ (i:=0) (N:=some 14) (v:=?_) (a':=?_) #[true,false,false,false,false,false,false,false,false,false,false,false,false,false,false,false] rfl rfl (zci HT_.out (by kernel_rfl)) (fun _ _ _ h=>h) (Or.inl ⟨by rfl,?_⟩) ?_ ?_
        rotate_left
        ·intro w'
         go_simp
         with_reducible rfl
        rotate_left
        ·simp only [Act.put,List.setIfInBounds_toArray,List.set_cons_zero,List.set_cons_succ,i64_w,i32_w]
         rfl
        refine pure_ (i:=1) (N:=some 15) (v:=?_) (a':=?_) #[true,true,false,false,false,false,false,false,false,false,false,false,false,false,false,false] rfl rfl (zci HT_.out (by kernel_rfl)) (fun _ _ _ h=>h) (Or.inl ⟨by rfl,?_⟩) ?_ ?_
        rotate_left
        ·intro w'
         go_simp
         with_reducible rfl
        rotate_left
        ·simp only [Act.put,List.setIfInBounds_toArray,List.set_cons_zero,List.set_cons_succ,i64_w,i32_w]
         rfl
        refine pure_ (i:=2) (N:=some 16) (v:=?_) (a':=?_) #[true,true,true,false,false,false,false,false,false,false,false,false,false,false,false,false] rfl rfl (zci HT_.out (by kernel_rfl)) (fun _ _ _ h=>h) (Or.inl ⟨by rfl,?_⟩) ?_ ?_
        rotate_left
        ·intro w'
         go_simp
         with_reducible rfl
        rotate_left
        ·simp only [Act.put,List.setIfInBounds_toArray,List.set_cons_zero,List.set_cons_succ,i64_w,i32_w]
         rfl
        refine pure_ (i:=3) (N:=some 17) (v:=?_) (a':=?_) #[true,true,true,true,false,false,false,false,false,false,false,false,false,false,false,false] rfl rfl (zci HT_.out (by kernel_rfl)) (fun _ _ _ h=>h) (Or.inl ⟨by rfl,?_⟩) ?_ ?_
        rotate_left
        ·intro w'
         go_simp
         with_reducible rfl
        rotate_left
        ·simp only [Act.put,List.setIfInBounds_toArray,List.set_cons_zero,List.set_cons_succ,i64_w,i32_w]
         rfl
        refine pure_ (i:=4) (N:=some 18) (v:=?_) (a':=?_) #[true,true,true,true,true,false,false,false,false,false,false,false,false,false,false,false] rfl rfl (zci HT_.out (by kernel_rfl)) (fun _ _ _ h=>h) (Or.inl ⟨by rfl,?_⟩) ?_ ?_
        rotate_left
        ·intro w'
         go_simp
         with_reducible rfl
        rotate_left
        ·simp only [Act.put,List.setIfInBounds_toArray,List.set_cons_zero,List.set_cons_succ,i64_w,i32_w]
         rfl
        refine pure_ (i:=5) (N:=some 19) (v:=?_) (a':=?_) #[true,true,true,true,true,true,false,false,false,false,false,false,false,false,false,false] rfl rfl (zci HT_.out (by kernel_rfl)) (fun _ _ _ h=>h) (Or.inl ⟨by rfl,?_⟩) ?_ ?_
        rotate_left
        ·intro w'
         go_simp
         with_reducible rfl
        rotate_left
        ·simp only [Act.put,List.setIfInBounds_toArray,List.set_cons_zero,List.set_cons_succ,i64_w,i32_w]
         rfl
        refine pure_ (i:=6) (N:=some 20) (v:=?_) (a':=?_) #[true,true,true,true,true,true,true,false,false,false,false,false,false,false,false,false] rfl rfl (zci HT_.out (by kernel_rfl)) (fun _ _ _ h=>h) (Or.inl ⟨by rfl,?_⟩) ?_ ?_
        rotate_left
        ·intro w'
         go_simp
         with_reducible rfl
        rotate_left
        ·simp only [Act.put,List.setIfInBounds_toArray,List.set_cons_zero,List.set_cons_succ,i64_w,i32_w]
         rfl
        refine pure_ (i:=8) (N:=some 22) (v:=?_) (a':=?_) #[true,true,true,true,true,true,true,false,true,false,false,false,false,false,false,false] rfl rfl (zci HT_.out (by kernel_rfl)) (fun _ _ _ h=>h) (Or.inl ⟨by rfl,?_⟩) ?_ ?_
        rotate_left
        ·intro w'
         go_simp
         with_reducible rfl
        rotate_left
        ·simp only [Act.put,List.setIfInBounds_toArray,List.set_cons_zero,List.set_cons_succ,i64_w,i32_w]
         rfl
        refine pure_ (i:=9) (N:=some 23) (v:=?_) (a':=?_) #[true,true,true,true,true,true,true,false,true,true,false,false,false,false,false,false] rfl rfl (zci HT_.out (by kernel_rfl)) (fun _ _ _ h=>h) (Or.inl ⟨by rfl,?_⟩) ?_ ?_
        rotate_left
        ·intro w'
         go_simp
         with_reducible rfl
        rotate_left
        ·simp only [Act.put,List.setIfInBounds_toArray,List.set_cons_zero,List.set_cons_succ,i64_w,i32_w]
         rfl
        refine pure_ (i:=10) (N:=some 24) (v:=?_) (a':=?_) #[true,true,true,true,true,true,true,false,true,true,true,false,false,false,false,false] rfl rfl (zci HT_.out (by kernel_rfl)) (fun _ _ _ h=>h) (Or.inl ⟨by rfl,?_⟩) ?_ ?_
        rotate_left
        ·intro w'
         go_simp
         with_reducible rfl
        rotate_left
        ·simp only [Act.put,List.setIfInBounds_toArray,List.set_cons_zero,List.set_cons_succ,i64_w,i32_w]
         rfl
        refine take_ (i:=7) (N:=some 21) (v:=?_) (a':=?_) #[true,true,true,true,true,true,true,true,true,true,true,false,false,false,false,false] rfl rfl (take_ofW HT_.out HW_.out (by kernel_rfl)) (fun _ _ _ h=>h) (Or.inl ⟨by rfl,?_⟩) hHeld ?_ ?_
        rotate_left
        ·rintro w' ⟨s0,s1⟩
         go_simp
         with_reducible rfl
        rotate_left
        ·simp only [Act.put,List.setIfInBounds_toArray,List.set_cons_zero,List.set_cons_succ,i64_w,i32_w]
         rfl
        refine take_ (i:=11) (N:=some 25) (v:=?_) (a':=?_) #[true,true,true,true,true,true,true,true,true,true,true,true,false,false,false,false] rfl rfl (take_ofW HT_.out HW_.out (by kernel_rfl)) (fun _ _ _ h=>h) (Or.inl ⟨by rfl,?_⟩) hHeld ?_ ?_
        rotate_left
        ·rintro w' ⟨s0,s1⟩
         go_simp
         with_reducible rfl
        rotate_left
        ·simp only [Act.put,List.setIfInBounds_toArray,List.set_cons_zero,List.set_cons_succ,i64_w,i32_w]
         rfl
        refine pure_ (i:=12) (N:=some 26) (v:=?_) (a':=?_) #[true,true,true,true,true,true,true,true,true,true,true,true,true,false,false,false] rfl rfl (zci HT_.out (by kernel_rfl)) (fun _ _ _ h=>h) (Or.inl ⟨by rfl,?_⟩) ?_ ?_
        rotate_left
        ·intro w'
         go_simp
         with_reducible rfl
        rotate_left
        ·simp only [Act.put,List.setIfInBounds_toArray,List.set_cons_zero,List.set_cons_succ,i64_w,i32_w]
         rfl
        refine last_ (i:=13) (N:=none) #[true,true,true,true,true,true,true,true,true,true,true,true,true,true,false,false] rfl rfl (one_of HT_.out (by kernel_rfl)) (by decide) (fun K hK => ?_)
        refine skip_ (w1:=?_) (by rfl) rfl ?_ ?_
        rotate_left
        ·go_simp
         rfl
        refine hK.out _ _ ?_
        clear hK K
        refine pure_ (i:=14) (N:=some 27) (v:=?_) (a':=?_) #[true,true,true,true,true,true,true,true,true,true,true,true,true,true,true,false] rfl rfl (zci HT_.out (by kernel_rfl)) (fun _ _ _ h=>h) (Or.inl ⟨by rfl,?_⟩) ?_ ?_
        rotate_left
        ·intro w'
         go_simp
         with_reducible rfl
        rotate_left
        ·simp only [Act.put,List.setIfInBounds_toArray,List.set_cons_zero,List.set_cons_succ,i64_w,i32_w]
         rfl
        refine last_ (i:=15) (N:=none) #[true,true,true,true,true,true,true,true,true,true,true,true,true,true,true,true] rfl rfl (one_of HT_.out (by kernel_rfl)) (by decide) (fun K hK => ?_)
        refine skip_ (w1:=?_) (by rfl) rfl ?_ ?_
        rotate_left
        ·go_simp
         rfl
        refine hK.out _ _ ?_
        clear hK K
        refine done_ (done_of HT_.out (by kernel_rfl)) ?_
        try go_wp2
        (try simp only [←hl0_1])
        go_roundg k1
        case measure=>have:=HK1.out; omega
        case rel=>exact ⟨(y231),(wrap64 (x2_1+1)),(wrap64 (x3_1-1)),(by first|rfl|(simp; done)|(simp [*]; done)),(by first|rfl|(simp; done)|(simp [*]; done)),H',⟨by have:=HK1.out; omega⟩,⟨by (try simp only [hl0_1]); (with_reducible repeat (first|apply Kd.R_alloc|apply Kd.R_drewN|apply Kd.R_drew)); exact HQ12.out⟩,⟨by repeat (first|(with_reducible first|exact HK.out|apply Kept.alloc|apply Kept.drewN|apply Kept.drew|refine Kept.setCell ?_ HMgo8.out _|refine Kept.setCell ?_ HMgo8.out _)|exact HK.out)⟩,⟨by repeat (first|(with_reducible first|exact HB.out|apply zaa|apply zab|apply zae|refine zag ?_ GB8.out|refine zag ?_ GB8.out)|exact HB.out)⟩⟩
       ·rw [if_neg c7] at H
        exact absurd H (by simp)
      ·rw [if_neg c6] at H
       exact absurd H (by simp)
     ·rw [if_neg c5] at H
      exact absurd H (by simp)
    ·rw [if_neg c4] at H
     exact absurd H (by simp)
   ·rw [if_neg c3] at H
    have c3b0:decide (x2_1<x3_1)=false:=decide_eq_false c3
    clear c3
    obtain rfl:=Option.some.inj H
    go_wp2
    first|go_end0|((try simp only [Exit.inBlock,Exit.then]); refine bodyPost_ret (results_none rfl _ _ _) rfl ?_)
    exact ⟨by first|rfl|(simp [zak,zaj]<;>rfl)|(simp [*,zak,zaj]<;>rfl),(by first|exact (by (with_reducible repeat (first|apply Kd.R_alloc|apply Kd.R_drewN|apply Kd.R_drew)); exact HO_0.out)|(simp only [hl0_1]; exact (by (with_reducible repeat (first|apply Kd.R_alloc|apply Kd.R_drewN|apply Kd.R_drew)); exact HO_0.out))),by repeat (first|(with_reducible first|exact HB.out|apply zaa|apply zab|apply zae)|exact HB.out),by repeat (first|(with_reducible first|exact HK.out|apply Kept.alloc|apply Kept.drewN|apply Kept.drew)|exact HK.out)⟩
end Go.Proofs.ZP
end
section
namespace Go.Proofs.ZP
open Go.RowKit Go.Proofs.ZW.Wa
theorem rd_set (x:List Int) (a j:Nat) (v:Int) (h:a<x.length):rd (x.set a v) (j:Int)=if a=j then v else rd x (j:Int):=by
 split
 ·rename_i e; subst e; rw [rd_lt (by simpa using h)]; simp
 ·rename_i e; exact zcO e v
theorem rev_loop (l:List Int) (hm:l.length≤9223372036854775806):∀ (d i:Nat) (x:List Int),d=l.length-2*i→2*i≤l.length+1→x.length=l.length→(∀ j,j<l.length→rd x (j:Int)=if j<i∨l.length-1<i+j then rd l ((l.length-1-j:Nat):Int) else rd l (j:Int)) →
  ∀ k,d<k→sRbb.l0 k x (i:Int) ((l.length:Int)-1-i)=some l.reverse:=by
 intro d
 induction d using Nat.strongRecOn with
 | ind d ih =>
  intro i x hd hi hx hr k hk
  obtain ⟨k,rfl⟩:∃ k',k=k'+1:=⟨k-1,by omega⟩
  unfold sRbb.l0
  by_cases hc:2*i+1<l.length
  ·obtain ⟨m,hmm⟩:∃ m:Nat,m+i+1=l.length:=⟨l.length-i-1,by omega⟩
   have em:(l.length:Int)-1-(i:Int)=(m:Int):=by omega
   rw [em,if_pos (by omega),if_pos (by omega),if_pos (by omega),if_pos (by omega),if_pos (by omega)]
   rw [w64 (by omega) (by omega),w64 (by omega) (by omega)]
   have e2:(m:Int)-1=(l.length:Int)-1-((i+1:Nat):Int):=by omega
   rw [e2,show (i:Int)+1=((i+1:Nat):Int) by omega,Int.toNat_natCast,Int.toNat_natCast]
   refine ih (l.length-2*(i+1)) (by omega) (i+1) _ rfl (by omega) (by simpa using hx) ?_ k (by omega)
   intro j hj
   rw [rd_set _ _ _ _ (by rw [List.length_set]; omega),rd_set _ _ _ _ (by omega)]
   have r1:=hr m (by omega)
   have r2:=hr i (by omega)
   have r3:=hr j hj
   rw [if_neg (by omega)] at r1 r2
   by_cases h1:m=j
   ·subst h1; rw [if_pos rfl,if_pos (by omega),r2,show l.length-1-m=i by omega]
   ·rw [if_neg h1]
    by_cases h2:i=j
    ·subst h2; rw [if_pos rfl,if_pos (by omega),r1,show l.length-1-i=m by omega]
    ·rw [if_neg h2,r3]
     by_cases h3:j<i∨l.length-1<i+j
     ·rw [if_pos h3,if_pos (by omega)]
     ·rw [if_neg h3,if_neg (by omega)]
  ·rw [if_neg (by omega)]
   refine congrArg some (List.ext_getElem (by simpa using hx) fun j h1 h2 => ?_)
   have r3:=hr j (by omega)
   rw [rd_lt h1] at r3
   rw [r3,List.getElem_reverse,←rd_lt]
   split
   ·rfl
   ·rw [show l.length-1-j=j by omega]
theorem rev_tells (l:List Int) (hm:l.length≤9223372036854775806):sRbb.f (l.length+1) l=some l.reverse:=by
 unfold sRbb.f
 rw [w64 (by omega) (by omega)]
 have:=rev_loop l hm l.length 0 l (by omega) (by omega) rfl (fun j hj=>by rw [if_neg (by omega)]) (l.length+1) (by omega)
 simpa using this
theorem own8_of_R {w:World} {base:Nat} {ok:Nat→Prop} {v:Value} {zs:List Int} (h:Kd.R (Kd.int .u8) 5 w base ok v zs):w.ownsRow base 5 1 v zs.length (nums .u8 zs):=by
 obtain ⟨_,inner,ho,hr⟩:=h
 have e:=Kd.reps_encs hr
 subst e
 exact ho
theorem zcN (k:IntKind) (l:List Int):Reps (fun (x:Int) (cs:List Value)=>cs = [.int k x]) 1 l (nums k l):=by
 induction l with
 | nil=>exact Reps.none _ _
 | cons x xs ih=>exact Reps.one rfl ih
theorem R_of_own8 {w:World} {base:Nat} {v:Value} {zs:List Int} (h:w.ownsRow base 5 1 v zs.length (nums .u8 zs)):Kd.R (Kd.int .u8) 5 w base (fun _=>True) v zs:=
 ⟨fun _ _=>trivial,nums .u8 zs,h,zcN .u8 zs⟩
theorem rev_calls (v:Value) (l:List Int) (w0 w:World) (hB:Below w0.heap.size w0 w) (ho:w.ownsRow w0.heap.size 5 1 v l.length (nums .u8 l)) (hm:l.length≤9223372036854775806) :
  Calls Tryz.prog 140 #[v] w fun e w'=>e = .returned (.tuple #[])∧w'.ownsRow w0.heap.size 5 1 v l.reverse.length (nums .u8 l.reverse)∧Below w0.heap.size w0 w':=by
 refine (sRbb.calls (l.length+1) (fun _=>True) v l l.reverse w0 w hB (R_of_own8 ho) (rev_tells l hm)).mono fun e w' ⟨he,hr,hb,_⟩=>⟨he,own8_of_R hr,hb⟩
theorem Bd.le {n:Nat} {x y:Int} (h:Bd n y) (hle:x.natAbs≤y.natAbs):Bd n x:=Nat.lt_of_le_of_lt hle h
theorem Bd.mul {n m:Nat} {x y:Int} (h:Bd n x) (k:Bd m y):Bd (n+m) (x*y):=by
 unfold Bd at *
 rw [Int.natAbs_mul,Nat.pow_add]
 rcases Nat.eq_zero_or_pos x.natAbs with hx|hx
 ·rw [hx,Nat.zero_mul]; exact Nat.mul_pos (Nat.pow_pos (by decide)) (Nat.pow_pos (by decide))
 ·exact Nat.mul_lt_mul'' h k
theorem Bd.add {n:Nat} {x y:Int} (h:Bd n x) (k:Bd n y):Bd (n+1) (x+y):=by
 unfold Bd at *
 rw [Nat.pow_succ]; omega
theorem Bd.neg {n:Nat} {x:Int} (h:Bd n x):Bd n (-x):=by unfold Bd at *; rwa [Int.natAbs_neg]
theorem Bd.abs {n:Nat} {x:Int} (h:Bd n x):Bd n (x.natAbs:Int):=by unfold Bd at *; rwa [Int.natAbs_natCast]
def Bdr (n:Nat) (x:Rat):Prop:=Bd n x.num∧Bd n (x.den:Int)
theorem Bdr.mono {n m:Nat} {x:Rat} (h:Bdr n x) (hm:n≤m):Bdr m x:=⟨h.1.mono hm,h.2.mono hm⟩
theorem div_parts (x y:Int) (hy:y≠0):(Rat.divInt x y).num=sg ((x<0) != (y<0)) ((x.natAbs/Int.gcd x y:Nat):Int)∧(Rat.divInt x y).den=y.natAbs/Int.gcd x y:=by
 have hg:Int.gcd y x=Int.gcd x y:=Int.gcd_comm y x
 constructor
 ·have hdv:((Int.gcd x y:Nat):Int)∣(x.natAbs:Int):=Int.natCast_dvd_natCast.2 (Nat.gcd_dvd_left x.natAbs y.natAbs)
  have e1:=Int.neg_ediv_of_dvd hdv
  rw [Rat.num_divInt,hg,Int.natCast_ediv]
  generalize ((Int.gcd x y:Nat):Int)=g at *
  rcases Int.lt_trichotomy y 0 with h|h|h
  ·rw [Int.sign_eq_neg_one_of_neg h]
   by_cases hx:x<0
   ·rw [show -1*x=(x.natAbs:Int) by omega]
    simp [sg,hx,h]
   ·rw [show -1*x = -(x.natAbs:Int) by omega,e1]
    simp [sg,hx,h]
  ·exact absurd h hy
  ·rw [Int.sign_eq_one_of_pos h]
   have h':¬ y<0:=by omega
   by_cases hx:x<0
   ·rw [show 1*x = -(x.natAbs:Int) by omega,e1]
    simp [sg,hx,h']
   ·rw [show 1*x=(x.natAbs:Int) by omega]
    simp [sg,hx,h']
 ·rw [Rat.den_divInt,if_neg hy,hg]
theorem Bdr.divInt {n:Nat} {x y:Int} (hy:y≠0) (h:Bd n x) (k:Bd n y):Bdr n (Rat.divInt x y):=by
 obtain ⟨h1,h2⟩:=div_parts x y hy
 constructor
 ·refine h.le ?_
  rw [h1]
  have:=Nat.div_le_self x.natAbs (Int.gcd x y)
  unfold sg
  split
  ·rw [Int.natAbs_neg,Int.natAbs_natCast]; exact this
  ·rw [Int.natAbs_natCast]; exact this
 ·refine k.le ?_
  rw [h2,Int.natAbs_natCast]
  exact Nat.div_le_self _ _
theorem zb2 (x:Rat):Rat.divInt x.num x.den=x:=Rat.num_divInt_den x
theorem add_divInt (x y:Rat):x+y=Rat.divInt (x.num*y.den+y.num*x.den) (x.den*y.den):=by
 have h1:(x.den:Int)≠0:=by have:=x.den_nz; omega
 have h2:(y.den:Int)≠0:=by have:=y.den_nz; omega
 rw [←Rat.divInt_add_divInt _ _ h1 h2,zb2,zb2]
theorem mul_divInt (x y:Rat):x*y=Rat.divInt (x.num*y.num) (x.den*y.den):=by
 rw [←Rat.divInt_mul_divInt,zb2,zb2]
theorem inv_divInt' (x:Rat):x⁻¹=Rat.divInt x.den x.num:=Rat.inv_def x
theorem den_ne (x:Rat):(x.den:Int)≠0:=by have:=x.den_nz; omega
theorem zcv (x y:Rat):(x.den:Int)*y.den≠0:=Int.mul_ne_zero (den_ne x) (den_ne y)
theorem Bdr.add {n m:Nat} {x y:Rat} (h:Bdr n x) (k:Bdr m y):Bdr (n+m+1) (x+y):=by
 rw [add_divInt]
 refine Bdr.divInt (zcv x y) ((h.1.mul k.2).add ?_) ((h.2.mul k.2).mono (by omega))
 have:=k.1.mul h.2
 rwa [Nat.add_comm m n] at this
theorem Bdr.mul {n m:Nat} {x y:Rat} (h:Bdr n x) (k:Bdr m y):Bdr (n+m) (x*y):=by
 rw [mul_divInt]
 exact Bdr.divInt (zcv x y) (h.1.mul k.1) (h.2.mul k.2)
theorem num_ne {x:Rat} (hx:x≠0):x.num≠0:=fun h=>hx (Rat.num_eq_zero.1 h)
theorem Bdr.inv {n:Nat} {x:Rat} (h:Bdr n x) (hx:x≠0):Bdr n x⁻¹:=by
 rw [inv_divInt']
 exact Bdr.divInt (num_ne hx) h.2 h.1
theorem Bdr.neg {n:Nat} {x:Rat} (h:Bdr n x):Bdr n (-x):=⟨by rw [Rat.neg_num]; exact h.1.neg,h.2⟩
theorem Bdr.sub {n m:Nat} {x y:Rat} (h:Bdr n x) (k:Bdr m y):Bdr (n+m+1) (x-y):=by
 rw [Rat.sub_eq_add_neg]; exact h.add k.neg
theorem Bdr.int {n:Nat} {x:Int} (h:Bd n x) (hn:0<n):Bdr n (x:Rat):=⟨h,by
 show Bd n (1:Int)
 unfold Bd
 have:2^1≤2^n:=Nat.pow_le_pow_right (by decide) hn
 have:(1:Int).natAbs=1:=rfl
 omega⟩
structure RatAt (w:World) (g:Nat) (x:Rat):Prop where
 num:IntAt w g 0 x.num
 den:∃ d:Int,IntAt w g 2 d∧(d=x.den∨(d=0∧x.den=1))
theorem RatAt.slot {w:World} {g:Nat} {x:Rat} (h:RatAt w g x):Slot w g 2:=by
 obtain ⟨d,hd,_⟩:=h.den
 exact hd.slot
theorem Slot.lo {w:World} {g:Nat} (h:Slot w g 2):Slot w g 0:=by
 obtain ⟨cs,t,hb,hs,ht⟩:=h
 exact ⟨cs,t,hb,by omega,ht⟩
theorem RatAt.lt {w:World} {g:Nat} {x:Rat} (h:RatAt w g x):g<w.heap.size:=h.num.lt
theorem RatAt.upd {w w':World} {g b lo hi:Nat} {x:Rat} (h:RatAt w g x) (k:Upd w w' b lo hi) (hd:g≠b):RatAt w' g x:=by
 obtain ⟨d,h1,h2⟩:=h.den
 exact ⟨h.num.upd k (Or.inl hd),d,h1.upd k (Or.inl hd),h2⟩
theorem RatAt.below {w w':World} {g:Nat} {x:Rat} (h:RatAt w g x) (k:Below w.heap.size w w'):RatAt w' g x:=by
 obtain ⟨d,h1,h2⟩:=h.den
 exact ⟨h.num.below k,d,h1.below k,h2⟩
theorem RatAt.new (w:World) (t:TypeId) (ht:t≠144):RatAt (w.alloc (.cells #[.bool false,.slice none 0 0,.bool false,.slice none 0 0] t)) w.heap.size 0:=by
 obtain ⟨h1,h2⟩:=IntAt.newRat w t ht
 exact ⟨h1,0,h2,Or.inr ⟨rfl,rfl⟩⟩
theorem Slot.below {w w':World} {b o:Nat} (h:Slot w b o) (k:Below w.heap.size w w'):Slot w' b o:=h.upd (Upd.of_below k 0 0 0)
theorem Upd.new {w0 w w':World} {g lo hi:Nat} (k:Upd w w' g lo hi) (h:Below w0.heap.size w0 w) (hg:w0.heap.size≤g):Below w0.heap.size w0 w':=Upd.below_tmp h k hg
theorem Upd.lift {w0 w w':World} {g lo hi:Nat} (k:Upd w w' g lo hi) (h:Below w0.heap.size w0 w):Upd w0 w' g lo hi:=(Upd.of_below h _ _ _).trans k
def T (n:Nat):ByteArray:=⟨(decl n).toArray⟩
theorem T_data (n:Nat):(T n).data.toList=decl n:=by simp [T]
theorem zc2 (n:Nat):(T n).size=(decl n).length:=by show (decl n).toArray.size=_; simp
theorem zc4 (n:Nat):dval (T n).data.toList=n:=by rw [T_data,dval_decl]
theorem T_inj {a b:Nat} (h:T a=T b):a=b:=by rw [←zc4 a,h,zc4]
theorem zaK (n:Nat):0<(decl n).length:=by
 unfold decl
 split
 ·simp
 ·rw [List.length_reverse,zbI (by omega)]; simp
theorem rdig_length_le {k n:Nat}:(rdig n).length≤k↔n<10^k:=by
 induction k generalizing n with
 | zero =>
  rcases Nat.eq_zero_or_pos n with h|h
  ·subst h; rw [zb1]; simp
  ·rw [zbI h]; simp; omega
 | succ k ih =>
  rcases Nat.eq_zero_or_pos n with h|h
  ·subst h; rw [zb1]; simp
   exact Nat.pow_pos (by decide)
  ·rw [zbI h,List.length_cons,Nat.succ_le_succ_iff,ih,Nat.div_lt_iff_lt_mul (by decide),Nat.pow_succ]
theorem zbY {k n:Nat} (hk:0<k):(decl n).length≤k↔n<10^k:=by
 unfold decl
 split
 ·rename_i h
  subst h
  have:=Nat.pow_pos (n:=k) (show 0<10 by decide)
  simp; omega
 ·rw [List.length_reverse,rdig_length_le]
theorem zaB {k n:Nat} (hk:0<k):(T n).size≤k↔n<10^k:=by rw [zc2,zbY hk]
theorem decl_snoc {m d:Nat} (hm:0<m) (hd:d<10):decl (10*m+d)=decl m ++ [UInt8.ofNat (48+d)]:=by
 unfold decl
 rw [if_neg (by omega),if_neg (by omega),zbI (by omega),show (10*m+d)%10=d by omega,show (10*m+d)/10=m by omega,List.reverse_cons]
theorem zbW {d:Nat} (hd:d<10):decl d = [UInt8.ofNat (48+d)]:=by
 unfold decl
 split
 ·rename_i h; subst h; rfl
 ·rw [zbI (by omega),show d%10=d by omega,show d/10=0 by omega,zb1]; rfl
def Can (l:List UInt8):Prop:=0<l.length∧Dig l∧(l.head? = some 48→l.length=1)
theorem head_decl {n:Nat} (hn:0<n):(decl n).head? ≠ some 48:=by
 induction n using Nat.strongRecOn with
 | ind n ih =>
  by_cases h:n<10
  ·rw [zbW h]
   intro he
   injection he with he
   have:=congrArg UInt8.toNat he
   rw [zaZ n h] at this
   have h2:(48:UInt8).toNat=48:=rfl
   omega
  ·have e:decl n=decl (n/10) ++ [UInt8.ofNat (48+n%10)]:=by
    have:=decl_snoc (m:=n/10) (d:=n%10) (by omega) (by omega)
    rwa [show 10*(n/10)+n%10=n by omega] at this
   have h2:=ih (n/10) (by omega) (by omega)
   have h3:=zaK (n/10)
   rw [e]
   rcases hd:decl (n/10) with _|⟨c,t⟩
   ·rw [hd] at h3; simp at h3
   ·rw [hd] at h2; simpa using h2
theorem can_decl (n:Nat):Can (decl n):=by
 refine ⟨zaK n,dig_decl n,fun h => ?_⟩
 rcases Nat.eq_zero_or_pos n with h0|h0
 ·subst h0; rfl
 ·exact absurd h (head_decl h0)
theorem dval_pos {l:List UInt8} (hd:Dig l) (hl:0<l.length) (hh:l.head? ≠ some 48):0<dval l:=by
 rcases l with _|⟨c,t⟩
 ·simp at hl
 ·have h1:=hd c List.mem_cons_self
  have h2:c.toNat≠48:=fun e=>hh (by
   have:c=48:=UInt8.toNat_inj.1 e
   rw [this]; rfl)
  rw [zbE]
  have h3:=Nat.pow_pos (n:=t.length) (show 0<10 by decide)
  have h4:1*10^t.length≤(c.toNat-48)*10^t.length:=Nat.mul_le_mul_right _ (by omega)
  omega
theorem dig_ofNat {c:UInt8} (h:48≤c.toNat∧c.toNat≤57):UInt8.ofNat (48+(c.toNat-48))=c:=by
 apply UInt8.toNat_inj.1
 rw [zaZ _ (by omega)]; omega
theorem zcF:∀ (m:Nat) (l:List UInt8),l.length=m→Can l→decl (dval l)=l:=by
 intro m
 induction m with
 | zero=>intro l hl h; have:=h.1; omega
 | succ m ih =>
  intro l hl h
  obtain ⟨ys,y,rfl⟩:∃ ys y,l=ys ++ [y]:=by
   have hne:l ≠ []:=by intro e; subst e; simp at hl
   exact ⟨l.dropLast,l.getLast hne,(List.dropLast_concat_getLast hne).symm⟩
  have hy:=h.2.1 y (by simp)
  have e1:dval (ys ++ [y])=10*dval ys+(y.toNat-48):=by rw [za9]; simp [dval]; omega
  rw [e1]
  rcases ys with _|⟨c,t⟩
  ·rw [show dval []=0 from rfl,Nat.mul_zero,Nat.zero_add,zbW (by omega),dig_ofNat hy]; rfl
  ·have hd:Dig (c :: t):=fun u hu=>h.2.1 u (List.mem_append_left _ hu)
   have hh:(c :: t).head? ≠ some 48:=fun e=>by
    have:=h.2.2 (by rw [List.cons_append]; exact e)
    simp at this
   have hc:Can (c :: t):=⟨by simp,hd,fun e=>absurd e hh⟩
   rw [decl_snoc (dval_pos hd (by simp) hh) (by omega),ih (c :: t) (by simp at hl ⊢; omega) hc,dig_ofNat hy]
theorem can_T {s:ByteArray} (h:Can s.data.toList):s=T (dval s.data.toList):=by
 have:=zcF _ _ rfl h
 unfold T
 rw [this]
theorem T_can (n:Nat):Can (T n).data.toList:=by rw [T_data]; exact can_decl n
theorem zcf {a b:Nat} (h:a≤b):(decl a).length≤(decl b).length:=by
 rw [zbY (zaK b)]
 have:=(zbY (n:=b) (zaK b)).1 (Nat.le_refl _)
 omega
end Go.Proofs.ZP
end
