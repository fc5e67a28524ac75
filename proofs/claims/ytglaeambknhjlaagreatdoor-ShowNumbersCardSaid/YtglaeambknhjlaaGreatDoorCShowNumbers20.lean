/- Texts under the proof, joined by a program (prune.py): HFracs, HSetNeg, QRefOps, QShow1, QShow2, QPairs, Q221, Q222, QPure6, Q118, Q119, QFrac2, Q97. -/
import Derived.Test.YtglaeambknhjlaaGreatDoorCShowNumbers13
import Derived.Test.YtglaeambknhjlaaGreatDoorCShowNumbers06
import Derived.Test.YtglaeambknhjlaaGreatDoorCShowNumbers17
import Derived.Test.YtglaeambknhjlaaGreatDoorCShowNumbers15
import Derived.Test.YtglaeambknhjlaaGreatDoorCShowNumbers14
import Derived.Test.YtglaeambknhjlaaGreatDoorCShowNumbers11
import Derived.Test.YtglaeambknhjlaaGreatDoorCShowNumbers18
import Derived.Test.YtglaeambknhjlaaGreatDoorCShowNumbers19
set_option linter.unusedVariables false
set_option linter.unusedSimpArgs false
set_option exponentiation.threshold 20001
set_option maxHeartbeats 8000000
set_option maxRecDepth 100000
section
namespace Go.Proofs.ZP
open Go.RowKit Go.Proofs.ZW.Wa
theorem ften_calls (n:Int) (w:World) (h0 : -100000≤n) (h1:n≤100000) :
  Calls Tryz.prog 169 #[.int .i64 n] w fun e w'=>∃ g,e = .returned (.pointer (some ⟨g,0,none⟩))∧w.heap.size≤g∧RatAt w' g (tenR n)∧Below w.heap.size w w':=by
 have hnew:=IntAt.new w 105 (by decide)
 have hba:=zab (Below.refl w.heap.size w) (.cells #[.bool false,.slice none 0 0] 105)
 have hu105:=Tryz.underlying105
 have hu112:=Tryz.underlying112
 have HBT:=Lib.hid (bd_ten n.natAbs)
 by_cases hn:n<0
 ·have HT:=Lib.hid (show tenR n=(((10:Int)^n.natAbs:Int):Rat)⁻¹ by unfold tenR; rw [if_pos hn])
  go_enter Tryz.func169,Tryz.ntmps169
  go_wp2_with fail
  refine (zaP 10 _ (by decide) (by decide)).mono ?_
  rintro e w1 ⟨N1,rfl,hN1,hx1,hb1⟩
  have hz1:=hnew.slot.below hb1
  have hB1:=bthen hba hb1
  have hl1:=hx1.lt
  go_wp2_with fail
  rw [show max n (-n)=((n.natAbs:Nat):Int) by omega]
  refine (zaP (n.natAbs:Int) _ (by omega) (by omega)).mono ?_
  rintro e w2 ⟨N2,rfl,hN2,hx2,hb2⟩
  have hx12:=hx1.below hb2
  have hz2:=hz1.below hb2
  have hB2:=bthen hB1 hb2
  clear hnew hba hb1 hb2 hx1 hz1 hB1
  go_wp2_with fail
  refine (zcY w.heap.size 0 N1 0 N2 0 _ 10 n.natAbs _ hz2 hx12 hx2 (show Bd 4 (10:Int) by unfold Bd; decide) (by decide) (by unfold big; omega)).mono ?_
  rintro e w3 ⟨rfl,hp3,hu3⟩
  have hB3:=hu3.new hB2 (Nat.le_refl _)
  have hs3:=hB3.size
  have hnewR:=RatAt.new w3 112 (by decide)
  have hbaR:=zab (Below.refl w3.heap.size w3) (.cells #[.bool false,.slice none 0 0,.bool false,.slice none 0 0] 112)
  clear hx12 hx2 hz2 hu3
  go_wp2_with fail
  refine (zbc w3.heap.size w.heap.size 0 _ _ hnewR.slot (hp3.below hbaR) HBT.out (by unfold big; omega)).mono ?_
  rintro e w4 ⟨rfl,hz4,hu4⟩
  have hB4:=hu4.new (bthen hB3 hbaR) hs3
  clear hp3 hnewR hbaR hu4
  go_wp2_with fail
  refine (inv_calls w3.heap.size w3.heap.size _ _ hz4.slot hz4 (ten_ne _) (Bdr.int HBT.out (by omega)) (by unfold big; omega)).mono ?_
  rintro e w5 ⟨rfl,hz5,hu5⟩
  go_wp2
  go_ret
  exact ⟨_,rfl,hs3,by rw [HT.out]; exact hz5,hu5.new hB4 hs3⟩
 ·have HT:=Lib.hid (show tenR n=(((10:Int)^n.natAbs:Int):Rat) by unfold tenR; rw [if_neg hn])
  go_enter Tryz.func169,Tryz.ntmps169
  go_wp2_with fail
  refine (zaP 10 _ (by decide) (by decide)).mono ?_
  rintro e w1 ⟨N1,rfl,hN1,hx1,hb1⟩
  have hz1:=hnew.slot.below hb1
  have hB1:=bthen hba hb1
  have hl1:=hx1.lt
  go_wp2_with fail
  rw [show max n (-n)=((n.natAbs:Nat):Int) by omega]
  refine (zaP (n.natAbs:Int) _ (by omega) (by omega)).mono ?_
  rintro e w2 ⟨N2,rfl,hN2,hx2,hb2⟩
  have hx12:=hx1.below hb2
  have hz2:=hz1.below hb2
  have hB2:=bthen hB1 hb2
  clear hnew hba hb1 hb2 hx1 hz1 hB1
  go_wp2_with fail
  refine (zcY w.heap.size 0 N1 0 N2 0 _ 10 n.natAbs _ hz2 hx12 hx2 (show Bd 4 (10:Int) by unfold Bd; decide) (by decide) (by unfold big; omega)).mono ?_
  rintro e w3 ⟨rfl,hp3,hu3⟩
  have hB3:=hu3.new hB2 (Nat.le_refl _)
  have hs3:=hB3.size
  have hnewR:=RatAt.new w3 112 (by decide)
  have hbaR:=zab (Below.refl w3.heap.size w3) (.cells #[.bool false,.slice none 0 0,.bool false,.slice none 0 0] 112)
  clear hx12 hx2 hz2 hu3
  go_wp2_with fail
  refine (zbc w3.heap.size w.heap.size 0 _ _ hnewR.slot (hp3.below hbaR) HBT.out (by unfold big; omega)).mono ?_
  rintro e w4 ⟨rfl,hz4,hu4⟩
  have hB4:=hu4.new (bthen hB3 hbaR) hs3
  clear hp3 hnewR hbaR hu4
  go_wp2
  go_ret
  exact ⟨_,rfl,hs3,by rw [HT.out]; exact hz4,hB4⟩
theorem ffloor_calls (g:Nat) (x:Rat) (w:World) (hx:RatAt w g x) {n:Nat} (hs:Bdr n x) (hn:n≤big) :
  Calls Tryz.prog 220 #[.pointer (some ⟨g,0,none⟩)] w fun e w'=>∃ D,e = .returned (.pointer (some ⟨D,0,none⟩))∧w.heap.size≤D∧IntAt w' D 0 x.floor∧Below w.heap.size w w':=by
 have hu105:=Tryz.underlying105
 rw [Rat.floor_def]
 have hdn:=den_ne x
 go_enter Tryz.func220,Tryz.ntmps220
 have hnew:=IntAt.new w 105 (by decide)
 have hba:=zab (Below.refl w.heap.size w) (.cells #[.bool false,.slice none 0 0] 105)
 have hd1:Bd n (x.den:Int):=hs.2
 have hn1:Bd n x.num:=hs.1
 go_wp2_with fail
 refine (num_new g x _ (hx.below hba) hs hn).mono ?_
 rintro e w1 ⟨N1,rfl,hN1,hx1,hb1⟩
 have hl1:=hx1.lt
 have hxx1:=(hx.below hba).below hb1
 go_wp2_with fail
 refine (zbg g x _ hxx1 hs hn).mono ?_
 rintro e w2 ⟨N2,rfl,hN2,hx2,hb2⟩
 have hl2:=hx2.lt
 have hs1:=hb1.size
 have hs2:=hb2.size
 simp only [World.size_alloc] at hN1 hs1
 have hz2:=(hnew.slot.below hb1).below hb2
 have hx12:=hx1.below hb2
 have hB2:=bthen (bthen hba hb1) hb2
 have hnewM:=IntAt.new w2 105 (by decide)
 have hbaM:=zab (Below.refl w2.heap.size w2) (.cells #[.bool false,.slice none 0 0] 105)
 clear hnew hba hx hxx1 hb1 hb2 hx1
 go_wp2_with fail
 refine (divMod_calls w.heap.size 0 N1 0 N2 0 w2.heap.size 0 x.num x.den _ (hz2.below hbaM) hnewM.slot (by omega) (hx12.below hbaM) (hx2.below hbaM) hdn hn1 hd1 hn).mono ?_
 rintro e w3 ⟨rfl,hq3,hm3,w31,hu1,hu2⟩
 have hB3:=hu2.new (hu1.new (bthen hB2 hbaM) (Nat.le_refl _)) (by omega)
 go_wp2
 go_ret
 exact ⟨_,rfl,Nat.le_refl _,hq3,hB3⟩
theorem feven_calls (g:Nat) (x:Rat) (w:World) (hx:RatAt w g x) {n:Nat} (hs:Bdr n x) (hn0:0<n) (hn:4*n+10≤big) :
  Calls Tryz.prog 168 #[.pointer (some ⟨g,0,none⟩)] w fun e w'=>∃ D,e = .returned (.pointer (some ⟨D,0,none⟩))∧w.heap.size≤D∧IntAt w' D 0 (evenR x)∧Below w.heap.size w w':=by
 have hu112:=Tryz.underlying112
 have hnb:n≤big:=by omega
 have hbf:=bd_floor hs
 have hlx:=hx.lt
 have HE:=Lib.hid (show evenR x=if 0<halfS x∨(halfS x=0∧x.floor.natAbs%2=1) then x.floor+1 else x.floor from rfl)
 have HH:=Lib.hid (show halfS x=((x-(x.floor:Rat)).num*(Rat.divInt 1 2).den-(Rat.divInt 1 2).num*(x-(x.floor:Rat)).den).sign from rfl)
 go_enter Tryz.func168,Tryz.ntmps168
 go_wp2_with fail
 refine (ffloor_calls g x _ hx hs hnb).mono ?_
 rintro e w1 ⟨D,rfl,hD,hq1,hb1⟩
 have hx1:=hx.below hb1
 have hlq:=hq1.lt
 have hs1:=hb1.size
 have hbA:=bthen (zab (Below.refl w1.heap.size w1) (.cells #[.bool false,.slice none 0 0,.bool false,.slice none 0 0] 112)) (zab (Below.refl _ _) (.cells #[.bool false,.slice none 0 0,.bool false,.slice none 0 0] 112))
 have hr2:RatAt ((w1.alloc (.cells #[.bool false,.slice none 0 0,.bool false,.slice none 0 0] 112)).alloc (.cells #[.bool false,.slice none 0 0,.bool false,.slice none 0 0] 112)) (w1.heap.size+1) 0:=by
  have h:=RatAt.new (w1.alloc (.cells #[.bool false,.slice none 0 0,.bool false,.slice none 0 0] 112)) 112 (by decide)
  rwa [World.size_alloc] at h
 have hr1:=(RatAt.new w1 112 (by decide)).slot.below (zab (Below.refl (w1.alloc (.cells #[.bool false,.slice none 0 0,.bool false,.slice none 0 0] 112)).heap.size (w1.alloc (.cells #[.bool false,.slice none 0 0,.bool false,.slice none 0 0] 112))) (.cells #[.bool false,.slice none 0 0,.bool false,.slice none 0 0] 112))
 have hqA:=hq1.below hbA
 have hxA:=hx1.below hbA
 have hBA:=bthen hb1 hbA
 clear hq1 hx1 hb1 hbA hx
 go_wp2_with fail
 refine (zbc (w1.heap.size+1) D 0 x.floor _ hr2.slot hqA hbf hnb).mono ?_
 rintro e w2 ⟨rfl,hf2,hu2⟩
 have hq2:=hqA.upd hu2 (Or.inl (by omega))
 have hx2:=hxA.upd hu2 (by omega)
 have hr2':=hr1.upd hu2
 have hB2:=hu2.new hBA (by omega)
 clear hqA hxA hr1 hr2 hu2 hBA
 have hsub:=hs.sub (Bdr.int hbf hn0)
 have HSUB:=Lib.hid hsub
 clear hsub
 go_wp2_with fail
 refine (rsub_calls w1.heap.size g (w1.heap.size+1) x (x.floor:Rat) _ hr2' hx2 hf2 hs (Bdr.int hbf hn0) (by omega)).mono ?_
 rintro e w3 ⟨rfl,hd3,hu3⟩
 have hq3:=hq2.upd hu3 (Or.inl (by omega))
 have hB3:=hu3.new hB2 hs1
 clear hq2 hx2 hf2 hr2' hu3 hB2
 go_wp2_with fail
 refine (newRat_calls 1 2 _ (by decide) (by decide) (by decide) (by decide) (by decide)).mono ?_
 rintro e w4 ⟨N,rfl,hN,hh4,hb4⟩
 have hd4:=hd3.below hb4
 have hq4:=hq3.below hb4
 have hB4:=bthen hB3 hb4
 clear hd3 hq3 hB3 hb4
 go_wp2_with fail
 refine (rcmp_calls w1.heap.size N _ _ _ hd4 hh4 HSUB.out Bdr.half (by omega)).mono ?_
 rintro e w5 ⟨rfl,hb5⟩
 have hq5:=hq4.below hb5
 have hB5:=bthen hB4 hb5
 rw [←HH.out]
 clear hd4 hh4 hq4 hB4 hb5 HH
 by_cases h1:0<halfS x
 ·have HV:=Lib.hid (show evenR x=x.floor+1 by rw [HE.out,if_pos (Or.inl h1)])
  clear HE
  go_wp2_with fail
  refine (zaP 1 _ (by decide) (by decide)).mono ?_
  rintro e w7 ⟨N7,rfl,hN7,hn7,hb7⟩
  have hq7:=hq5.below hb7
  go_wp2_with fail
  refine (zbI D N7 x.floor _ hq7 hn7 hbf hn0 hnb).mono ?_
  rintro e w8 ⟨rfl,hq8,hu8⟩
  have hB8:=hu8.new (bthen hB5 hb7) hD
  go_wp2
  go_ret
  exact ⟨_,rfl,hD,by rw [HV.out]; exact hq8,hB8⟩
 ·by_cases h2:halfS x=0
  ·rw [h2]
   by_cases h3:x.floor.natAbs%2=1
   ·have HV:=Lib.hid (show evenR x=x.floor+1 by rw [HE.out,if_pos (Or.inr ⟨h2,h3⟩)])
    clear HE h1 h2
    go_wp2_with fail
    refine (zco D 0 x.floor 0 _ hq5 (by omega) hbf hnb).mono ?_
    rintro e w6 ⟨rfl,⟨nd,hw6⟩⟩
    have hb6:Below w5.heap.size w5 w6:=by subst hw6; exact zaq _ _
    have hq6:=hq5.below hb6
    have hB6:=bthen hB5 hb6
    rw [show x.floor.natAbs/2^0%2=1 by rw [Nat.pow_zero,Nat.div_one]; exact h3]
    clear hw6 h3
    go_wp2_with fail
    refine (zaP 1 _ (by decide) (by decide)).mono ?_
    rintro e w7 ⟨N7,rfl,hN7,hn7,hb7⟩
    have hq7:=hq6.below hb7
    go_wp2_with fail
    refine (zbI D N7 x.floor _ hq7 hn7 hbf hn0 hnb).mono ?_
    rintro e w8 ⟨rfl,hq8,hu8⟩
    have hB8:=hu8.new (bthen hB6 hb7) hD
    go_wp2
    go_ret
    exact ⟨_,rfl,hD,by rw [HV.out]; exact hq8,hB8⟩
   ·have HV:=Lib.hid (show evenR x=x.floor by rw [HE.out,if_neg (fun h=>h.elim h1 (fun h=>h3 h.2))])
    clear HE h1 h2
    go_wp2_with fail
    refine (zco D 0 x.floor 0 _ hq5 (by omega) hbf hnb).mono ?_
    rintro e w6 ⟨rfl,⟨nd,hw6⟩⟩
    have hb6:Below w5.heap.size w5 w6:=by subst hw6; exact zaq _ _
    have hq6:=hq5.below hb6
    have hB6:=bthen hB5 hb6
    rw [show x.floor.natAbs/2^0%2=0 by rw [Nat.pow_zero,Nat.div_one]; omega]
    clear hw6 h3
    go_wp2
    go_ret
    exact ⟨_,rfl,hD,by rw [HV.out]; exact hq6,hB6⟩
  ·have hne:(halfS x == 0)=false:=beq_eq_false_iff_ne.2 h2
   have HV:=Lib.hid (show evenR x=x.floor by rw [HE.out,if_neg (fun h=>h.elim h1 (fun h=>h2 h.1))])
   clear HE h2
   go_wp2
   go_ret
   exact ⟨_,rfl,hD,by rw [HV.out]; exact hq5,hB5⟩
theorem setNeg_calls (b o:Nat) (S s:ByteArray) (u:Value) (w:World) (hz:Slot w b o) (hS:S=(⟨#[45]⟩:ByteArray)++s) (hd:Dig s.data.toList) (h0:0<s.size) (h1:s.size≤1048576) :
  Calls Tryz.prog 166 #[.pointer (some ⟨b,o,none⟩),.string S,u] w fun e w'=>e = .returned (.tuple #[.pointer (some ⟨b,o,none⟩),.bool true])∧IntAt w' b o (-(dval s.data.toList:Int))∧Upd w w' b o (o+2):=by
 have hS1:S.size=s.size+1:=by rw [hS,ByteArray.size_append]; show 1+s.size=_; omega
 have hSl:S.data.toList=45 :: s.data.toList:=by rw [hS,ByteArray.data_append,Array.toList_append]; rfl
 have hSp:0<S.size:=by omega
 have hb45:(((S[0]'hSp).toNat:Int) == 45)=true:=by
  have e:S[0]'hSp=45:=by
   have:S.data.toList[0]'(by rw [hSl]; simp)=45:=by simp [hSl]
   exact this
  rw [e]; rfl
 have hex:(S.extract 1 S.size).data.toList=s.data.toList:=by rw [ex_data,hSl]; simp; rw [List.take_of_length_le (by rw [zav]; omega)]
 have hes:(S.extract 1 S.size).size=s.size:=by rw [←zav,hex,zav]
 have hse:(S.extract 1 S.size).toList.isEmpty=false:=by
  cases hs:(S.extract 1 S.size).toList with
  | nil=>have:=congrArg List.length hs; rw [zcg,hes] at this; have h9:s.size=0:=this; omega
  | cons x xs=>rfl
 have hlt:(0:Int)<(S.size:Int):=by omega
 have hle1:(1:Int)≤(S.size:Int):=by omega
 have HEX:=Lib.hid hex
 clear hS hS1 hSl hes hex
 go_enter Tryz.func166,Tryz.ntmps166
 go_wp2
 go_loopw [1,9] (fun vs vw wr=>∃ (k:Nat) (s':ByteArray) (zs:List Int),vs = .string s'∧Hid (SSt w wr s s' k vw zs)) (fun vs _ _=>match vs with|.string s'=>s'.size|_=>0)
 case atStart=>exact ⟨0,S.extract 1 S.size,[],rfl,Lib.hid ⟨by omega,HEX.out,⟨rfl,Or.inl ⟨rfl,rfl⟩⟩,Wd.nil,by simp,rfl,Below.refl _ _⟩⟩
 case round =>
  obtain ⟨k,s',zs,rfl,HS⟩:=hrel
  rename_i vw
  by_cases hk:0<s'.size
  ·have hsz:s'.size≤1048576:=by have:=HS.out.size; omega
   have q1:IntKind.i64.wrap ((s'.size:Int)-1)=(s'.size:Int)-1:=IntWalk.i64_in _ (by omega)
   obtain ⟨n,hn⟩:∃ n:Nat,n=(s'.size-1)%9+1:=⟨_,rfl⟩
   have q2:Int.tmod ((s'.size:Int)-1) 9=(n:Int)-1:=by rw [Int.tmod_eq_emod_of_nonneg (by omega)]; omega
   have hn1:1≤n:=by omega
   have hn9:n≤9:=by omega
   have hns:n≤s'.size:=by omega
   have hnsI:(n:Int)≤(s'.size:Int):=by omega
   clear hn
   obtain ⟨Aw,cw,rfl,hww⟩:=HS.out.own.wat
   have hP:(s'.extract 0 n).size=n:=by rw [ByteArray.size_extract]; omega
   have kb:=fun W=>print_bytes (P:=Tryz.prog) 9 95 5 Tryz.underlying9 Tryz.underlying95 Tryz.underlying5 (s'.extract 0 n) W
   rw [hP] at kb
   have hpd:Dig (s'.extract 0 n).data.toList:=by rw [ex_data,HS.out.rest]; exact ((hd.drop _).drop _).take _
   have HP:=Lib.hid hP
   clear hP
   have hrd:=bytes_reads wr 5 (s'.extract 0 n) (by have:=HP.out; omega)
   rw [HP.out] at hrd
   have HRD:=Lib.hid hrd
   have HBB:=Lib.hid (bytes_below (Below.refl wr.heap.size wr) (Nat.le_refl _) 5 (s'.extract 0 n))
   clear hrd
   have hSp:Hid (∀ j,j<n→∃ d:Nat,d≤9∧rd (bytesOf (s'.extract 0 n)) (j:Int)=(d:Int)+48∧dval ((s'.extract 0 n).data.toList.take (j+1))=dval ((s'.extract 0 n).data.toList.take j)*10+d):=Lib.hid (fun j hj=>dig_step _ hpd j (by rw [HP.out]; exact hj))
   go_wp2
   generalize hwb:Lib.bytesWorld wr 5 (s'.extract 0 n)=wb at HRD HBB ⊢
   obtain ⟨wo,rfl⟩:∃ wo:World,wo=wr:=⟨_,rfl⟩
   clear hwb kb
   go_loopw [11,12,51] (fun vp vt vi w2=>∃ (j pt tm:Nat),j≤n∧vp = .int .u32 pt∧vt = .int .u32 tm∧vi = .int .i64 j∧Hid (pt=dval ((s'.extract 0 n).data.toList.take j))∧Hid (tm=10^j)∧pt<tm∧tm≤1000000000∧Below wb.heap.size wb w2) (fun _ _ vi _=>n-(intOf vi).toNat)
   case atStart=>exact ⟨0,0,1,by omega,by go_num,by go_num,by go_num,Lib.hid (by simp [dval]),Lib.hid rfl,by omega,by omega,Below.refl _ _⟩
   case round =>
    obtain ⟨j,pt,tm,hj,rfl,rfl,rfl,HPT,HTM,hpt,htm,hB2⟩:=hrel
    by_cases hjn:j<n
    ·obtain ⟨d,hd9,hrdd,hdv⟩:=hSp.out j hjn
     obtain ⟨ad,he,hc⟩:=(HRD.out.below hB2).at_ (j:Int) (by omega) (by omega)
     injection he with he
     subst he
     rw [hrdd,Int.toNat_natCast] at hc
     have HDV:=Lib.hid hdv
     have htm2:tm*10≤1000000000:=by
      rw [HTM.out]
      have:10^j≤10^8:=Nat.pow_le_pow_right (by decide) (by omega)
      omega
     have hc2:=hc
     rw [zbh] at hc2
     clear hrdd hdv
     have hjI:(j:Int)<(n:Int):=by omega
     go_wp2
     go_roundw
     case rel=>exact ⟨j+1,pt*10+d,tm*10,by omega,by go_num,by go_num,by go_num,Lib.hid (by rw [HDV.out,←HPT.out]),Lib.hid (by rw [Nat.pow_succ,←HTM.out]),by omega,htm2,hB2⟩
     case measure=>simp [intOf]; omega
    ·have hjn':j=n:=by omega
     subst hjn'
     have hjI:¬ (j:Int)<(j:Int):=by omega
     have hBo:Below wo.heap.size wo wr:=bthen HBB.out hB2
     have hst:=HS.out.step h1 j pt tm hns hn1 HPT.out HTM.out hpt htm
     have HST:=Lib.hid hst
     clear hst
     have hsw:s'.size≤9223372036854775807:=by omega
     go_wp2_with fail
     go_region_held3 (fun _=>True) (exact trivial)
      ((first
       | (go_simp; go_at_call 219; with_reducible refine (HST.out _ (bthen hBo (zah _))).mono ?_; rintro e w5 ⟨v',rs,rfl,HS2⟩)))
     go_wp2
     go_roundw
     case rel=>exact ⟨k+j,s'.extract j s'.size,rs,by go_num,HS2⟩
     case measure=>have e1:=HS2.out.size; have e2:=HS.out.size; simp; omega
  ·obtain ⟨Aw,cw,rfl,hww⟩:=HS.out.own.wat
   have hfin:sg true (val zs) = -((dval s.data.toList:Nat):Int):=by
    have e1:=HS.out.size
    have e2:=HS.out.eq
    rw [List.take_of_length_le (by rw [zav]; omega)] at e2
    show -(val zs)=_
    rw [e2]
   have HF:=Lib.hid hfin
   clear hfin
   go_wp2_with fail
   refine (zaF b o true Aw cw zs _ (hz.upd (Upd.of_below HS.out.below 0 0 0)) hww HS.out.wd).mono ?_
   rintro e w5 ⟨rfl,hx5,hu5⟩
   rw [HF.out] at hx5
   go_wp2
   go_ret2
   exact ⟨rfl,hx5,(Upd.of_below HS.out.below _ _ _).trans hu5⟩
end Go.Proofs.ZP
end
section
namespace Go.Proofs.ZQ
open Go.RowKit Go.Proofs.ZW.Wa Go.Proofs.ZP Go.Proofs.ZW.Wb Go.Proofs.ZW.Wc
def RbAt (w:World) (b:Nat) (x y:ByteArray):Prop:=w.heap[b]? = some (.cells #[.string x,.string y] 23 (0,0))
theorem RbAt.c0 {w:World} {b:Nat} {x y:ByteArray} (h:RbAt w b x y):w.cell? ⟨b,0,none⟩=some (.string x):=(zad h 0).trans rfl
theorem RbAt.c1 {w:World} {b:Nat} {x y:ByteArray} (h:RbAt w b x y):w.cell? ⟨b,1,none⟩=some (.string y):=(zad h 1).trans rfl
theorem RbAt.below {w w':World} {b:Nat} {x y:ByteArray} (h:RbAt w b x y) (hb:Below w.heap.size w w'):RbAt w' b x y:=(hb.block _ (zaz h)).trans h
theorem RbAt.keep {w w':World} {b n:Nat} {x y:ByteArray} (h:RbAt w b x y) (hb:Below n w w') (hn:b<n):RbAt w' b x y:=(hb.block _ hn).trans h
theorem RbAt.new (w:World) (x y:ByteArray):RbAt (w.alloc (.cells #[.string x,.string y] 23)) w.heap.size x y:=zaW w _
theorem RbAt.alloc {w:World} {b:Nat} {x y:ByteArray} (h:RbAt w b x y) (o:Obj):RbAt (w.alloc o) b x y:=h.below (zab (Below.refl _ _) _)
def Ans (f:FuncId) (args:Array Value) (v:Value):Prop:=∀ W:World,Calls Tryz.prog f args W fun e w'=>e = .returned v∧Below W.heap.size W w'
def FrV (x:Rat):Value:=.agg #[.bool (Fr x).1,.string (Fr x).2.1,.string (Fr x).2.2]
end Go.Proofs.ZQ
end
section
namespace Go.Proofs.ZQ
open Go.RowKit Go.Proofs.ZW.Wa Go.Proofs.ZP
theorem setW_calls (b o:Nat) (z:Int) (u:Value) (w:World) (hz:Slot w b o) (h:z.natAbs<10^600) :
  Calls Tryz.prog 166 #[.pointer (some ⟨b,o,none⟩),.string (wtext z),u] w fun e w'=>e = .returned (.tuple #[.pointer (some ⟨b,o,none⟩),.bool true])∧IntAt w' b o z∧Upd w w' b o (o+2):=by
 have hs:=(zaM (k:=600) (by decide)).2 h
 have hp:=za2 z.natAbs
 by_cases hn:z<0
 ·refine (setNeg_calls b o (wtext z) (T z.natAbs) u w hz (zbW hn) (T_can _).2.1 hp (by omega)).mono ?_
  rintro e w' ⟨h1,h2,h3⟩
  rw [zbi,show -((z.natAbs:Nat):Int)=z by omega] at h2
  exact ⟨h1,h2,h3⟩
 ·have e:wtext z=T z.natAbs:=zaN (by omega)
  rw [e]
  refine (zck b o (T z.natAbs) u w hz (T_can _).2.1 hp (by omega)).mono ?_
  rintro e w' ⟨h1,h2,h3⟩
  rw [zbi,show ((z.natAbs:Nat):Int)=z by omega] at h2
  exact ⟨h1,h2,h3⟩
theorem zbd {a b:ByteArray} {x:Rat} (h:RR a b x):Ans 35 #[.agg #[.string a,.string b]] (.bool true):=fun W=>right_walk a b true W ⟨fun _=>⟨x,h⟩,fun _=>rfl⟩
theorem fread_yes {a b:ByteArray} {x:Rat} (h:RR a b x) (w:World) :
  Calls Tryz.prog 89 #[.agg #[.string a,.string b]] w fun e w'=>∃ g,e = .returned (.pointer (some ⟨g,0,none⟩))∧w.heap.size≤g∧RatAt w' g x∧Below w.heap.size w w':=by
 have HA:=Lib.hid (zbd h)
 have HN:=Lib.hid (fun W b o (hz:Slot W b o)=>setW_calls b o x.num (.int .i64 10) W hz h.ln)
 have HD:=Lib.hid (fun W b o (hz:Slot W b o)=>setW_calls b o (x.den:Int) (.int .i64 10) W hz (show ((x.den:Nat):Int).natAbs<10^600 by rw [Int.natAbs_natCast]; exact h.ld))
 have hdn:wtext (x.den:Int)=b:=by rw [zaN (by omega),Int.natAbs_natCast,h.den]
 have hnn:wtext x.num=a:=h.num.symm
 have HBX:=Lib.hid h.bd
 rw [hnn] at HN
 rw [hdn] at HD
 have hds:(x.den:Int).sign=1:=Int.sign_eq_one_of_pos (by have:=x.den_pos; omega)
 have hd0:(x.den:Int)≠0:=by have:=x.den_pos; omega
 have HD0:=Lib.hid hd0
 have HDS:=Lib.hid hds
 clear hds hd0 hdn hnn h
 go_enter Tryz.func89,Tryz.ntmps89
 have fa:=RbAt.new w a b
 have hba:=zab (Below.refl w.heap.size w) (.cells #[.string a,.string b] 23)
 go_wp2_with fail
 generalize w.alloc (.cells #[.string a,.string b] 23)=W0 at *
 have HFA:=Lib.hid fa
 have HBA:=Lib.hid hba
 clear fa hba
 refine (HA.out _).mono ?_
 rintro e w1 ⟨rfl,hb⟩
 have fa1:=HFA.out.below hb
 have f1:=(HFA.out.below hb).alloc (.cells #[.bool false,.slice none 0 0] 105)
 have c0:=f1.c0
 have hz1:=(IntAt.new w1 105 (by decide)).slot
 have hB1:=bthen (bthen HBA.out hb) (zab (Below.refl _ _) (.cells #[.bool false,.slice none 0 0] 105))
 have hs1:=(bthen HBA.out hb).size
 clear hb
 go_wp2_with fail
 refine (HN.out _ _ _ hz1).mono ?_
 rintro e w2 ⟨rfl,hi2,hu2⟩
 have hB2:=hu2.new hB1 hs1
 have hb12:Below w1.heap.size w1 w2:=hu2.new (zab (Below.refl _ _) _) (Nat.le_refl _)
 clear c0 hz1 hu2
 have hl2:=hi2.lt
 have f2:=fa1.below hb12
 generalize w1.heap.size=D1 at *
 have f3:=f2.alloc (.cells #[.bool false,.slice none 0 0] 105)
 have c1:=f3.c1
 have hz2:=(IntAt.new w2 105 (by decide)).slot
 have hB3:=bthen hB2 (zab (Below.refl _ _) (.cells #[.bool false,.slice none 0 0] 105))
 have hs2:=hB2.size
 clear f1 fa1 f2 f3 hb12 hB1
 go_wp2_with fail
 refine (HD.out _ _ _ hz2).mono ?_
 rintro e w3 ⟨rfl,hi3,hu3⟩
 have hB4:=hu3.new hB3 hs2
 have hb23:Below w2.heap.size w2 w3:=hu3.new (zab (Below.refl _ _) _) (Nat.le_refl _)
 have hi23:=hi2.below hb23
 have hl3:=hi3.lt
 clear c1 hz2 hu3 hi2 hb23 hB3 hB2
 generalize w2.heap.size=D2 at *
 go_wp2_with fail
 refine (zaO D2 0 (x.den:Int) _ hi3).mono ?_
 rintro e w4 ⟨rfl,rfl⟩
 rw [HDS.out]
 have hz4:=(RatAt.new w3 112 (by decide)).slot
 have hba:=zab (Below.refl w3.heap.size w3) (.cells #[.bool false,.slice none 0 0,.bool false,.slice none 0 0] 112)
 have hs4:=hB4.size
 go_wp2_with fail
 refine (zbb w3.heap.size D1 0 D2 0 x.num (x.den:Int) _ hz4 (hi23.below hba) (hi3.below hba) HD0.out HBX.out.1 HBX.out.2 (by decide)).mono ?_
 rintro e w5 ⟨rfl,hr5,hu5⟩
 rw [Rat.num_divInt_den] at hr5
 have HB5:=Lib.hid (hu5.new (bthen hB4 hba) hs4)
 have HR5:=Lib.hid hr5
 have HS4:=Lib.hid hs4
 clear hr5 hu5 hi23 hi3 hz4 hba hB4 hl2 hl3 hs1 hs2 hs4
 go_wp2
 go_ret
 exact ⟨_,rfl,HS4.out,HR5.out,HB5.out⟩
def expR (x:Rat):Int:=let e:Int:=((T x.num.natAbs).size:Int)-((T x.den).size:Int); if (x.num*(tenR e).den-(tenR e).num*x.den).sign<0 then e-1 else e
theorem exponent_calls (g:Nat) (x:Rat) (w:World) (hx:RatAt w g x) (hp:0<x.num) (hs:Sz 600 x) (hb:Bdr 2000 x) :
  Calls Tryz.prog 167 #[.pointer (some ⟨g,0,none⟩)] w fun e w'=>e = .returned (.int .i64 (expR x))∧Below w.heap.size w w':=by
 have HX:=Lib.hid hx
 have HBX:=Lib.hid hb
 have htn:wtext x.num=T x.num.natAbs:=zaN (by omega)
 have htd:wtext (x.den:Int)=T x.den:=by rw [zaN (by omega),Int.natAbs_natCast]
 have hs1:=hs.1
 have hs2:=hs.2
 obtain ⟨e,he⟩:∃ e:Int,((T x.num.natAbs).size:Int)-((T x.den).size:Int)=e:=⟨_,rfl⟩
 have hsn:IntKind.i64.wrap (((T x.num.natAbs).size:Int)-((T x.den).size:Int))=e:=by rw [he]; exact IntWalk.i64_in _ (by omega)
 have hsn2:wrap64 (((T x.num.natAbs).size:Int)-((T x.den).size:Int))=e:=by rw [he]; unfold wrap64; omega
 have hel : -600≤e∧e≤600:=by omega
 have hE:=Lib.hid (show expR x=if (x.num*(tenR e).den-(tenR e).num*x.den).sign<0 then e-1 else e by unfold expR; simp only [he])
 have HT:=Lib.hid (Bdr.tenR e)
 have hw1:wrap64 (e-1)=e-1:=by unfold wrap64; omega
 clear he hx hb hs hp
 go_enter Tryz.func167,Tryz.ntmps167
 go_wp2_with fail
 refine (num_new g x _ HX.out HBX.out (by decide)).mono ?_
 rintro e1 w1 ⟨D1,rfl,hD1,hi1,hb1⟩
 go_wp2_with fail
 refine (zbR D1 0 x.num _ hi1 HBX.out.1 (by decide)).mono ?_
 rintro e2 w2 ⟨rfl,hb2⟩
 rw [htn]
 go_wp2_with fail
 refine (zbg g x _ (HX.out.below (bthen hb1 hb2)) HBX.out (by decide)).mono ?_
 rintro e3 w3 ⟨D3,rfl,hD3,hi3,hb3⟩
 go_wp2_with fail
 refine (zbR D3 0 (x.den:Int) _ hi3 HBX.out.2 (by decide)).mono ?_
 rintro e4 w4 ⟨rfl,hb4⟩
 rw [htd]
 have hB4:=bthen hb1 (bthen hb2 (bthen hb3 hb4))
 clear hi1 hi3 hb1 hb2 hb3 hb4 hD1 hD3
 go_wp2_with fail
 refine (ften_calls e _ (by omega) (by omega)).mono ?_
 rintro e5 w5 ⟨G,rfl,hG,ht5,hb5⟩
 go_wp2_with fail
 refine (rcmp_calls g G x (tenR e) _ (HX.out.below (bthen hB4 hb5)) ht5 HBX.out HT.out (by unfold big; omega)).mono ?_
 rintro e6 w6 ⟨rfl,hb6⟩
 have HB6:=Lib.hid (bthen hB4 (bthen hb5 hb6))
 generalize (x.num*(tenR e).den-(tenR e).num*x.den).sign=c at hE ⊢
 clear hB4 hb5 hb6 ht5 hG hsn hsn2
 by_cases hc:c<0
 ·have hv:=Lib.hid (hE.out.trans (if_pos hc))
  go_wp2
  go_ret
  exact ⟨by rw [hv.out]; rfl,HB6.out⟩
 ·have hv:=Lib.hid (hE.out.trans (if_neg hc))
  go_wp2
  go_ret
  exact ⟨by rw [hv.out]; rfl,HB6.out⟩
noncomputable def rndR (x:Rat) (n:Int):ByteArray×Int:=let s:=wtext (evenR (x*tenR (n-1-expR x))); if n<(s.size:Int) then (s.extract 0 n.toNat,expR x+1) else (s,expR x)
theorem expR_le {x:Rat} (hs:Sz 600 x) : -601≤expR x∧expR x≤600:=by
 have hs1:=hs.1
 have hs2:=hs.2
 unfold expR
 dsimp only
 split<;>omega
theorem rounded_calls (g:Nat) (x:Rat) (n:Int) (w:World) (hx:RatAt w g x) (hp:0<x.num) (hs:Sz 600 x) (hb:Bdr 2000 x) (hn:1≤n∧n≤40) :
  Calls Tryz.prog 90 #[.pointer (some ⟨g,0,none⟩),.int .i64 n] w fun e w'=>e = .returned (.tuple #[.string (rndR x n).1,.int .i64 (rndR x n).2])∧Below w.heap.size w w':=by
 have HE:=Lib.hid (fun W (h:RatAt W g x)=>exponent_calls g x W h hp hs hb)
 have HX:=Lib.hid hx
 have HBX:=Lib.hid hb
 have hel:=expR_le hs
 have hV:rndR x n=if n<((wtext (evenR (x*tenR (n-1-expR x)))).size:Int) then ((wtext (evenR (x*tenR (n-1-expR x)))).extract 0 n.toNat,expR x+1) else (wtext (evenR (x*tenR (n-1-expR x))),expR x):=rfl
 generalize expR x=e at *
 have hTT:=(Bdr.tenR (n-1-e)).mono (show 4*(n-1-e).natAbs+1≤2801 by omega)
 have HTT:=Lib.hid hTT
 have HM:=Lib.hid ((hb.mul hTT).mono (show 2000+2801≤4801 by decide))
 have HEV:=Lib.hid (bd_even HM.out)
 have HV:=Lib.hid hV
 have hw1:wrap64 (n-1)=n-1:=by unfold wrap64; omega
 have hw2:wrap64 (n-1-e)=n-1-e:=by unfold wrap64; omega
 have hw3:wrap64 (e+1)=e+1:=by unfold wrap64; omega
 have hn0:0≤n:=by omega
 clear hx hb hs hV hTT hp
 go_enter Tryz.func90,Tryz.ntmps90
 go_wp2_with fail
 refine (HE.out _ HX.out).mono ?_
 rintro e1 w1 ⟨rfl,hb1⟩
 have hz1:=(RatAt.new w1 112 (by decide)).slot
 have hba:=zab (Below.refl w1.heap.size w1) (.cells #[.bool false,.slice none 0 0,.bool false,.slice none 0 0] 112)
 have hx1:=(HX.out.below hb1).below hba
 have hB1:=bthen hb1 hba
 have hs1:=hb1.size
 go_wp2_with fail
 refine (ften_calls (n-1-e) _ (by omega) (by omega)).mono ?_
 rintro e2 w2 ⟨G,rfl,hG,ht2,hb2⟩
 go_wp2_with fail
 refine (rmul_calls w1.heap.size g G x (tenR (n-1-e)) _ (hz1.below hb2) (hx1.below hb2) ht2 HBX.out HTT.out (by decide)).mono ?_
 rintro e3 w3 ⟨rfl,hr3,hu3⟩
 have hB3:=hu3.new (bthen hB1 hb2) hs1
 generalize w1.heap.size=D1 at *
 clear hz1 hba hx1 hB1 ht2 hb2 hu3 hG
 go_wp2_with fail
 refine (feven_calls D1 _ _ hr3 HM.out (by decide) (by decide)).mono ?_
 rintro e4 w4 ⟨D4,rfl,hD4,hi4,hb4⟩
 go_wp2_with fail
 refine (zbR D4 0 _ _ hi4 HEV.out (by decide)).mono ?_
 rintro e5 w5 ⟨rfl,hb5⟩
 have HB5:=Lib.hid (bthen hB3 (bthen hb4 hb5))
 clear hr3 hB3 hb4 hb5 hi4 hD4 hb1 hs1
 generalize wtext (evenR (x*tenR (n-1-e)))=s at *
 by_cases hc:n<(s.size:Int)
 ·have hv:=Lib.hid (HV.out.trans (if_pos hc))
  have hle:n≤(s.size:Int):=by omega
  go_wp2
  go_ret2
  exact ⟨by rw [hv.out]; rfl,HB5.out⟩
 ·have hv:=Lib.hid (HV.out.trans (if_neg hc))
  go_wp2
  go_ret2
  exact ⟨by rw [hv.out]; rfl,HB5.out⟩
structure St4 (w W:World) (A B X Y:Nat) (a0 a1 b0 b1 x0 x1 y0 y1:ByteArray):Prop where
 a:RbAt W A a0 a1
 b:RbAt W B b0 b1
 x:RbAt W X x0 x1
 y:RbAt W Y y0 y1
 hb:Below w.heap.size w W
 d:w.heap.size≤X∧A<X∧B<X∧X<Y
theorem St4.call {w W W':World} {A B X Y:Nat} {a0 a1 b0 b1 x0 x1 y0 y1:ByteArray} (h:St4 w W A B X Y a0 a1 b0 b1 x0 x1 y0 y1) (k:Below W.heap.size W W'):St4 w W' A B X Y a0 a1 b0 b1 x0 x1 y0 y1:=
 ⟨h.a.below k,h.b.below k,h.x.below k,h.y.below k,bthen h.hb k,h.d⟩
end Go.Proofs.ZQ
end
section
namespace Go.Proofs.ZQ
open Go.RowKit Go.Proofs.ZW.Wa Go.Proofs.ZW.Wb Go.Proofs.ZW.Wc
attribute [local go_sem] zaE zaD zaL zaK zaC zaB zaH zaG
noncomputable def c2_Rounded.f (a0_0:Bool) (a0_1:ByteArray) (a0_2:ByteArray) (a1:Int):Option (Bool×ByteArray×ByteArray):=(c2_Steps.f a0_0 a0_1 a0_2 a1).bind fun t841=>(if a1≥0 then ((c2_Zeros.f a1).bind fun t842=>(if 1+t842.size≤9223372036854775807 then ((c2_Lowest.f a0_0 t841 ((⟨#[49]⟩:ByteArray)++t842)).bind fun bt843=>(some (bt843.1,bt843.2.1,bt843.2.2))) else (none))) else ((c2_Zeros.f (wrap64 (-a1))).bind fun t846=>(if 1+t846.size≤9223372036854775807 then ((c1_Times.f t841 ((⟨#[49]⟩:ByteArray)++t846)).bind fun t847=>((c2_Lowest.f a0_0 t847 (⟨#[49]⟩:ByteArray)).bind fun bt848=>(some (bt848.1,bt848.2.1,bt848.2.2)))) else (none))))
noncomputable def c2_Round.j0:Nat→Int→Bool→ByteArray→ByteArray→Option (ByteArray×ByteArray×Int)
 | 0,_,_,_,_=>none
 | k+1,x1,x15,x852000,x852001=>if x15=true then (some ((⟨#[]⟩:ByteArray),(⟨#[]⟩:ByteArray),1)) else ((c2_Read.f k x852000 x852001).bind fun bt854=>((c2_Rounded.f bt854.1 bt854.2.1 bt854.2.2 x1).bind fun bt857=>((c2_Told.f k bt857.1 bt857.2.1 bt857.2.2).bind fun bt860=>(some (bt860.1,bt860.2.1,bt860.2.2)))))
noncomputable def c2_Round.f (k:Nat) (a0_0:ByteArray) (a0_1:ByteArray) (a1:Int):Option (ByteArray×ByteArray×Int):=(c2_Right.f k a0_0 a0_1).bind fun t853=>(if t853=true then (if a1<(-600) then (c2_Round.j0 k a1 true a0_0 a0_1) else (c2_Round.j0 k a1 (decide (a1>600)) a0_0 a0_1)) else (some ((⟨#[]⟩:ByteArray),(⟨#[]⟩:ByteArray),3)))
end Go.Proofs.ZQ
end
section
namespace Go.Proofs.ZQ
open Go.RowKit Go.Proofs.ZW.Wa Go.Proofs.ZP
theorem tenR_neg (q:Nat) (hq:0<q):tenR (-(q:Int))=Rat.divInt 1 ((10^q:Nat):Int):=by
 unfold tenR
 rw [if_pos (by omega),Int.natAbs_neg,Int.natAbs_natCast,zbN]
 have hi:((((10:Int)^q:Int)):Rat).num=(10:Int)^q:=rfl
 have hj:((((10:Int)^q:Int)):Rat).den=1:=rfl
 rw [hi,hj,Int.natCast_pow]; rfl
theorem tenR_pos (q:Nat):tenR (q:Int)=Rat.divInt ((10^q:Nat):Int) 1:=by
 have h:tenR (q:Int)=(((10:Int)^q:Int):Rat):=by unfold tenR; rw [if_neg (by omega),Int.natAbs_natCast]
 rw [h,int_div1,Int.natCast_pow]; rfl
end Go.Proofs.ZQ
end
section
namespace Go.Proofs.ZQ
open Go.RowKit Go.Proofs.ZW.Wa Go.Proofs.ZW.Wb Go.Proofs.ZW.Wc
attribute [local go_sem] zaE zaD zaL zaK zaC zaB zaH zaG
noncomputable def c5_ten.f (a0:Int):Option (Bool×ByteArray×ByteArray):=if a0<0 then ((c1_Power.f (⟨#[49,48]⟩:ByteArray) (wrap64 (-a0))).bind fun t340=>(some (false,(⟨#[49]⟩:ByteArray),t340))) else ((c1_Power.f (⟨#[49,48]⟩:ByteArray) a0).bind fun t341=>(some (false,t341,(⟨#[49]⟩:ByteArray))))
theorem c5_ten.calls (a0:Int) (r1:Bool) (r2:ByteArray) (r3:ByteArray) (w:World) (h:c5_ten.f a0=some (r1,r2,r3)) :
  Calls Tryz.prog 174 #[.int .i64 a0] w fun e w'=>e = .returned (.agg #[.bool r1,.string r2,.string r3])∧Below w.heap.size w w':=by
 have hu28:=Tryz.underlying28
 have HB:=Aside0.mk (Below.refl w.heap.size w)
 have H:(if a0<0 then ((c1_Power.f (⟨#[49,48]⟩:ByteArray) (wrap64 (-a0))).bind fun t340=>(some (false,(⟨#[49]⟩:ByteArray),t340))) else ((c1_Power.f (⟨#[49,48]⟩:ByteArray) a0).bind fun t341=>(some (false,t341,(⟨#[49]⟩:ByteArray)))))=some (r1,r2,r3):=h
 clear h
 by_cases c2:a0<0
 ·rw [if_pos c2] at H
  have c2b0:decide (a0<0)=true:=decide_eq_true c2
  clear c2
  replace H:=Option.bind_eq_some_iff.mp H
  obtain ⟨t340,A30,H⟩:=H
  replace H:(some (false,(⟨#[49]⟩:ByteArray),t340))=some (r1,r2,r3):=H
  have A3:=Aside0.mk A30
  clear A30
  simp only [Option.some.injEq,Prod.mk.injEq] at H
  obtain ⟨rfl,rfl,rfl⟩:=H
  go_enter Tryz.func174,Tryz.ntmps174
  go_wp2_with (first|((with_reducible refine zau (N:=2) rfl ?_); refine zas ?hg (N:=2) ?hd (cs:=#[.bool false,.string (⟨#[]⟩:ByteArray),.string (⟨#[]⟩:ByteArray)]) (t:=28) ?hr ?_; (case hd=>rfl); (case hg=>rfl); (case hr=>first|(go_simp; done)|(go_simp; rfl)); intro gb339 hg w4 hbox hb; have n0_:=Aside0.mk (zak (by repeat (first|(with_reducible first|exact HB.out|apply zab|apply zaa|apply zac)|exact HB.out)) hb); have n1_:=Aside0.mk (hbox); have n2_:=Aside0.mk ((by rw [hg]; exact (zal (by repeat (first|(with_reducible first|exact HB.out|apply zab|apply zaa|apply zac)|exact HB.out))):w.heap.size≤gb339)); have n3_:=Aside0.mk ((by rw [hg]; exact (zal (by repeat (first|(with_reducible first|exact HB.out|apply zab|apply zaa|apply zac)|exact HB.out))):w.heap.size≤gb339)); clear HB; have HB:=n0_; have BK339:=n1_; have GW339:=n2_; have GE339:=n3_; clear n0_ n1_ n2_ n3_; clear hb hbox hg)|((with_reducible refine zap (f:=84) rfl ?_); refine zaA (some 7) rfl rfl Tryz.func84 (by kernel_rfl) rfl #[.string (⟨#[49,48]⟩:ByteArray),.int .i64 (wrap64 (-a0))] rfl (by (try simp only [List.map_toArray,List.map_cons,List.map_nil]); first|done|rfl|(simp only [List.length_drop,List.length_take]; rfl)) ?_; (with_reducible refine (c1_Power.calls (⟨#[49,48]⟩:ByteArray) (wrap64 (-a0)) t340 _ A3.out).mono ?_); rintro e w5 ⟨rfl,hb⟩; refine ⟨_,rfl,?_⟩; have n0_:=Aside0.mk (zao (g:=gb339) (o:=.cells #[.bool false,.string (⟨#[]⟩:ByteArray),.string (⟨#[]⟩:ByteArray)] 28 (0,0)) (by (with_reducible repeat (first|refine zaf ?_ _|refine zai ?_|refine zag ?_ _)); exact BK339.out) hb); have n1_:=Aside0.mk (zak (by repeat (first|(with_reducible first|exact HB.out|apply zab|apply zaa|apply zac|refine zae ?_ GE339.out)|exact HB.out)) hb); clear BK339; clear HB; have BK339:=n0_; have HB:=n1_; clear n0_ n1_; (try clear hb); (try clear hb2); (try clear hk); (try clear hi); have hcz6_0:w5.cell? ⟨gb339,0,none⟩=some (.bool false):=(zad BK339.out 0).trans rfl; have hcz6_1:w5.cell? ⟨gb339,1,none⟩=some (.string (⟨#[]⟩:ByteArray)):=(zad BK339.out 1).trans rfl; have hcz6_2:w5.cell? ⟨gb339,2,none⟩=some (.string (⟨#[]⟩:ByteArray)):=(zad BK339.out 2).trans rfl; have hfz6_0:=zaj BK339.out 0; have hfz6_1:=zaj BK339.out 1; have hfz6_2:=zaj BK339.out 2))
  refine bodyPost_ret (results_cell_row rfl _ _ gb339 28 #[.bool false,.string (⟨#[49]⟩:ByteArray),.string t340] (0,0) _ rfl (by (with_reducible repeat (first|refine zaf ?_ _|refine zai ?_|refine zag ?_ _)); refine zaw (cs:=#[.bool false,.string (⟨#[49]⟩:ByteArray),.string (⟨#[]⟩:ByteArray)]) ?_ 2 _ rfl; (with_reducible repeat (first|refine zaf ?_ _|refine zai ?_|refine zag ?_ _)); refine zaw (cs:=#[.bool false,.string (⟨#[]⟩:ByteArray),.string (⟨#[]⟩:ByteArray)]) ?_ 1 _ rfl; (with_reducible repeat (first|refine zaf ?_ _|refine zai ?_|refine zag ?_ _)); refine zaw (cs:=#[.bool false,.string (⟨#[]⟩:ByteArray),.string (⟨#[]⟩:ByteArray)]) ?_ 0 _ rfl; (with_reducible repeat (first|refine zaf ?_ _|refine zai ?_|refine zag ?_ _)); exact BK339.out) Tryz.underlying28 rfl (by kernel_rfl)) rfl ?_
  exact ⟨by first|rfl|(simp [zan,zam]<;>rfl)|(simp [*,zan,zam]<;>rfl),by repeat (first|(with_reducible first|exact HB.out|apply zab|apply zaa|apply zac|refine zae ?_ GE339.out)|exact HB.out)⟩
 ·rw [if_neg c2] at H
  have c2b0:decide (a0<0)=false:=decide_eq_false c2
  clear c2
  replace H:=Option.bind_eq_some_iff.mp H
  obtain ⟨t341,A70,H⟩:=H
  replace H:(some (false,t341,(⟨#[49]⟩:ByteArray)))=some (r1,r2,r3):=H
  have A7:=Aside0.mk A70
  clear A70
  simp only [Option.some.injEq,Prod.mk.injEq] at H
  obtain ⟨rfl,rfl,rfl⟩:=H
  go_enter Tryz.func174,Tryz.ntmps174
  go_wp2_with (first|((with_reducible refine zau (N:=2) rfl ?_); refine zas ?hg (N:=2) ?hd (cs:=#[.bool false,.string (⟨#[]⟩:ByteArray),.string (⟨#[]⟩:ByteArray)]) (t:=28) ?hr ?_; (case hd=>rfl); (case hg=>rfl); (case hr=>first|(go_simp; done)|(go_simp; rfl)); intro gb339 hg w8 hbox hb; have n0_:=Aside0.mk (zak (by repeat (first|(with_reducible first|exact HB.out|apply zab|apply zaa|apply zac)|exact HB.out)) hb); have n1_:=Aside0.mk (hbox); have n2_:=Aside0.mk ((by rw [hg]; exact (zal (by repeat (first|(with_reducible first|exact HB.out|apply zab|apply zaa|apply zac)|exact HB.out))):w.heap.size≤gb339)); have n3_:=Aside0.mk ((by rw [hg]; exact (zal (by repeat (first|(with_reducible first|exact HB.out|apply zab|apply zaa|apply zac)|exact HB.out))):w.heap.size≤gb339)); clear HB; have HB:=n0_; have BK339:=n1_; have GW339:=n2_; have GE339:=n3_; clear n0_ n1_ n2_ n3_; clear hb hbox hg)|((with_reducible refine zap (f:=84) rfl ?_); refine zaA (some 10) rfl rfl Tryz.func84 (by kernel_rfl) rfl #[.string (⟨#[49,48]⟩:ByteArray),.int .i64 a0] rfl (by (try simp only [List.map_toArray,List.map_cons,List.map_nil]); first|done|rfl|(simp only [List.length_drop,List.length_take]; rfl)) ?_; (with_reducible refine (c1_Power.calls (⟨#[49,48]⟩:ByteArray) a0 t341 _ A7.out).mono ?_); rintro e w9 ⟨rfl,hb⟩; refine ⟨_,rfl,?_⟩; have n0_:=Aside0.mk (zao (g:=gb339) (o:=.cells #[.bool false,.string (⟨#[]⟩:ByteArray),.string (⟨#[]⟩:ByteArray)] 28 (0,0)) (by (with_reducible repeat (first|refine zaf ?_ _|refine zai ?_|refine zag ?_ _)); exact BK339.out) hb); have n1_:=Aside0.mk (zak (by repeat (first|(with_reducible first|exact HB.out|apply zab|apply zaa|apply zac|refine zae ?_ GE339.out)|exact HB.out)) hb); clear BK339; clear HB; have BK339:=n0_; have HB:=n1_; clear n0_ n1_; (try clear hb); (try clear hb2); (try clear hk); (try clear hi); have hcz10_0:w9.cell? ⟨gb339,0,none⟩=some (.bool false):=(zad BK339.out 0).trans rfl; have hcz10_1:w9.cell? ⟨gb339,1,none⟩=some (.string (⟨#[]⟩:ByteArray)):=(zad BK339.out 1).trans rfl; have hcz10_2:w9.cell? ⟨gb339,2,none⟩=some (.string (⟨#[]⟩:ByteArray)):=(zad BK339.out 2).trans rfl; have hfz10_0:=zaj BK339.out 0; have hfz10_1:=zaj BK339.out 1; have hfz10_2:=zaj BK339.out 2))
  refine bodyPost_ret (results_cell_row rfl _ _ gb339 28 #[.bool false,.string t341,.string (⟨#[49]⟩:ByteArray)] (0,0) _ rfl (by (with_reducible repeat (first|refine zaf ?_ _|refine zai ?_|refine zag ?_ _)); refine zaw (cs:=#[.bool false,.string t341,.string (⟨#[]⟩:ByteArray)]) ?_ 2 _ rfl; (with_reducible repeat (first|refine zaf ?_ _|refine zai ?_|refine zag ?_ _)); refine zaw (cs:=#[.bool false,.string (⟨#[]⟩:ByteArray),.string (⟨#[]⟩:ByteArray)]) ?_ 1 _ rfl; (with_reducible repeat (first|refine zaf ?_ _|refine zai ?_|refine zag ?_ _)); refine zaw (cs:=#[.bool false,.string (⟨#[]⟩:ByteArray),.string (⟨#[]⟩:ByteArray)]) ?_ 0 _ rfl; (with_reducible repeat (first|refine zaf ?_ _|refine zai ?_|refine zag ?_ _)); exact BK339.out) Tryz.underlying28 rfl (by kernel_rfl)) rfl ?_
  exact ⟨by first|rfl|(simp [zan,zam]<;>rfl)|(simp [*,zan,zam]<;>rfl),by repeat (first|(with_reducible first|exact HB.out|apply zab|apply zaa|apply zac|refine zae ?_ GE339.out)|exact HB.out)⟩
noncomputable def c5_exponent.l0:Nat→Int→Bool→ByteArray→ByteArray→Option (Int)
 | 0,_,_,_,_=>none
 | k+1,x3,x343000,x343001,x343002=>(c5_ten.f x3).bind fun bt343=>((c1_FCmp.f x343000 x343001 x343002 bt343.1 bt343.2.1 bt343.2.2).bind fun t346=>(if t346≥0 then (some x3) else (c5_exponent.l0 k (wrap64 (x3-1)) x343000 x343001 x343002)))
noncomputable def c5_exponent.f (k:Nat) (a0_0:Bool) (a0_1:ByteArray) (a0_2:ByteArray):Option (Int):=c5_exponent.l0 k (wrap64 ((a0_1.size:Int)-(a0_2.size:Int))) a0_0 a0_1 a0_2
theorem c5_exponent.calls (k:Nat) (a0_0:Bool) (a0_1:ByteArray) (a0_2:ByteArray) (r:Int) (w:World) (h:c5_exponent.f k a0_0 a0_1 a0_2=some r) :
  Calls Tryz.prog 171 #[.agg #[.bool a0_0,.string a0_1,.string a0_2]] w fun e w'=>e = .returned (.int .i64 r)∧Below w.heap.size w w':=by
 have hu28:=Tryz.underlying28
 have HB:=Aside0.mk (Below.refl w.heap.size w)
 have H:(c5_exponent.l0 k (wrap64 ((a0_1.size:Int)-(a0_2.size:Int))) a0_0 a0_1 a0_2)=some r:=h
 clear h
 have H':=Aside0.mk H
 clear H
 go_enter Tryz.func171,Tryz.ntmps171
 go_wp2_with (first|((with_reducible refine zau (N:=1) rfl ?_); refine zas ?hg (N:=1) ?hd (cs:=#[.bool a0_0,.string a0_1,.string a0_2]) (t:=28) ?hr ?_; (case hd=>rfl); (case hg=>rfl); (case hr=>first|(go_simp; done)|(go_simp; rfl)); intro gb342 hg w2 hbox hb; have n0_:=Aside0.mk (zak (by repeat (first|(with_reducible first|exact HB.out|apply zab|apply zaa|apply zac)|exact HB.out)) hb); have n1_:=Aside0.mk (hbox); have n2_:=Aside0.mk ((by rw [hg]; exact (zal (by repeat (first|(with_reducible first|exact HB.out|apply zab|apply zaa|apply zac)|exact HB.out))):w.heap.size≤gb342)); have n3_:=Aside0.mk ((by rw [hg]; exact (zal (by repeat (first|(with_reducible first|exact HB.out|apply zab|apply zaa|apply zac)|exact HB.out))):w.heap.size≤gb342)); clear HB; have HB:=n0_; have BK342:=n1_; have GW342:=n2_; have GE342:=n3_; clear n0_ n1_ n2_ n3_; clear hb hbox hg; have hcz3_0:w2.cell? ⟨gb342,0,none⟩=some (.bool a0_0):=(zad BK342.out 0).trans rfl; have hcz3_1:w2.cell? ⟨gb342,1,none⟩=some (.string a0_1):=(zad BK342.out 1).trans rfl; have hcz3_2:w2.cell? ⟨gb342,2,none⟩=some (.string a0_2):=(zad BK342.out 2).trans rfl; have hfz3_0:=zaj BK342.out 0; have hfz3_1:=zaj BK342.out 1; have hfz3_2:=zaj BK342.out 2))
 go_loopg [3] k (fun kq v3 w'=>∃ (x3_1:Int),v3 = .int .i64 x3_1∧Aside0 (c5_exponent.l0 kq x3_1 a0_0 a0_1 a0_2=some r)∧Aside0 (kq≤k)∧Aside0 (w'.heap[gb342]? = some (.cells #[.bool a0_0,.string a0_1,.string a0_2] 28 (0,0)))∧Aside0 (Below w.heap.size w w'))
 case atStart=>exact ⟨(wrap64 ((a0_1.size:Int)-(a0_2.size:Int))),(by first|rfl|(simp; done)|(simp [*]; done)),H',⟨Nat.le_refl _⟩,⟨by (with_reducible repeat (first|refine zaf ?_ _|refine zai ?_|refine zag ?_ _)); exact BK342.out⟩,⟨by repeat (first|(with_reducible first|exact HB.out|apply zab|apply zaa|apply zac|refine zae ?_ GE342.out)|exact HB.out)⟩⟩
 case round =>
  clear H'
  try clear c1
  try clear p2
  try clear hcz3_0
  try clear hcz3_1
  try clear hcz3_2
  try clear hfz3_0
  try clear hfz3_1
  try clear hfz3_2
  obtain ⟨x3_1,rfl,HA,HK1,BK342,HB⟩:=hrel
  cases gk with
  | zero=>exact absurd HA.out (by simp [c5_exponent.l0])
  | succ k1 =>
   have H:=HA.out
   clear HA
   simp only [c5_exponent.l0] at H
   replace H:=Option.bind_eq_some_iff.mp H
   obtain ⟨⟨t343,t344,t345⟩,A40,H⟩:=H
   replace H:((c1_FCmp.f a0_0 a0_1 a0_2 t343 t344 t345).bind fun t346=>(if t346≥0 then (some x3_1) else (c5_exponent.l0 k1 (wrap64 (x3_1-1)) a0_0 a0_1 a0_2)))=some r:=H
   have A4:=Aside0.mk A40
   clear A40
   replace H:=Option.bind_eq_some_iff.mp H
   obtain ⟨t346,A50,H⟩:=H
   replace H:(if t346≥0 then (some x3_1) else (c5_exponent.l0 k1 (wrap64 (x3_1-1)) a0_0 a0_1 a0_2))=some r:=H
   have A5:=Aside0.mk A50
   clear A50
   by_cases c6:t346≥0
   ·rw [if_pos c6] at H
    have c6b0:decide (0≤t346)=true:=decide_eq_true c6
    clear c6
    obtain rfl:=Option.some.inj H
    try go_wp2
    have n0_:=Aside0.mk (zai BK342.out)
    have n1_:=Aside0.mk (zac HB.out)
    clear BK342
    clear HB
    have BK342:=n0_
    have HB:=n1_
    clear n0_ n1_
    refine zbY (n:=5) (S:=fun w'=>w'.cell? ⟨gb342,0,none⟩=some (.bool a0_0)∧w'.cell? ⟨gb342,1,none⟩=some (.string a0_1)∧w'.cell? ⟨gb342,2,none⟩=some (.string a0_2)) (ds:=[]) #[false,false,false,false,false] (by kernel_rfl) rfl rfl ⟨(zad BK342.out 0).trans rfl,(zad BK342.out 1).trans rfl,(zad BK342.out 2).trans rfl⟩ (fun hHeld => ?_)
    generalize wr.drew=w7 at BK342 HB hHeld ⊢
    refine pure_ (i:=1) (N:=some 13) (v:=?_) (a':=?_) #[false,true,false,false,false] rfl rfl (by kernel_rfl) (fun _ _ _ h=>h) (Or.inl ⟨by rfl,?_⟩) ?_ ?_
    rotate_left
    ·intro w'
     go_simp
     with_reducible rfl
    rotate_left
    ·simp only [Act.put,List.setIfInBounds_toArray,List.set_cons_zero,List.set_cons_succ,i64_w,i32_w]
     rfl
    refine take_ (i:=0) (N:=some 12) (v:=?_) (a':=?_) #[true,true,false,false,false] rfl rfl (by kernel_rfl) (fun _ _ _ h=>h) (Or.inl ⟨by rfl,?_⟩) hHeld ?_ ?_
    rotate_left
    ·rintro w' ⟨s0,s1,s2⟩
     go_simp
     with_reducible rfl
    rotate_left
    ·simp only [Act.put,List.setIfInBounds_toArray,List.set_cons_zero,List.set_cons_succ,i64_w,i32_w]
     rfl
    refine one_ (i:=2) (N:=some 14) #[true,true,true,false,false] rfl rfl (by kernel_rfl) (by decide) (fun K hK => ?_)
    refine goes_ Tryz.func174 (by kernel_rfl) rfl #[.int .i64 x3_1] (by rfl) rfl rfl (by (try simp only [List.map_toArray,List.map_cons,List.map_nil]); first|done|rfl|(simp only [List.length_drop,List.length_take]; rfl)) ?_
    with_reducible refine (c5_ten.calls x3_1 t343 t344 t345 _ A4.out).mono ?_
    rintro e w8 ⟨rfl,hb⟩
    refine ⟨_,rfl,?_⟩
    have n0_:=Aside0.mk (zao (g:=gb342) (o:=.cells #[.bool a0_0,.string a0_1,.string a0_2] 28 (0,0)) (by (with_reducible repeat (first|refine zaf ?_ _|refine zai ?_|refine zag ?_ _)); exact BK342.out) hb)
    have n1_:=Aside0.mk (zak (by repeat (first|(with_reducible first|exact HB.out|apply zab|apply zaa|apply zac|refine zae ?_ GE342.out)|exact HB.out)) hb)
    clear BK342
    clear HB
    have BK342:=n0_
    have HB:=n1_
    clear n0_ n1_
    (try clear hb)
    (try clear hb2)
    (try clear hk)
    (try clear hi)
    refine hK.out _ _ ⟨(zad BK342.out 0).trans rfl,(zad BK342.out 1).trans rfl,(zad BK342.out 2).trans rfl⟩ (fun hHeld => ?_)
    clear hK K
    refine norm_ (a':=?_) ?_ ?_
    rotate_left
    ·show Act.put _ (some 14) _=_
     simp only [Act.put,List.setIfInBounds_toArray,List.set_cons_zero,List.set_cons_succ,i64_w,i32_w]
     rfl
    refine one_ (i:=3) (N:=some 15) #[true,true,true,true,false] rfl rfl (by kernel_rfl) (by decide) (fun K hK => ?_)
    refine goes_ Tryz.func85 (by kernel_rfl) rfl #[.agg #[.bool a0_0,.string a0_1,.string a0_2],.agg #[.bool t343,.string t344,.string t345]] (by rfl) rfl rfl (by (try simp only [List.map_toArray,List.map_cons,List.map_nil]); first|done|rfl|(simp only [List.length_drop,List.length_take]; rfl)) ?_
    with_reducible refine (c1_FCmp.calls a0_0 a0_1 a0_2 t343 t344 t345 t346 _ A5.out).mono ?_
    rintro e w9 ⟨rfl,hb⟩
    refine ⟨_,rfl,?_⟩
    have n0_:=Aside0.mk (zao (g:=gb342) (o:=.cells #[.bool a0_0,.string a0_1,.string a0_2] 28 (0,0)) (by (with_reducible repeat (first|refine zaf ?_ _|refine zai ?_|refine zag ?_ _)); exact BK342.out) hb)
    have n1_:=Aside0.mk (zak (by repeat (first|(with_reducible first|exact HB.out|apply zab|apply zaa|apply zac|refine zae ?_ GE342.out)|exact HB.out)) hb)
    clear BK342
    clear HB
    have BK342:=n0_
    have HB:=n1_
    clear n0_ n1_
    (try clear hb)
    (try clear hb2)
    (try clear hk)
    (try clear hi)
    refine hK.out _ _ ⟨(zad BK342.out 0).trans rfl,(zad BK342.out 1).trans rfl,(zad BK342.out 2).trans rfl⟩ (fun hHeld => ?_)
    clear hK K
    refine norm_ (a':=?_) ?_ ?_
    rotate_left
    ·show Act.put _ (some 15) _=_
     simp only [Act.put,List.setIfInBounds_toArray,List.set_cons_zero,List.set_cons_succ,i64_w,i32_w]
     rfl
    refine pure_ (i:=4) (N:=some 4) (v:=?_) (a':=?_) #[true,true,true,true,true] rfl rfl (by kernel_rfl) (fun _ _ _ h=>h) (Or.inl ⟨by rfl,?_⟩) ?_ ?_
    rotate_left
    ·intro w'
     go_simp
     with_reducible rfl
    rotate_left
    ·simp only [Act.put,List.setIfInBounds_toArray,List.set_cons_zero,List.set_cons_succ,i64_w,i32_w]
     rfl
    refine done_ (by kernel_rfl) ?_
    try go_wp2
    go_ret
    exact ⟨by first|rfl|(simp [zan,zam]<;>rfl)|(simp [*,zan,zam]<;>rfl),by repeat (first|(with_reducible first|exact HB.out|apply zab|apply zaa|apply zac|refine zae ?_ GE342.out)|exact HB.out)⟩
   ·rw [if_neg c6] at H
    have c6b0:decide (0≤t346)=false:=decide_eq_false c6
    clear c6
    have H':=Aside0.mk H
    clear H
    try go_wp2
    have n0_:=Aside0.mk (zai BK342.out)
    have n1_:=Aside0.mk (zac HB.out)
    clear BK342
    clear HB
    have BK342:=n0_
    have HB:=n1_
    clear n0_ n1_
    refine zbY (n:=5) (S:=fun w'=>w'.cell? ⟨gb342,0,none⟩=some (.bool a0_0)∧w'.cell? ⟨gb342,1,none⟩=some (.string a0_1)∧w'.cell? ⟨gb342,2,none⟩=some (.string a0_2)) (ds:=[]) #[false,false,false,false,false] (by kernel_rfl) rfl rfl ⟨(zad BK342.out 0).trans rfl,(zad BK342.out 1).trans rfl,(zad BK342.out 2).trans rfl⟩ (fun hHeld => ?_)
    generalize wr.drew=w10 at BK342 HB hHeld ⊢
    refine pure_ (i:=1) (N:=some 13) (v:=?_) (a':=?_) #[false,true,false,false,false] rfl rfl (by kernel_rfl) (fun _ _ _ h=>h) (Or.inl ⟨by rfl,?_⟩) ?_ ?_
    rotate_left
    ·intro w'
     go_simp
     with_reducible rfl
    rotate_left
    ·simp only [Act.put,List.setIfInBounds_toArray,List.set_cons_zero,List.set_cons_succ,i64_w,i32_w]
     rfl
    refine take_ (i:=0) (N:=some 12) (v:=?_) (a':=?_) #[true,true,false,false,false] rfl rfl (by kernel_rfl) (fun _ _ _ h=>h) (Or.inl ⟨by rfl,?_⟩) hHeld ?_ ?_
    rotate_left
    ·rintro w' ⟨s0,s1,s2⟩
     go_simp
     with_reducible rfl
    rotate_left
    ·simp only [Act.put,List.setIfInBounds_toArray,List.set_cons_zero,List.set_cons_succ,i64_w,i32_w]
     rfl
    refine one_ (i:=2) (N:=some 14) #[true,true,true,false,false] rfl rfl (by kernel_rfl) (by decide) (fun K hK => ?_)
    refine goes_ Tryz.func174 (by kernel_rfl) rfl #[.int .i64 x3_1] (by rfl) rfl rfl (by (try simp only [List.map_toArray,List.map_cons,List.map_nil]); first|done|rfl|(simp only [List.length_drop,List.length_take]; rfl)) ?_
    with_reducible refine (c5_ten.calls x3_1 t343 t344 t345 _ A4.out).mono ?_
    rintro e w11 ⟨rfl,hb⟩
    refine ⟨_,rfl,?_⟩
    have n0_:=Aside0.mk (zao (g:=gb342) (o:=.cells #[.bool a0_0,.string a0_1,.string a0_2] 28 (0,0)) (by (with_reducible repeat (first|refine zaf ?_ _|refine zai ?_|refine zag ?_ _)); exact BK342.out) hb)
    have n1_:=Aside0.mk (zak (by repeat (first|(with_reducible first|exact HB.out|apply zab|apply zaa|apply zac|refine zae ?_ GE342.out)|exact HB.out)) hb)
    clear BK342
    clear HB
    have BK342:=n0_
    have HB:=n1_
    clear n0_ n1_
    (try clear hb)
    (try clear hb2)
    (try clear hk)
    (try clear hi)
    refine hK.out _ _ ⟨(zad BK342.out 0).trans rfl,(zad BK342.out 1).trans rfl,(zad BK342.out 2).trans rfl⟩ (fun hHeld => ?_)
    clear hK K
    refine norm_ (a':=?_) ?_ ?_
    rotate_left
    ·show Act.put _ (some 14) _=_
     simp only [Act.put,List.setIfInBounds_toArray,List.set_cons_zero,List.set_cons_succ,i64_w,i32_w]
     rfl
    refine one_ (i:=3) (N:=some 15) #[true,true,true,true,false] rfl rfl (by kernel_rfl) (by decide) (fun K hK => ?_)
    refine goes_ Tryz.func85 (by kernel_rfl) rfl #[.agg #[.bool a0_0,.string a0_1,.string a0_2],.agg #[.bool t343,.string t344,.string t345]] (by rfl) rfl rfl (by (try simp only [List.map_toArray,List.map_cons,List.map_nil]); first|done|rfl|(simp only [List.length_drop,List.length_take]; rfl)) ?_
    with_reducible refine (c1_FCmp.calls a0_0 a0_1 a0_2 t343 t344 t345 t346 _ A5.out).mono ?_
    rintro e w12 ⟨rfl,hb⟩
    refine ⟨_,rfl,?_⟩
    have n0_:=Aside0.mk (zao (g:=gb342) (o:=.cells #[.bool a0_0,.string a0_1,.string a0_2] 28 (0,0)) (by (with_reducible repeat (first|refine zaf ?_ _|refine zai ?_|refine zag ?_ _)); exact BK342.out) hb)
    have n1_:=Aside0.mk (zak (by repeat (first|(with_reducible first|exact HB.out|apply zab|apply zaa|apply zac|refine zae ?_ GE342.out)|exact HB.out)) hb)
    clear BK342
    clear HB
    have BK342:=n0_
    have HB:=n1_
    clear n0_ n1_
    (try clear hb)
    (try clear hb2)
    (try clear hk)
    (try clear hi)
    refine hK.out _ _ ⟨(zad BK342.out 0).trans rfl,(zad BK342.out 1).trans rfl,(zad BK342.out 2).trans rfl⟩ (fun hHeld => ?_)
    clear hK K
    refine norm_ (a':=?_) ?_ ?_
    rotate_left
    ·show Act.put _ (some 15) _=_
     simp only [Act.put,List.setIfInBounds_toArray,List.set_cons_zero,List.set_cons_succ,i64_w,i32_w]
     rfl
    refine pure_ (i:=4) (N:=some 4) (v:=?_) (a':=?_) #[true,true,true,true,true] rfl rfl (by kernel_rfl) (fun _ _ _ h=>h) (Or.inl ⟨by rfl,?_⟩) ?_ ?_
    rotate_left
    ·intro w'
     go_simp
     with_reducible rfl
    rotate_left
    ·simp only [Act.put,List.setIfInBounds_toArray,List.set_cons_zero,List.set_cons_succ,i64_w,i32_w]
     rfl
    refine done_ (by kernel_rfl) ?_
    try go_wp2
    go_roundg k1
    case measure=>have:=HK1.out; omega
    case rel=>exact ⟨(wrap64 (x3_1-1)),(by first|rfl|(simp; done)|(simp [*]; done)),H',⟨by have:=HK1.out; omega⟩,⟨by (with_reducible repeat (first|refine zaf ?_ _|refine zai ?_|refine zag ?_ _)); exact BK342.out⟩,⟨by repeat (first|(with_reducible first|exact HB.out|apply zab|apply zaa|apply zac|refine zae ?_ GE342.out)|exact HB.out)⟩⟩
end Go.Proofs.ZQ
end
section
namespace Go.Proofs.ZQ
open Go.RowKit Go.Proofs.ZW.Wa Go.Proofs.ZP
theorem ten_f (n:Int) (h0 : -100000≤n) (h1:n≤100000):c5_ten.f n=some (Fr (tenR n)):=by
 have e10:(⟨#[49,48]⟩:ByteArray)=T 10:=by
  have:=T_ten 1
  rw [Nat.pow_one] at this
  rw [←this]; rfl
 have hs10:(T 10).size=2:=by rw [←e10]; rfl
 unfold c5_ten.f c1_Power.f
 rw [e10,zcT (by rw [hs10]; decide),Option.bind_some,Option.bind_some]
 by_cases hn:n<0
 ·have hw:wrap64 (-n) = -n:=by unfold wrap64; omega
  rw [if_pos hn,hw,if_pos ⟨by omega,by omega,by rw [hs10]; omega⟩,Option.bind_some]
  obtain ⟨q,hq⟩:∃ q:Nat,n = -(q:Int):=⟨(-n).toNat,by omega⟩
  subst hq
  rw [tenR_neg q (by omega),T_1,show (- -(q:Int)).toNat=q by omega]
  have hf:=fr_of false 1 (10^q) (Nat.pow_pos (by decide))
  have e1:sgn false 1=1:=rfl
  rw [e1] at hf
  rw [hf,Nat.gcd_one_left,Nat.div_one,Nat.div_one]; rfl
 ·rw [if_neg hn,if_pos ⟨by omega,by omega,by rw [hs10]; omega⟩,Option.bind_some]
  obtain ⟨q,hq⟩:∃ q:Nat,n=(q:Int):=⟨n.toNat,by omega⟩
  subst hq
  have hf:=fr_of false (10^q) 1 (by decide)
  have e1:sgn false (10^q)=((10^q:Nat):Int):=rfl
  rw [e1] at hf
  rw [tenR_pos,Int.toNat_natCast,T_1]
  have e2:((1:Nat):Int)=1:=rfl
  rw [e2] at hf
  rw [hf,Nat.gcd_one_right,Nat.div_one,Nat.div_one]; rfl
end Go.Proofs.ZQ
end
section
namespace Go.Proofs.ZQ
open Go.RowKit Go.Proofs.ZW.Wa Go.Proofs.ZW.Wb Go.Proofs.ZW.Wc
attribute [local go_sem] zaE zaD zaL zaK zaC zaB zaH zaG
noncomputable def c1_Whole.f (a0:Int):Option (Bool×ByteArray×ByteArray):=if a0<0 then ((c1_Of.f (IntKind.u64.wrap (wrap64 (-(wrap64 (a0+1)))))).bind fun t233=>((c1_Plus.f t233 (⟨#[49]⟩:ByteArray)).bind fun t234=>(some (true,t234,(⟨#[49]⟩:ByteArray))))) else ((c1_Of.f (IntKind.u64.wrap (a0))).bind fun t235=>(some (false,t235,(⟨#[49]⟩:ByteArray))))
theorem c1_Whole.calls (a0:Int) (r1:Bool) (r2:ByteArray) (r3:ByteArray) (w:World) (h:c1_Whole.f a0=some (r1,r2,r3)) :
  Calls Tryz.prog 86 #[.int .i64 a0] w fun e w'=>e = .returned (.agg #[.bool r1,.string r2,.string r3])∧Below w.heap.size w w':=by
 have hu28:=Tryz.underlying28
 have HB:=Aside0.mk (Below.refl w.heap.size w)
 have H:(if a0<0 then ((c1_Of.f (IntKind.u64.wrap (wrap64 (-(wrap64 (a0+1)))))).bind fun t233=>((c1_Plus.f t233 (⟨#[49]⟩:ByteArray)).bind fun t234=>(some (true,t234,(⟨#[49]⟩:ByteArray))))) else ((c1_Of.f (IntKind.u64.wrap (a0))).bind fun t235=>(some (false,t235,(⟨#[49]⟩:ByteArray)))))=some (r1,r2,r3):=h
 clear h
 by_cases c2:a0<0
 ·rw [if_pos c2] at H
  have c2b0:decide (a0<0)=true:=decide_eq_true c2
  clear c2
  replace H:=Option.bind_eq_some_iff.mp H
  obtain ⟨t233,A30,H⟩:=H
  replace H:((c1_Plus.f t233 (⟨#[49]⟩:ByteArray)).bind fun t234=>(some (true,t234,(⟨#[49]⟩:ByteArray))))=some (r1,r2,r3):=H
  have A3:=Aside0.mk A30
  clear A30
  replace H:=Option.bind_eq_some_iff.mp H
  obtain ⟨t234,A40,H⟩:=H
  replace H:(some (true,t234,(⟨#[49]⟩:ByteArray)))=some (r1,r2,r3):=H
  have A4:=Aside0.mk A40
  clear A40
  simp only [Option.some.injEq,Prod.mk.injEq] at H
  obtain ⟨rfl,rfl,rfl⟩:=H
  go_enter Tryz.func86,Tryz.ntmps86
  go_wp2_with (first|((with_reducible refine zau (N:=2) rfl ?_); refine zas ?hg (N:=2) ?hd (cs:=#[.bool false,.string (⟨#[]⟩:ByteArray),.string (⟨#[]⟩:ByteArray)]) (t:=28) ?hr ?_; (case hd=>rfl); (case hg=>rfl); (case hr=>first|(go_simp; done)|(go_simp; rfl)); intro gb232 hg w5 hbox hb; have n0_:=Aside0.mk (zak (by repeat (first|(with_reducible first|exact HB.out|apply zab|apply zaa|apply zac)|exact HB.out)) hb); have n1_:=Aside0.mk (hbox); have n2_:=Aside0.mk ((by rw [hg]; exact (zal (by repeat (first|(with_reducible first|exact HB.out|apply zab|apply zaa|apply zac)|exact HB.out))):w.heap.size≤gb232)); have n3_:=Aside0.mk ((by rw [hg]; exact (zal (by repeat (first|(with_reducible first|exact HB.out|apply zab|apply zaa|apply zac)|exact HB.out))):w.heap.size≤gb232)); clear HB; have HB:=n0_; have BK232:=n1_; have GW232:=n2_; have GE232:=n3_; clear n0_ n1_ n2_ n3_; clear hb hbox hg)|((with_reducible refine zap (f:=148) rfl ?_); refine zaA (some 10) rfl rfl Tryz.func148 (by kernel_rfl) rfl #[.int .u64 (IntKind.u64.wrap (wrap64 (-(wrap64 (a0+1)))))] rfl (by (try simp only [List.map_toArray,List.map_cons,List.map_nil]); first|done|rfl|(simp only [List.length_drop,List.length_take]; rfl)) ?_; (with_reducible refine (c1_Of.calls (IntKind.u64.wrap (wrap64 (-(wrap64 (a0+1))))) t233 _ A3.out).mono ?_); rintro e w6 ⟨rfl,hb⟩; refine ⟨_,rfl,?_⟩; have n0_:=Aside0.mk (zao (g:=gb232) (o:=.cells #[.bool false,.string (⟨#[]⟩:ByteArray),.string (⟨#[]⟩:ByteArray)] 28 (0,0)) (by (with_reducible repeat (first|refine zaf ?_ _|refine zai ?_|refine zag ?_ _)); exact BK232.out) hb); have n1_:=Aside0.mk (zak (by repeat (first|(with_reducible first|exact HB.out|apply zab|apply zaa|apply zac|refine zae ?_ GE232.out)|exact HB.out)) hb); clear BK232; clear HB; have BK232:=n0_; have HB:=n1_; clear n0_ n1_; (try clear hb); (try clear hb2); (try clear hk); (try clear hi))|((with_reducible refine zap (f:=129) rfl ?_); refine zaA (some 12) rfl rfl Tryz.func129 (by kernel_rfl) rfl #[.string t233,.string (⟨#[49]⟩:ByteArray)] rfl (by (try simp only [List.map_toArray,List.map_cons,List.map_nil]); first|done|rfl|(simp only [List.length_drop,List.length_take]; rfl)) ?_; (with_reducible refine (c1_Plus.calls t233 (⟨#[49]⟩:ByteArray) t234 _ A4.out).mono ?_); rintro e w7 ⟨rfl,hb⟩; refine ⟨_,rfl,?_⟩; have n0_:=Aside0.mk (zao (g:=gb232) (o:=.cells #[.bool false,.string (⟨#[]⟩:ByteArray),.string (⟨#[]⟩:ByteArray)] 28 (0,0)) (by (with_reducible repeat (first|refine zaf ?_ _|refine zai ?_|refine zag ?_ _)); exact BK232.out) hb); have n1_:=Aside0.mk (zak (by repeat (first|(with_reducible first|exact HB.out|apply zab|apply zaa|apply zac|refine zae ?_ GE232.out)|exact HB.out)) hb); clear BK232; clear HB; have BK232:=n0_; have HB:=n1_; clear n0_ n1_; (try clear hb); (try clear hb2); (try clear hk); (try clear hi); have hcz8_0:w7.cell? ⟨gb232,0,none⟩=some (.bool false):=(zad BK232.out 0).trans rfl; have hcz8_1:w7.cell? ⟨gb232,1,none⟩=some (.string (⟨#[]⟩:ByteArray)):=(zad BK232.out 1).trans rfl; have hcz8_2:w7.cell? ⟨gb232,2,none⟩=some (.string (⟨#[]⟩:ByteArray)):=(zad BK232.out 2).trans rfl; have hfz8_0:=zaj BK232.out 0; have hfz8_1:=zaj BK232.out 1; have hfz8_2:=zaj BK232.out 2))
  refine bodyPost_ret (results_cell_row rfl _ _ gb232 28 #[.bool true,.string t234,.string (⟨#[49]⟩:ByteArray)] (0,0) _ rfl (by (with_reducible repeat (first|refine zaf ?_ _|refine zai ?_|refine zag ?_ _)); refine zaw (cs:=#[.bool true,.string t234,.string (⟨#[]⟩:ByteArray)]) ?_ 2 _ rfl; (with_reducible repeat (first|refine zaf ?_ _|refine zai ?_|refine zag ?_ _)); refine zaw (cs:=#[.bool true,.string (⟨#[]⟩:ByteArray),.string (⟨#[]⟩:ByteArray)]) ?_ 1 _ rfl; (with_reducible repeat (first|refine zaf ?_ _|refine zai ?_|refine zag ?_ _)); refine zaw (cs:=#[.bool false,.string (⟨#[]⟩:ByteArray),.string (⟨#[]⟩:ByteArray)]) ?_ 0 _ rfl; (with_reducible repeat (first|refine zaf ?_ _|refine zai ?_|refine zag ?_ _)); exact BK232.out) Tryz.underlying28 rfl (by kernel_rfl)) rfl ?_
  exact ⟨by first|rfl|(simp [zan,zam]<;>rfl)|(simp [*,zan,zam]<;>rfl),by repeat (first|(with_reducible first|exact HB.out|apply zab|apply zaa|apply zac|refine zae ?_ GE232.out)|exact HB.out)⟩
 ·rw [if_neg c2] at H
  have c2b0:decide (a0<0)=false:=decide_eq_false c2
  clear c2
  replace H:=Option.bind_eq_some_iff.mp H
  obtain ⟨t235,A90,H⟩:=H
  replace H:(some (false,t235,(⟨#[49]⟩:ByteArray)))=some (r1,r2,r3):=H
  have A9:=Aside0.mk A90
  clear A90
  simp only [Option.some.injEq,Prod.mk.injEq] at H
  obtain ⟨rfl,rfl,rfl⟩:=H
  go_enter Tryz.func86,Tryz.ntmps86
  go_wp2_with (first|((with_reducible refine zau (N:=2) rfl ?_); refine zas ?hg (N:=2) ?hd (cs:=#[.bool false,.string (⟨#[]⟩:ByteArray),.string (⟨#[]⟩:ByteArray)]) (t:=28) ?hr ?_; (case hd=>rfl); (case hg=>rfl); (case hr=>first|(go_simp; done)|(go_simp; rfl)); intro gb232 hg w10 hbox hb; have n0_:=Aside0.mk (zak (by repeat (first|(with_reducible first|exact HB.out|apply zab|apply zaa|apply zac)|exact HB.out)) hb); have n1_:=Aside0.mk (hbox); have n2_:=Aside0.mk ((by rw [hg]; exact (zal (by repeat (first|(with_reducible first|exact HB.out|apply zab|apply zaa|apply zac)|exact HB.out))):w.heap.size≤gb232)); have n3_:=Aside0.mk ((by rw [hg]; exact (zal (by repeat (first|(with_reducible first|exact HB.out|apply zab|apply zaa|apply zac)|exact HB.out))):w.heap.size≤gb232)); clear HB; have HB:=n0_; have BK232:=n1_; have GW232:=n2_; have GE232:=n3_; clear n0_ n1_ n2_ n3_; clear hb hbox hg)|((with_reducible refine zap (f:=148) rfl ?_); refine zaA (some 16) rfl rfl Tryz.func148 (by kernel_rfl) rfl #[.int .u64 (IntKind.u64.wrap (a0))] rfl (by (try simp only [List.map_toArray,List.map_cons,List.map_nil]); first|done|rfl|(simp only [List.length_drop,List.length_take]; rfl)) ?_; (with_reducible refine (c1_Of.calls (IntKind.u64.wrap (a0)) t235 _ A9.out).mono ?_); rintro e w11 ⟨rfl,hb⟩; refine ⟨_,rfl,?_⟩; have n0_:=Aside0.mk (zao (g:=gb232) (o:=.cells #[.bool false,.string (⟨#[]⟩:ByteArray),.string (⟨#[]⟩:ByteArray)] 28 (0,0)) (by (with_reducible repeat (first|refine zaf ?_ _|refine zai ?_|refine zag ?_ _)); exact BK232.out) hb); have n1_:=Aside0.mk (zak (by repeat (first|(with_reducible first|exact HB.out|apply zab|apply zaa|apply zac|refine zae ?_ GE232.out)|exact HB.out)) hb); clear BK232; clear HB; have BK232:=n0_; have HB:=n1_; clear n0_ n1_; (try clear hb); (try clear hb2); (try clear hk); (try clear hi); have hcz12_0:w11.cell? ⟨gb232,0,none⟩=some (.bool false):=(zad BK232.out 0).trans rfl; have hcz12_1:w11.cell? ⟨gb232,1,none⟩=some (.string (⟨#[]⟩:ByteArray)):=(zad BK232.out 1).trans rfl; have hcz12_2:w11.cell? ⟨gb232,2,none⟩=some (.string (⟨#[]⟩:ByteArray)):=(zad BK232.out 2).trans rfl; have hfz12_0:=zaj BK232.out 0; have hfz12_1:=zaj BK232.out 1; have hfz12_2:=zaj BK232.out 2))
  refine bodyPost_ret (results_cell_row rfl _ _ gb232 28 #[.bool false,.string t235,.string (⟨#[49]⟩:ByteArray)] (0,0) _ rfl (by (with_reducible repeat (first|refine zaf ?_ _|refine zai ?_|refine zag ?_ _)); refine zaw (cs:=#[.bool false,.string t235,.string (⟨#[]⟩:ByteArray)]) ?_ 2 _ rfl; (with_reducible repeat (first|refine zaf ?_ _|refine zai ?_|refine zag ?_ _)); refine zaw (cs:=#[.bool false,.string (⟨#[]⟩:ByteArray),.string (⟨#[]⟩:ByteArray)]) ?_ 1 _ rfl; (with_reducible repeat (first|refine zaf ?_ _|refine zai ?_|refine zag ?_ _)); refine zaw (cs:=#[.bool false,.string (⟨#[]⟩:ByteArray),.string (⟨#[]⟩:ByteArray)]) ?_ 0 _ rfl; (with_reducible repeat (first|refine zaf ?_ _|refine zai ?_|refine zag ?_ _)); exact BK232.out) Tryz.underlying28 rfl (by kernel_rfl)) rfl ?_
  exact ⟨by first|rfl|(simp [zan,zam]<;>rfl)|(simp [*,zan,zam]<;>rfl),by repeat (first|(with_reducible first|exact HB.out|apply zab|apply zaa|apply zac|refine zae ?_ GE232.out)|exact HB.out)⟩
end Go.Proofs.ZQ
end
