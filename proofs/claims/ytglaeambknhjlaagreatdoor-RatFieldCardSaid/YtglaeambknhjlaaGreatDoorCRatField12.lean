/- Texts under the proof, joined by a program (prune.py): QField, LawRatField. -/
import Derived.Test.YtglaeambknhjlaaGreatDoorCRatField09
import Derived.Test.YtglaeambknhjlaaGreatDoorCRatField11
import Derived.Deep.CutRange
set_option linter.unusedVariables false
set_option linter.unusedSimpArgs false
set_option exponentiation.threshold 20001
set_option maxHeartbeats 8000000
set_option maxRecDepth 100000
section
namespace Go.Proofs.ZQ
open Go.RowKit Go.Proofs.ZW.Wa Go.Proofs.ZP
theorem field_walk (a0 a1 b0 b1 c0 c1 x0 x1 p0 p1 u0 u1 l0 l1 r0 r1 t0 t1 v0 v1 y0 y1 z0 z1 n0 n1:ByteArray) (xe pe ue le re te ve ye ze:Int) (hx:xe=0∨xe=7) (hp:pe=0∨pe=7) (hl:le=0∨le=7) (hr:re=0∨re=7) (hy:ye=0∨ye=7)
  (HRa:Ans 36 #[.agg #[.string a0,.string a1]] (.bool true))
  (HRb:Ans 36 #[.agg #[.string b0,.string b1]] (.bool true))
  (HRc:Ans 36 #[.agg #[.string c0,.string c1]] (.bool true))
  (HAB:Ans 44 #[.agg #[.string a0,.string a1],.agg #[.string b0,.string b1]] (.tuple #[.agg #[.string x0,.string x1],.int .i64 xe]))
  (HBA2:Ans 44 #[.agg #[.string b0,.string b1],.agg #[.string a0,.string a1]] (.tuple #[.agg #[.string x0,.string x1],.int .i64 xe]))
  (HMAB:Ans 67 #[.agg #[.string a0,.string a1],.agg #[.string b0,.string b1]] (.tuple #[.agg #[.string p0,.string p1],.int .i64 pe]))
  (HMBA:Ans 67 #[.agg #[.string b0,.string b1],.agg #[.string a0,.string a1]] (.tuple #[.agg #[.string p0,.string p1],.int .i64 pe]))
  (HS:xe=0→Ans 68 #[.agg #[.string x0,.string x1],.agg #[.string b0,.string b1]] (.tuple #[.agg #[.string a0,.string a1],.int .i64 0]))
  (HU:Ans 67 #[.agg #[.string x0,.string x1],.agg #[.string c0,.string c1]] (.tuple #[.agg #[.string u0,.string u1],.int .i64 ue]))
  (HL:Ans 67 #[.agg #[.string a0,.string a1],.agg #[.string c0,.string c1]] (.tuple #[.agg #[.string l0,.string l1],.int .i64 le]))
  (HRR:Ans 67 #[.agg #[.string b0,.string b1],.agg #[.string c0,.string c1]] (.tuple #[.agg #[.string r0,.string r1],.int .i64 re]))
  (HT:Ans 44 #[.agg #[.string l0,.string l1],.agg #[.string r0,.string r1]] (.tuple #[.agg #[.string t0,.string t1],.int .i64 te]))
  (HB1:xe=0→le=0→re=0→Ans 69 #[.agg #[.string u0,.string u1],.int .i64 ue,.agg #[.string t0,.string t1],.int .i64 te] (.bool true))
  (HV:Ans 44 #[.agg #[.string x0,.string x1],.agg #[.string c0,.string c1]] (.tuple #[.agg #[.string v0,.string v1],.int .i64 ve]))
  (HY:Ans 44 #[.agg #[.string b0,.string b1],.agg #[.string c0,.string c1]] (.tuple #[.agg #[.string y0,.string y1],.int .i64 ye]))
  (HZ:Ans 44 #[.agg #[.string a0,.string a1],.agg #[.string y0,.string y1]] (.tuple #[.agg #[.string z0,.string z1],.int .i64 ze]))
  (HB2:xe=0→ye=0→Ans 69 #[.agg #[.string v0,.string v1],.int .i64 ve,.agg #[.string z0,.string z1],.int .i64 ze] (.bool true))
  (HQ:pe=0→b0.toList≠([48]:List UInt8)→Ans 70 #[.agg #[.string p0,.string p1],.agg #[.string b0,.string b1]] (.tuple #[.agg #[.string a0,.string a1],.int .i64 0]))
  (HN:Ans 71 #[.agg #[.string a0,.string a1]] (.tuple #[.agg #[.string n0,.string n1],.int .i64 0]))
  (HAN:Ans 44 #[.agg #[.string a0,.string a1],.agg #[.string n0,.string n1]] (.tuple #[.agg #[.string ⟨#[48]⟩,.string ⟨#[49]⟩],.int .i64 0]))
  (HW:Ans 32 #[] (.bool true)) :
  Ans 15 #[.agg #[.string a0,.string a1],.agg #[.string b0,.string b1],.agg #[.string c0,.string c1]] (.bool true):=by
 intro w
 have HRa:=Lib.hid HRa
 have HRb:=Lib.hid HRb
 have HRc:=Lib.hid HRc
 have HAB:=Lib.hid HAB
 have HBA2:=Lib.hid HBA2
 have HMAB:=Lib.hid HMAB
 have HMBA:=Lib.hid HMBA
 have HS:=Lib.hid HS
 have HU:=Lib.hid HU
 have HL:=Lib.hid HL
 have HRR:=Lib.hid HRR
 have HT:=Lib.hid HT
 have HB1:=Lib.hid HB1
 have HV:=Lib.hid HV
 have HY:=Lib.hid HY
 have HZ:=Lib.hid HZ
 have HB2:=Lib.hid HB2
 have HQ:=Lib.hid HQ
 have HN:=Lib.hid HN
 have HAN:=Lib.hid HAN
 have HW:=Lib.hid HW
 have hzb:(b0.toList == ([48]:List UInt8))=true∨(b0.toList == ([48]:List UInt8))=false:=by cases (b0.toList == ([48]:List UInt8))<;>simp
 have HZB:=Lib.hid hzb
 have HXO:=Lib.hid hx
 have HPO:=Lib.hid hp
 have HLO:=Lib.hid hl
 have HRO:=Lib.hid hr
 have HYO:=Lib.hid hy
 clear hzb hx hp hl hr hy
 go_enter Tryz.func15,Tryz.ntmps15
 obtain ⟨fa,fb,fc,hba⟩:=rb_three w a0 a1 b0 b1 c0 c1
 go_wp2_with fail
 generalize (((w.alloc (.cells #[.string a0,.string a1] 23)).alloc (.cells #[.string b0,.string b1] 23)).alloc (.cells #[.string c0,.string c1] 23))=W0 at *
 generalize hBx:w.heap.size+1=PB at *
 generalize hBy:PB+1=PC at *
 have HFa:=Lib.hid fa
 have HFb:=Lib.hid fb
 have HFc:=Lib.hid fc
 have HBA:=Lib.hid hba
 clear fa fb fc hba hBx hBy
 refine (HRa.out _).mono ?_
 rintro e w1 ⟨rfl,hb⟩
 replace HFa:=Lib.hid (HFa.out.below hb)
 replace HFb:=Lib.hid (HFb.out.below hb)
 replace HFc:=Lib.hid (HFc.out.below hb)
 replace HBA:=Lib.hid (bthen HBA.out hb)
 clear hb
 have cb0:=HFb.out.c0
 have cb1:=HFb.out.c1
 go_wp2_with fail
 clear cb0 cb1
 refine (HRb.out _).mono ?_
 rintro e w2 ⟨rfl,hb⟩
 replace HFa:=Lib.hid (HFa.out.below hb)
 replace HFb:=Lib.hid (HFb.out.below hb)
 replace HFc:=Lib.hid (HFc.out.below hb)
 replace HBA:=Lib.hid (bthen HBA.out hb)
 clear hb
 have cc0:=HFc.out.c0
 have cc1:=HFc.out.c1
 go_wp2_with fail
 clear cc0 cc1
 refine (HRc.out _).mono ?_
 rintro e w3 ⟨rfl,hb⟩
 replace HFa:=Lib.hid (HFa.out.below hb)
 replace HFb:=Lib.hid (HFb.out.below hb)
 replace HFc:=Lib.hid (HFc.out.below hb)
 replace HBA:=Lib.hid (bthen HBA.out hb)
 clear hb
 have ca0:=HFa.out.c0
 have ca1:=HFa.out.c1
 have cb0:=HFb.out.c0
 have cb1:=HFb.out.c1
 go_wp2_with fail
 clear ca0 ca1 cb0 cb1
 refine (HAB.out _).mono ?_
 rintro e w4 ⟨rfl,hb⟩
 replace HFa:=Lib.hid ((HFa.out.below hb).alloc (.cells #[.string x0,.string x1] 23))
 replace HFb:=Lib.hid ((HFb.out.below hb).alloc (.cells #[.string x0,.string x1] 23))
 replace HFc:=Lib.hid ((HFc.out.below hb).alloc (.cells #[.string x0,.string x1] 23))
 have HFx:=Lib.hid (RbAt.new w4 x0 x1)
 replace HBA:=Lib.hid (bthen (bthen HBA.out hb) (zaa (Below.refl _ _) (.cells #[.string x0,.string x1] 23)))
 clear hb
 have ca0:=HFa.out.c0
 have ca1:=HFa.out.c1
 have cb0:=HFb.out.c0
 have cb1:=HFb.out.c1
 go_wp2_with fail
 clear ca0 ca1 cb0 cb1
 generalize w4.alloc (.cells #[.string x0,.string x1] 23)=W4 at *
 generalize w4.heap.size=Px at *
 refine (HBA2.out _).mono ?_
 rintro e w5 ⟨rfl,hb⟩
 replace HFa:=Lib.hid ((HFa.out.below hb).alloc (.cells #[.string x0,.string x1] 23))
 replace HFb:=Lib.hid ((HFb.out.below hb).alloc (.cells #[.string x0,.string x1] 23))
 replace HFc:=Lib.hid ((HFc.out.below hb).alloc (.cells #[.string x0,.string x1] 23))
 replace HFx:=Lib.hid ((HFx.out.below hb).alloc (.cells #[.string x0,.string x1] 23))
 have HFX:=Lib.hid (RbAt.new w5 x0 x1)
 replace HBA:=Lib.hid (bthen (bthen HBA.out hb) (zaa (Below.refl _ _) (.cells #[.string x0,.string x1] 23)))
 clear hb
 have ca0:=HFa.out.c0
 have ca1:=HFa.out.c1
 have cb0:=HFb.out.c0
 have cb1:=HFb.out.c1
 go_wp2_with fail
 clear ca0 ca1 cb0 cb1
 generalize w5.alloc (.cells #[.string x0,.string x1] 23)=W5 at *
 generalize w5.heap.size=PX at *
 refine (HMAB.out _).mono ?_
 rintro e w6 ⟨rfl,hb⟩
 replace HFa:=Lib.hid ((HFa.out.below hb).alloc (.cells #[.string p0,.string p1] 23))
 replace HFb:=Lib.hid ((HFb.out.below hb).alloc (.cells #[.string p0,.string p1] 23))
 replace HFc:=Lib.hid ((HFc.out.below hb).alloc (.cells #[.string p0,.string p1] 23))
 replace HFx:=Lib.hid ((HFx.out.below hb).alloc (.cells #[.string p0,.string p1] 23))
 replace HFX:=Lib.hid ((HFX.out.below hb).alloc (.cells #[.string p0,.string p1] 23))
 have HFp:=Lib.hid (RbAt.new w6 p0 p1)
 replace HBA:=Lib.hid (bthen (bthen HBA.out hb) (zaa (Below.refl _ _) (.cells #[.string p0,.string p1] 23)))
 clear hb
 have ca0:=HFa.out.c0
 have ca1:=HFa.out.c1
 have cb0:=HFb.out.c0
 have cb1:=HFb.out.c1
 go_wp2_with fail
 clear ca0 ca1 cb0 cb1
 generalize w6.alloc (.cells #[.string p0,.string p1] 23)=W6 at *
 generalize w6.heap.size=Pp at *
 refine (HMBA.out _).mono ?_
 rintro e w7 ⟨rfl,hb⟩
 replace HFa:=Lib.hid ((HFa.out.below hb).alloc (.cells #[.string p0,.string p1] 23))
 replace HFb:=Lib.hid ((HFb.out.below hb).alloc (.cells #[.string p0,.string p1] 23))
 replace HFc:=Lib.hid ((HFc.out.below hb).alloc (.cells #[.string p0,.string p1] 23))
 replace HFx:=Lib.hid ((HFx.out.below hb).alloc (.cells #[.string p0,.string p1] 23))
 replace HFX:=Lib.hid ((HFX.out.below hb).alloc (.cells #[.string p0,.string p1] 23))
 replace HFp:=Lib.hid ((HFp.out.below hb).alloc (.cells #[.string p0,.string p1] 23))
 have HFQ:=Lib.hid (RbAt.new w7 p0 p1)
 replace HBA:=Lib.hid (bthen (bthen HBA.out hb) (zaa (Below.refl _ _) (.cells #[.string p0,.string p1] 23)))
 clear hb
 have cx0:=HFx.out.c0
 have cx1:=HFx.out.c1
 have cX0:=HFX.out.c0
 have cX1:=HFX.out.c1
 have cp0:=HFp.out.c0
 have cp1:=HFp.out.c1
 have cQ0:=HFQ.out.c0
 have cQ1:=HFQ.out.c1
 go_upto_if 89 with fail
 clear cx0 cx1 cX0 cX1 cp0 cp1 cQ0 cQ1
 generalize w7.alloc (.cells #[.string p0,.string p1] 23)=W7 at *
 generalize w7.heap.size=PQ at *
 clear HFX HFQ HAB HBA2 HMAB HMBA HRa HRb HRc
 go_cut [] from 32 (fun wx=>RbAt wx w.heap.size a0 a1∧RbAt wx PB b0 b1∧RbAt wx PC c0 c1∧RbAt wx Pp p0 p1∧Below w.heap.size w wx)
 case first =>
  rcases HXO.out with rfl|rfl
  ·skip
   have cx0:=HFx.out.c0
   have cx1:=HFx.out.c1
   have cb0:=HFb.out.c0
   have cb1:=HFb.out.c1
   go_wp2_with fail
   clear cx0 cx1 cb0 cb1
   refine (HS.out (by first|rfl|trivial) _).mono ?_
   rintro e w8 ⟨rfl,hb⟩
   replace HFa:=Lib.hid ((HFa.out.below hb).alloc (.cells #[.string a0,.string a1] 23))
   replace HFb:=Lib.hid ((HFb.out.below hb).alloc (.cells #[.string a0,.string a1] 23))
   replace HFc:=Lib.hid ((HFc.out.below hb).alloc (.cells #[.string a0,.string a1] 23))
   replace HFp:=Lib.hid ((HFp.out.below hb).alloc (.cells #[.string a0,.string a1] 23))
   replace HFx:=Lib.hid ((HFx.out.below hb).alloc (.cells #[.string a0,.string a1] 23))
   have HFs:=Lib.hid (RbAt.new w8 a0 a1)
   replace HBA:=Lib.hid (bthen (bthen HBA.out hb) (zaa (Below.refl _ _) (.cells #[.string a0,.string a1] 23)))
   clear hb
   have cs0:=HFs.out.c0
   have cs1:=HFs.out.c1
   have ca0:=HFa.out.c0
   have ca1:=HFa.out.c1
   have cx0:=HFx.out.c0
   have cx1:=HFx.out.c1
   have cc0:=HFc.out.c0
   have cc1:=HFc.out.c1
   go_wp2_with fail
   clear cs0 cs1 ca0 ca1 cx0 cx1 cc0 cc1
   generalize w8.alloc (.cells #[.string a0,.string a1] 23)=W8 at *
   generalize w8.heap.size=Ps at *
   refine (HU.out _).mono ?_
   rintro e w9 ⟨rfl,hb⟩
   replace HFa:=Lib.hid ((HFa.out.below hb).alloc (.cells #[.string u0,.string u1] 23))
   replace HFb:=Lib.hid ((HFb.out.below hb).alloc (.cells #[.string u0,.string u1] 23))
   replace HFc:=Lib.hid ((HFc.out.below hb).alloc (.cells #[.string u0,.string u1] 23))
   replace HFp:=Lib.hid ((HFp.out.below hb).alloc (.cells #[.string u0,.string u1] 23))
   replace HFx:=Lib.hid ((HFx.out.below hb).alloc (.cells #[.string u0,.string u1] 23))
   have HFu:=Lib.hid (RbAt.new w9 u0 u1)
   replace HBA:=Lib.hid (bthen (bthen HBA.out hb) (zaa (Below.refl _ _) (.cells #[.string u0,.string u1] 23)))
   clear hb
   have ca0:=HFa.out.c0
   have ca1:=HFa.out.c1
   have cc0:=HFc.out.c0
   have cc1:=HFc.out.c1
   go_wp2_with fail
   clear ca0 ca1 cc0 cc1
   generalize w9.alloc (.cells #[.string u0,.string u1] 23)=W9 at *
   generalize w9.heap.size=Pu at *
   refine (HL.out _).mono ?_
   rintro e w10 ⟨rfl,hb⟩
   replace HFa:=Lib.hid ((HFa.out.below hb).alloc (.cells #[.string l0,.string l1] 23))
   replace HFb:=Lib.hid ((HFb.out.below hb).alloc (.cells #[.string l0,.string l1] 23))
   replace HFc:=Lib.hid ((HFc.out.below hb).alloc (.cells #[.string l0,.string l1] 23))
   replace HFp:=Lib.hid ((HFp.out.below hb).alloc (.cells #[.string l0,.string l1] 23))
   replace HFx:=Lib.hid ((HFx.out.below hb).alloc (.cells #[.string l0,.string l1] 23))
   replace HFu:=Lib.hid ((HFu.out.below hb).alloc (.cells #[.string l0,.string l1] 23))
   have HFl:=Lib.hid (RbAt.new w10 l0 l1)
   replace HBA:=Lib.hid (bthen (bthen HBA.out hb) (zaa (Below.refl _ _) (.cells #[.string l0,.string l1] 23)))
   clear hb
   have cb0:=HFb.out.c0
   have cb1:=HFb.out.c1
   have cc0:=HFc.out.c0
   have cc1:=HFc.out.c1
   go_wp2_with fail
   clear cb0 cb1 cc0 cc1
   generalize w10.alloc (.cells #[.string l0,.string l1] 23)=W10 at *
   generalize w10.heap.size=Pl at *
   refine (HRR.out _).mono ?_
   rintro e w11 ⟨rfl,hb⟩
   replace HFa:=Lib.hid ((HFa.out.below hb).alloc (.cells #[.string r0,.string r1] 23))
   replace HFb:=Lib.hid ((HFb.out.below hb).alloc (.cells #[.string r0,.string r1] 23))
   replace HFc:=Lib.hid ((HFc.out.below hb).alloc (.cells #[.string r0,.string r1] 23))
   replace HFp:=Lib.hid ((HFp.out.below hb).alloc (.cells #[.string r0,.string r1] 23))
   replace HFx:=Lib.hid ((HFx.out.below hb).alloc (.cells #[.string r0,.string r1] 23))
   replace HFu:=Lib.hid ((HFu.out.below hb).alloc (.cells #[.string r0,.string r1] 23))
   replace HFl:=Lib.hid ((HFl.out.below hb).alloc (.cells #[.string r0,.string r1] 23))
   have HFr:=Lib.hid (RbAt.new w11 r0 r1)
   replace HBA:=Lib.hid (bthen (bthen HBA.out hb) (zaa (Below.refl _ _) (.cells #[.string r0,.string r1] 23)))
   clear hb
   have cl0:=HFl.out.c0
   have cl1:=HFl.out.c1
   have cr0:=HFr.out.c0
   have cr1:=HFr.out.c1
   go_wp2_with fail
   clear cl0 cl1 cr0 cr1
   generalize w11.alloc (.cells #[.string r0,.string r1] 23)=W11 at *
   generalize w11.heap.size=Pr at *
   refine (HT.out _).mono ?_
   rintro e w12 ⟨rfl,hb⟩
   replace HFa:=Lib.hid ((HFa.out.below hb).alloc (.cells #[.string t0,.string t1] 23))
   replace HFb:=Lib.hid ((HFb.out.below hb).alloc (.cells #[.string t0,.string t1] 23))
   replace HFc:=Lib.hid ((HFc.out.below hb).alloc (.cells #[.string t0,.string t1] 23))
   replace HFp:=Lib.hid ((HFp.out.below hb).alloc (.cells #[.string t0,.string t1] 23))
   replace HFx:=Lib.hid ((HFx.out.below hb).alloc (.cells #[.string t0,.string t1] 23))
   replace HFu:=Lib.hid ((HFu.out.below hb).alloc (.cells #[.string t0,.string t1] 23))
   have HFt:=Lib.hid (RbAt.new w12 t0 t1)
   replace HBA:=Lib.hid (bthen (bthen HBA.out hb) (zaa (Below.refl _ _) (.cells #[.string t0,.string t1] 23)))
   clear hb HFl HFr HFs
   rcases HLO.out with rfl|rfl<;>rcases HRO.out with rfl|rfl
   all_goals
    have cu0:=HFu.out.c0
    have cu1:=HFu.out.c1
    have ct0:=HFt.out.c0
    have ct1:=HFt.out.c1
    have cx0:=HFx.out.c0
    have cx1:=HFx.out.c1
    have cc0:=HFc.out.c0
    have cc1:=HFc.out.c1
    go_wp2_with fail
    clear cu0 cu1 ct0 ct1 cx0 cx1 cc0 cc1
    generalize w12.alloc (.cells #[.string t0,.string t1] 23)=W12 at *
    generalize w12.heap.size=Pt at *
   ·refine (HB1.out (by first|rfl|trivial) (by first|rfl|trivial) (by first|rfl|trivial) _).mono ?_
    rintro e w13 ⟨rfl,hb⟩
    replace HFa:=Lib.hid (HFa.out.below hb)
    replace HFb:=Lib.hid (HFb.out.below hb)
    replace HFc:=Lib.hid (HFc.out.below hb)
    replace HFp:=Lib.hid (HFp.out.below hb)
    replace HFx:=Lib.hid (HFx.out.below hb)
    replace HBA:=Lib.hid (bthen HBA.out hb)
    clear hb
    have cx0:=HFx.out.c0
    have cx1:=HFx.out.c1
    have cc0:=HFc.out.c0
    have cc1:=HFc.out.c1
    go_wp2_with fail
    clear cx0 cx1 cc0 cc1
    refine (HV.out _).mono ?_
    rintro e w14 ⟨rfl,hb⟩
    replace HFa:=Lib.hid ((HFa.out.below hb).alloc (.cells #[.string v0,.string v1] 23))
    replace HFb:=Lib.hid ((HFb.out.below hb).alloc (.cells #[.string v0,.string v1] 23))
    replace HFc:=Lib.hid ((HFc.out.below hb).alloc (.cells #[.string v0,.string v1] 23))
    replace HFp:=Lib.hid ((HFp.out.below hb).alloc (.cells #[.string v0,.string v1] 23))
    replace HFx:=Lib.hid ((HFx.out.below hb).alloc (.cells #[.string v0,.string v1] 23))
    have HFv:=Lib.hid (RbAt.new w14 v0 v1)
    replace HBA:=Lib.hid (bthen (bthen HBA.out hb) (zaa (Below.refl _ _) (.cells #[.string v0,.string v1] 23)))
    clear hb
    have cb0:=HFb.out.c0
    have cb1:=HFb.out.c1
    have cc0:=HFc.out.c0
    have cc1:=HFc.out.c1
    go_wp2_with fail
    clear cb0 cb1 cc0 cc1
    generalize w14.alloc (.cells #[.string v0,.string v1] 23)=W14 at *
    generalize w14.heap.size=Pv at *
    refine (HY.out _).mono ?_
    rintro e w15 ⟨rfl,hb⟩
    replace HFa:=Lib.hid ((HFa.out.below hb).alloc (.cells #[.string y0,.string y1] 23))
    replace HFb:=Lib.hid ((HFb.out.below hb).alloc (.cells #[.string y0,.string y1] 23))
    replace HFc:=Lib.hid ((HFc.out.below hb).alloc (.cells #[.string y0,.string y1] 23))
    replace HFp:=Lib.hid ((HFp.out.below hb).alloc (.cells #[.string y0,.string y1] 23))
    replace HFv:=Lib.hid ((HFv.out.below hb).alloc (.cells #[.string y0,.string y1] 23))
    have HFyy:=Lib.hid (RbAt.new w15 y0 y1)
    replace HBA:=Lib.hid (bthen (bthen HBA.out hb) (zaa (Below.refl _ _) (.cells #[.string y0,.string y1] 23)))
    clear hb
    have ca0:=HFa.out.c0
    have ca1:=HFa.out.c1
    have cyy0:=HFyy.out.c0
    have cyy1:=HFyy.out.c1
    go_wp2_with fail
    clear ca0 ca1 cyy0 cyy1
    generalize w15.alloc (.cells #[.string y0,.string y1] 23)=W15 at *
    generalize w15.heap.size=Pyy at *
    refine (HZ.out _).mono ?_
    rintro e w16 ⟨rfl,hb⟩
    replace HFa:=Lib.hid ((HFa.out.below hb).alloc (.cells #[.string z0,.string z1] 23))
    replace HFb:=Lib.hid ((HFb.out.below hb).alloc (.cells #[.string z0,.string z1] 23))
    replace HFc:=Lib.hid ((HFc.out.below hb).alloc (.cells #[.string z0,.string z1] 23))
    replace HFp:=Lib.hid ((HFp.out.below hb).alloc (.cells #[.string z0,.string z1] 23))
    replace HFv:=Lib.hid ((HFv.out.below hb).alloc (.cells #[.string z0,.string z1] 23))
    have HFz:=Lib.hid (RbAt.new w16 z0 z1)
    replace HBA:=Lib.hid (bthen (bthen HBA.out hb) (zaa (Below.refl _ _) (.cells #[.string z0,.string z1] 23)))
    clear hb
    rcases HYO.out with rfl|rfl
    all_goals
     have cv0:=HFv.out.c0
     have cv1:=HFv.out.c1
     have cz0:=HFz.out.c0
     have cz1:=HFz.out.c1
     go_wp2_with fail
     clear cv0 cv1 cz0 cz1
     generalize w16.alloc (.cells #[.string z0,.string z1] 23)=W16 at *
    ·refine (HB2.out (by first|rfl|trivial) (by first|rfl|trivial) _).mono ?_
     rintro e w17 ⟨rfl,hb⟩
     replace HFa:=Lib.hid (HFa.out.below hb)
     replace HFb:=Lib.hid (HFb.out.below hb)
     replace HFc:=Lib.hid (HFc.out.below hb)
     replace HFp:=Lib.hid (HFp.out.below hb)
     replace HBA:=Lib.hid (bthen HBA.out hb)
     clear hb
     go_wp2_with fail
     go_meet
     exact ⟨HFa.out,HFb.out,HFc.out,HFp.out,HBA.out⟩
    ·go_meet
     exact ⟨HFa.out,HFb.out,HFc.out,HFp.out,HBA.out⟩
   all_goals
    refine (HV.out _).mono ?_
    rintro e w18 ⟨rfl,hb⟩
    replace HFa:=Lib.hid ((HFa.out.below hb).alloc (.cells #[.string v0,.string v1] 23))
    replace HFb:=Lib.hid ((HFb.out.below hb).alloc (.cells #[.string v0,.string v1] 23))
    replace HFc:=Lib.hid ((HFc.out.below hb).alloc (.cells #[.string v0,.string v1] 23))
    replace HFp:=Lib.hid ((HFp.out.below hb).alloc (.cells #[.string v0,.string v1] 23))
    replace HFx:=Lib.hid ((HFx.out.below hb).alloc (.cells #[.string v0,.string v1] 23))
    have HFv:=Lib.hid (RbAt.new w18 v0 v1)
    replace HBA:=Lib.hid (bthen (bthen HBA.out hb) (zaa (Below.refl _ _) (.cells #[.string v0,.string v1] 23)))
    clear hb
    have cb0:=HFb.out.c0
    have cb1:=HFb.out.c1
    have cc0:=HFc.out.c0
    have cc1:=HFc.out.c1
    go_wp2_with fail
    clear cb0 cb1 cc0 cc1
    generalize w18.alloc (.cells #[.string v0,.string v1] 23)=W18 at *
    generalize w18.heap.size=Pv at *
    refine (HY.out _).mono ?_
    rintro e w19 ⟨rfl,hb⟩
    replace HFa:=Lib.hid ((HFa.out.below hb).alloc (.cells #[.string y0,.string y1] 23))
    replace HFb:=Lib.hid ((HFb.out.below hb).alloc (.cells #[.string y0,.string y1] 23))
    replace HFc:=Lib.hid ((HFc.out.below hb).alloc (.cells #[.string y0,.string y1] 23))
    replace HFp:=Lib.hid ((HFp.out.below hb).alloc (.cells #[.string y0,.string y1] 23))
    replace HFv:=Lib.hid ((HFv.out.below hb).alloc (.cells #[.string y0,.string y1] 23))
    have HFyy:=Lib.hid (RbAt.new w19 y0 y1)
    replace HBA:=Lib.hid (bthen (bthen HBA.out hb) (zaa (Below.refl _ _) (.cells #[.string y0,.string y1] 23)))
    clear hb
    have ca0:=HFa.out.c0
    have ca1:=HFa.out.c1
    have cyy0:=HFyy.out.c0
    have cyy1:=HFyy.out.c1
    go_wp2_with fail
    clear ca0 ca1 cyy0 cyy1
    generalize w19.alloc (.cells #[.string y0,.string y1] 23)=W19 at *
    generalize w19.heap.size=Pyy at *
    refine (HZ.out _).mono ?_
    rintro e w20 ⟨rfl,hb⟩
    replace HFa:=Lib.hid ((HFa.out.below hb).alloc (.cells #[.string z0,.string z1] 23))
    replace HFb:=Lib.hid ((HFb.out.below hb).alloc (.cells #[.string z0,.string z1] 23))
    replace HFc:=Lib.hid ((HFc.out.below hb).alloc (.cells #[.string z0,.string z1] 23))
    replace HFp:=Lib.hid ((HFp.out.below hb).alloc (.cells #[.string z0,.string z1] 23))
    replace HFv:=Lib.hid ((HFv.out.below hb).alloc (.cells #[.string z0,.string z1] 23))
    have HFz:=Lib.hid (RbAt.new w20 z0 z1)
    replace HBA:=Lib.hid (bthen (bthen HBA.out hb) (zaa (Below.refl _ _) (.cells #[.string z0,.string z1] 23)))
    clear hb
    rcases HYO.out with rfl|rfl
    all_goals
     have cv0:=HFv.out.c0
     have cv1:=HFv.out.c1
     have cz0:=HFz.out.c0
     have cz1:=HFz.out.c1
     go_wp2_with fail
     clear cv0 cv1 cz0 cz1
     generalize w20.alloc (.cells #[.string z0,.string z1] 23)=W20 at *
    ·refine (HB2.out (by first|rfl|trivial) (by first|rfl|trivial) _).mono ?_
     rintro e w21 ⟨rfl,hb⟩
     replace HFa:=Lib.hid (HFa.out.below hb)
     replace HFb:=Lib.hid (HFb.out.below hb)
     replace HFc:=Lib.hid (HFc.out.below hb)
     replace HFp:=Lib.hid (HFp.out.below hb)
     replace HBA:=Lib.hid (bthen HBA.out hb)
     clear hb
     go_wp2_with fail
     go_meet
     exact ⟨HFa.out,HFb.out,HFc.out,HFp.out,HBA.out⟩
    ·go_meet
     exact ⟨HFa.out,HFb.out,HFc.out,HFp.out,HBA.out⟩
  ·go_wp2_with fail
   go_meet
   exact ⟨HFa.out,HFb.out,HFc.out,HFp.out,HBA.out⟩
 case rest =>
  obtain ⟨fa,fb,fc,fp,hba⟩:=hcut
  have HFa:=Lib.hid fa
  have HFb:=Lib.hid fb
  have HFc:=Lib.hid fc
  have HFp:=Lib.hid fp
  have HBA:=Lib.hid hba
  clear fa fb fc fp hba
  rcases HPO.out with rfl|rfl<;>rcases HZB.out with hzb|hzb
  all_goals
   have cb0:=HFb.out.c0
   have cb1:=HFb.out.c1
   have cp0:=HFp.out.c0
   have cp1:=HFp.out.c1
   have ca0:=HFa.out.c0
   have ca1:=HFa.out.c1
   go_wp2_with fail
   clear cb0 cb1 cp0 cp1 ca0 ca1
  ·skip
   refine (HN.out _).mono ?_
   rintro e w22 ⟨rfl,hb⟩
   replace HFa:=Lib.hid ((HFa.out.below hb).alloc (.cells #[.string n0,.string n1] 23))
   have HFn:=Lib.hid (RbAt.new w22 n0 n1)
   replace HBA:=Lib.hid (bthen (bthen HBA.out hb) (zaa (Below.refl _ _) (.cells #[.string n0,.string n1] 23)))
   clear hb
   have ca0:=HFa.out.c0
   have ca1:=HFa.out.c1
   have cn0:=HFn.out.c0
   have cn1:=HFn.out.c1
   go_wp2_with fail
   clear ca0 ca1 cn0 cn1
   generalize w22.alloc (.cells #[.string n0,.string n1] 23)=W22 at *
   generalize w22.heap.size=Pn at *
   refine (HAN.out _).mono ?_
   rintro e w23 ⟨rfl,hb⟩
   have fq:=RbAt.new w23 ⟨#[48]⟩ ⟨#[49]⟩
   replace HBA:=Lib.hid (bthen (bthen HBA.out hb) (zaa (Below.refl _ _) (.cells #[.string ⟨#[48]⟩,.string ⟨#[49]⟩] 23)))
   clear hb
   have cq0:=fq.c0
   have cq1:=fq.c1
   clear fq
   go_wp2_with fail
   clear cq0 cq1
   generalize w23.alloc (.cells #[.string ⟨#[48]⟩,.string ⟨#[49]⟩] 23)=W23 at *
   refine (HW.out _).mono ?_
   rintro e w24 ⟨rfl,hb⟩
   have HC:=Lib.hid (bthen HBA.out hb)
   clear hb
   go_wp2
   go_ret
   exact ⟨rfl,HC.out⟩
  ·have hq:b0.toList≠([48]:List UInt8):=by simpa using hzb
   refine (HQ.out (by first|rfl|trivial) hq _).mono ?_
   rintro e w25 ⟨rfl,hb⟩
   replace HFa:=Lib.hid ((HFa.out.below hb).alloc (.cells #[.string a0,.string a1] 23))
   have HFs:=Lib.hid (RbAt.new w25 a0 a1)
   replace HBA:=Lib.hid (bthen (bthen HBA.out hb) (zaa (Below.refl _ _) (.cells #[.string a0,.string a1] 23)))
   clear hb
   have cs0:=HFs.out.c0
   have cs1:=HFs.out.c1
   have ca0:=HFa.out.c0
   have ca1:=HFa.out.c1
   go_wp2_with fail
   clear cs0 cs1 ca0 ca1
   generalize w25.alloc (.cells #[.string a0,.string a1] 23)=W25 at *
   generalize w25.heap.size=Ps at *
   refine (HN.out _).mono ?_
   rintro e w26 ⟨rfl,hb⟩
   replace HFa:=Lib.hid ((HFa.out.below hb).alloc (.cells #[.string n0,.string n1] 23))
   have HFn:=Lib.hid (RbAt.new w26 n0 n1)
   replace HBA:=Lib.hid (bthen (bthen HBA.out hb) (zaa (Below.refl _ _) (.cells #[.string n0,.string n1] 23)))
   clear hb
   have ca0:=HFa.out.c0
   have ca1:=HFa.out.c1
   have cn0:=HFn.out.c0
   have cn1:=HFn.out.c1
   go_wp2_with fail
   clear ca0 ca1 cn0 cn1
   generalize w26.alloc (.cells #[.string n0,.string n1] 23)=W26 at *
   generalize w26.heap.size=Pn at *
   refine (HAN.out _).mono ?_
   rintro e w27 ⟨rfl,hb⟩
   have fq:=RbAt.new w27 ⟨#[48]⟩ ⟨#[49]⟩
   replace HBA:=Lib.hid (bthen (bthen HBA.out hb) (zaa (Below.refl _ _) (.cells #[.string ⟨#[48]⟩,.string ⟨#[49]⟩] 23)))
   clear hb
   have cq0:=fq.c0
   have cq1:=fq.c1
   clear fq
   go_wp2_with fail
   clear cq0 cq1
   generalize w27.alloc (.cells #[.string ⟨#[48]⟩,.string ⟨#[49]⟩] 23)=W27 at *
   refine (HW.out _).mono ?_
   rintro e w28 ⟨rfl,hb⟩
   have HC:=Lib.hid (bthen HBA.out hb)
   clear hb
   go_wp2
   go_ret
   exact ⟨rfl,HC.out⟩
  all_goals
   refine (HN.out _).mono ?_
   rintro e w29 ⟨rfl,hb⟩
   replace HFa:=Lib.hid ((HFa.out.below hb).alloc (.cells #[.string n0,.string n1] 23))
   have HFn:=Lib.hid (RbAt.new w29 n0 n1)
   replace HBA:=Lib.hid (bthen (bthen HBA.out hb) (zaa (Below.refl _ _) (.cells #[.string n0,.string n1] 23)))
   clear hb
   have ca0:=HFa.out.c0
   have ca1:=HFa.out.c1
   have cn0:=HFn.out.c0
   have cn1:=HFn.out.c1
   go_wp2_with fail
   clear ca0 ca1 cn0 cn1
   generalize w29.alloc (.cells #[.string n0,.string n1] 23)=W29 at *
   generalize w29.heap.size=Pn at *
   refine (HAN.out _).mono ?_
   rintro e w30 ⟨rfl,hb⟩
   have fq:=RbAt.new w30 ⟨#[48]⟩ ⟨#[49]⟩
   replace HBA:=Lib.hid (bthen (bthen HBA.out hb) (zaa (Below.refl _ _) (.cells #[.string ⟨#[48]⟩,.string ⟨#[49]⟩] 23)))
   clear hb
   have cq0:=fq.c0
   have cq1:=fq.c1
   clear fq
   go_wp2_with fail
   clear cq0 cq1
   generalize w30.alloc (.cells #[.string ⟨#[48]⟩,.string ⟨#[49]⟩] 23)=W30 at *
   refine (HW.out _).mono ?_
   rintro e w31 ⟨rfl,hb⟩
   have HC:=Lib.hid (bthen HBA.out hb)
   clear hb
   go_wp2
   go_ret
   exact ⟨rfl,HC.out⟩
theorem zbV (a0 a1 b0 b1 c0 c1:ByteArray) (ra rb rc:Bool) (hr:(ra && (rb && rc))=false) (HRa:Ans 36 #[.agg #[.string a0,.string a1]] (.bool ra)) (HRb:Ans 36 #[.agg #[.string b0,.string b1]] (.bool rb)) (HRc:Ans 36 #[.agg #[.string c0,.string c1]] (.bool rc)) (HW:Ans 32 #[] (.bool true)):Ans 15 #[.agg #[.string a0,.string a1],.agg #[.string b0,.string b1],.agg #[.string c0,.string c1]] (.bool true):=by
 intro w
 have HRa:=Lib.hid HRa
 have HRb:=Lib.hid HRb
 have HRc:=Lib.hid HRc
 have HW:=Lib.hid HW
 go_enter Tryz.func15,Tryz.ntmps15
 obtain ⟨fa,fb,fc,hba⟩:=rb_three w a0 a1 b0 b1 c0 c1
 go_wp2_with fail
 generalize (((w.alloc (.cells #[.string a0,.string a1] 23)).alloc (.cells #[.string b0,.string b1] 23)).alloc (.cells #[.string c0,.string c1] 23))=W0 at *
 generalize hBx:w.heap.size+1=PB at *
 generalize hBy:PB+1=PC at *
 have HFa:=Lib.hid fa
 have HFb:=Lib.hid fb
 have HFc:=Lib.hid fc
 have HBA:=Lib.hid hba
 clear fa fb fc hba hBx hBy
 refine (HRa.out _).mono ?_
 rintro e w32 ⟨rfl,hb⟩
 replace HFa:=Lib.hid (HFa.out.below hb)
 replace HFb:=Lib.hid (HFb.out.below hb)
 replace HFc:=Lib.hid (HFc.out.below hb)
 replace HBA:=Lib.hid (bthen HBA.out hb)
 clear hb
 cases ra
 ·go_wp2_with fail
  refine (HW.out _).mono ?_
  rintro e w33 ⟨rfl,hb⟩
  have HC:=Lib.hid (bthen HBA.out hb)
  clear hb
  go_wp2
  go_ret
  exact ⟨rfl,HC.out⟩
 ·skip
  have cb0:=HFb.out.c0
  have cb1:=HFb.out.c1
  go_wp2_with fail
  clear cb0 cb1
  refine (HRb.out _).mono ?_
  rintro e w34 ⟨rfl,hb⟩
  replace HFa:=Lib.hid (HFa.out.below hb)
  replace HFb:=Lib.hid (HFb.out.below hb)
  replace HFc:=Lib.hid (HFc.out.below hb)
  replace HBA:=Lib.hid (bthen HBA.out hb)
  clear hb
  cases rb
  ·go_wp2_with fail
   refine (HW.out _).mono ?_
   rintro e w35 ⟨rfl,hb⟩
   have HC:=Lib.hid (bthen HBA.out hb)
   clear hb
   go_wp2
   go_ret
   exact ⟨rfl,HC.out⟩
  ·skip
   have cc0:=HFc.out.c0
   have cc1:=HFc.out.c1
   go_wp2_with fail
   clear cc0 cc1
   refine (HRc.out _).mono ?_
   rintro e w36 ⟨rfl,hb⟩
   replace HFa:=Lib.hid (HFa.out.below hb)
   replace HFb:=Lib.hid (HFb.out.below hb)
   replace HFc:=Lib.hid (HFc.out.below hb)
   replace HBA:=Lib.hid (bthen HBA.out hb)
   clear hb
   obtain rfl:rc=false:=by simpa using hr
   go_wp2_with fail
   refine (HW.out _).mono ?_
   rintro e w37 ⟨rfl,hb⟩
   have HC:=Lib.hid (bthen HBA.out hb)
   clear hb
   go_wp2
   go_ret
   exact ⟨rfl,HC.out⟩
theorem told_of_rr {a0 a1:ByteArray} {x:Rat} (h:RR a0 a1 x):toldR x=(a0,a1,0):=by
 have hs:Sm x:=⟨h.ln,h.ld⟩
 rw [h.num,h.den]
 exact if_pos hs
theorem add_f {a0 a1 b0 b1 r1 r2:ByteArray} {r3:Int} {x y:Rat} (hx:RR a0 a1 x) (hy:RR b0 b1 y) (h:toldR (x+y)=(r1,r2,r3)):rat_Add.f a0 a1 b0 b1=some (r1,r2,r3):=by
 unfold rat_Add.f; rw [zbg hx hy,zcd,h]
theorem sub_f {a0 a1 b0 b1 r1 r2:ByteArray} {r3:Int} {x y:Rat} (hx:RR a0 a1 x) (hy:RR b0 b1 y) (h:toldR (x-y)=(r1,r2,r3)):rat_Sub.f a0 a1 b0 b1=some (r1,r2,r3):=by
 unfold rat_Sub.f; rw [zbg hx hy,zcd,h]
theorem mul_f {a0 a1 b0 b1 r1 r2:ByteArray} {r3:Int} {x y:Rat} (hx:RR a0 a1 x) (hy:RR b0 b1 y) (h:toldR (x*y)=(r1,r2,r3)):rat_Mul.f a0 a1 b0 b1=some (r1,r2,r3):=by
 unfold rat_Mul.f; rw [zbg hx hy,zcd,h]
theorem quo_f {a0 a1 b0 b1 r1 r2:ByteArray} {r3:Int} {x y:Rat} (hx:RR a0 a1 x) (hy:RR b0 b1 y) (h0:y≠0) (h:toldR (x/y)=(r1,r2,r3)):rat_Quo.f a0 a1 b0 b1=some (r1,r2,r3):=by
 unfold rat_Quo.f; rw [zbg hx hy,if_neg h0,zcd,h]
theorem both_ans (u0 u1 t0 t1:ByteArray) (ue te:Int) (h:(u0,u1,ue)=(t0,t1,te)):Ans 69 #[.agg #[.string u0,.string u1],.int .i64 ue,.agg #[.string t0,.string t1],.int .i64 te] (.bool true):=fun W=>by
 obtain ⟨rfl,rfl,rfl⟩:u0=t0∧u1=t1∧ue=te:=by simpa using h
 refine l2_both.calls _ _ _ _ _ _ _ W ?_
 unfold l2_both.f
 split
 ·rw [beq_self_eq_true,beq_self_eq_true]; rfl
 ·rfl
theorem zbO (x:Rat):∃ r1 r2 r3,toldR x=(r1,r2,r3)∧(r3=0∨r3=7):=⟨_,_,_,rfl,told_e x⟩
theorem zbx {x:Rat} {r1 r2:ByteArray} (h:toldR x=(r1,r2,0)):RR r1 r2 x:=by
 have h1:=(told_rr2 (x:=x) (by rw [h])).1
 rw [h] at h1
 exact h1
theorem RatField_any (a0 a1 b0 b1 c0 c1:ByteArray) (W:World) :
  Calls Tryz.prog 15 #[.agg #[.string a0,.string a1],.agg #[.string b0,.string b1],.agg #[.string c0,.string c1]] W fun e W'=>e = .returned (.bool true)∧Below W.heap.size W W':=by
 have HW:Ans 32 #[] (.bool true):=fun W=>awakeT_calls true W awake_f
 by_cases ha:∃ x,RR a0 a1 x
 ·by_cases hb:∃ x,RR b0 b1 x
  ·by_cases hc:∃ x,RR c0 c1 x
   ·obtain ⟨x,hx⟩:=ha
    obtain ⟨y,hy⟩:=hb
    obtain ⟨z,hz⟩:=hc
    obtain ⟨x0,x1,xe,ex,hxe⟩:=zbO (x+y)
    obtain ⟨p0,p1,pe,ep,hpe⟩:=zbO (x*y)
    obtain ⟨l0,l1,le,el,hle⟩:=zbO (x*z)
    obtain ⟨r0,r1,re,er,hre⟩:=zbO (y*z)
    obtain ⟨y0,y1,ye,ey,hye⟩:=zbO (y+z)
    obtain ⟨u0,u1,ue,hu⟩:=zcR (fun x y=>0) (fun x y=>x*y) x0 x1 c0 c1
    obtain ⟨t0,t1,te,ht⟩:=zcR (fun x y=>0) (fun x y=>x+y) l0 l1 r0 r1
    obtain ⟨v0,v1,ve,hv⟩:=zcR (fun x y=>0) (fun x y=>x+y) x0 x1 c0 c1
    obtain ⟨z0,z1,ze,hzz⟩:=zcR (fun x y=>0) (fun x y=>x+y) a0 a1 y0 y1
    obtain ⟨n0,n1,ne,en,hne⟩:=zbO (-x)
    have hn0:ne=0:=by
     rcases hne with h|h
     ·exact h
     ·exfalso
      have hs:Sm (-x):=⟨by rw [Rat.neg_num,Int.natAbs_neg]; exact hx.ln,hx.ld⟩
      have:toldR (-x)=(wtext (-x).num,T (-x).den,0):=if_pos hs
      rw [en] at this
      injection this with _ h2
      injection h2 with _ h3
      omega
    subst hn0
    have hnr:=zbx en
    have e0:toldR (x + -x)=(⟨#[48]⟩,⟨#[49]⟩,0):=by
     rw [Rat.add_neg_cancel]
     have hs:Sm (0:Rat):=⟨Nat.pow_pos (by decide),Nat.lt_of_lt_of_le (show 1<10^1 by decide) (Nat.pow_le_pow_right (by decide) (by decide))⟩
     have h1:toldR 0=(wtext (0:Rat).num,T (0:Rat).den,0):=if_pos hs
     rw [h1]
     have h2:wtext (0:Rat).num=⟨#[48]⟩:=(zaV (x:=0) (by decide)).trans T_0.symm
     rw [h2]
     exact congrArg (fun t=>((⟨#[48]⟩:ByteArray),t,(0:Int))) T_1.symm
    refine field_walk a0 a1 b0 b1 c0 c1 x0 x1 p0 p1 u0 u1 l0 l1 r0 r1 t0 t1 v0 v1 y0 y1 z0 z1 n0 n1 xe pe ue le re te ve ye ze hxe hpe hle hre hye (zaD hx) (zaD hy) (zaD hz)
     (fun W=>rat_Add.calls _ _ _ _ _ _ _ W (add_f hx hy ex)) (fun W=>rat_Add.calls _ _ _ _ _ _ _ W (add_f hy hx (by rw [Rat.add_comm,ex]))) (fun W=>rat_Mul.calls _ _ _ _ _ _ _ W (mul_f hx hy ep)) (fun W=>rat_Mul.calls _ _ _ _ _ _ _ W (mul_f hy hx (by rw [Rat.mul_comm,ep])))
     (fun h W => ?_) (fun W=>rat_Mul.calls _ _ _ _ _ _ _ W hu) (fun W=>rat_Mul.calls _ _ _ _ _ _ _ W (mul_f hx hz el)) (fun W=>rat_Mul.calls _ _ _ _ _ _ _ W (mul_f hy hz er)) (fun W=>rat_Add.calls _ _ _ _ _ _ _ W ht)
     (fun h1 h2 h3 => ?_) (fun W=>rat_Add.calls _ _ _ _ _ _ _ W hv) (fun W=>rat_Add.calls _ _ _ _ _ _ _ W (add_f hy hz ey)) (fun W=>rat_Add.calls _ _ _ _ _ _ _ W hzz) (fun h1 h2 => ?_) (fun h1 h2 W => ?_)
     (fun W=>rat_Neg.calls _ _ _ _ _ W (by unfold rat_Neg.f; rw [oneF_yes hx,zcd,en])) (fun W=>rat_Add.calls _ _ _ _ _ _ _ W (add_f hx hnr e0)) HW W
    ·subst h
     refine rat_Sub.calls _ _ _ _ _ _ _ W (sub_f (zbx ex) hy ?_)
     rw [Rat.sub_eq_add_neg,Rat.add_assoc,Rat.add_neg_cancel,Rat.add_zero]
     exact told_of_rr hx
    ·subst h1; subst h2; subst h3
     have e1:=mul_f (zbx ex) hz (r1:=u0) (r2:=u1) (r3:=ue)
     rw [zbg (zbx ex) hz,zcd] at hu
     rw [zbg (zbx el) (zbx er),zcd] at ht
     have hu:=Option.some.inj hu
     have ht:=Option.some.inj ht
     refine both_ans _ _ _ _ _ _ ?_
     rw [←hu,←ht,Rat.add_mul]
    ·subst h1; subst h2
     rw [zbg (zbx ex) hz,zcd] at hv
     rw [zbg hx (zbx ey),zcd] at hzz
     have hv:=Option.some.inj hv
     have hzz:=Option.some.inj hzz
     refine both_ans _ _ _ _ _ _ ?_
     rw [←hv,←hzz,Rat.add_assoc]
    ·subst h1
     have hy0:y≠0:=fun e=>h2 ((rr_zero hy).2 e)
     refine rat_Quo.calls _ _ _ _ _ _ _ W (quo_f (zbx ep) hy hy0 ?_)
     rw [Rat.div_def,Rat.mul_assoc,Rat.mul_inv_cancel y hy0,Rat.mul_one]
     exact told_of_rr hx
   ·obtain ⟨x,hx⟩:=ha
    obtain ⟨y,hy⟩:=hb
    exact zbV a0 a1 b0 b1 c0 c1 true true false rfl (zaD hx) (zaD hy) (zaH hc) HW W
  ·obtain ⟨x,hx⟩:=ha
   by_cases hc:∃ x,RR c0 c1 x
   ·obtain ⟨z,hz⟩:=hc
    exact zbV a0 a1 b0 b1 c0 c1 true false true rfl (zaD hx) (zaH hb) (zaD hz) HW W
   ·exact zbV a0 a1 b0 b1 c0 c1 true false false rfl (zaD hx) (zaH hb) (zaH hc) HW W
 ·by_cases hb:∃ x,RR b0 b1 x
  ·obtain ⟨y,hy⟩:=hb
   by_cases hc:∃ x,RR c0 c1 x
   ·obtain ⟨z,hz⟩:=hc
    exact zbV a0 a1 b0 b1 c0 c1 false true true rfl (zaH ha) (zaD hy) (zaD hz) HW W
   ·exact zbV a0 a1 b0 b1 c0 c1 false true false rfl (zaH ha) (zaD hy) (zaH hc) HW W
  ·by_cases hc:∃ x,RR c0 c1 x
   ·obtain ⟨z,hz⟩:=hc
    exact zbV a0 a1 b0 b1 c0 c1 false false true rfl (zaH ha) (zaH hb) (zaD hz) HW W
   ·exact zbV a0 a1 b0 b1 c0 c1 false false false rfl (zaH ha) (zaH hb) (zaH hc) HW W
end Go.Proofs.ZQ
end
