/- Texts under the proof, joined by a program (prune.py): QSimplest, QRatD, SSimple. -/
import Derived.Test.YtglaeambknhjlaaGreatDoorCRatSimplest16
import Derived.Test.YtglaeambknhjlaaGreatDoorCRatSimplest19
import Derived.Test.YtglaeambknhjlaaGreatDoorCRatSimplest12
import Derived.Test.YtglaeambknhjlaaGreatDoorCRatSimplest06
set_option linter.unusedVariables false
set_option linter.unusedSimpArgs false
set_option exponentiation.threshold 20001
set_option maxHeartbeats 8000000
set_option maxRecDepth 100000
section
namespace Go.Proofs.ZQ
open Go.RowKit Go.Proofs.ZW.Wa Go.Proofs.ZP Go.Proofs.ZW.Wb Go.Proofs.ZW.Wc
theorem simplest_out (a0 a1 b0 b1 c0 c1:ByteArray) (ra rb rc:Bool) (hr:(ra && rb && rc)=false) (HRa:Ans 36 #[.agg #[.string a0,.string a1]] (.bool ra)) (HRb:Ans 36 #[.agg #[.string b0,.string b1]] (.bool rb)) (HRc:Ans 36 #[.agg #[.string c0,.string c1]] (.bool rc)) (HW:Ans 32 #[] (.bool true)):Ans 14 #[.agg #[.string a0,.string a1],.agg #[.string b0,.string b1],.agg #[.string c0,.string c1]] (.bool true):=by
 intro w
 have HRa:=Lib.hid HRa
 have HRb:=Lib.hid HRb
 have HRc:=Lib.hid HRc
 have HW:=Lib.hid HW
 have HH:=Lib.hid hr
 clear hr
 go_enter Tryz.func14,Tryz.ntmps14
 obtain ⟨fa,fb,fc,hba⟩:=rb_three w a0 a1 b0 b1 c0 c1
 go_wp2_with fail
 generalize (((w.alloc (.cells #[.string a0,.string a1] 23)).alloc (.cells #[.string b0,.string b1] 23)).alloc (.cells #[.string c0,.string c1] 23))=W0 at *
 generalize hBx:w.heap.size+1=PB at *
 generalize hBy:PB+1=PC at *
 have HFa:=Lib.hid fa
 have HFb:=Lib.hid fb
 have HFc:=Lib.hid fc
 have HBA:=Lib.hid hba
 clear fa fb fc hba hBx hBy
 refine (HRa.out _).mono ?_
 rintro e wa ⟨rfl,hb⟩
 replace HFa:=Lib.hid (HFa.out.below hb)
 replace HFb:=Lib.hid (HFb.out.below hb)
 replace HFc:=Lib.hid (HFc.out.below hb)
 replace HBA:=Lib.hid (bthen HBA.out hb)
 clear hb
 cases ra
 ·go_wp2_with fail
  refine (HW.out _).mono ?_
  rintro e w1 ⟨rfl,hb⟩
  have HF:=Lib.hid (bthen HBA.out hb)
  clear hb
  go_wp2
  go_ret
  exact ⟨rfl,HF.out⟩
 ·have pb0:=HFb.out.c0
  have pb1:=HFb.out.c1
  go_wp2_with fail
  clear pb0 pb1
  refine (HRb.out _).mono ?_
  rintro e wb ⟨rfl,hb⟩
  replace HFa:=Lib.hid (HFa.out.below hb)
  replace HFb:=Lib.hid (HFb.out.below hb)
  replace HFc:=Lib.hid (HFc.out.below hb)
  replace HBA:=Lib.hid (bthen HBA.out hb)
  clear hb
  cases rb
  ·go_wp2_with fail
   refine (HW.out _).mono ?_
   rintro e w2 ⟨rfl,hb⟩
   have HF:=Lib.hid (bthen HBA.out hb)
   clear hb
   go_wp2
   go_ret
   exact ⟨rfl,HF.out⟩
  ·obtain rfl:rc=false:=by first|exact HH.out|simpa using HH.out
   have pc0:=HFc.out.c0
   have pc1:=HFc.out.c1
   go_wp2_with fail
   clear pc0 pc1
   refine (HRc.out _).mono ?_
   rintro e wc ⟨rfl,hb⟩
   replace HBA:=Lib.hid (bthen HBA.out hb)
   clear hb
   go_wp2_with fail
   refine (HW.out _).mono ?_
   rintro e w3 ⟨rfl,hb⟩
   have HF:=Lib.hid (bthen HBA.out hb)
   clear hb
   go_wp2
   go_ret
   exact ⟨rfl,HF.out⟩
theorem simplest_below (a0 a1 b0 b1 c0 c1 s0 s1:ByteArray) (c ce:Int) (hc:c>0) (HRa:Ans 36 #[.agg #[.string a0,.string a1]] (.bool true)) (HRb:Ans 36 #[.agg #[.string b0,.string b1]] (.bool true)) (HRc:Ans 36 #[.agg #[.string c0,.string c1]] (.bool true)) (HS:Ans 57 #[.agg #[.string a0,.string a1],.agg #[.string b0,.string b1]] (.tuple #[.agg #[.string s0,.string s1],.int .i64 9])) (HC:Ans 43 #[.agg #[.string a0,.string a1],.agg #[.string b0,.string b1]] (.tuple #[.int .i64 c,.int .i64 ce])) (HW:Ans 32 #[] (.bool true)):Ans 14 #[.agg #[.string a0,.string a1],.agg #[.string b0,.string b1],.agg #[.string c0,.string c1]] (.bool true):=by
 intro w
 have HRa:=Lib.hid HRa
 have HRb:=Lib.hid HRb
 have HRc:=Lib.hid HRc
 have HS:=Lib.hid HS
 have HC:=Lib.hid HC
 have HW:=Lib.hid HW
 go_enter Tryz.func14,Tryz.ntmps14
 obtain ⟨fa,fb,fc,hba⟩:=rb_three w a0 a1 b0 b1 c0 c1
 go_wp2_with fail
 generalize (((w.alloc (.cells #[.string a0,.string a1] 23)).alloc (.cells #[.string b0,.string b1] 23)).alloc (.cells #[.string c0,.string c1] 23))=W0 at *
 generalize hBx:w.heap.size+1=PB at *
 generalize hBy:PB+1=PC at *
 have HFa:=Lib.hid fa
 have HFb:=Lib.hid fb
 have HFc:=Lib.hid fc
 have HBA:=Lib.hid hba
 clear fa fb fc hba hBx hBy
 refine (HRa.out _).mono ?_
 rintro e w4 ⟨rfl,hb⟩
 replace HFa:=Lib.hid (HFa.out.below hb)
 replace HFb:=Lib.hid (HFb.out.below hb)
 replace HFc:=Lib.hid (HFc.out.below hb)
 replace HBA:=Lib.hid (bthen HBA.out hb)
 clear hb
 have pb0:=HFb.out.c0
 have pb1:=HFb.out.c1
 go_wp2_with fail
 clear pb0 pb1
 refine (HRb.out _).mono ?_
 rintro e w5 ⟨rfl,hb⟩
 replace HFa:=Lib.hid (HFa.out.below hb)
 replace HFb:=Lib.hid (HFb.out.below hb)
 replace HFc:=Lib.hid (HFc.out.below hb)
 replace HBA:=Lib.hid (bthen HBA.out hb)
 clear hb
 have pc0:=HFc.out.c0
 have pc1:=HFc.out.c1
 go_wp2_with fail
 clear pc0 pc1
 refine (HRc.out _).mono ?_
 rintro e w6 ⟨rfl,hb⟩
 replace HFa:=Lib.hid (HFa.out.below hb)
 replace HFb:=Lib.hid (HFb.out.below hb)
 replace HFc:=Lib.hid (HFc.out.below hb)
 replace HBA:=Lib.hid (bthen HBA.out hb)
 clear hb
 have pa0:=HFa.out.c0
 have pa1:=HFa.out.c1
 have pb0:=HFb.out.c0
 have pb1:=HFb.out.c1
 go_wp2_with fail
 clear pa0 pa1 pb0 pb1
 refine (HS.out _).mono ?_
 rintro e w7 ⟨rfl,hb⟩
 replace HFa:=Lib.hid ((HFa.out.below hb).alloc (.cells #[.string s0,.string s1] 23))
 replace HFb:=Lib.hid ((HFb.out.below hb).alloc (.cells #[.string s0,.string s1] 23))
 replace HFc:=Lib.hid ((HFc.out.below hb).alloc (.cells #[.string s0,.string s1] 23))
 have HFs:=Lib.hid (RbAt.new w7 s0 s1)
 replace HBA:=Lib.hid (bthen (bthen HBA.out hb) (zaa (Below.refl _ _) (.cells #[.string s0,.string s1] 23)))
 clear hb
 have pa0:=HFa.out.c0
 have pa1:=HFa.out.c1
 have pb0:=HFb.out.c0
 have pb1:=HFb.out.c1
 have ps0:=HFs.out.c0
 have ps1:=HFs.out.c1
 go_wp2_with fail
 clear pa0 pa1 pb0 pb1 ps0 ps1
 generalize w7.alloc (.cells #[.string s0,.string s1] 23)=v7 at *
 generalize w7.heap.size=Ps at *
 refine (HC.out _).mono ?_
 rintro e w8 ⟨rfl,hb⟩
 replace HBA:=Lib.hid (bthen HBA.out hb)
 clear hb
 go_wp2_with fail
 refine (HW.out _).mono ?_
 rintro e w9 ⟨rfl,hb⟩
 have HF:=Lib.hid (bthen HBA.out hb)
 clear hb
 go_wp2
 go_ret
 exact ⟨rfl,HF.out⟩
theorem simplest_walk (a0 a1 b0 b1 c0 c1 s0 s1 p1 p2 q1 q2 r1 r2 t1 t2:ByteArray) (p0 q0 r0 t0:Bool) (k1 k2 k3 k4:Int) (h1:¬ k1>0) (h2:¬ k2>0) (HRa:Ans 36 #[.agg #[.string a0,.string a1]] (.bool true)) (HRb:Ans 36 #[.agg #[.string b0,.string b1]] (.bool true)) (HRc:Ans 36 #[.agg #[.string c0,.string c1]] (.bool true))
  (HS:Ans 57 #[.agg #[.string a0,.string a1],.agg #[.string b0,.string b1]] (.tuple #[.agg #[.string s0,.string s1],.int .i64 0]))
  (HRs:Ans 36 #[.agg #[.string s0,.string s1]] (.bool true))
  (HP:Ans 61 #[.agg #[.string a0,.string a1]] (.agg #[.bool p0,.string p1,.string p2]))
  (HQ:Ans 61 #[.agg #[.string s0,.string s1]] (.agg #[.bool q0,.string q1,.string q2]))
  (HV:Ans 61 #[.agg #[.string b0,.string b1]] (.agg #[.bool r0,.string r1,.string r2]))
  (HT:Ans 61 #[.agg #[.string c0,.string c1]] (.agg #[.bool t0,.string t1,.string t2]))
  (HC1:Ans 63 #[.agg #[.bool p0,.string p1,.string p2],.agg #[.bool q0,.string q1,.string q2]] (.int .i64 k1))
  (HC2:Ans 63 #[.agg #[.bool q0,.string q1,.string q2],.agg #[.bool r0,.string r1,.string r2]] (.int .i64 k2))
  (HC3:Ans 63 #[.agg #[.bool p0,.string p1,.string p2],.agg #[.bool t0,.string t1,.string t2]] (.int .i64 k3))
  (HC4:Ans 63 #[.agg #[.bool t0,.string t1,.string t2],.agg #[.bool r0,.string r1,.string r2]] (.int .i64 k4))
  (HW:Ans 32 #[] (.bool true))
  (hm:k3≤0→k4≤0→¬ (c1.size:Int)<(s1.size:Int)∧(c1.size=s1.size→Op.bytesLess c1.toList s1.toList=false)):Ans 14 #[.agg #[.string a0,.string a1],.agg #[.string b0,.string b1],.agg #[.string c0,.string c1]] (.bool true):=by
 intro w
 have HRa:=Lib.hid HRa
 have HRb:=Lib.hid HRb
 have HRc:=Lib.hid HRc
 have HS:=Lib.hid HS
 have HRs:=Lib.hid HRs
 have HP:=Lib.hid HP
 have HQ:=Lib.hid HQ
 have HV:=Lib.hid HV
 have HT:=Lib.hid HT
 have HC1:=Lib.hid HC1
 have HC2:=Lib.hid HC2
 have HC3:=Lib.hid HC3
 have HC4:=Lib.hid HC4
 have HW:=Lib.hid HW
 have HM:=Lib.hid hm
 clear hm
 go_enter Tryz.func14,Tryz.ntmps14
 obtain ⟨fa,fb,fc,hba⟩:=rb_three w a0 a1 b0 b1 c0 c1
 go_wp2_with fail
 generalize (((w.alloc (.cells #[.string a0,.string a1] 23)).alloc (.cells #[.string b0,.string b1] 23)).alloc (.cells #[.string c0,.string c1] 23))=W0 at *
 generalize hBx:w.heap.size+1=PB at *
 generalize hBy:PB+1=PC at *
 have HFa:=Lib.hid fa
 have HFb:=Lib.hid fb
 have HFc:=Lib.hid fc
 have HBA:=Lib.hid hba
 clear fa fb fc hba hBx hBy
 refine (HRa.out _).mono ?_
 rintro e w4 ⟨rfl,hb⟩
 replace HFa:=Lib.hid (HFa.out.below hb)
 replace HFb:=Lib.hid (HFb.out.below hb)
 replace HFc:=Lib.hid (HFc.out.below hb)
 replace HBA:=Lib.hid (bthen HBA.out hb)
 clear hb
 have pb0:=HFb.out.c0
 have pb1:=HFb.out.c1
 go_wp2_with fail
 clear pb0 pb1
 refine (HRb.out _).mono ?_
 rintro e w5 ⟨rfl,hb⟩
 replace HFa:=Lib.hid (HFa.out.below hb)
 replace HFb:=Lib.hid (HFb.out.below hb)
 replace HFc:=Lib.hid (HFc.out.below hb)
 replace HBA:=Lib.hid (bthen HBA.out hb)
 clear hb
 have pc0:=HFc.out.c0
 have pc1:=HFc.out.c1
 go_wp2_with fail
 clear pc0 pc1
 refine (HRc.out _).mono ?_
 rintro e w6 ⟨rfl,hb⟩
 replace HFa:=Lib.hid (HFa.out.below hb)
 replace HFb:=Lib.hid (HFb.out.below hb)
 replace HFc:=Lib.hid (HFc.out.below hb)
 replace HBA:=Lib.hid (bthen HBA.out hb)
 clear hb
 have pa0:=HFa.out.c0
 have pa1:=HFa.out.c1
 have pb0:=HFb.out.c0
 have pb1:=HFb.out.c1
 go_wp2_with fail
 clear pa0 pa1 pb0 pb1
 refine (HS.out _).mono ?_
 rintro e w10 ⟨rfl,hb⟩
 replace HFa:=Lib.hid ((HFa.out.below hb).alloc (.cells #[.string s0,.string s1] 23))
 replace HFb:=Lib.hid ((HFb.out.below hb).alloc (.cells #[.string s0,.string s1] 23))
 replace HFc:=Lib.hid ((HFc.out.below hb).alloc (.cells #[.string s0,.string s1] 23))
 have HFs:=Lib.hid (RbAt.new w10 s0 s1)
 replace HBA:=Lib.hid (bthen (bthen HBA.out hb) (zaa (Below.refl _ _) (.cells #[.string s0,.string s1] 23)))
 clear hb
 have pa0:=HFa.out.c0
 have pa1:=HFa.out.c1
 have pb0:=HFb.out.c0
 have pb1:=HFb.out.c1
 have pc0:=HFc.out.c0
 have pc1:=HFc.out.c1
 have ps0:=HFs.out.c0
 have ps1:=HFs.out.c1
 go_wp2_with fail
 clear pa0 pa1 pb0 pb1 pc0 pc1 ps0 ps1
 generalize w10.alloc (.cells #[.string s0,.string s1] 23)=v10 at *
 generalize w10.heap.size=Ps at *
 have d1:decide (0<k1)=false:=decide_eq_false (by omega)
 have d2:decide (0<k2)=false:=decide_eq_false (by omega)
 refine start_ (n:=23) (S:=(fun w'=>w'.cell? ⟨w.heap.size,0,none⟩=some (.string a0)∧w'.cell? ⟨w.heap.size,1,none⟩=some (.string a1)∧w'.cell? ⟨PB,0,none⟩=some (.string b0)∧w'.cell? ⟨PB,1,none⟩=some (.string b1)∧w'.cell? ⟨Ps,0,none⟩=some (.string s0)∧w'.cell? ⟨Ps,1,none⟩=some (.string s1)∧w'.cell? ⟨PC,0,none⟩=some (.string c0)∧w'.cell? ⟨PC,1,none⟩=some (.string c1))) (ds:=[]) #[false,false,false,false,false,false,false,false,false,false,false,false,false,false,false,false,false,false,false,false,false,false,false] (by kernel_rfl) rfl rfl ⟨HFa.out.c0,HFa.out.c1,HFb.out.c0,HFb.out.c1,HFs.out.c0,HFs.out.c1,HFc.out.c0,HFc.out.c1⟩ (fun hHeld => ?_)
 refine pure_ (i:=0) (N:=some 44) (v:=?_) (a':=?_) #[true,false,false,false,false,false,false,false,false,false,false,false,false,false,false,false,false,false,false,false,false,false,false] rfl rfl (by kernel_rfl) (fun _ _ _ h=>h) (Or.inl ⟨by rfl,?_⟩) ?_ ?_
 rotate_left
 ·intro w'
  go_simp
  with_reducible rfl
 rotate_left
 ·simp only [Act.put,List.setIfInBounds_toArray,List.set_cons_zero,List.set_cons_succ]
  rfl
 refine pure_ (i:=1) (N:=some 45) (v:=?_) (a':=?_) #[true,true,false,false,false,false,false,false,false,false,false,false,false,false,false,false,false,false,false,false,false,false,false] rfl rfl (by kernel_rfl) (fun _ _ _ h=>h) (Or.inl ⟨by rfl,?_⟩) ?_ ?_
 rotate_left
 ·intro w'
  go_simp
  with_reducible rfl
 rotate_left
 ·simp only [Act.put,List.setIfInBounds_toArray,List.set_cons_zero,List.set_cons_succ]
  rfl
 refine pure_ (i:=2) (N:=some 46) (v:=?_) (a':=?_) #[true,true,true,false,false,false,false,false,false,false,false,false,false,false,false,false,false,false,false,false,false,false,false] rfl rfl (by kernel_rfl) (fun _ _ _ h=>h) (Or.inl ⟨by rfl,?_⟩) ?_ ?_
 rotate_left
 ·intro w'
  go_simp
  with_reducible rfl
 rotate_left
 ·simp only [Act.put,List.setIfInBounds_toArray,List.set_cons_zero,List.set_cons_succ]
  rfl
 refine take_ (i:=3) (N:=some 47) (v:=?_) (a':=?_) #[true,true,true,true,false,false,false,false,false,false,false,false,false,false,false,false,false,false,false,false,false,false,false] rfl rfl (by kernel_rfl) (fun _ _ _ h=>h) (Or.inl ⟨by rfl,?_⟩) hHeld ?_ ?_
 rotate_left
 ·rintro w' ⟨s0,s1,s2,s3,s4,s5,s6,s7⟩
  go_simp
  with_reducible rfl
 rotate_left
 ·simp only [Act.put,List.setIfInBounds_toArray,List.set_cons_zero,List.set_cons_succ]
  rfl
 refine one_ (i:=4) (N:=some 48) #[true,true,true,true,true,false,false,false,false,false,false,false,false,false,false,false,false,false,false,false,false,false,false] rfl rfl (by kernel_rfl) (by decide) (fun K hK => ?_)
 refine goes_ Tryz.func36 (by kernel_rfl) rfl #[.agg #[.string s0,.string s1]] (by rfl) rfl rfl (by (try simp only [List.map_toArray,List.map_cons,List.map_nil]); first|done|rfl) ?_
 refine (HRs.out _).mono ?_
 rintro e wn ⟨rfl,hb⟩
 refine ⟨_,rfl,?_⟩
 replace HFa:=Lib.hid (RbAt.below (w:=_) (by exact HFa.out) hb)
 replace HFb:=Lib.hid (RbAt.below (w:=_) (by exact HFb.out) hb)
 replace HFc:=Lib.hid (RbAt.below (w:=_) (by exact HFc.out) hb)
 replace HFs:=Lib.hid (RbAt.below (w:=_) (by exact HFs.out) hb)
 replace HBA:=Lib.hid (bthen (by first|exact HBA.out|exact zaj HBA.out) hb)
 clear hb
 refine hK.out _ _ ⟨HFa.out.c0,HFa.out.c1,HFb.out.c0,HFb.out.c1,HFs.out.c0,HFs.out.c1,HFc.out.c0,HFc.out.c1⟩ (fun hHeld => ?_)
 clear hK K
 refine norm_ (a':=?_) ?_ ?_
 rotate_left
 ·show Act.put _ (some 48) _=_
  simp only [Act.put,List.setIfInBounds_toArray,List.set_cons_zero,List.set_cons_succ]
  rfl
 refine pure_ (i:=5) (N:=some 49) (v:=?_) (a':=?_) #[true,true,true,true,true,true,false,false,false,false,false,false,false,false,false,false,false,false,false,false,false,false,false] rfl rfl (by kernel_rfl) (fun _ _ _ h=>h) (Or.inl ⟨by rfl,?_⟩) ?_ ?_
 rotate_left
 ·intro w'
  go_simp
  with_reducible rfl
 rotate_left
 ·simp only [Act.put,List.setIfInBounds_toArray,List.set_cons_zero,List.set_cons_succ]
  rfl
 refine pure_ (i:=6) (N:=some 50) (v:=?_) (a':=?_) #[true,true,true,true,true,true,true,false,false,false,false,false,false,false,false,false,false,false,false,false,false,false,false] rfl rfl (by kernel_rfl) (fun _ _ _ h=>h) (Or.inl ⟨by rfl,?_⟩) ?_ ?_
 rotate_left
 ·intro w'
  go_simp
  with_reducible rfl
 rotate_left
 ·simp only [Act.put,List.setIfInBounds_toArray,List.set_cons_zero,List.set_cons_succ]
  rfl
 refine pure_ (i:=7) (N:=some 51) (v:=?_) (a':=?_) #[true,true,true,true,true,true,true,true,false,false,false,false,false,false,false,false,false,false,false,false,false,false,false] rfl rfl (by kernel_rfl) (fun _ _ _ h=>h) (Or.inl ⟨by rfl,?_⟩) ?_ ?_
 rotate_left
 ·intro w'
  go_simp
  with_reducible rfl
 rotate_left
 ·simp only [Act.put,List.setIfInBounds_toArray,List.set_cons_zero,List.set_cons_succ]
  rfl
 refine take_ (i:=8) (N:=some 52) (v:=?_) (a':=?_) #[true,true,true,true,true,true,true,true,true,false,false,false,false,false,false,false,false,false,false,false,false,false,false] rfl rfl (by kernel_rfl) (fun _ _ _ h=>h) (Or.inl ⟨by rfl,?_⟩) hHeld ?_ ?_
 rotate_left
 ·rintro w' ⟨s0,s1,s2,s3,s4,s5,s6,s7⟩
  go_simp
  with_reducible rfl
 rotate_left
 ·simp only [Act.put,List.setIfInBounds_toArray,List.set_cons_zero,List.set_cons_succ]
  rfl
 refine take_ (i:=10) (N:=some 54) (v:=?_) (a':=?_) #[true,true,true,true,true,true,true,true,true,false,true,false,false,false,false,false,false,false,false,false,false,false,false] rfl rfl (by kernel_rfl) (fun _ _ _ h=>h) (Or.inl ⟨by rfl,?_⟩) hHeld ?_ ?_
 rotate_left
 ·rintro w' ⟨s0,s1,s2,s3,s4,s5,s6,s7⟩
  go_simp
  with_reducible rfl
 rotate_left
 ·simp only [Act.put,List.setIfInBounds_toArray,List.set_cons_zero,List.set_cons_succ]
  rfl
 refine one_ (i:=9) (N:=some 53) #[true,true,true,true,true,true,true,true,true,true,true,false,false,false,false,false,false,false,false,false,false,false,false] rfl rfl (by kernel_rfl) (by decide) (fun K hK => ?_)
 refine goes_ Tryz.func61 (by kernel_rfl) rfl #[.agg #[.string a0,.string a1]] (by rfl) rfl rfl (by (try simp only [List.map_toArray,List.map_cons,List.map_nil]); first|done|rfl) ?_
 refine (HP.out _).mono ?_
 rintro e wn ⟨rfl,hb⟩
 refine ⟨_,rfl,?_⟩
 replace HFa:=Lib.hid (RbAt.below (w:=_) (by exact HFa.out) hb)
 replace HFb:=Lib.hid (RbAt.below (w:=_) (by exact HFb.out) hb)
 replace HFc:=Lib.hid (RbAt.below (w:=_) (by exact HFc.out) hb)
 replace HFs:=Lib.hid (RbAt.below (w:=_) (by exact HFs.out) hb)
 replace HBA:=Lib.hid (bthen (by first|exact HBA.out|exact zaj HBA.out) hb)
 clear hb
 refine hK.out _ _ ⟨HFa.out.c0,HFa.out.c1,HFb.out.c0,HFb.out.c1,HFs.out.c0,HFs.out.c1,HFc.out.c0,HFc.out.c1⟩ (fun hHeld => ?_)
 clear hK K
 refine norm_ (a':=?_) ?_ ?_
 rotate_left
 ·show Act.put _ (some 53) _=_
  simp only [Act.put,List.setIfInBounds_toArray,List.set_cons_zero,List.set_cons_succ]
  rfl
 refine one_ (i:=11) (N:=some 55) #[true,true,true,true,true,true,true,true,true,true,true,true,false,false,false,false,false,false,false,false,false,false,false] rfl rfl (by kernel_rfl) (by decide) (fun K hK => ?_)
 refine goes_ Tryz.func61 (by kernel_rfl) rfl #[.agg #[.string s0,.string s1]] (by rfl) rfl rfl (by (try simp only [List.map_toArray,List.map_cons,List.map_nil]); first|done|rfl) ?_
 refine (HQ.out _).mono ?_
 rintro e wn ⟨rfl,hb⟩
 refine ⟨_,rfl,?_⟩
 replace HFa:=Lib.hid (RbAt.below (w:=_) (by exact HFa.out) hb)
 replace HFb:=Lib.hid (RbAt.below (w:=_) (by exact HFb.out) hb)
 replace HFc:=Lib.hid (RbAt.below (w:=_) (by exact HFc.out) hb)
 replace HFs:=Lib.hid (RbAt.below (w:=_) (by exact HFs.out) hb)
 replace HBA:=Lib.hid (bthen (by first|exact HBA.out|exact zaj HBA.out) hb)
 clear hb
 refine hK.out _ _ ⟨HFa.out.c0,HFa.out.c1,HFb.out.c0,HFb.out.c1,HFs.out.c0,HFs.out.c1,HFc.out.c0,HFc.out.c1⟩ (fun hHeld => ?_)
 clear hK K
 refine norm_ (a':=?_) ?_ ?_
 rotate_left
 ·show Act.put _ (some 55) _=_
  simp only [Act.put,List.setIfInBounds_toArray,List.set_cons_zero,List.set_cons_succ]
  rfl
 refine one_ (i:=12) (N:=some 56) #[true,true,true,true,true,true,true,true,true,true,true,true,true,false,false,false,false,false,false,false,false,false,false] rfl rfl (by kernel_rfl) (by decide) (fun K hK => ?_)
 refine goes_ Tryz.func63 (by kernel_rfl) rfl #[.agg #[.bool p0,.string p1,.string p2],.agg #[.bool q0,.string q1,.string q2]] (by rfl) rfl rfl (by (try simp only [List.map_toArray,List.map_cons,List.map_nil]); first|done|rfl) ?_
 refine (HC1.out _).mono ?_
 rintro e wn ⟨rfl,hb⟩
 refine ⟨_,rfl,?_⟩
 replace HFa:=Lib.hid (RbAt.below (w:=_) (by exact HFa.out) hb)
 replace HFb:=Lib.hid (RbAt.below (w:=_) (by exact HFb.out) hb)
 replace HFc:=Lib.hid (RbAt.below (w:=_) (by exact HFc.out) hb)
 replace HFs:=Lib.hid (RbAt.below (w:=_) (by exact HFs.out) hb)
 replace HBA:=Lib.hid (bthen (by first|exact HBA.out|exact zaj HBA.out) hb)
 clear hb
 refine hK.out _ _ ⟨HFa.out.c0,HFa.out.c1,HFb.out.c0,HFb.out.c1,HFs.out.c0,HFs.out.c1,HFc.out.c0,HFc.out.c1⟩ (fun hHeld => ?_)
 clear hK K
 refine norm_ (a':=?_) ?_ ?_
 rotate_left
 ·show Act.put _ (some 56) _=_
  simp only [Act.put,List.setIfInBounds_toArray,List.set_cons_zero,List.set_cons_succ]
  rfl
 refine pure_ (i:=13) (N:=some 57) (v:=?_) (a':=?_) #[true,true,true,true,true,true,true,true,true,true,true,true,true,true,false,false,false,false,false,false,false,false,false] rfl rfl (by kernel_rfl) (fun _ _ _ h=>h) (Or.inl ⟨by rfl,?_⟩) ?_ ?_
 rotate_left
 ·intro w'
  go_simp
  with_reducible rfl
 rotate_left
 ·simp only [Act.put,List.setIfInBounds_toArray,List.set_cons_zero,List.set_cons_succ]
  rfl
 refine pure_ (i:=14) (N:=some 58) (v:=?_) (a':=?_) #[true,true,true,true,true,true,true,true,true,true,true,true,true,true,true,false,false,false,false,false,false,false,false] rfl rfl (by kernel_rfl) (fun _ _ _ h=>h) (Or.inl ⟨by rfl,?_⟩) ?_ ?_
 rotate_left
 ·intro w'
  go_simp
  with_reducible rfl
 rotate_left
 ·simp only [Act.put,List.setIfInBounds_toArray,List.set_cons_zero,List.set_cons_succ]
  rfl
 refine pure_ (i:=15) (N:=some 59) (v:=?_) (a':=?_) #[true,true,true,true,true,true,true,true,true,true,true,true,true,true,true,true,false,false,false,false,false,false,false] rfl rfl (by kernel_rfl) (fun _ _ _ h=>h) (Or.inl ⟨by rfl,?_⟩) ?_ ?_
 rotate_left
 ·intro w'
  go_simp
  with_reducible rfl
 rotate_left
 ·simp only [Act.put,List.setIfInBounds_toArray,List.set_cons_zero,List.set_cons_succ]
  rfl
 refine take_ (i:=16) (N:=some 60) (v:=?_) (a':=?_) #[true,true,true,true,true,true,true,true,true,true,true,true,true,true,true,true,true,false,false,false,false,false,false] rfl rfl (by kernel_rfl) (fun _ _ _ h=>h) (Or.inl ⟨by rfl,?_⟩) hHeld ?_ ?_
 rotate_left
 ·rintro w' ⟨s0,s1,s2,s3,s4,s5,s6,s7⟩
  go_simp
  with_reducible rfl
 rotate_left
 ·simp only [Act.put,List.setIfInBounds_toArray,List.set_cons_zero,List.set_cons_succ]
  rfl
 refine take_ (i:=18) (N:=some 62) (v:=?_) (a':=?_) #[true,true,true,true,true,true,true,true,true,true,true,true,true,true,true,true,true,false,true,false,false,false,false] rfl rfl (by kernel_rfl) (fun _ _ _ h=>h) (Or.inl ⟨by rfl,?_⟩) hHeld ?_ ?_
 rotate_left
 ·rintro w' ⟨s0,s1,s2,s3,s4,s5,s6,s7⟩
  go_simp
  with_reducible rfl
 rotate_left
 ·simp only [Act.put,List.setIfInBounds_toArray,List.set_cons_zero,List.set_cons_succ]
  rfl
 refine one_ (i:=17) (N:=some 61) #[true,true,true,true,true,true,true,true,true,true,true,true,true,true,true,true,true,true,true,false,false,false,false] rfl rfl (by kernel_rfl) (by decide) (fun K hK => ?_)
 refine goes_ Tryz.func61 (by kernel_rfl) rfl #[.agg #[.string s0,.string s1]] (by rfl) rfl rfl (by (try simp only [List.map_toArray,List.map_cons,List.map_nil]); first|done|rfl) ?_
 refine (HQ.out _).mono ?_
 rintro e wn ⟨rfl,hb⟩
 refine ⟨_,rfl,?_⟩
 replace HFa:=Lib.hid (RbAt.below (w:=_) (by exact HFa.out) hb)
 replace HFb:=Lib.hid (RbAt.below (w:=_) (by exact HFb.out) hb)
 replace HFc:=Lib.hid (RbAt.below (w:=_) (by exact HFc.out) hb)
 replace HFs:=Lib.hid (RbAt.below (w:=_) (by exact HFs.out) hb)
 replace HBA:=Lib.hid (bthen (by first|exact HBA.out|exact zaj HBA.out) hb)
 clear hb
 refine hK.out _ _ ⟨HFa.out.c0,HFa.out.c1,HFb.out.c0,HFb.out.c1,HFs.out.c0,HFs.out.c1,HFc.out.c0,HFc.out.c1⟩ (fun hHeld => ?_)
 clear hK K
 refine norm_ (a':=?_) ?_ ?_
 rotate_left
 ·show Act.put _ (some 61) _=_
  simp only [Act.put,List.setIfInBounds_toArray,List.set_cons_zero,List.set_cons_succ]
  rfl
 refine one_ (i:=19) (N:=some 63) #[true,true,true,true,true,true,true,true,true,true,true,true,true,true,true,true,true,true,true,true,false,false,false] rfl rfl (by kernel_rfl) (by decide) (fun K hK => ?_)
 refine goes_ Tryz.func61 (by kernel_rfl) rfl #[.agg #[.string b0,.string b1]] (by rfl) rfl rfl (by (try simp only [List.map_toArray,List.map_cons,List.map_nil]); first|done|rfl) ?_
 refine (HV.out _).mono ?_
 rintro e wn ⟨rfl,hb⟩
 refine ⟨_,rfl,?_⟩
 replace HFa:=Lib.hid (RbAt.below (w:=_) (by exact HFa.out) hb)
 replace HFb:=Lib.hid (RbAt.below (w:=_) (by exact HFb.out) hb)
 replace HFc:=Lib.hid (RbAt.below (w:=_) (by exact HFc.out) hb)
 replace HFs:=Lib.hid (RbAt.below (w:=_) (by exact HFs.out) hb)
 replace HBA:=Lib.hid (bthen (by first|exact HBA.out|exact zaj HBA.out) hb)
 clear hb
 refine hK.out _ _ ⟨HFa.out.c0,HFa.out.c1,HFb.out.c0,HFb.out.c1,HFs.out.c0,HFs.out.c1,HFc.out.c0,HFc.out.c1⟩ (fun hHeld => ?_)
 clear hK K
 refine norm_ (a':=?_) ?_ ?_
 rotate_left
 ·show Act.put _ (some 63) _=_
  simp only [Act.put,List.setIfInBounds_toArray,List.set_cons_zero,List.set_cons_succ]
  rfl
 refine one_ (i:=20) (N:=some 64) #[true,true,true,true,true,true,true,true,true,true,true,true,true,true,true,true,true,true,true,true,true,false,false] rfl rfl (by kernel_rfl) (by decide) (fun K hK => ?_)
 refine goes_ Tryz.func63 (by kernel_rfl) rfl #[.agg #[.bool q0,.string q1,.string q2],.agg #[.bool r0,.string r1,.string r2]] (by rfl) rfl rfl (by (try simp only [List.map_toArray,List.map_cons,List.map_nil]); first|done|rfl) ?_
 refine (HC2.out _).mono ?_
 rintro e wn ⟨rfl,hb⟩
 refine ⟨_,rfl,?_⟩
 replace HFa:=Lib.hid (RbAt.below (w:=_) (by exact HFa.out) hb)
 replace HFb:=Lib.hid (RbAt.below (w:=_) (by exact HFb.out) hb)
 replace HFc:=Lib.hid (RbAt.below (w:=_) (by exact HFc.out) hb)
 replace HFs:=Lib.hid (RbAt.below (w:=_) (by exact HFs.out) hb)
 replace HBA:=Lib.hid (bthen (by first|exact HBA.out|exact zaj HBA.out) hb)
 clear hb
 refine hK.out _ _ ⟨HFa.out.c0,HFa.out.c1,HFb.out.c0,HFb.out.c1,HFs.out.c0,HFs.out.c1,HFc.out.c0,HFc.out.c1⟩ (fun hHeld => ?_)
 clear hK K
 refine norm_ (a':=?_) ?_ ?_
 rotate_left
 ·show Act.put _ (some 64) _=_
  simp only [Act.put,List.setIfInBounds_toArray,List.set_cons_zero,List.set_cons_succ]
  rfl
 refine pure_ (i:=21) (N:=some 65) (v:=?_) (a':=?_) #[true,true,true,true,true,true,true,true,true,true,true,true,true,true,true,true,true,true,true,true,true,true,false] rfl rfl (by kernel_rfl) (fun _ _ _ h=>h) (Or.inl ⟨by rfl,?_⟩) ?_ ?_
 rotate_left
 ·intro w'
  go_simp
  with_reducible rfl
 rotate_left
 ·simp only [Act.put,List.setIfInBounds_toArray,List.set_cons_zero,List.set_cons_succ]
  rfl
 refine pure_ (i:=22) (N:=some 66) (v:=?_) (a':=?_) #[true,true,true,true,true,true,true,true,true,true,true,true,true,true,true,true,true,true,true,true,true,true,true] rfl rfl (by kernel_rfl) (fun _ _ _ h=>h) (Or.inl ⟨by rfl,?_⟩) ?_ ?_
 rotate_left
 ·intro w'
  go_simp
  with_reducible rfl
 rotate_left
 ·simp only [Act.put,List.setIfInBounds_toArray,List.set_cons_zero,List.set_cons_succ]
  rfl
 refine done_ (by kernel_rfl) ?_
 clear d1 d2
 by_cases h3:k3≤0
 ·have d3:decide (k3≤0)=true:=decide_eq_true h3
  by_cases h4:k4≤0
  ·have d4:decide (k4≤0)=true:=decide_eq_true h4
   have hm:=HM.out h3 h4
   clear HM
   obtain ⟨hl,hb2⟩:=hm
   have HB2:=Lib.hid hb2
   clear hb2
   go_wp2_with fail
   refine start_ (n:=14) (S:=(fun w'=>w'.cell? ⟨w.heap.size,0,none⟩=some (.string a0)∧w'.cell? ⟨w.heap.size,1,none⟩=some (.string a1)∧w'.cell? ⟨PB,0,none⟩=some (.string b0)∧w'.cell? ⟨PB,1,none⟩=some (.string b1)∧w'.cell? ⟨Ps,0,none⟩=some (.string s0)∧w'.cell? ⟨Ps,1,none⟩=some (.string s1)∧w'.cell? ⟨PC,0,none⟩=some (.string c0)∧w'.cell? ⟨PC,1,none⟩=some (.string c1))) (ds:=[]) #[false,false,false,false,false,false,false,false,false,false,false,false,false,false] (by kernel_rfl) rfl rfl ⟨HFa.out.c0,HFa.out.c1,HFb.out.c0,HFb.out.c1,HFs.out.c0,HFs.out.c1,HFc.out.c0,HFc.out.c1⟩ (fun hHeld => ?_)
   refine take_ (i:=0) (N:=some 67) (v:=?_) (a':=?_) #[true,false,false,false,false,false,false,false,false,false,false,false,false,false] rfl rfl (by kernel_rfl) (fun _ _ _ h=>h) (Or.inl ⟨by rfl,?_⟩) hHeld ?_ ?_
   rotate_left
   ·rintro w' ⟨s0,s1,s2,s3,s4,s5,s6,s7⟩
    go_simp
    with_reducible rfl
   rotate_left
   ·simp only [Act.put,List.setIfInBounds_toArray,List.set_cons_zero,List.set_cons_succ]
    rfl
   refine take_ (i:=2) (N:=some 69) (v:=?_) (a':=?_) #[true,false,true,false,false,false,false,false,false,false,false,false,false,false] rfl rfl (by kernel_rfl) (fun _ _ _ h=>h) (Or.inl ⟨by rfl,?_⟩) hHeld ?_ ?_
   rotate_left
   ·rintro w' ⟨s0,s1,s2,s3,s4,s5,s6,s7⟩
    go_simp
    with_reducible rfl
   rotate_left
   ·simp only [Act.put,List.setIfInBounds_toArray,List.set_cons_zero,List.set_cons_succ]
    rfl
   refine one_ (i:=1) (N:=some 68) #[true,true,true,false,false,false,false,false,false,false,false,false,false,false] rfl rfl (by kernel_rfl) (by decide) (fun K hK => ?_)
   refine goes_ Tryz.func61 (by kernel_rfl) rfl #[.agg #[.string a0,.string a1]] (by rfl) rfl rfl (by (try simp only [List.map_toArray,List.map_cons,List.map_nil]); first|done|rfl) ?_
   refine (HP.out _).mono ?_
   rintro e wn ⟨rfl,hb⟩
   refine ⟨_,rfl,?_⟩
   replace HFa:=Lib.hid (RbAt.below (w:=_) (by exact HFa.out) hb)
   replace HFb:=Lib.hid (RbAt.below (w:=_) (by exact HFb.out) hb)
   replace HFc:=Lib.hid (RbAt.below (w:=_) (by exact HFc.out) hb)
   replace HFs:=Lib.hid (RbAt.below (w:=_) (by exact HFs.out) hb)
   replace HBA:=Lib.hid (bthen (by first|exact HBA.out|exact zaj HBA.out) hb)
   clear hb
   refine hK.out _ _ ⟨HFa.out.c0,HFa.out.c1,HFb.out.c0,HFb.out.c1,HFs.out.c0,HFs.out.c1,HFc.out.c0,HFc.out.c1⟩ (fun hHeld => ?_)
   clear hK K
   refine norm_ (a':=?_) ?_ ?_
   rotate_left
   ·show Act.put _ (some 68) _=_
    simp only [Act.put,List.setIfInBounds_toArray,List.set_cons_zero,List.set_cons_succ]
    rfl
   refine one_ (i:=3) (N:=some 70) #[true,true,true,true,false,false,false,false,false,false,false,false,false,false] rfl rfl (by kernel_rfl) (by decide) (fun K hK => ?_)
   refine goes_ Tryz.func61 (by kernel_rfl) rfl #[.agg #[.string c0,.string c1]] (by rfl) rfl rfl (by (try simp only [List.map_toArray,List.map_cons,List.map_nil]); first|done|rfl) ?_
   refine (HT.out _).mono ?_
   rintro e wn ⟨rfl,hb⟩
   refine ⟨_,rfl,?_⟩
   replace HFa:=Lib.hid (RbAt.below (w:=_) (by exact HFa.out) hb)
   replace HFb:=Lib.hid (RbAt.below (w:=_) (by exact HFb.out) hb)
   replace HFc:=Lib.hid (RbAt.below (w:=_) (by exact HFc.out) hb)
   replace HFs:=Lib.hid (RbAt.below (w:=_) (by exact HFs.out) hb)
   replace HBA:=Lib.hid (bthen (by first|exact HBA.out|exact zaj HBA.out) hb)
   clear hb
   refine hK.out _ _ ⟨HFa.out.c0,HFa.out.c1,HFb.out.c0,HFb.out.c1,HFs.out.c0,HFs.out.c1,HFc.out.c0,HFc.out.c1⟩ (fun hHeld => ?_)
   clear hK K
   refine norm_ (a':=?_) ?_ ?_
   rotate_left
   ·show Act.put _ (some 70) _=_
    simp only [Act.put,List.setIfInBounds_toArray,List.set_cons_zero,List.set_cons_succ]
    rfl
   refine one_ (i:=4) (N:=some 71) #[true,true,true,true,true,false,false,false,false,false,false,false,false,false] rfl rfl (by kernel_rfl) (by decide) (fun K hK => ?_)
   refine goes_ Tryz.func63 (by kernel_rfl) rfl #[.agg #[.bool p0,.string p1,.string p2],.agg #[.bool t0,.string t1,.string t2]] (by rfl) rfl rfl (by (try simp only [List.map_toArray,List.map_cons,List.map_nil]); first|done|rfl) ?_
   refine (HC3.out _).mono ?_
   rintro e wn ⟨rfl,hb⟩
   refine ⟨_,rfl,?_⟩
   replace HFa:=Lib.hid (RbAt.below (w:=_) (by exact HFa.out) hb)
   replace HFb:=Lib.hid (RbAt.below (w:=_) (by exact HFb.out) hb)
   replace HFc:=Lib.hid (RbAt.below (w:=_) (by exact HFc.out) hb)
   replace HFs:=Lib.hid (RbAt.below (w:=_) (by exact HFs.out) hb)
   replace HBA:=Lib.hid (bthen (by first|exact HBA.out|exact zaj HBA.out) hb)
   clear hb
   refine hK.out _ _ ⟨HFa.out.c0,HFa.out.c1,HFb.out.c0,HFb.out.c1,HFs.out.c0,HFs.out.c1,HFc.out.c0,HFc.out.c1⟩ (fun hHeld => ?_)
   clear hK K
   refine norm_ (a':=?_) ?_ ?_
   rotate_left
   ·show Act.put _ (some 71) _=_
    simp only [Act.put,List.setIfInBounds_toArray,List.set_cons_zero,List.set_cons_succ]
    rfl
   refine pure_ (i:=5) (N:=some 72) (v:=?_) (a':=?_) #[true,true,true,true,true,true,false,false,false,false,false,false,false,false] rfl rfl (by kernel_rfl) (fun _ _ _ h=>h) (Or.inl ⟨by rfl,?_⟩) ?_ ?_
   rotate_left
   ·intro w'
    go_simp
    with_reducible rfl
   rotate_left
   ·simp only [Act.put,List.setIfInBounds_toArray,List.set_cons_zero,List.set_cons_succ]
    rfl
   refine pure_ (i:=6) (N:=some 73) (v:=?_) (a':=?_) #[true,true,true,true,true,true,true,false,false,false,false,false,false,false] rfl rfl (by kernel_rfl) (fun _ _ _ h=>h) (Or.inl ⟨by rfl,?_⟩) ?_ ?_
   rotate_left
   ·intro w'
    go_simp
    with_reducible rfl
   rotate_left
   ·simp only [Act.put,List.setIfInBounds_toArray,List.set_cons_zero,List.set_cons_succ]
    rfl
   refine take_ (i:=7) (N:=some 74) (v:=?_) (a':=?_) #[true,true,true,true,true,true,true,true,false,false,false,false,false,false] rfl rfl (by kernel_rfl) (fun _ _ _ h=>h) (Or.inl ⟨by rfl,?_⟩) hHeld ?_ ?_
   rotate_left
   ·rintro w' ⟨s0,s1,s2,s3,s4,s5,s6,s7⟩
    go_simp
    with_reducible rfl
   rotate_left
   ·simp only [Act.put,List.setIfInBounds_toArray,List.set_cons_zero,List.set_cons_succ]
    rfl
   refine take_ (i:=9) (N:=some 76) (v:=?_) (a':=?_) #[true,true,true,true,true,true,true,true,false,true,false,false,false,false] rfl rfl (by kernel_rfl) (fun _ _ _ h=>h) (Or.inl ⟨by rfl,?_⟩) hHeld ?_ ?_
   rotate_left
   ·rintro w' ⟨s0,s1,s2,s3,s4,s5,s6,s7⟩
    go_simp
    with_reducible rfl
   rotate_left
   ·simp only [Act.put,List.setIfInBounds_toArray,List.set_cons_zero,List.set_cons_succ]
    rfl
   refine one_ (i:=8) (N:=some 75) #[true,true,true,true,true,true,true,true,true,true,false,false,false,false] rfl rfl (by kernel_rfl) (by decide) (fun K hK => ?_)
   refine goes_ Tryz.func61 (by kernel_rfl) rfl #[.agg #[.string c0,.string c1]] (by rfl) rfl rfl (by (try simp only [List.map_toArray,List.map_cons,List.map_nil]); first|done|rfl) ?_
   refine (HT.out _).mono ?_
   rintro e wn ⟨rfl,hb⟩
   refine ⟨_,rfl,?_⟩
   replace HFa:=Lib.hid (RbAt.below (w:=_) (by exact HFa.out) hb)
   replace HFb:=Lib.hid (RbAt.below (w:=_) (by exact HFb.out) hb)
   replace HFc:=Lib.hid (RbAt.below (w:=_) (by exact HFc.out) hb)
   replace HFs:=Lib.hid (RbAt.below (w:=_) (by exact HFs.out) hb)
   replace HBA:=Lib.hid (bthen (by first|exact HBA.out|exact zaj HBA.out) hb)
   clear hb
   refine hK.out _ _ ⟨HFa.out.c0,HFa.out.c1,HFb.out.c0,HFb.out.c1,HFs.out.c0,HFs.out.c1,HFc.out.c0,HFc.out.c1⟩ (fun hHeld => ?_)
   clear hK K
   refine norm_ (a':=?_) ?_ ?_
   rotate_left
   ·show Act.put _ (some 75) _=_
    simp only [Act.put,List.setIfInBounds_toArray,List.set_cons_zero,List.set_cons_succ]
    rfl
   refine one_ (i:=10) (N:=some 77) #[true,true,true,true,true,true,true,true,true,true,true,false,false,false] rfl rfl (by kernel_rfl) (by decide) (fun K hK => ?_)
   refine goes_ Tryz.func61 (by kernel_rfl) rfl #[.agg #[.string b0,.string b1]] (by rfl) rfl rfl (by (try simp only [List.map_toArray,List.map_cons,List.map_nil]); first|done|rfl) ?_
   refine (HV.out _).mono ?_
   rintro e wn ⟨rfl,hb⟩
   refine ⟨_,rfl,?_⟩
   replace HFa:=Lib.hid (RbAt.below (w:=_) (by exact HFa.out) hb)
   replace HFb:=Lib.hid (RbAt.below (w:=_) (by exact HFb.out) hb)
   replace HFc:=Lib.hid (RbAt.below (w:=_) (by exact HFc.out) hb)
   replace HFs:=Lib.hid (RbAt.below (w:=_) (by exact HFs.out) hb)
   replace HBA:=Lib.hid (bthen (by first|exact HBA.out|exact zaj HBA.out) hb)
   clear hb
   refine hK.out _ _ ⟨HFa.out.c0,HFa.out.c1,HFb.out.c0,HFb.out.c1,HFs.out.c0,HFs.out.c1,HFc.out.c0,HFc.out.c1⟩ (fun hHeld => ?_)
   clear hK K
   refine norm_ (a':=?_) ?_ ?_
   rotate_left
   ·show Act.put _ (some 77) _=_
    simp only [Act.put,List.setIfInBounds_toArray,List.set_cons_zero,List.set_cons_succ]
    rfl
   refine one_ (i:=11) (N:=some 78) #[true,true,true,true,true,true,true,true,true,true,true,true,false,false] rfl rfl (by kernel_rfl) (by decide) (fun K hK => ?_)
   refine goes_ Tryz.func63 (by kernel_rfl) rfl #[.agg #[.bool t0,.string t1,.string t2],.agg #[.bool r0,.string r1,.string r2]] (by rfl) rfl rfl (by (try simp only [List.map_toArray,List.map_cons,List.map_nil]); first|done|rfl) ?_
   refine (HC4.out _).mono ?_
   rintro e wn ⟨rfl,hb⟩
   refine ⟨_,rfl,?_⟩
   replace HFa:=Lib.hid (RbAt.below (w:=_) (by exact HFa.out) hb)
   replace HFb:=Lib.hid (RbAt.below (w:=_) (by exact HFb.out) hb)
   replace HFc:=Lib.hid (RbAt.below (w:=_) (by exact HFc.out) hb)
   replace HFs:=Lib.hid (RbAt.below (w:=_) (by exact HFs.out) hb)
   replace HBA:=Lib.hid (bthen (by first|exact HBA.out|exact zaj HBA.out) hb)
   clear hb
   refine hK.out _ _ ⟨HFa.out.c0,HFa.out.c1,HFb.out.c0,HFb.out.c1,HFs.out.c0,HFs.out.c1,HFc.out.c0,HFc.out.c1⟩ (fun hHeld => ?_)
   clear hK K
   refine norm_ (a':=?_) ?_ ?_
   rotate_left
   ·show Act.put _ (some 78) _=_
    simp only [Act.put,List.setIfInBounds_toArray,List.set_cons_zero,List.set_cons_succ]
    rfl
   refine pure_ (i:=12) (N:=some 79) (v:=?_) (a':=?_) #[true,true,true,true,true,true,true,true,true,true,true,true,true,false] rfl rfl (by kernel_rfl) (fun _ _ _ h=>h) (Or.inl ⟨by rfl,?_⟩) ?_ ?_
   rotate_left
   ·intro w'
    go_simp
    with_reducible rfl
   rotate_left
   ·simp only [Act.put,List.setIfInBounds_toArray,List.set_cons_zero,List.set_cons_succ]
    rfl
   refine pure_ (i:=13) (N:=some 80) (v:=?_) (a':=?_) #[true,true,true,true,true,true,true,true,true,true,true,true,true,true] rfl rfl (by kernel_rfl) (fun _ _ _ h=>h) (Or.inl ⟨by rfl,?_⟩) ?_ ?_
   rotate_left
   ·intro w'
    go_simp
    with_reducible rfl
   rotate_left
   ·simp only [Act.put,List.setIfInBounds_toArray,List.set_cons_zero,List.set_cons_succ]
    rfl
   refine done_ (by kernel_rfl) ?_
   have pc1:=HFc.out.c1
   have ps1:=HFs.out.c1
   by_cases he:c1.size=s1.size
   ·have g1:((c1.size:Int) == (s1.size:Int))=true:=beq_iff_eq.2 (by omega)
    have g2:=HB2.out he
    clear he
    go_wp2_with fail
    refine (HW.out _).mono ?_
    rintro e w11 ⟨rfl,hb⟩
    have HF:=Lib.hid (bthen HBA.out hb)
    clear hb
    go_wp2
    go_ret
    exact ⟨rfl,HF.out⟩
   ·have g1:((c1.size:Int) == (s1.size:Int))=false:=beq_eq_false_iff_ne.2 (by omega)
    clear he
    go_wp2_with fail
    refine (HW.out _).mono ?_
    rintro e w12 ⟨rfl,hb⟩
    have HF:=Lib.hid (bthen HBA.out hb)
    clear hb
    go_wp2
    go_ret
    exact ⟨rfl,HF.out⟩
  ·have d4:decide (k4≤0)=false:=decide_eq_false h4
   go_wp2_with fail
   refine start_ (n:=14) (S:=(fun w'=>w'.cell? ⟨w.heap.size,0,none⟩=some (.string a0)∧w'.cell? ⟨w.heap.size,1,none⟩=some (.string a1)∧w'.cell? ⟨PB,0,none⟩=some (.string b0)∧w'.cell? ⟨PB,1,none⟩=some (.string b1)∧w'.cell? ⟨Ps,0,none⟩=some (.string s0)∧w'.cell? ⟨Ps,1,none⟩=some (.string s1)∧w'.cell? ⟨PC,0,none⟩=some (.string c0)∧w'.cell? ⟨PC,1,none⟩=some (.string c1))) (ds:=[]) #[false,false,false,false,false,false,false,false,false,false,false,false,false,false] (by kernel_rfl) rfl rfl ⟨HFa.out.c0,HFa.out.c1,HFb.out.c0,HFb.out.c1,HFs.out.c0,HFs.out.c1,HFc.out.c0,HFc.out.c1⟩ (fun hHeld => ?_)
   refine take_ (i:=0) (N:=some 67) (v:=?_) (a':=?_) #[true,false,false,false,false,false,false,false,false,false,false,false,false,false] rfl rfl (by kernel_rfl) (fun _ _ _ h=>h) (Or.inl ⟨by rfl,?_⟩) hHeld ?_ ?_
   rotate_left
   ·rintro w' ⟨s0,s1,s2,s3,s4,s5,s6,s7⟩
    go_simp
    with_reducible rfl
   rotate_left
   ·simp only [Act.put,List.setIfInBounds_toArray,List.set_cons_zero,List.set_cons_succ]
    rfl
   refine take_ (i:=2) (N:=some 69) (v:=?_) (a':=?_) #[true,false,true,false,false,false,false,false,false,false,false,false,false,false] rfl rfl (by kernel_rfl) (fun _ _ _ h=>h) (Or.inl ⟨by rfl,?_⟩) hHeld ?_ ?_
   rotate_left
   ·rintro w' ⟨s0,s1,s2,s3,s4,s5,s6,s7⟩
    go_simp
    with_reducible rfl
   rotate_left
   ·simp only [Act.put,List.setIfInBounds_toArray,List.set_cons_zero,List.set_cons_succ]
    rfl
   refine one_ (i:=1) (N:=some 68) #[true,true,true,false,false,false,false,false,false,false,false,false,false,false] rfl rfl (by kernel_rfl) (by decide) (fun K hK => ?_)
   refine goes_ Tryz.func61 (by kernel_rfl) rfl #[.agg #[.string a0,.string a1]] (by rfl) rfl rfl (by (try simp only [List.map_toArray,List.map_cons,List.map_nil]); first|done|rfl) ?_
   refine (HP.out _).mono ?_
   rintro e wn ⟨rfl,hb⟩
   refine ⟨_,rfl,?_⟩
   replace HFa:=Lib.hid (RbAt.below (w:=_) (by exact HFa.out) hb)
   replace HFb:=Lib.hid (RbAt.below (w:=_) (by exact HFb.out) hb)
   replace HFc:=Lib.hid (RbAt.below (w:=_) (by exact HFc.out) hb)
   replace HFs:=Lib.hid (RbAt.below (w:=_) (by exact HFs.out) hb)
   replace HBA:=Lib.hid (bthen (by first|exact HBA.out|exact zaj HBA.out) hb)
   clear hb
   refine hK.out _ _ ⟨HFa.out.c0,HFa.out.c1,HFb.out.c0,HFb.out.c1,HFs.out.c0,HFs.out.c1,HFc.out.c0,HFc.out.c1⟩ (fun hHeld => ?_)
   clear hK K
   refine norm_ (a':=?_) ?_ ?_
   rotate_left
   ·show Act.put _ (some 68) _=_
    simp only [Act.put,List.setIfInBounds_toArray,List.set_cons_zero,List.set_cons_succ]
    rfl
   refine one_ (i:=3) (N:=some 70) #[true,true,true,true,false,false,false,false,false,false,false,false,false,false] rfl rfl (by kernel_rfl) (by decide) (fun K hK => ?_)
   refine goes_ Tryz.func61 (by kernel_rfl) rfl #[.agg #[.string c0,.string c1]] (by rfl) rfl rfl (by (try simp only [List.map_toArray,List.map_cons,List.map_nil]); first|done|rfl) ?_
   refine (HT.out _).mono ?_
   rintro e wn ⟨rfl,hb⟩
   refine ⟨_,rfl,?_⟩
   replace HFa:=Lib.hid (RbAt.below (w:=_) (by exact HFa.out) hb)
   replace HFb:=Lib.hid (RbAt.below (w:=_) (by exact HFb.out) hb)
   replace HFc:=Lib.hid (RbAt.below (w:=_) (by exact HFc.out) hb)
   replace HFs:=Lib.hid (RbAt.below (w:=_) (by exact HFs.out) hb)
   replace HBA:=Lib.hid (bthen (by first|exact HBA.out|exact zaj HBA.out) hb)
   clear hb
   refine hK.out _ _ ⟨HFa.out.c0,HFa.out.c1,HFb.out.c0,HFb.out.c1,HFs.out.c0,HFs.out.c1,HFc.out.c0,HFc.out.c1⟩ (fun hHeld => ?_)
   clear hK K
   refine norm_ (a':=?_) ?_ ?_
   rotate_left
   ·show Act.put _ (some 70) _=_
    simp only [Act.put,List.setIfInBounds_toArray,List.set_cons_zero,List.set_cons_succ]
    rfl
   refine one_ (i:=4) (N:=some 71) #[true,true,true,true,true,false,false,false,false,false,false,false,false,false] rfl rfl (by kernel_rfl) (by decide) (fun K hK => ?_)
   refine goes_ Tryz.func63 (by kernel_rfl) rfl #[.agg #[.bool p0,.string p1,.string p2],.agg #[.bool t0,.string t1,.string t2]] (by rfl) rfl rfl (by (try simp only [List.map_toArray,List.map_cons,List.map_nil]); first|done|rfl) ?_
   refine (HC3.out _).mono ?_
   rintro e wn ⟨rfl,hb⟩
   refine ⟨_,rfl,?_⟩
   replace HFa:=Lib.hid (RbAt.below (w:=_) (by exact HFa.out) hb)
   replace HFb:=Lib.hid (RbAt.below (w:=_) (by exact HFb.out) hb)
   replace HFc:=Lib.hid (RbAt.below (w:=_) (by exact HFc.out) hb)
   replace HFs:=Lib.hid (RbAt.below (w:=_) (by exact HFs.out) hb)
   replace HBA:=Lib.hid (bthen (by first|exact HBA.out|exact zaj HBA.out) hb)
   clear hb
   refine hK.out _ _ ⟨HFa.out.c0,HFa.out.c1,HFb.out.c0,HFb.out.c1,HFs.out.c0,HFs.out.c1,HFc.out.c0,HFc.out.c1⟩ (fun hHeld => ?_)
   clear hK K
   refine norm_ (a':=?_) ?_ ?_
   rotate_left
   ·show Act.put _ (some 71) _=_
    simp only [Act.put,List.setIfInBounds_toArray,List.set_cons_zero,List.set_cons_succ]
    rfl
   refine pure_ (i:=5) (N:=some 72) (v:=?_) (a':=?_) #[true,true,true,true,true,true,false,false,false,false,false,false,false,false] rfl rfl (by kernel_rfl) (fun _ _ _ h=>h) (Or.inl ⟨by rfl,?_⟩) ?_ ?_
   rotate_left
   ·intro w'
    go_simp
    with_reducible rfl
   rotate_left
   ·simp only [Act.put,List.setIfInBounds_toArray,List.set_cons_zero,List.set_cons_succ]
    rfl
   refine pure_ (i:=6) (N:=some 73) (v:=?_) (a':=?_) #[true,true,true,true,true,true,true,false,false,false,false,false,false,false] rfl rfl (by kernel_rfl) (fun _ _ _ h=>h) (Or.inl ⟨by rfl,?_⟩) ?_ ?_
   rotate_left
   ·intro w'
    go_simp
    with_reducible rfl
   rotate_left
   ·simp only [Act.put,List.setIfInBounds_toArray,List.set_cons_zero,List.set_cons_succ]
    rfl
   refine take_ (i:=7) (N:=some 74) (v:=?_) (a':=?_) #[true,true,true,true,true,true,true,true,false,false,false,false,false,false] rfl rfl (by kernel_rfl) (fun _ _ _ h=>h) (Or.inl ⟨by rfl,?_⟩) hHeld ?_ ?_
   rotate_left
   ·rintro w' ⟨s0,s1,s2,s3,s4,s5,s6,s7⟩
    go_simp
    with_reducible rfl
   rotate_left
   ·simp only [Act.put,List.setIfInBounds_toArray,List.set_cons_zero,List.set_cons_succ]
    rfl
   refine take_ (i:=9) (N:=some 76) (v:=?_) (a':=?_) #[true,true,true,true,true,true,true,true,false,true,false,false,false,false] rfl rfl (by kernel_rfl) (fun _ _ _ h=>h) (Or.inl ⟨by rfl,?_⟩) hHeld ?_ ?_
   rotate_left
   ·rintro w' ⟨s0,s1,s2,s3,s4,s5,s6,s7⟩
    go_simp
    with_reducible rfl
   rotate_left
   ·simp only [Act.put,List.setIfInBounds_toArray,List.set_cons_zero,List.set_cons_succ]
    rfl
   refine one_ (i:=8) (N:=some 75) #[true,true,true,true,true,true,true,true,true,true,false,false,false,false] rfl rfl (by kernel_rfl) (by decide) (fun K hK => ?_)
   refine goes_ Tryz.func61 (by kernel_rfl) rfl #[.agg #[.string c0,.string c1]] (by rfl) rfl rfl (by (try simp only [List.map_toArray,List.map_cons,List.map_nil]); first|done|rfl) ?_
   refine (HT.out _).mono ?_
   rintro e wn ⟨rfl,hb⟩
   refine ⟨_,rfl,?_⟩
   replace HFa:=Lib.hid (RbAt.below (w:=_) (by exact HFa.out) hb)
   replace HFb:=Lib.hid (RbAt.below (w:=_) (by exact HFb.out) hb)
   replace HFc:=Lib.hid (RbAt.below (w:=_) (by exact HFc.out) hb)
   replace HFs:=Lib.hid (RbAt.below (w:=_) (by exact HFs.out) hb)
   replace HBA:=Lib.hid (bthen (by first|exact HBA.out|exact zaj HBA.out) hb)
   clear hb
   refine hK.out _ _ ⟨HFa.out.c0,HFa.out.c1,HFb.out.c0,HFb.out.c1,HFs.out.c0,HFs.out.c1,HFc.out.c0,HFc.out.c1⟩ (fun hHeld => ?_)
   clear hK K
   refine norm_ (a':=?_) ?_ ?_
   rotate_left
   ·show Act.put _ (some 75) _=_
    simp only [Act.put,List.setIfInBounds_toArray,List.set_cons_zero,List.set_cons_succ]
    rfl
   refine one_ (i:=10) (N:=some 77) #[true,true,true,true,true,true,true,true,true,true,true,false,false,false] rfl rfl (by kernel_rfl) (by decide) (fun K hK => ?_)
   refine goes_ Tryz.func61 (by kernel_rfl) rfl #[.agg #[.string b0,.string b1]] (by rfl) rfl rfl (by (try simp only [List.map_toArray,List.map_cons,List.map_nil]); first|done|rfl) ?_
   refine (HV.out _).mono ?_
   rintro e wn ⟨rfl,hb⟩
   refine ⟨_,rfl,?_⟩
   replace HFa:=Lib.hid (RbAt.below (w:=_) (by exact HFa.out) hb)
   replace HFb:=Lib.hid (RbAt.below (w:=_) (by exact HFb.out) hb)
   replace HFc:=Lib.hid (RbAt.below (w:=_) (by exact HFc.out) hb)
   replace HFs:=Lib.hid (RbAt.below (w:=_) (by exact HFs.out) hb)
   replace HBA:=Lib.hid (bthen (by first|exact HBA.out|exact zaj HBA.out) hb)
   clear hb
   refine hK.out _ _ ⟨HFa.out.c0,HFa.out.c1,HFb.out.c0,HFb.out.c1,HFs.out.c0,HFs.out.c1,HFc.out.c0,HFc.out.c1⟩ (fun hHeld => ?_)
   clear hK K
   refine norm_ (a':=?_) ?_ ?_
   rotate_left
   ·show Act.put _ (some 77) _=_
    simp only [Act.put,List.setIfInBounds_toArray,List.set_cons_zero,List.set_cons_succ]
    rfl
   refine one_ (i:=11) (N:=some 78) #[true,true,true,true,true,true,true,true,true,true,true,true,false,false] rfl rfl (by kernel_rfl) (by decide) (fun K hK => ?_)
   refine goes_ Tryz.func63 (by kernel_rfl) rfl #[.agg #[.bool t0,.string t1,.string t2],.agg #[.bool r0,.string r1,.string r2]] (by rfl) rfl rfl (by (try simp only [List.map_toArray,List.map_cons,List.map_nil]); first|done|rfl) ?_
   refine (HC4.out _).mono ?_
   rintro e wn ⟨rfl,hb⟩
   refine ⟨_,rfl,?_⟩
   replace HFa:=Lib.hid (RbAt.below (w:=_) (by exact HFa.out) hb)
   replace HFb:=Lib.hid (RbAt.below (w:=_) (by exact HFb.out) hb)
   replace HFc:=Lib.hid (RbAt.below (w:=_) (by exact HFc.out) hb)
   replace HFs:=Lib.hid (RbAt.below (w:=_) (by exact HFs.out) hb)
   replace HBA:=Lib.hid (bthen (by first|exact HBA.out|exact zaj HBA.out) hb)
   clear hb
   refine hK.out _ _ ⟨HFa.out.c0,HFa.out.c1,HFb.out.c0,HFb.out.c1,HFs.out.c0,HFs.out.c1,HFc.out.c0,HFc.out.c1⟩ (fun hHeld => ?_)
   clear hK K
   refine norm_ (a':=?_) ?_ ?_
   rotate_left
   ·show Act.put _ (some 78) _=_
    simp only [Act.put,List.setIfInBounds_toArray,List.set_cons_zero,List.set_cons_succ]
    rfl
   refine pure_ (i:=12) (N:=some 79) (v:=?_) (a':=?_) #[true,true,true,true,true,true,true,true,true,true,true,true,true,false] rfl rfl (by kernel_rfl) (fun _ _ _ h=>h) (Or.inl ⟨by rfl,?_⟩) ?_ ?_
   rotate_left
   ·intro w'
    go_simp
    with_reducible rfl
   rotate_left
   ·simp only [Act.put,List.setIfInBounds_toArray,List.set_cons_zero,List.set_cons_succ]
    rfl
   refine pure_ (i:=13) (N:=some 80) (v:=?_) (a':=?_) #[true,true,true,true,true,true,true,true,true,true,true,true,true,true] rfl rfl (by kernel_rfl) (fun _ _ _ h=>h) (Or.inl ⟨by rfl,?_⟩) ?_ ?_
   rotate_left
   ·intro w'
    go_simp
    with_reducible rfl
   rotate_left
   ·simp only [Act.put,List.setIfInBounds_toArray,List.set_cons_zero,List.set_cons_succ]
    rfl
   refine done_ (by kernel_rfl) ?_
   go_wp2_with fail
   refine (HW.out _).mono ?_
   rintro e w13 ⟨rfl,hb⟩
   have HF:=Lib.hid (bthen HBA.out hb)
   clear hb
   go_wp2
   go_ret
   exact ⟨rfl,HF.out⟩
 ·have d3:decide (k3≤0)=false:=decide_eq_false h3
  go_wp2_with fail
  refine start_ (n:=14) (S:=(fun w'=>w'.cell? ⟨w.heap.size,0,none⟩=some (.string a0)∧w'.cell? ⟨w.heap.size,1,none⟩=some (.string a1)∧w'.cell? ⟨PB,0,none⟩=some (.string b0)∧w'.cell? ⟨PB,1,none⟩=some (.string b1)∧w'.cell? ⟨Ps,0,none⟩=some (.string s0)∧w'.cell? ⟨Ps,1,none⟩=some (.string s1)∧w'.cell? ⟨PC,0,none⟩=some (.string c0)∧w'.cell? ⟨PC,1,none⟩=some (.string c1))) (ds:=[]) #[false,false,false,false,false,false,false,false,false,false,false,false,false,false] (by kernel_rfl) rfl rfl ⟨HFa.out.c0,HFa.out.c1,HFb.out.c0,HFb.out.c1,HFs.out.c0,HFs.out.c1,HFc.out.c0,HFc.out.c1⟩ (fun hHeld => ?_)
  refine take_ (i:=0) (N:=some 67) (v:=?_) (a':=?_) #[true,false,false,false,false,false,false,false,false,false,false,false,false,false] rfl rfl (by kernel_rfl) (fun _ _ _ h=>h) (Or.inl ⟨by rfl,?_⟩) hHeld ?_ ?_
  rotate_left
  ·rintro w' ⟨s0,s1,s2,s3,s4,s5,s6,s7⟩
   go_simp
   with_reducible rfl
  rotate_left
  ·simp only [Act.put,List.setIfInBounds_toArray,List.set_cons_zero,List.set_cons_succ]
   rfl
  refine take_ (i:=2) (N:=some 69) (v:=?_) (a':=?_) #[true,false,true,false,false,false,false,false,false,false,false,false,false,false] rfl rfl (by kernel_rfl) (fun _ _ _ h=>h) (Or.inl ⟨by rfl,?_⟩) hHeld ?_ ?_
  rotate_left
  ·rintro w' ⟨s0,s1,s2,s3,s4,s5,s6,s7⟩
   go_simp
   with_reducible rfl
  rotate_left
  ·simp only [Act.put,List.setIfInBounds_toArray,List.set_cons_zero,List.set_cons_succ]
   rfl
  refine one_ (i:=1) (N:=some 68) #[true,true,true,false,false,false,false,false,false,false,false,false,false,false] rfl rfl (by kernel_rfl) (by decide) (fun K hK => ?_)
  refine goes_ Tryz.func61 (by kernel_rfl) rfl #[.agg #[.string a0,.string a1]] (by rfl) rfl rfl (by (try simp only [List.map_toArray,List.map_cons,List.map_nil]); first|done|rfl) ?_
  refine (HP.out _).mono ?_
  rintro e wn ⟨rfl,hb⟩
  refine ⟨_,rfl,?_⟩
  replace HFa:=Lib.hid (RbAt.below (w:=_) (by exact HFa.out) hb)
  replace HFb:=Lib.hid (RbAt.below (w:=_) (by exact HFb.out) hb)
  replace HFc:=Lib.hid (RbAt.below (w:=_) (by exact HFc.out) hb)
  replace HFs:=Lib.hid (RbAt.below (w:=_) (by exact HFs.out) hb)
  replace HBA:=Lib.hid (bthen (by first|exact HBA.out|exact zaj HBA.out) hb)
  clear hb
  refine hK.out _ _ ⟨HFa.out.c0,HFa.out.c1,HFb.out.c0,HFb.out.c1,HFs.out.c0,HFs.out.c1,HFc.out.c0,HFc.out.c1⟩ (fun hHeld => ?_)
  clear hK K
  refine norm_ (a':=?_) ?_ ?_
  rotate_left
  ·show Act.put _ (some 68) _=_
   simp only [Act.put,List.setIfInBounds_toArray,List.set_cons_zero,List.set_cons_succ]
   rfl
  refine one_ (i:=3) (N:=some 70) #[true,true,true,true,false,false,false,false,false,false,false,false,false,false] rfl rfl (by kernel_rfl) (by decide) (fun K hK => ?_)
  refine goes_ Tryz.func61 (by kernel_rfl) rfl #[.agg #[.string c0,.string c1]] (by rfl) rfl rfl (by (try simp only [List.map_toArray,List.map_cons,List.map_nil]); first|done|rfl) ?_
  refine (HT.out _).mono ?_
  rintro e wn ⟨rfl,hb⟩
  refine ⟨_,rfl,?_⟩
  replace HFa:=Lib.hid (RbAt.below (w:=_) (by exact HFa.out) hb)
  replace HFb:=Lib.hid (RbAt.below (w:=_) (by exact HFb.out) hb)
  replace HFc:=Lib.hid (RbAt.below (w:=_) (by exact HFc.out) hb)
  replace HFs:=Lib.hid (RbAt.below (w:=_) (by exact HFs.out) hb)
  replace HBA:=Lib.hid (bthen (by first|exact HBA.out|exact zaj HBA.out) hb)
  clear hb
  refine hK.out _ _ ⟨HFa.out.c0,HFa.out.c1,HFb.out.c0,HFb.out.c1,HFs.out.c0,HFs.out.c1,HFc.out.c0,HFc.out.c1⟩ (fun hHeld => ?_)
  clear hK K
  refine norm_ (a':=?_) ?_ ?_
  rotate_left
  ·show Act.put _ (some 70) _=_
   simp only [Act.put,List.setIfInBounds_toArray,List.set_cons_zero,List.set_cons_succ]
   rfl
  refine one_ (i:=4) (N:=some 71) #[true,true,true,true,true,false,false,false,false,false,false,false,false,false] rfl rfl (by kernel_rfl) (by decide) (fun K hK => ?_)
  refine goes_ Tryz.func63 (by kernel_rfl) rfl #[.agg #[.bool p0,.string p1,.string p2],.agg #[.bool t0,.string t1,.string t2]] (by rfl) rfl rfl (by (try simp only [List.map_toArray,List.map_cons,List.map_nil]); first|done|rfl) ?_
  refine (HC3.out _).mono ?_
  rintro e wn ⟨rfl,hb⟩
  refine ⟨_,rfl,?_⟩
  replace HFa:=Lib.hid (RbAt.below (w:=_) (by exact HFa.out) hb)
  replace HFb:=Lib.hid (RbAt.below (w:=_) (by exact HFb.out) hb)
  replace HFc:=Lib.hid (RbAt.below (w:=_) (by exact HFc.out) hb)
  replace HFs:=Lib.hid (RbAt.below (w:=_) (by exact HFs.out) hb)
  replace HBA:=Lib.hid (bthen (by first|exact HBA.out|exact zaj HBA.out) hb)
  clear hb
  refine hK.out _ _ ⟨HFa.out.c0,HFa.out.c1,HFb.out.c0,HFb.out.c1,HFs.out.c0,HFs.out.c1,HFc.out.c0,HFc.out.c1⟩ (fun hHeld => ?_)
  clear hK K
  refine norm_ (a':=?_) ?_ ?_
  rotate_left
  ·show Act.put _ (some 71) _=_
   simp only [Act.put,List.setIfInBounds_toArray,List.set_cons_zero,List.set_cons_succ]
   rfl
  refine pure_ (i:=5) (N:=some 72) (v:=?_) (a':=?_) #[true,true,true,true,true,true,false,false,false,false,false,false,false,false] rfl rfl (by kernel_rfl) (fun _ _ _ h=>h) (Or.inl ⟨by rfl,?_⟩) ?_ ?_
  rotate_left
  ·intro w'
   go_simp
   with_reducible rfl
  rotate_left
  ·simp only [Act.put,List.setIfInBounds_toArray,List.set_cons_zero,List.set_cons_succ]
   rfl
  refine pure_ (i:=6) (N:=some 73) (v:=?_) (a':=?_) #[true,true,true,true,true,true,true,false,false,false,false,false,false,false] rfl rfl (by kernel_rfl) (fun _ _ _ h=>h) (Or.inl ⟨by rfl,?_⟩) ?_ ?_
  rotate_left
  ·intro w'
   go_simp
   with_reducible rfl
  rotate_left
  ·simp only [Act.put,List.setIfInBounds_toArray,List.set_cons_zero,List.set_cons_succ]
   rfl
  refine pure_ (i:=7) (N:=some 74) (v:=undef) (a':=?_) #[true,true,true,true,true,true,true,true,false,false,false,false,false,false] rfl rfl (by kernel_rfl) (fun _ _ _ h=>h) (Or.inr ⟨by rfl,rfl⟩) ?_ ?_
  rotate_left
  ·simp only [Act.put,List.setIfInBounds_toArray,List.set_cons_zero,List.set_cons_succ]
   rfl
  refine pure_ (i:=8) (N:=some 75) (v:=undef) (a':=?_) #[true,true,true,true,true,true,true,true,true,false,false,false,false,false] rfl rfl (by kernel_rfl) (fun _ _ _ h=>h) (Or.inr ⟨by rfl,rfl⟩) ?_ ?_
  rotate_left
  ·simp only [Act.put,List.setIfInBounds_toArray,List.set_cons_zero,List.set_cons_succ]
   rfl
  refine pure_ (i:=9) (N:=some 76) (v:=undef) (a':=?_) #[true,true,true,true,true,true,true,true,true,true,false,false,false,false] rfl rfl (by kernel_rfl) (fun _ _ _ h=>h) (Or.inr ⟨by rfl,rfl⟩) ?_ ?_
  rotate_left
  ·simp only [Act.put,List.setIfInBounds_toArray,List.set_cons_zero,List.set_cons_succ]
   rfl
  refine pure_ (i:=10) (N:=some 77) (v:=undef) (a':=?_) #[true,true,true,true,true,true,true,true,true,true,true,false,false,false] rfl rfl (by kernel_rfl) (fun _ _ _ h=>h) (Or.inr ⟨by rfl,rfl⟩) ?_ ?_
  rotate_left
  ·simp only [Act.put,List.setIfInBounds_toArray,List.set_cons_zero,List.set_cons_succ]
   rfl
  refine pure_ (i:=11) (N:=some 78) (v:=undef) (a':=?_) #[true,true,true,true,true,true,true,true,true,true,true,true,false,false] rfl rfl (by kernel_rfl) (fun _ _ _ h=>h) (Or.inr ⟨by rfl,rfl⟩) ?_ ?_
  rotate_left
  ·simp only [Act.put,List.setIfInBounds_toArray,List.set_cons_zero,List.set_cons_succ]
   rfl
  refine pure_ (i:=12) (N:=some 79) (v:=undef) (a':=?_) #[true,true,true,true,true,true,true,true,true,true,true,true,true,false] rfl rfl (by kernel_rfl) (fun _ _ _ h=>h) (Or.inr ⟨by rfl,rfl⟩) ?_ ?_
  rotate_left
  ·simp only [Act.put,List.setIfInBounds_toArray,List.set_cons_zero,List.set_cons_succ]
   rfl
  refine pure_ (i:=13) (N:=some 80) (v:=?_) (a':=?_) #[true,true,true,true,true,true,true,true,true,true,true,true,true,true] rfl rfl (by kernel_rfl) (fun _ _ _ h=>h) (Or.inl ⟨by rfl,?_⟩) ?_ ?_
  rotate_left
  ·intro w'
   go_simp
   with_reducible rfl
  rotate_left
  ·simp only [Act.put,List.setIfInBounds_toArray,List.set_cons_zero,List.set_cons_succ]
   rfl
  refine done_ (by kernel_rfl) ?_
  go_wp2_with fail
  refine (HW.out _).mono ?_
  rintro e w14 ⟨rfl,hb⟩
  have HF:=Lib.hid (bthen HBA.out hb)
  clear hb
  go_wp2
  go_ret
  exact ⟨rfl,HF.out⟩
end Go.Proofs.ZQ
end
section
namespace Go.Proofs.ZQ
open Go.RowKit Go.Proofs.ZW.Wa Go.Proofs.ZP
noncomputable def rat_Floor.f (a0_0 a0_1:ByteArray):Option (ByteArray×ByteArray×Int):=oneF (fun x=>0) (fun x=>((x.floor:Int):Rat)) a0_0 a0_1
end Go.Proofs.ZQ
end
section
namespace Go.Proofs.ZP
inductive Simp:Rat→Rat→Rat→Prop
 | whole (x y:Rat) (h:((x.floor:Int):Rat)=x):Simp x y ((x.floor:Int):Rat)
 | up (x y:Rat) (h:((x.floor:Int):Rat)≠x) (k:((x.floor:Int):Rat)+1≤y):Simp x y (((x.floor:Int):Rat)+1)
 | inner (x y s:Rat) (h:((x.floor:Int):Rat)≠x) (k:¬ ((x.floor:Int):Rat)+1≤y) (r:Simp (y-((x.floor:Int):Rat))⁻¹ (x-((x.floor:Int):Rat))⁻¹ s):Simp x y (((x.floor:Int):Rat)+s⁻¹)
theorem fl_le (x:Rat):((x.floor:Int):Rat)≤x:=Rat.floor_le x
theorem fl_lt (x:Rat):x<((x.floor:Int):Rat)+1:=by
 have:=Rat.lt_floor_add_one x
 rwa [Rat.intCast_add] at this
theorem rpos {x:Rat}:0<x↔0<x.num:=by
 rw [Rat.lt_iff]; simp
theorem zbz (y:Rat) (f:Int):(y-(f:Rat)).num=y.num-f*y.den∧(y-(f:Rat)).den=y.den:=by
 have hd:=y.den_nz
 have hg:Nat.gcd (y.num-f*y.den).natAbs y.den=1:=by
  have hr:=y.reduced
  unfold Nat.Coprime at hr
  have h1:Int.gcd (y.num-f*y.den) y.den=Int.gcd y.num y.den:=by
   rw [show y.num-f*(y.den:Int)=y.num+(-f)*y.den by rw [Int.neg_mul]; rfl]
   exact Int.gcd_add_mul_right_left _ _ _
  exact h1.trans hr
 have hm:y-(f:Rat)=⟨y.num-f*y.den,y.den,hd,hg⟩:=by
  rw [Rat.sub_def',Rat.mk_eq_mkRat]
  simp
 rw [hm]
 exact ⟨rfl,rfl⟩
theorem inv_parts {x:Rat} (h:0<x):(x⁻¹).num=x.den∧((x⁻¹).den:Int)=x.num:=by
 have h:=rpos.1 h
 rw [Rat.num_inv,Rat.den_inv,if_neg (by omega),Int.sign_eq_one_of_pos h]
 exact ⟨by omega,by omega⟩
theorem fl_nonneg {x:Rat} (h:0<x):0≤x.floor:=Rat.le_floor_iff.2 (by rw [Rat.intCast_zero]; exact Rat.le_of_lt h)
theorem inv_le {a b:Rat} (ha:0<a) (h:a≤b):b⁻¹≤a⁻¹:=by
 have hb:0<b:=by grind
 have h1:=Rat.inv_pos.2 ha
 have h2:=Rat.inv_pos.2 hb
 have e1:=Rat.mul_inv_cancel a (by grind)
 have e2:=Rat.mul_inv_cancel b (by grind)
 have h3:=Rat.mul_le_mul_of_nonneg_right (Rat.mul_le_mul_of_nonneg_right h (Rat.le_of_lt h1)) (Rat.le_of_lt h2)
 have e3:a*a⁻¹*b⁻¹=b⁻¹:=by rw [e1,Rat.one_mul]
 have e4:b*a⁻¹*b⁻¹=a⁻¹:=by rw [Rat.mul_comm b,Rat.mul_assoc,e2,Rat.mul_one]
 rwa [e3,e4] at h3
theorem Simp.step {x y:Rat} (h0:0<x) (hxy:x≤y) (h:((x.floor:Int):Rat)≠x) (k:¬ ((x.floor:Int):Rat)+1≤y) :
  0<x-((x.floor:Int):Rat)∧0<y-((x.floor:Int):Rat)∧0<(y-((x.floor:Int):Rat))⁻¹∧(y-((x.floor:Int):Rat))⁻¹≤(x-((x.floor:Int):Rat))⁻¹:=by
 have h1:=fl_le x
 have h2:0<x-((x.floor:Int):Rat):=by grind
 have h3:0<y-((x.floor:Int):Rat):=by grind
 exact ⟨h2,h3,Rat.inv_pos.2 h3,inv_le h2 (by grind)⟩
theorem Simp.between {x y s:Rat} (h:Simp x y s) (h0:0<x) (hxy:x≤y):x≤s∧s≤y:=by
 induction h with
 | whole x y h=>rw [h]; exact ⟨Rat.le_refl,hxy⟩
 | up x y h k=>exact ⟨Rat.le_of_lt (fl_lt x),k⟩
 | inner x y s h k r ih =>
  obtain ⟨h1,h2,h3,h4⟩:=Simp.step h0 hxy h k
  obtain ⟨i1,i2⟩:=ih h3 h4
  have hs:0<s:=by grind
  have j1:=inv_le h3 i1
  have j2:=inv_le hs i2
  rw [Rat.inv_inv] at j1 j2
  constructor<;>grind
theorem zcU (f:Int) {t:Rat} (h:0<t):((f:Rat)+t⁻¹).num=f*t.num+t.den∧(((f:Rat)+t⁻¹).den:Int)=t.num:=by
 obtain ⟨h1,h2⟩:=inv_parts h
 have e:(f:Rat)+t⁻¹=t⁻¹-((-f:Int):Rat):=by rw [Rat.intCast_neg]; grind
 obtain ⟨h3,h4⟩:=zbz t⁻¹ (-f)
 rw [←e] at h3 h4
 refine ⟨?_,by rw [h4,h2]⟩
 rw [h3,h1,h2,Int.neg_mul,Int.sub_neg,Int.add_comm]
theorem Simp.least {x y s:Rat} (h:Simp x y s) (h0:0<x) (hxy:x≤y):∀ z,x≤z→z≤y→s.num≤z.num∧s.den≤z.den:=by
 induction h with
 | whole x y h =>
  intro z hz1 hz2
  have hd:=z.den_pos
  refine ⟨?_,by rw [Rat.den_intCast]; omega⟩
  rw [Rat.num_intCast]
  have hf:=fl_nonneg h0
  have h3:((x.floor:Int):Rat)≤z:=Rat.le_trans (fl_le x) hz1
  have h4:=(Rat.le_iff _ _).1 h3
  rw [Rat.num_intCast,Rat.den_intCast] at h4
  have h5:x.floor*1≤x.floor*(z.den:Int):=Int.mul_le_mul_of_nonneg_left (by omega) hf
  omega
 | up x y h k =>
  intro z hz1 hz2
  have hd:=z.den_pos
  have e:((x.floor:Int):Rat)+1=((x.floor+1:Int):Rat):=by rw [Rat.intCast_add]; rfl
  rw [e,Rat.num_intCast,Rat.den_intCast]
  refine ⟨?_,by omega⟩
  have hf:=fl_nonneg h0
  have h3:((x.floor:Int):Rat)<z:=by have:=fl_le x; grind
  have h4:=(Rat.lt_iff _ _).1 h3
  rw [Rat.num_intCast,Rat.den_intCast] at h4
  have h5:x.floor*1≤x.floor*(z.den:Int):=Int.mul_le_mul_of_nonneg_left (by omega) hf
  omega
 | inner x y s h k r ih =>
  intro z hz1 hz2
  obtain ⟨h1,h2,h3,h4⟩:=Simp.step h0 hxy h k
  obtain ⟨i1,i2⟩:=Simp.between r h3 h4
  have hs:0<s:=by grind
  have hz:0<z-((x.floor:Int):Rat):=by grind
  have ht:0<(z-((x.floor:Int):Rat))⁻¹:=Rat.inv_pos.2 hz
  have e:z=((x.floor:Int):Rat)+((z-((x.floor:Int):Rat))⁻¹)⁻¹:=by rw [Rat.inv_inv]; grind
  obtain ⟨k1,k2⟩:=ih h3 h4 (z-((x.floor:Int):Rat))⁻¹ (inv_le hz (by grind)) (inv_le h1 (by grind))
  obtain ⟨p1,p2⟩:=zcU x.floor hs
  obtain ⟨q1,q2⟩:=zcU x.floor ht
  rw [←e] at q1 q2
  have hf:=fl_nonneg h0
  have h5:x.floor*s.num≤x.floor*((z-((x.floor:Int):Rat))⁻¹).num:=Int.mul_le_mul_of_nonneg_left k1 hf
  constructor
  ·rw [p1,q1]; omega
  ·omega
theorem Simp.parts {x y:Rat} (h0:0<x) (hxy:x≤y) (h:((x.floor:Int):Rat)≠x) (k:¬ ((x.floor:Int):Rat)+1≤y) :
  ((y-((x.floor:Int):Rat))⁻¹).num=y.den∧(((y-((x.floor:Int):Rat))⁻¹).den:Int)=y.num-x.floor*y.den ∧
  ((x-((x.floor:Int):Rat))⁻¹).num=x.den∧(((x-((x.floor:Int):Rat))⁻¹).den:Int)=x.num-x.floor*x.den ∧
  0<y.num-x.floor*y.den∧y.num-x.floor*y.den<y.den∧0<x.num-x.floor*x.den∧x.num-x.floor*x.den<x.den:=by
 obtain ⟨h1,h2,h3,h4⟩:=Simp.step h0 hxy h k
 obtain ⟨a1,a2⟩:=inv_parts h2
 obtain ⟨b1,b2⟩:=inv_parts h1
 obtain ⟨c1,c2⟩:=zbz y x.floor
 obtain ⟨d1,d2⟩:=zbz x x.floor
 rw [c1] at a2
 rw [c2] at a1
 rw [d1] at b2
 rw [d2] at b1
 have p1:=rpos.1 h2
 have p2:=rpos.1 h1
 rw [c1] at p1
 rw [d1] at p2
 have q1:y-((x.floor:Int):Rat)<1:=by grind
 have q2:x-((x.floor:Int):Rat)<1:=by have:=fl_lt x; grind
 rw [Rat.lt_iff,c1,c2] at q1
 rw [Rat.lt_iff,d1,d2] at q2
 simp at q1 q2
 exact ⟨a1,a2,b1,b2,p1,q1,p2,q2⟩
theorem Simp.exists:∀ (n:Nat) (x y:Rat),x.den+y.den≤n→0<x→x≤y→∃ s,Simp x y s:=by
 intro n
 induction n with
 | zero=>intro x y hn h0 hxy; have:=x.den_pos; omega
 | succ n ih =>
  intro x y hn h0 hxy
  by_cases h:((x.floor:Int):Rat)=x
  ·exact ⟨_,.whole x y h⟩
  by_cases k:((x.floor:Int):Rat)+1≤y
  ·exact ⟨_,.up x y h k⟩
  obtain ⟨h1,h2,h3,h4⟩:=Simp.step h0 hxy h k
  obtain ⟨a1,a2,b1,b2,p1,q1,p2,q2⟩:=Simp.parts h0 hxy h k
  obtain ⟨s,hs⟩:=ih _ _ (by omega) h3 h4
  exact ⟨_,.inner x y s h k hs⟩
end Go.Proofs.ZP
end
