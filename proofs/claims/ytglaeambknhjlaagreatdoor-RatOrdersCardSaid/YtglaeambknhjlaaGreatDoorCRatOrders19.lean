/- Texts under the proof, joined by a program (prune.py): QRefOrd, P160. -/
import Derived.Test.YtglaeambknhjlaaGreatDoorCRatOrders17
import Derived.Test.YtglaeambknhjlaaGreatDoorCRatOrders18
import Derived.Test.YtglaeambknhjlaaGreatDoorCRatOrders02
set_option linter.unusedVariables false
set_option linter.unusedSimpArgs false
set_option exponentiation.threshold 20001
set_option maxHeartbeats 8000000
set_option maxRecDepth 100000
section
namespace Go.Proofs.ZQ
open Go.RowKit Go.Proofs.ZW.Wa Go.Proofs.ZP Go.Proofs.ZW.Wb Go.Proofs.ZW.Wc
theorem ccmp_no (a0 a1 b0 b1:ByteArray) (ra rb:Bool) (hr:(ra && rb)=false) (HA:Ans 36 #[.agg #[.string a0,.string a1]] (.bool ra)) (HB:Ans 36 #[.agg #[.string b0,.string b1]] (.bool rb)):Ans 51 #[.agg #[.string a0,.string a1],.agg #[.string b0,.string b1]] (.tuple #[.int .i64 0,.int .i64 3]):=by
 intro w
 have HA:=Lib.hid HA
 have HB:=Lib.hid HB
 go_enter Tryz.func51,Tryz.ntmps51
 obtain ⟨fa,fb,hba⟩:=rb_two w a0 a1 b0 b1
 go_wp2_with fail
 generalize ((w.alloc (.cells #[.string a0,.string a1] 23)).alloc (.cells #[.string b0,.string b1] 23))=W0 at *
 generalize hBx:w.heap.size+1=X0 at *
 have HFA:=Lib.hid fa
 have HFB:=Lib.hid fb
 have HBA:=Lib.hid hba
 clear hBx fa fb hba
 refine (HA.out _).mono ?_
 rintro e w1 ⟨rfl,hb1⟩
 cases ra
 ·have HF:=Lib.hid (bthen HBA.out hb1)
  clear hb1
  go_wp2
  go_ret2
  exact ⟨rfl,HF.out⟩
 ·obtain rfl:rb=false:=by simpa using hr
  have c0:=(HFB.out.below hb1).c0
  have c1:=(HFB.out.below hb1).c1
  go_wp2_with fail
  refine (HB.out _).mono ?_
  rintro e w2 ⟨rfl,hb2⟩
  have HF:=Lib.hid (bthen HBA.out (bthen hb1 hb2))
  clear hb1 hb2 c0 c1
  go_wp2
  go_ret2
  exact ⟨rfl,HF.out⟩
theorem cmp_walk (a0 a1 b0 b1:ByteArray) (x0:Bool) (x1 x2:ByteArray) (y0:Bool) (y1 y2:ByteArray) (c:Int) (HA:Ans 36 #[.agg #[.string a0,.string a1]] (.bool true)) (HB:Ans 36 #[.agg #[.string b0,.string b1]] (.bool true)) (HX:Ans 61 #[.agg #[.string a0,.string a1]] (.agg #[.bool x0,.string x1,.string x2])) (HY:Ans 61 #[.agg #[.string b0,.string b1]] (.agg #[.bool y0,.string y1,.string y2])) (HC:Ans 63 #[.agg #[.bool x0,.string x1,.string x2],.agg #[.bool y0,.string y1,.string y2]] (.int .i64 c)):Ans 51 #[.agg #[.string a0,.string a1],.agg #[.string b0,.string b1]] (.tuple #[.int .i64 c,.int .i64 0]):=by
 intro w
 have HA:=Lib.hid HA
 have HB:=Lib.hid HB
 have HX:=Lib.hid HX
 have HY:=Lib.hid HY
 have HC:=Lib.hid HC
 go_enter Tryz.func51,Tryz.ntmps51
 obtain ⟨fa,fb,hba⟩:=rb_two w a0 a1 b0 b1
 go_wp2_with fail
 generalize ((w.alloc (.cells #[.string a0,.string a1] 23)).alloc (.cells #[.string b0,.string b1] 23))=W0 at *
 generalize hBx:w.heap.size+1=X0 at *
 have HFA:=Lib.hid fa
 have HFB:=Lib.hid fb
 have HBA:=Lib.hid hba
 clear hBx fa fb hba
 refine (HA.out _).mono ?_
 rintro e w1 ⟨rfl,hb1⟩
 have HQ:=Lib.hid (show ∀ W':World,Below W0.heap.size W0 W'→(fun w':World=>w'.cell? ⟨w.heap.size,0,none⟩=some (.string a0)∧w'.cell? ⟨w.heap.size,1,none⟩=some (.string a1)∧w'.cell? ⟨X0,0,none⟩=some (.string b0)∧w'.cell? ⟨X0,1,none⟩=some (.string b1)) W' from fun W' h=>⟨(HFA.out.below h).c0,(HFA.out.below h).c1,(HFB.out.below h).c0,(HFB.out.below h).c1⟩)
 dsimp only at HQ
 have c0:=(HFB.out.below hb1).c0
 have c1:=(HFB.out.below hb1).c1
 go_wp2_with fail
 refine (HB.out _).mono ?_
 rintro e w2 ⟨rfl,hb2⟩
 have HB1:=Lib.hid (bthen hb1 hb2)
 clear c0 c1 hb1 hb2
 go_wp2_with fail
 go_region_held3 (fun w'=>w'.cell? ⟨w.heap.size,0,none⟩=some (.string a0)∧w'.cell? ⟨w.heap.size,1,none⟩=some (.string a1)∧w'.cell? ⟨X0,0,none⟩=some (.string b0)∧w'.cell? ⟨X0,1,none⟩=some (.string b1))
  (((with_reducible refine HQ.out _ ?_); repeat (with_reducible first|exact Below.refl _ _|exact HB1.out|apply zao|apply zab|refine bthen ?_ hbC|refine bthen ?_ hbY|refine bthen ?_ hbX)))
  ((first
   | (go_simp; go_at_call 61; (with_reducible change Calls _ _ #[.agg #[.string a0,.string a1]] _ _); refine (HX.out _).mono ?_; rintro e wX ⟨rfl,hbX⟩)
   | (go_simp; go_at_call 61; (with_reducible change Calls _ _ #[.agg #[.string b0,.string b1]] _ _); refine (HY.out _).mono ?_; rintro e wY ⟨rfl,hbY⟩)
   | (go_simp; go_at_call 63; refine (HC.out _).mono ?_; rintro e wC ⟨rfl,hbC⟩)))
 all_goals
  rename_i hHeld
  clear hHeld
  have HF:=Lib.hid (bthen HBA.out (show Below W0.heap.size W0 wC from by repeat (with_reducible first|exact Below.refl _ _|exact HB1.out|apply zao|apply zab|refine bthen ?_ hbC|refine bthen ?_ hbY|refine bthen ?_ hbX)))
  go_wp2
  go_ret2
  exact ⟨rfl,HF.out⟩
theorem cmp_ans (a0 a1 b0 b1:ByteArray) (r1 r2:Int) (h:rat_Cmp.f a0 a1 b0 b1=some (r1,r2)):Ans 51 #[.agg #[.string a0,.string a1],.agg #[.string b0,.string b1]] (.tuple #[.int .i64 r1,.int .i64 r2]):=by
 by_cases ha:∃ x,RR a0 a1 x
 ·obtain ⟨x,hx⟩:=ha
  by_cases hb:∃ y,RR b0 b1 y
  ·obtain ⟨y,hy⟩:=hb
   rw [zc5 hx hy] at h
   cases h
   exact cmp_walk a0 a1 b0 b1 _ _ _ _ _ _ _ (zbd hx) (zbd hy) (read_ans hx) (read_ans hy) (fun W=>c2_Compare.calls _ _ _ _ _ _ _ W (Compare_Fr (rr_sz hx) (rr_sz hy) (by decide)))
  ·rw [zcR (fun e=>hb e.2)] at h
   cases h
   exact ccmp_no a0 a1 b0 b1 true false rfl (zbd hx) (zbp hb)
 ·rw [zcR (fun e=>ha e.1)] at h
  cases h
  by_cases hb:∃ y,RR b0 b1 y
  ·obtain ⟨y,hy⟩:=hb
   exact ccmp_no a0 a1 b0 b1 false true rfl (zbp ha) (zbd hy)
  ·exact ccmp_no a0 a1 b0 b1 false false rfl (zbp ha) (zbp hb)
theorem sign_cmp (a0 a1:ByteArray) (r:Int×Int) (h:rat_Cmp.f a0 a1 ⟨#[48]⟩ ⟨#[49]⟩=some r):rat_Sign.f a0 a1=some r:=by
 have hw0:wtext 0=⟨#[48]⟩:=(za3 (x:=0) (by decide)).trans T_0.symm
 unfold rat_Sign.f
 rw [rat_of_f 0 (by decide) (by decide),Option.bind_some,hw0,h,Option.bind_some]
theorem floor_walk (a0 a1:ByteArray) (x0:Bool) (x1 x2:ByteArray) (z0:Bool) (z1 z2:ByteArray) (t1 t2:ByteArray) (t3:Int) (HA:Ans 36 #[.agg #[.string a0,.string a1]] (.bool true)) (HX:Ans 61 #[.agg #[.string a0,.string a1]] (.agg #[.bool x0,.string x1,.string x2])) (HO0:Ans 134 #[.agg #[.bool x0,.string x1,.string x2]] (.agg #[.bool z0,.string z1,.string z2])) (HT:Ans 110 #[.agg #[.bool z0,.string z1,.string z2]] (.tuple #[.agg #[.string t1,.string t2],.int .i64 t3])):Ans 54 #[.agg #[.string a0,.string a1]] (.tuple #[.agg #[.string t1,.string t2],.int .i64 t3]):=by
 intro w
 have HA:=Lib.hid HA
 have HX:=Lib.hid HX
 have HO0:=Lib.hid HO0
 have HT:=Lib.hid HT
 go_enter Tryz.func54,Tryz.ntmps54
 obtain ⟨fa,fr,hba⟩:=rb_two w a0 a1 ⟨#[]⟩ ⟨#[]⟩
 go_wp2_with fail
 generalize ((w.alloc (.cells #[.string a0,.string a1] 23)).alloc (.cells #[.string ⟨#[]⟩,.string ⟨#[]⟩] 23))=W0 at *
 generalize hBe:w.heap.size+1=B0 at *
 have HBE:=Lib.hid (show w.heap.size≤B0∧w.heap.size<B0 by omega)
 have HLE:=Lib.hid (show B0≤W0.heap.size from Nat.le_of_lt (zas fr))
 have HQ:=Lib.hid (show ∀ W':World,Below W0.heap.size W0 W'→(fun w':World=>w'.cell? ⟨w.heap.size,0,none⟩=some (.string a0)∧w'.cell? ⟨w.heap.size,1,none⟩=some (.string a1)) W' from fun W' h=>⟨(fa.below h).c0,(fa.below h).c1⟩)
 have HQS:=Lib.hid (show ∀ (W':World) (u v:Value),Below W0.heap.size W0 W'→(fun w':World=>w'.cell? ⟨w.heap.size,0,none⟩=some (.string a0)∧w'.cell? ⟨w.heap.size,1,none⟩=some (.string a1)) ((W'.setCell ⟨B0,0,none⟩ u).setCell ⟨B0,1,none⟩ v) from fun W' u v h =>
  have k:=Below.setCell (p:=⟨B0,1,none⟩) (Below.setCell (p:=⟨B0,0,none⟩) (h.mono HLE.out) (Nat.le_refl _) u) (Nat.le_refl _) v
  ⟨(fa.keep k HBE.out.2).c0,(fa.keep k HBE.out.2).c1⟩)
 dsimp only at HQ HQS
 have HFR:=Lib.hid fr
 have HFA:=Lib.hid fa
 have HBA:=Lib.hid hba
 clear fa fr hba hBe
 refine (HA.out _).mono ?_
 rintro e w1 ⟨rfl,hb1⟩
 have HB1:=Lib.hid hb1
 clear hb1
 have c0:=(HFA.out.below HB1.out).c0
 have c1:=(HFA.out.below HB1.out).c1
 go_wp2_with fail
 clear c0 c1
 refine (HX.out _).mono ?_
 rintro e wX ⟨rfl,hbX⟩
 go_wp2_with fail
 refine (HO0.out _).mono ?_
 rintro e wo0 ⟨rfl,hbo0⟩
 go_wp2_with fail
 refine (HT.out _).mono ?_
 rintro e wT ⟨rfl,hbT⟩
 have hbL:Below W0.heap.size W0 wT:=by repeat (with_reducible first|exact Below.refl _ _|exact HB1.out|apply zao|apply zab|refine bthen ?_ hbT|refine bthen ?_ hbo0|refine bthen ?_ hbX)
 have HB2:=Lib.hid hbL
 clear hbL
 have fr5:=HFR.out.below HB2.out
 have cB0:=fr5.c0
 have cB1:=fr5.c1
 have fB0:=zad fr5 0
 have fB1:=zad fr5 1
 obtain ⟨hF,hBF⟩:=rb_put fr5 (bthen HBA.out HB2.out) HBE.out.1 t1 t2
 have HF:=Lib.hid hF
 have HBF:=Lib.hid hBF
 clear hF hBF fr5
 go_wp2
 refine bodyPost_ret (zaM rfl _ _ B0 23 #[.string t1,.string t2] (0,0) _ rfl HF.out Tryz.underlying23 rfl (by kernel_rfl)) rfl ?_
 exact ⟨rfl,HBF.out⟩
theorem floor_no (a0 a1:ByteArray) (HA:Ans 36 #[.agg #[.string a0,.string a1]] (.bool false)):Ans 54 #[.agg #[.string a0,.string a1]] (.tuple #[.agg #[.string ⟨#[]⟩,.string ⟨#[]⟩],.int .i64 3]):=by
 intro w
 have HA:=Lib.hid HA
 go_enter Tryz.func54,Tryz.ntmps54
 obtain ⟨fa,fr,hba⟩:=rb_two w a0 a1 ⟨#[]⟩ ⟨#[]⟩
 go_wp2_with fail
 generalize ((w.alloc (.cells #[.string a0,.string a1] 23)).alloc (.cells #[.string ⟨#[]⟩,.string ⟨#[]⟩] 23))=W0 at *
 generalize hBe:w.heap.size+1=B0 at *
 have HBE:=Lib.hid (show w.heap.size≤B0∧w.heap.size<B0 by omega)
 have HFR:=Lib.hid fr
 have HBA:=Lib.hid hba
 clear fa fr hba hBe
 refine (HA.out _).mono ?_
 rintro e w1 ⟨rfl,hb1⟩
 have HB2:=Lib.hid hb1
 clear hb1
 have fr5:=HFR.out.below HB2.out
 have cB0:=fr5.c0
 have cB1:=fr5.c1
 have fB0:=zad fr5 0
 have fB1:=zad fr5 1
 obtain ⟨hF,hBF⟩:=rb_put fr5 (bthen HBA.out HB2.out) HBE.out.1 ⟨#[]⟩ ⟨#[]⟩
 have HF:=Lib.hid hF
 have HBF:=Lib.hid hBF
 clear hF hBF fr5
 go_wp2
 refine bodyPost_ret (zaM rfl _ _ B0 23 #[.string ⟨#[]⟩,.string ⟨#[]⟩] (0,0) _ rfl HF.out Tryz.underlying23 rfl (by kernel_rfl)) rfl ?_
 exact ⟨rfl,HBF.out⟩
theorem floor_ans (a0 a1 r1 r2:ByteArray) (r3:Int) (h:rat_Floor.f a0 a1=some (r1,r2,r3)):Ans 54 #[.agg #[.string a0,.string a1]] (.tuple #[.agg #[.string r1,.string r2],.int .i64 r3]):=by
 unfold rat_Floor.f at h
 by_cases ha:∃ x,RR a0 a1 x
 ·obtain ⟨x,hx⟩:=ha
  rw [zdr hx,tell_ok] at h
  have h:=Option.some.inj h
  have e1:=congrArg (fun r=>r.1) h
  have e2:=congrArg (fun r=>r.2.1) h
  have e3:=congrArg (fun r=>r.2.2) h
  subst e1; subst e2; subst e3
  refine floor_walk a0 a1 _ _ _ _ _ _ _ _ _ (zbd hx) (read_ans hx) (fun W => ?_) (told_ans _)
  obtain ⟨k,hk⟩:=(down_ev (rr_sz hx) (by decide)).rounds
  exact c2_Down.calls k _ _ _ _ _ _ W hk
 ·rw [oneF_no ha] at h
  cases h
  exact floor_no a0 a1 (zbp ha)
theorem round_no (a0 a1:ByteArray) (n:Int) (HA:Ans 36 #[.agg #[.string a0,.string a1]] (.bool false)):Ans 56 #[.agg #[.string a0,.string a1],.int .i64 n] (.tuple #[.agg #[.string ⟨#[]⟩,.string ⟨#[]⟩],.int .i64 3]):=by
 intro w
 have HA:=Lib.hid HA
 go_enter Tryz.func56,Tryz.ntmps56
 obtain ⟨fa,fr,hba⟩:=rb_two w a0 a1 ⟨#[]⟩ ⟨#[]⟩
 go_wp2_with fail
 generalize ((w.alloc (.cells #[.string a0,.string a1] 23)).alloc (.cells #[.string ⟨#[]⟩,.string ⟨#[]⟩] 23))=W0 at *
 generalize hBe:w.heap.size+1=B0 at *
 have HBE:=Lib.hid (show w.heap.size≤B0∧w.heap.size<B0 by omega)
 have HFR:=Lib.hid fr
 have HFA:=Lib.hid fa
 have HBA:=Lib.hid hba
 clear fa fr hba hBe
 refine (HA.out _).mono ?_
 rintro e w1 ⟨rfl,hb1⟩
 have HB2:=Lib.hid hb1
 clear hb1
 have fr5:=HFR.out.below HB2.out
 have cB0:=fr5.c0
 have cB1:=fr5.c1
 have fB0:=zad fr5 0
 have fB1:=zad fr5 1
 obtain ⟨hF,hBF⟩:=rb_put fr5 (bthen HBA.out HB2.out) HBE.out.1 ⟨#[]⟩ ⟨#[]⟩
 have HF:=Lib.hid hF
 have HBF:=Lib.hid hBF
 clear hF hBF fr5
 go_wp2
 refine bodyPost_ret (zaM rfl _ _ B0 23 #[.string ⟨#[]⟩,.string ⟨#[]⟩] (0,0) _ rfl HF.out Tryz.underlying23 rfl (by kernel_rfl)) rfl ?_
 exact ⟨rfl,HBF.out⟩
theorem round_arg (a0 a1:ByteArray) (n:Int) (hn:n < -600∨600<n) (HA:Ans 36 #[.agg #[.string a0,.string a1]] (.bool true)):Ans 56 #[.agg #[.string a0,.string a1],.int .i64 n] (.tuple #[.agg #[.string ⟨#[]⟩,.string ⟨#[]⟩],.int .i64 1]):=by
 intro w
 have HA:=Lib.hid HA
 have hn:=Lib.hid hn
 go_enter Tryz.func56,Tryz.ntmps56
 obtain ⟨fa,fr,hba⟩:=rb_two w a0 a1 ⟨#[]⟩ ⟨#[]⟩
 go_wp2_with fail
 generalize ((w.alloc (.cells #[.string a0,.string a1] 23)).alloc (.cells #[.string ⟨#[]⟩,.string ⟨#[]⟩] 23))=W0 at *
 generalize hBe:w.heap.size+1=B0 at *
 have HBE:=Lib.hid (show w.heap.size≤B0∧w.heap.size<B0 by omega)
 have HFR:=Lib.hid fr
 have HFA:=Lib.hid fa
 have HBA:=Lib.hid hba
 clear fa fr hba hBe
 refine (HA.out _).mono ?_
 rintro e w1 ⟨rfl,hb1⟩
 by_cases hl:n < -600
 ·skip
  have HB2:=Lib.hid hb1
  clear hb1
  have fr5:=HFR.out.below HB2.out
  have cB0:=fr5.c0
  have cB1:=fr5.c1
  have fB0:=zad fr5 0
  have fB1:=zad fr5 1
  obtain ⟨hF,hBF⟩:=rb_put fr5 (bthen HBA.out HB2.out) HBE.out.1 ⟨#[]⟩ ⟨#[]⟩
  have HF:=Lib.hid hF
  have HBF:=Lib.hid hBF
  clear hF hBF fr5
  go_wp2
  refine bodyPost_ret (zaM rfl _ _ B0 23 #[.string ⟨#[]⟩,.string ⟨#[]⟩] (0,0) _ rfl HF.out Tryz.underlying23 rfl (by kernel_rfl)) rfl ?_
  exact ⟨rfl,HBF.out⟩
 ·have hg:n>600:=by have:=hn.out; omega
  have HB2:=Lib.hid hb1
  clear hb1
  have fr5:=HFR.out.below HB2.out
  have cB0:=fr5.c0
  have cB1:=fr5.c1
  have fB0:=zad fr5 0
  have fB1:=zad fr5 1
  obtain ⟨hF,hBF⟩:=rb_put fr5 (bthen HBA.out HB2.out) HBE.out.1 ⟨#[]⟩ ⟨#[]⟩
  have HF:=Lib.hid hF
  have HBF:=Lib.hid hBF
  clear hF hBF fr5
  go_wp2
  refine bodyPost_ret (zaM rfl _ _ B0 23 #[.string ⟨#[]⟩,.string ⟨#[]⟩] (0,0) _ rfl HF.out Tryz.underlying23 rfl (by kernel_rfl)) rfl ?_
  exact ⟨rfl,HBF.out⟩
theorem round_ok (a0 a1:ByteArray) (n:Int) (hl : -600≤n) (hg:n≤600) (x0:Bool) (x1 x2:ByteArray) (z0:Bool) (z1 z2:ByteArray) (t1 t2:ByteArray) (t3:Int) (HA:Ans 36 #[.agg #[.string a0,.string a1]] (.bool true)) (HX:Ans 61 #[.agg #[.string a0,.string a1]] (.agg #[.bool x0,.string x1,.string x2])) (HO:Ans 137 #[.agg #[.bool x0,.string x1,.string x2],.int .i64 n] (.agg #[.bool z0,.string z1,.string z2])) (HT:Ans 110 #[.agg #[.bool z0,.string z1,.string z2]] (.tuple #[.agg #[.string t1,.string t2],.int .i64 t3])):Ans 56 #[.agg #[.string a0,.string a1],.int .i64 n] (.tuple #[.agg #[.string t1,.string t2],.int .i64 t3]):=by
 intro w
 have HA:=Lib.hid HA
 have HX:=Lib.hid HX
 have HO:=Lib.hid HO
 have HT:=Lib.hid HT
 have hl':¬ n < -600:=by omega
 have hg':¬ n>600:=by omega
 clear hl hg
 go_enter Tryz.func56,Tryz.ntmps56
 obtain ⟨fa,fr,hba⟩:=rb_two w a0 a1 ⟨#[]⟩ ⟨#[]⟩
 go_wp2_with fail
 generalize ((w.alloc (.cells #[.string a0,.string a1] 23)).alloc (.cells #[.string ⟨#[]⟩,.string ⟨#[]⟩] 23))=W0 at *
 generalize hBe:w.heap.size+1=B0 at *
 have HBE:=Lib.hid (show w.heap.size≤B0∧w.heap.size<B0 by omega)
 have HFR:=Lib.hid fr
 have HFA:=Lib.hid fa
 have HBA:=Lib.hid hba
 clear fa fr hba hBe
 refine (HA.out _).mono ?_
 rintro e w1 ⟨rfl,hb1⟩
 have c0:=(HFA.out.below hb1).c0
 have c1:=(HFA.out.below hb1).c1
 go_wp2_with fail
 refine (HX.out _).mono ?_
 rintro e w2 ⟨rfl,hb2⟩
 go_wp2_with fail
 refine (HO.out _).mono ?_
 rintro e w3 ⟨rfl,hb3⟩
 go_wp2_with fail
 refine (HT.out _).mono ?_
 rintro e w4 ⟨rfl,hb4⟩
 have hbL:=bthen hb1 (bthen hb2 (bthen hb3 hb4))
 clear hb1 hb2 hb3 hb4 c0 c1
 have HB2:=Lib.hid hbL
 clear hbL
 have fr5:=HFR.out.below HB2.out
 have cB0:=fr5.c0
 have cB1:=fr5.c1
 have fB0:=zad fr5 0
 have fB1:=zad fr5 1
 obtain ⟨hF,hBF⟩:=rb_put fr5 (bthen HBA.out HB2.out) HBE.out.1 t1 t2
 have HF:=Lib.hid hF
 have HBF:=Lib.hid hBF
 clear hF hBF fr5
 go_wp2
 refine bodyPost_ret (zaM rfl _ _ B0 23 #[.string t1,.string t2] (0,0) _ rfl HF.out Tryz.underlying23 rfl (by kernel_rfl)) rfl ?_
 exact ⟨rfl,HBF.out⟩
theorem round_ans (a0 a1:ByteArray) (p:Int) (r1 r2:ByteArray) (r3:Int) (h:rat_Round.f a0 a1 p=some (r1,r2,r3)):Ans 56 #[.agg #[.string a0,.string a1],.int .i64 p] (.tuple #[.agg #[.string r1,.string r2],.int .i64 r3]):=by
 unfold rat_Round.f at h
 by_cases ha:∃ x,RR a0 a1 x
 ·obtain ⟨x,hx⟩:=ha
  rw [zdr hx] at h
  by_cases hp:p < -600∨600<p
  ·rw [if_pos hp] at h; cases h
   exact round_arg a0 a1 p hp (zbd hx)
  ·rw [if_neg hp,tell_ok] at h
   have h:=Option.some.inj h
   have e1:=congrArg (fun r=>r.1) h
   have e2:=congrArg (fun r=>r.2.1) h
   have e3:=congrArg (fun r=>r.2.2) h
   subst e1; subst e2; subst e3
   exact round_ok a0 a1 p (by omega) (by omega) _ _ _ _ _ _ _ _ _ (zbd hx) (read_ans hx) (fun W=>c2_Rounded.calls _ _ _ _ _ _ _ W (Rounded_Fr (rr_sz hx) (by omega) (by omega))) (told_ans _)
 ·rw [oneF_no ha] at h
  cases h
  exact round_no a0 a1 p (zbp ha)
end Go.Proofs.ZQ
end
section
namespace Go.Proofs.ZP
open Go.RowKit Go.Proofs.ZW.Wa Go.Proofs.ZW.Wb Go.Proofs.ZW.Wc
attribute [local go_sem] zaL zaJ zaS zaR zaC zaB zaK zaI
def IsS139 (w0 W:World) (g:Nat) (f0:ByteArray) (f1:Int) (f2:Bool) (f3:Bool) (f4:ByteArray) (f5:Int) (f6:ByteArray) (f7:Bool) (f8:ByteArray) (f9:Bool) (f10:Int):Prop:=W.heap[g]? = some (.cells #[.string f0,.int .i64 f1,.bool f2,.bool f3,.string f4,.int .i64 f5,.string f6,.bool f7,.string f8,.bool f9,.int .i64 f10] 139 (0,0))∧w0.heap.size≤g
theorem IsS139.grown {w0 W:World} {g:Nat} {f0:ByteArray} {f1:Int} {f2:Bool} {f3:Bool} {f4:ByteArray} {f5:Int} {f6:ByteArray} {f7:Bool} {f8:ByteArray} {f9:Bool} {f10:Int} {W1:World} {row:Option Nat} (h:IsS139 w0 W g f0 f1 f2 f3 f4 f5 f6 f7 f8 f9 f10) (hw:W.grownBy W1 row) (hne:some g≠row):IsS139 w0 W1 g f0 f1 f2 f3 f4 f5 f6 f7 f8 f9 f10:=by
 obtain ⟨hb,hg⟩:=h
 exact ⟨blk_grown hb hw hne,hg⟩
theorem IsS139.kept {w0 W:World} {g:Nat} {f0:ByteArray} {f1:Int} {f2:Bool} {f3:Bool} {f4:ByteArray} {f5:Int} {f6:ByteArray} {f7:Bool} {f8:ByteArray} {f9:Bool} {f10:Int} {W1:World} {S:Nat→Prop} (h:IsS139 w0 W g f0 f1 f2 f3 f4 f5 f6 f7 f8 f9 f10) (hk:Kept W W1 S) (hne:¬ S g):IsS139 w0 W1 g f0 f1 f2 f3 f4 f5 f6 f7 f8 f9 f10:=by
 obtain ⟨hb,hg⟩:=h
 exact ⟨blk_kept hb hk hne,hg⟩
theorem IsS139.below {w0 W:World} {g:Nat} {f0:ByteArray} {f1:Int} {f2:Bool} {f3:Bool} {f4:ByteArray} {f5:Int} {f6:ByteArray} {f7:Bool} {f8:ByteArray} {f9:Bool} {f10:Int} {W1:World} (h:IsS139 w0 W g f0 f1 f2 f3 f4 f5 f6 f7 f8 f9 f10) (hw:Below W.heap.size W W1):IsS139 w0 W1 g f0 f1 f2 f3 f4 f5 f6 f7 f8 f9 f10:=h.grown (zc1 hw none) (by simp)
theorem IsS139.alloc {w0 W:World} {g:Nat} {f0:ByteArray} {f1:Int} {f2:Bool} {f3:Bool} {f4:ByteArray} {f5:Int} {f6:ByteArray} {f7:Bool} {f8:ByteArray} {f9:Bool} {f10:Int} (h:IsS139 w0 W g f0 f1 f2 f3 f4 f5 f6 f7 f8 f9 f10) (o:Obj):IsS139 w0 (W.alloc o) g f0 f1 f2 f3 f4 f5 f6 f7 f8 f9 f10:=h.below (zaa (Below.refl _ _) o)
theorem IsS139.drewN {w0 W:World} {g:Nat} {f0:ByteArray} {f1:Int} {f2:Bool} {f3:Bool} {f4:ByteArray} {f5:Int} {f6:ByteArray} {f7:Bool} {f8:ByteArray} {f9:Bool} {f10:Int} (h:IsS139 w0 W g f0 f1 f2 f3 f4 f5 f6 f7 f8 f9 f10) (m:Nat):IsS139 w0 (W.drewN m) g f0 f1 f2 f3 f4 f5 f6 f7 f8 f9 f10:=h
theorem IsS139.drew {w0 W:World} {g:Nat} {f0:ByteArray} {f1:Int} {f2:Bool} {f3:Bool} {f4:ByteArray} {f5:Int} {f6:ByteArray} {f7:Bool} {f8:ByteArray} {f9:Bool} {f10:Int} (h:IsS139 w0 W g f0 f1 f2 f3 f4 f5 f6 f7 f8 f9 f10):IsS139 w0 W.drew g f0 f1 f2 f3 f4 f5 f6 f7 f8 f9 f10:=h
theorem IsS139.at_ {w0 W:World} {g:Nat} {f0:ByteArray} {f1:Int} {f2:Bool} {f3:Bool} {f4:ByteArray} {f5:Int} {f6:ByteArray} {f7:Bool} {f8:ByteArray} {f9:Bool} {f10:Int} {w':World} {m:Nat} (hq:W.drewN m=w') (h:IsS139 w0 W g f0 f1 f2 f3 f4 f5 f6 f7 f8 f9 f10):IsS139 w0 w' g f0 f1 f2 f3 f4 f5 f6 f7 f8 f9 f10:=by subst hq; exact IsS139.drewN h m
theorem IsS139.apart {w0 W:World} {g:Nat} {f0:ByteArray} {f1:Int} {f2:Bool} {f3:Bool} {f4:ByteArray} {f5:Int} {f6:ByteArray} {f7:Bool} {f8:ByteArray} {f9:Bool} {f10:Int} {α:Type} {d:Kd α} {e:Nat} {base:Nat} {ok:Nat→Prop} {v:Value} {xs:List α} (h:IsS139 w0 W g f0 f1 f2 f3 f4 f5 f6 f7 f8 f9 f10) (ho:d.R e W base ok v xs) (ht:∀ q,q∈e :: d.E→q≠139):d.R e W base (fun k=>ok k∧k≠g) v xs:=by
 obtain ⟨hb,hg⟩:=h
 exact Kd.R_types ho hb ht
theorem IsS139.own_ne {w0 W:World} {g:Nat} {f0:ByteArray} {f1:Int} {f2:Bool} {f3:Bool} {f4:ByteArray} {f5:Int} {f6:ByteArray} {f7:Bool} {f8:ByteArray} {f9:Bool} {f10:Int} {α:Type} {d:Kd α} {e:Nat} {base:Nat} {ok:Nat→Prop} {v:Value} {xs:List α} (h:IsS139 w0 W g f0 f1 f2 f3 f4 f5 f6 f7 f8 f9 f10) (ho:d.R e W base ok v xs) (ht:e≠139):some g≠v.ownBlock:=by
 obtain ⟨hb,hg⟩:=h
 exact Kd.R_ne ho hb ht
theorem IsS139.lt {w0 W:World} {g:Nat} {f0:ByteArray} {f1:Int} {f2:Bool} {f3:Bool} {f4:ByteArray} {f5:Int} {f6:ByteArray} {f7:Bool} {f8:ByteArray} {f9:Bool} {f10:Int} (h:IsS139 w0 W g f0 f1 f2 f3 f4 f5 f6 f7 f8 f9 f10):g<W.heap.size:=by
 obtain ⟨hb,hg⟩:=h
 exact zas hb
theorem IsS139.ge {w0 W:World} {g:Nat} {f0:ByteArray} {f1:Int} {f2:Bool} {f3:Bool} {f4:ByteArray} {f5:Int} {f6:ByteArray} {f7:Bool} {f8:ByteArray} {f9:Bool} {f10:Int} (h:IsS139 w0 W g f0 f1 f2 f3 f4 f5 f6 f7 f8 f9 f10):w0.heap.size≤g:=by
 obtain ⟨hb,hg⟩:=h
 exact hg
theorem zbB {W:World} {g:Nat} {f0:ByteArray} {f1:Int} {f2:Bool} {f3:Bool} {f4:ByteArray} {f5:Int} {f6:ByteArray} {f7:Bool} {f8:ByteArray} {f9:Bool} {f10:Int} (h:W.heap[g]? = some (.cells #[.string f0,.int .i64 f1,.bool f2,.bool f3,.string f4,.int .i64 f5,.string f6,.bool f7,.string f8,.bool f9,.int .i64 f10] 139 (0,0))):W.cell? ⟨g,0,none⟩=some (.string f0):=(zaf h 0).trans rfl
theorem IsS139.set_0 {w0 W:World} {g:Nat} {f0:ByteArray} {f1:Int} {f2:Bool} {f3:Bool} {f4:ByteArray} {f5:Int} {f6:ByteArray} {f7:Bool} {f8:ByteArray} {f9:Bool} {f10:Int} (h:IsS139 w0 W g f0 f1 f2 f3 f4 f5 f6 f7 f8 f9 f10) (x:ByteArray):IsS139 w0 (W.setCell ⟨g,0,none⟩ (.string x)) g x f1 f2 f3 f4 f5 f6 f7 f8 f9 f10:=by
 obtain ⟨hb,hg⟩:=h
 exact ⟨by simpa using zau hb 0 (.string x),hg⟩
theorem zbA {W:World} {g:Nat} {f0:ByteArray} {f1:Int} {f2:Bool} {f3:Bool} {f4:ByteArray} {f5:Int} {f6:ByteArray} {f7:Bool} {f8:ByteArray} {f9:Bool} {f10:Int} (h:W.heap[g]? = some (.cells #[.string f0,.int .i64 f1,.bool f2,.bool f3,.string f4,.int .i64 f5,.string f6,.bool f7,.string f8,.bool f9,.int .i64 f10] 139 (0,0))):W.cell? ⟨g,1,none⟩=some (.int .i64 f1):=(zaf h 1).trans rfl
theorem IsS139.set_1 {w0 W:World} {g:Nat} {f0:ByteArray} {f1:Int} {f2:Bool} {f3:Bool} {f4:ByteArray} {f5:Int} {f6:ByteArray} {f7:Bool} {f8:ByteArray} {f9:Bool} {f10:Int} (h:IsS139 w0 W g f0 f1 f2 f3 f4 f5 f6 f7 f8 f9 f10) (x:Int):IsS139 w0 (W.setCell ⟨g,1,none⟩ (.int .i64 x)) g f0 x f2 f3 f4 f5 f6 f7 f8 f9 f10:=by
 obtain ⟨hb,hg⟩:=h
 exact ⟨by simpa using zau hb 1 (.int .i64 x),hg⟩
theorem zbz {W:World} {g:Nat} {f0:ByteArray} {f1:Int} {f2:Bool} {f3:Bool} {f4:ByteArray} {f5:Int} {f6:ByteArray} {f7:Bool} {f8:ByteArray} {f9:Bool} {f10:Int} (h:W.heap[g]? = some (.cells #[.string f0,.int .i64 f1,.bool f2,.bool f3,.string f4,.int .i64 f5,.string f6,.bool f7,.string f8,.bool f9,.int .i64 f10] 139 (0,0))):W.cell? ⟨g,2,none⟩=some (.bool f2):=(zaf h 2).trans rfl
theorem IsS139.set_2 {w0 W:World} {g:Nat} {f0:ByteArray} {f1:Int} {f2:Bool} {f3:Bool} {f4:ByteArray} {f5:Int} {f6:ByteArray} {f7:Bool} {f8:ByteArray} {f9:Bool} {f10:Int} (h:IsS139 w0 W g f0 f1 f2 f3 f4 f5 f6 f7 f8 f9 f10) (x:Bool):IsS139 w0 (W.setCell ⟨g,2,none⟩ (.bool x)) g f0 f1 x f3 f4 f5 f6 f7 f8 f9 f10:=by
 obtain ⟨hb,hg⟩:=h
 exact ⟨by simpa using zau hb 2 (.bool x),hg⟩
theorem zby {W:World} {g:Nat} {f0:ByteArray} {f1:Int} {f2:Bool} {f3:Bool} {f4:ByteArray} {f5:Int} {f6:ByteArray} {f7:Bool} {f8:ByteArray} {f9:Bool} {f10:Int} (h:W.heap[g]? = some (.cells #[.string f0,.int .i64 f1,.bool f2,.bool f3,.string f4,.int .i64 f5,.string f6,.bool f7,.string f8,.bool f9,.int .i64 f10] 139 (0,0))):W.cell? ⟨g,3,none⟩=some (.bool f3):=(zaf h 3).trans rfl
theorem IsS139.set_3 {w0 W:World} {g:Nat} {f0:ByteArray} {f1:Int} {f2:Bool} {f3:Bool} {f4:ByteArray} {f5:Int} {f6:ByteArray} {f7:Bool} {f8:ByteArray} {f9:Bool} {f10:Int} (h:IsS139 w0 W g f0 f1 f2 f3 f4 f5 f6 f7 f8 f9 f10) (x:Bool):IsS139 w0 (W.setCell ⟨g,3,none⟩ (.bool x)) g f0 f1 f2 x f4 f5 f6 f7 f8 f9 f10:=by
 obtain ⟨hb,hg⟩:=h
 exact ⟨by simpa using zau hb 3 (.bool x),hg⟩
theorem zbx {W:World} {g:Nat} {f0:ByteArray} {f1:Int} {f2:Bool} {f3:Bool} {f4:ByteArray} {f5:Int} {f6:ByteArray} {f7:Bool} {f8:ByteArray} {f9:Bool} {f10:Int} (h:W.heap[g]? = some (.cells #[.string f0,.int .i64 f1,.bool f2,.bool f3,.string f4,.int .i64 f5,.string f6,.bool f7,.string f8,.bool f9,.int .i64 f10] 139 (0,0))):W.cell? ⟨g,4,none⟩=some (.string f4):=(zaf h 4).trans rfl
theorem IsS139.set_4 {w0 W:World} {g:Nat} {f0:ByteArray} {f1:Int} {f2:Bool} {f3:Bool} {f4:ByteArray} {f5:Int} {f6:ByteArray} {f7:Bool} {f8:ByteArray} {f9:Bool} {f10:Int} (h:IsS139 w0 W g f0 f1 f2 f3 f4 f5 f6 f7 f8 f9 f10) (x:ByteArray):IsS139 w0 (W.setCell ⟨g,4,none⟩ (.string x)) g f0 f1 f2 f3 x f5 f6 f7 f8 f9 f10:=by
 obtain ⟨hb,hg⟩:=h
 exact ⟨by simpa using zau hb 4 (.string x),hg⟩
theorem zbw {W:World} {g:Nat} {f0:ByteArray} {f1:Int} {f2:Bool} {f3:Bool} {f4:ByteArray} {f5:Int} {f6:ByteArray} {f7:Bool} {f8:ByteArray} {f9:Bool} {f10:Int} (h:W.heap[g]? = some (.cells #[.string f0,.int .i64 f1,.bool f2,.bool f3,.string f4,.int .i64 f5,.string f6,.bool f7,.string f8,.bool f9,.int .i64 f10] 139 (0,0))):W.cell? ⟨g,5,none⟩=some (.int .i64 f5):=(zaf h 5).trans rfl
theorem IsS139.set_5 {w0 W:World} {g:Nat} {f0:ByteArray} {f1:Int} {f2:Bool} {f3:Bool} {f4:ByteArray} {f5:Int} {f6:ByteArray} {f7:Bool} {f8:ByteArray} {f9:Bool} {f10:Int} (h:IsS139 w0 W g f0 f1 f2 f3 f4 f5 f6 f7 f8 f9 f10) (x:Int):IsS139 w0 (W.setCell ⟨g,5,none⟩ (.int .i64 x)) g f0 f1 f2 f3 f4 x f6 f7 f8 f9 f10:=by
 obtain ⟨hb,hg⟩:=h
 exact ⟨by simpa using zau hb 5 (.int .i64 x),hg⟩
theorem zbv {W:World} {g:Nat} {f0:ByteArray} {f1:Int} {f2:Bool} {f3:Bool} {f4:ByteArray} {f5:Int} {f6:ByteArray} {f7:Bool} {f8:ByteArray} {f9:Bool} {f10:Int} (h:W.heap[g]? = some (.cells #[.string f0,.int .i64 f1,.bool f2,.bool f3,.string f4,.int .i64 f5,.string f6,.bool f7,.string f8,.bool f9,.int .i64 f10] 139 (0,0))):W.cell? ⟨g,6,none⟩=some (.string f6):=(zaf h 6).trans rfl
theorem IsS139.set_6 {w0 W:World} {g:Nat} {f0:ByteArray} {f1:Int} {f2:Bool} {f3:Bool} {f4:ByteArray} {f5:Int} {f6:ByteArray} {f7:Bool} {f8:ByteArray} {f9:Bool} {f10:Int} (h:IsS139 w0 W g f0 f1 f2 f3 f4 f5 f6 f7 f8 f9 f10) (x:ByteArray):IsS139 w0 (W.setCell ⟨g,6,none⟩ (.string x)) g f0 f1 f2 f3 f4 f5 x f7 f8 f9 f10:=by
 obtain ⟨hb,hg⟩:=h
 exact ⟨by simpa using zau hb 6 (.string x),hg⟩
theorem zbu {W:World} {g:Nat} {f0:ByteArray} {f1:Int} {f2:Bool} {f3:Bool} {f4:ByteArray} {f5:Int} {f6:ByteArray} {f7:Bool} {f8:ByteArray} {f9:Bool} {f10:Int} (h:W.heap[g]? = some (.cells #[.string f0,.int .i64 f1,.bool f2,.bool f3,.string f4,.int .i64 f5,.string f6,.bool f7,.string f8,.bool f9,.int .i64 f10] 139 (0,0))):W.cell? ⟨g,7,none⟩=some (.bool f7):=(zaf h 7).trans rfl
theorem IsS139.set_7 {w0 W:World} {g:Nat} {f0:ByteArray} {f1:Int} {f2:Bool} {f3:Bool} {f4:ByteArray} {f5:Int} {f6:ByteArray} {f7:Bool} {f8:ByteArray} {f9:Bool} {f10:Int} (h:IsS139 w0 W g f0 f1 f2 f3 f4 f5 f6 f7 f8 f9 f10) (x:Bool):IsS139 w0 (W.setCell ⟨g,7,none⟩ (.bool x)) g f0 f1 f2 f3 f4 f5 f6 x f8 f9 f10:=by
 obtain ⟨hb,hg⟩:=h
 exact ⟨by simpa using zau hb 7 (.bool x),hg⟩
theorem zbt {W:World} {g:Nat} {f0:ByteArray} {f1:Int} {f2:Bool} {f3:Bool} {f4:ByteArray} {f5:Int} {f6:ByteArray} {f7:Bool} {f8:ByteArray} {f9:Bool} {f10:Int} (h:W.heap[g]? = some (.cells #[.string f0,.int .i64 f1,.bool f2,.bool f3,.string f4,.int .i64 f5,.string f6,.bool f7,.string f8,.bool f9,.int .i64 f10] 139 (0,0))):W.cell? ⟨g,8,none⟩=some (.string f8):=(zaf h 8).trans rfl
theorem IsS139.set_8 {w0 W:World} {g:Nat} {f0:ByteArray} {f1:Int} {f2:Bool} {f3:Bool} {f4:ByteArray} {f5:Int} {f6:ByteArray} {f7:Bool} {f8:ByteArray} {f9:Bool} {f10:Int} (h:IsS139 w0 W g f0 f1 f2 f3 f4 f5 f6 f7 f8 f9 f10) (x:ByteArray):IsS139 w0 (W.setCell ⟨g,8,none⟩ (.string x)) g f0 f1 f2 f3 f4 f5 f6 f7 x f9 f10:=by
 obtain ⟨hb,hg⟩:=h
 exact ⟨by simpa using zau hb 8 (.string x),hg⟩
theorem zbs {W:World} {g:Nat} {f0:ByteArray} {f1:Int} {f2:Bool} {f3:Bool} {f4:ByteArray} {f5:Int} {f6:ByteArray} {f7:Bool} {f8:ByteArray} {f9:Bool} {f10:Int} (h:W.heap[g]? = some (.cells #[.string f0,.int .i64 f1,.bool f2,.bool f3,.string f4,.int .i64 f5,.string f6,.bool f7,.string f8,.bool f9,.int .i64 f10] 139 (0,0))):W.cell? ⟨g,9,none⟩=some (.bool f9):=(zaf h 9).trans rfl
theorem IsS139.set_9 {w0 W:World} {g:Nat} {f0:ByteArray} {f1:Int} {f2:Bool} {f3:Bool} {f4:ByteArray} {f5:Int} {f6:ByteArray} {f7:Bool} {f8:ByteArray} {f9:Bool} {f10:Int} (h:IsS139 w0 W g f0 f1 f2 f3 f4 f5 f6 f7 f8 f9 f10) (x:Bool):IsS139 w0 (W.setCell ⟨g,9,none⟩ (.bool x)) g f0 f1 f2 f3 f4 f5 f6 f7 f8 x f10:=by
 obtain ⟨hb,hg⟩:=h
 exact ⟨by simpa using zau hb 9 (.bool x),hg⟩
theorem zbg {W:World} {g:Nat} {f0:ByteArray} {f1:Int} {f2:Bool} {f3:Bool} {f4:ByteArray} {f5:Int} {f6:ByteArray} {f7:Bool} {f8:ByteArray} {f9:Bool} {f10:Int} (h:W.heap[g]? = some (.cells #[.string f0,.int .i64 f1,.bool f2,.bool f3,.string f4,.int .i64 f5,.string f6,.bool f7,.string f8,.bool f9,.int .i64 f10] 139 (0,0))):W.cell? ⟨g,10,none⟩=some (.int .i64 f10):=(zaf h 10).trans rfl
theorem IsS139.set_10 {w0 W:World} {g:Nat} {f0:ByteArray} {f1:Int} {f2:Bool} {f3:Bool} {f4:ByteArray} {f5:Int} {f6:ByteArray} {f7:Bool} {f8:ByteArray} {f9:Bool} {f10:Int} (h:IsS139 w0 W g f0 f1 f2 f3 f4 f5 f6 f7 f8 f9 f10) (x:Int):IsS139 w0 (W.setCell ⟨g,10,none⟩ (.int .i64 x)) g f0 f1 f2 f3 f4 f5 f6 f7 f8 f9 x:=by
 obtain ⟨hb,hg⟩:=h
 exact ⟨by simpa using zau hb 10 (.int .i64 x),hg⟩
theorem IsS139.new (w0 W:World) (f0:ByteArray) (f1:Int) (f2:Bool) (f3:Bool) (f4:ByteArray) (f5:Int) (f6:ByteArray) (f7:Bool) (f8:ByteArray) (f9:Bool) (f10:Int) (hB:Below w0.heap.size w0 W):IsS139 w0 (W.alloc (.cells #[.string f0,.int .i64 f1,.bool f2,.bool f3,.string f4,.int .i64 f5,.string f6,.bool f7,.string f8,.bool f9,.int .i64 f10] 139)) W.heap.size f0 f1 f2 f3 f4 f5 f6 f7 f8 f9 f10:=⟨by simpa using heap_alloc_new W _,hB.size⟩
def rat_form_digits.l0:Nat→Int→ByteArray→Int→Bool→Bool→ByteArray→Int→ByteArray→Bool→ByteArray→Bool→Int→Option (ByteArray×ByteArray×Int×Bool×Bool×ByteArray×Int×ByteArray×Bool×ByteArray×Bool×Int)
 | 0,_,_,_,_,_,_,_,_,_,_,_,_=>none
 | k+1,x3,x1000,x1001,x1002,x1003,x1004,x1005,x1006,x1007,x1008,x1009,x1010=>if x1001<(x1000.size:Int) then (if 0≤x1001 then (if (bt x1000 x1001)≥48 then (if (bt x1000 x1001)≤57 then (rat_form_digits.l0 k x3 x1000 (wrap64 (x1001+1)) x1002 x1003 x1004 x1005 x1006 x1007 x1008 x1009 x1010) else (if x1002=true then (if 0≤x3 then (if x3≤x1001 then (if x1001≤(x1000.size:Int) then (some (x1000.extract (x3:Int).toNat (x1001:Int).toNat,x1000,x1001,true,x1003,x1004,x1005,x1006,x1007,x1008,x1009,x1010)) else (none)) else (none)) else (none)) else (if 0≤x3 then (if x3≤x1001 then (if x1001≤(x1000.size:Int) then (some (x1000.extract (x3:Int).toNat (x1001:Int).toNat,x1000,x1001,(x1001 == x3),x1003,x1004,x1005,x1006,x1007,x1008,x1009,x1010)) else (none)) else (none)) else (none)))) else (if x1002=true then (if 0≤x3 then (if x3≤x1001 then (if x1001≤(x1000.size:Int) then (some (x1000.extract (x3:Int).toNat (x1001:Int).toNat,x1000,x1001,true,x1003,x1004,x1005,x1006,x1007,x1008,x1009,x1010)) else (none)) else (none)) else (none)) else (if 0≤x3 then (if x3≤x1001 then (if x1001≤(x1000.size:Int) then (some (x1000.extract (x3:Int).toNat (x1001:Int).toNat,x1000,x1001,(x1001 == x3),x1003,x1004,x1005,x1006,x1007,x1008,x1009,x1010)) else (none)) else (none)) else (none)))) else (none)) else (if x1002=true then (if 0≤x3 then (if x3≤x1001 then (if x1001≤(x1000.size:Int) then (some (x1000.extract (x3:Int).toNat (x1001:Int).toNat,x1000,x1001,true,x1003,x1004,x1005,x1006,x1007,x1008,x1009,x1010)) else (none)) else (none)) else (none)) else (if 0≤x3 then (if x3≤x1001 then (if x1001≤(x1000.size:Int) then (some (x1000.extract (x3:Int).toNat (x1001:Int).toNat,x1000,x1001,(x1001 == x3),x1003,x1004,x1005,x1006,x1007,x1008,x1009,x1010)) else (none)) else (none)) else (none)))
def rat_form_digits.f (k:Nat) (s0_0:ByteArray) (s0_1:Int) (s0_2:Bool) (s0_3:Bool) (s0_4:ByteArray) (s0_5:Int) (s0_6:ByteArray) (s0_7:Bool) (s0_8:ByteArray) (s0_9:Bool) (s0_10:Int):Option (ByteArray×ByteArray×Int×Bool×Bool×ByteArray×Int×ByteArray×Bool×ByteArray×Bool×Int):=rat_form_digits.l0 k s0_1 s0_0 s0_1 s0_2 s0_3 s0_4 s0_5 s0_6 s0_7 s0_8 s0_9 s0_10
theorem rat_form_digits.calls (k:Nat) (g:Nat) (s0_0:ByteArray) (s0_1:Int) (s0_2:Bool) (s0_3:Bool) (s0_4:ByteArray) (s0_5:Int) (s0_6:ByteArray) (s0_7:Bool) (s0_8:ByteArray) (s0_9:Bool) (s0_10:Int) (r1:ByteArray) (r2:ByteArray) (r3:Int) (r4:Bool) (r5:Bool) (r6:ByteArray) (r7:Int) (r8:ByteArray) (r9:Bool) (r10:ByteArray) (r11:Bool) (r12:Int) (w0 w:World) (hI:IsS139 w0 w g s0_0 s0_1 s0_2 s0_3 s0_4 s0_5 s0_6 s0_7 s0_8 s0_9 s0_10) (hB:Below w0.heap.size w0 w) (h:rat_form_digits.f k s0_0 s0_1 s0_2 s0_3 s0_4 s0_5 s0_6 s0_7 s0_8 s0_9 s0_10=some (r1,r2,r3,r4,r5,r6,r7,r8,r9,r10,r11,r12)) :
  Calls Tryz.prog 212 #[.pointer (some ⟨g,0,none⟩)] w fun e w'=>e = .returned (.string r1)∧IsS139 w0 w' g r2 r3 r4 r5 r6 r7 r8 r9 r10 r11 r12∧Below w0.heap.size w0 w'∧KeepBut w w' g none:=by
 have HI0:=Aside0.mk hI
 have HK:=Aside0.mk (KeepBut.refl w g none)
 have HL:=Aside0.mk hB.size
 clear hI
 have HW0:=Aside0.mk hB.size
 have HB:=Aside0.mk hB
 clear hB
 have H:(rat_form_digits.l0 k s0_1 s0_0 s0_1 s0_2 s0_3 s0_4 s0_5 s0_6 s0_7 s0_8 s0_9 s0_10)=some (r1,r2,r3,r4,r5,r6,r7,r8,r9,r10,r11,r12):=h
 clear h
 have H':=Aside0.mk H
 clear H
 obtain ⟨HGz2,hgz2⟩:=HI0.out
 have hcz2_0:=zbB HGz2
 have hcz2_1:=zbA HGz2
 have hcz2_2:=zbz HGz2
 have hcz2_3:=zby HGz2
 have hcz2_4:=zbx HGz2
 have hcz2_5:=zbw HGz2
 have hcz2_6:=zbv HGz2
 have hcz2_7:=zbu HGz2
 have hcz2_8:=zbt HGz2
 have hcz2_9:=zbs HGz2
 have hcz2_10:=zbg HGz2
 have hfz2_0:=zad HGz2 0
 have hfz2_1:=zad HGz2 1
 have hfz2_2:=zad HGz2 2
 have hfz2_3:=zad HGz2 3
 have hfz2_4:=zad HGz2 4
 have hfz2_5:=zad HGz2 5
 have hfz2_6:=zad HGz2 6
 have hfz2_7:=zad HGz2 7
 have hfz2_8:=zad HGz2 8
 have hfz2_9:=zad HGz2 9
 have hfz2_10:=zad HGz2 10
 clear HGz2 hgz2
 go_enter Tryz.func212,Tryz.ntmps212
 go_wp2
 go_loopg [] k (fun kq w'=>∃ (x1001_1:Int),Aside0 (rat_form_digits.l0 kq s0_1 s0_0 x1001_1 s0_2 s0_3 s0_4 s0_5 s0_6 s0_7 s0_8 s0_9 s0_10=some (r1,r2,r3,r4,r5,r6,r7,r8,r9,r10,r11,r12))∧Aside0 (kq≤k)∧Aside0 (IsS139 w0 w' g s0_0 x1001_1 s0_2 s0_3 s0_4 s0_5 s0_6 s0_7 s0_8 s0_9 s0_10)∧Aside0 (KeepBut w w' g none)∧Aside0 (Below w0.heap.size w0 w'))
 case atStart=>exact ⟨(s0_1),H',⟨Nat.le_refl _⟩,⟨by repeat (first|(with_reducible first|exact HI0.out|apply IsS139.alloc|apply IsS139.drewN|apply IsS139.drew|apply IsS139.set_0|apply IsS139.set_1|apply IsS139.set_2|apply IsS139.set_3|apply IsS139.set_4|apply IsS139.set_5|apply IsS139.set_6|apply IsS139.set_7|apply IsS139.set_8|apply IsS139.set_9|apply IsS139.set_10)|exact HI0.out)⟩,⟨by repeat (first|(with_reducible first|exact HK.out|apply KeepBut.set_|apply zbq|apply zbY|apply zbr)|exact HK.out)⟩,⟨by repeat (first|(with_reducible first|exact HB.out|apply zaa|apply zab|apply zac|refine zag ?_ (IsS139.ge HI0.out))|exact HB.out)⟩⟩
 case round =>
  clear H'
  try clear c2
  try clear p2
  obtain ⟨x1001_1,HA,HK1,HI0,HK,HB⟩:=hrel
  cases gk with
  | zero=>exact absurd HA.out (by simp [rat_form_digits.l0])
  | succ k1 =>
   have H:=HA.out
   clear HA
   simp only [rat_form_digits.l0] at H
   by_cases c3:x1001_1<(s0_0.size:Int)
   ·rw [if_pos c3] at H
    have c3b0:decide (x1001_1<(s0_0.size:Int))=true:=decide_eq_true c3
    clear c3
    by_cases c4:0≤x1001_1
    ·rw [if_pos c4] at H
     have c4b0:decide (0≤x1001_1)=true:=decide_eq_true c4
     clear c4
     by_cases c6:(bt s0_0 x1001_1)≥48
     ·rw [if_pos c6] at H
      have c6b0:decide (48≤(bt s0_0 x1001_1))=true:=decide_eq_true c6
      clear c6
      by_cases c8:(bt s0_0 x1001_1)≤57
      ·rw [if_pos c8] at H
       have c8b0:decide ((bt s0_0 x1001_1)≤57)=true:=decide_eq_true c8
       clear c8
       have H':=Aside0.mk H
       clear H
       obtain ⟨HGz9,hgz9⟩:=HI0.out
       have hcz9_0:=zbB HGz9
       have hcz9_1:=zbA HGz9
       have hcz9_2:=zbz HGz9
       have hcz9_3:=zby HGz9
       have hcz9_4:=zbx HGz9
       have hcz9_5:=zbw HGz9
       have hcz9_6:=zbv HGz9
       have hcz9_7:=zbu HGz9
       have hcz9_8:=zbt HGz9
       have hcz9_9:=zbs HGz9
       have hcz9_10:=zbg HGz9
       have hfz9_0:=zad HGz9 0
       have hfz9_1:=zad HGz9 1
       have hfz9_2:=zad HGz9 2
       have hfz9_3:=zad HGz9 3
       have hfz9_4:=zad HGz9 4
       have hfz9_5:=zad HGz9 5
       have hfz9_6:=zad HGz9 6
       have hfz9_7:=zad HGz9 7
       have hfz9_8:=zad HGz9 8
       have hfz9_9:=zad HGz9 9
       have hfz9_10:=zad HGz9 10
       clear HGz9 hgz9
       have p5:0≤(x1001_1:Int):=of_decide_eq_true (by first|(with_reducible assumption)|assumption)
       have q5:x1001_1<(s0_0.size:Int):=of_decide_eq_true (by first|(with_reducible assumption)|assumption)
       have hx5:=bt_at s0_0 x1001_1
       replace p5:=eq_true p5
       replace q5:=eq_true q5
       have p7:0≤(x1001_1:Int):=of_decide_eq_true (by first|(with_reducible assumption)|assumption)
       have q7:x1001_1<(s0_0.size:Int):=of_decide_eq_true (by first|(with_reducible assumption)|assumption)
       have hx7:=bt_at s0_0 x1001_1
       replace p7:=eq_true p7
       replace q7:=eq_true q7
       go_wp2
       repeat (go_quiet (fail); try go_wp2)
       go_roundg k1
       case measure=>have:=HK1.out; omega
       case rel=>exact ⟨(wrap64 (x1001_1+1)),H',⟨by have:=HK1.out; omega⟩,⟨by repeat (first|(with_reducible first|exact HI0.out|apply IsS139.alloc|apply IsS139.drewN|apply IsS139.drew|apply IsS139.set_0|apply IsS139.set_1|apply IsS139.set_2|apply IsS139.set_3|apply IsS139.set_4|apply IsS139.set_5|apply IsS139.set_6|apply IsS139.set_7|apply IsS139.set_8|apply IsS139.set_9|apply IsS139.set_10)|exact HI0.out)⟩,⟨by repeat (first|(with_reducible first|exact HK.out|apply KeepBut.set_|apply zbq|apply zbY|apply zbr)|exact HK.out)⟩,⟨by repeat (first|(with_reducible first|exact HB.out|apply zaa|apply zab|apply zac|refine zag ?_ (IsS139.ge HI0.out))|exact HB.out)⟩⟩
      ·rw [if_neg c8] at H
       have c8b0:decide ((bt s0_0 x1001_1)≤57)=false:=decide_eq_false c8
       clear c8
       by_cases c10:s0_2=true
       ·subst c10
        have H1:(if 0≤s0_1 then (if s0_1≤x1001_1 then (if x1001_1≤(s0_0.size:Int) then (some (s0_0.extract (s0_1:Int).toNat (x1001_1:Int).toNat,s0_0,x1001_1,true,s0_3,s0_4,s0_5,s0_6,s0_7,s0_8,s0_9,s0_10)) else (none)) else (none)) else (none))=some (r1,r2,r3,r4,r5,r6,r7,r8,r9,r10,r11,r12):=by rw [if_pos rfl] at H; exact H
        clear H
        have H:=H1
        clear H1
        by_cases c11:0≤s0_1
        ·rw [if_pos c11] at H
         have c11b0:=eq_true c11
         have c11b1:decide (0≤s0_1)=true:=decide_eq_true c11
         clear c11
         by_cases c12:s0_1≤x1001_1
         ·rw [if_pos c12] at H
          have c12b0:=eq_true c12
          have c12b1:decide (s0_1≤x1001_1)=true:=decide_eq_true c12
          clear c12
          by_cases c13:x1001_1≤(s0_0.size:Int)
          ·rw [if_pos c13] at H
           have c13b0:=eq_true c13
           have c13b1:decide (x1001_1≤(s0_0.size:Int))=true:=decide_eq_true c13
           clear c13
           simp only [Option.some.injEq,Prod.mk.injEq] at H
           obtain ⟨rfl,rfl,rfl,rfl,rfl,rfl,rfl,rfl,rfl,rfl,rfl,rfl⟩:=H
           obtain ⟨HGz14,hgz14⟩:=HI0.out
           have hcz14_0:=zbB HGz14
           have hcz14_1:=zbA HGz14
           have hcz14_2:=zbz HGz14
           have hcz14_3:=zby HGz14
           have hcz14_4:=zbx HGz14
           have hcz14_5:=zbw HGz14
           have hcz14_6:=zbv HGz14
           have hcz14_7:=zbu HGz14
           have hcz14_8:=zbt HGz14
           have hcz14_9:=zbs HGz14
           have hcz14_10:=zbg HGz14
           have hfz14_0:=zad HGz14 0
           have hfz14_1:=zad HGz14 1
           have hfz14_2:=zad HGz14 2
           have hfz14_3:=zad HGz14 3
           have hfz14_4:=zad HGz14 4
           have hfz14_5:=zad HGz14 5
           have hfz14_6:=zad HGz14 6
           have hfz14_7:=zad HGz14 7
           have hfz14_8:=zad HGz14 8
           have hfz14_9:=zad HGz14 9
           have hfz14_10:=zad HGz14 10
           clear HGz14 hgz14
           have p5:0≤(x1001_1:Int):=of_decide_eq_true (by first|(with_reducible assumption)|assumption)
           have q5:x1001_1<(s0_0.size:Int):=of_decide_eq_true (by first|(with_reducible assumption)|assumption)
           have hx5:=bt_at s0_0 x1001_1
           replace p5:=eq_true p5
           replace q5:=eq_true q5
           have p7:0≤(x1001_1:Int):=of_decide_eq_true (by first|(with_reducible assumption)|assumption)
           have q7:x1001_1<(s0_0.size:Int):=of_decide_eq_true (by first|(with_reducible assumption)|assumption)
           have hx7:=bt_at s0_0 x1001_1
           replace p7:=eq_true p7
           replace q7:=eq_true q7
           go_wp2
           repeat (go_quiet (fail); try go_wp2)
           go_ret
           exact ⟨by first|rfl|(simp [zam,zal]<;>rfl)|(simp [*,zam,zal]<;>rfl),by repeat (first|(with_reducible first|exact HI0.out|apply IsS139.alloc|apply IsS139.drewN|apply IsS139.drew|apply IsS139.set_0|apply IsS139.set_1|apply IsS139.set_2|apply IsS139.set_3|apply IsS139.set_4|apply IsS139.set_5|apply IsS139.set_6|apply IsS139.set_7|apply IsS139.set_8|apply IsS139.set_9|apply IsS139.set_10)|exact HI0.out),by repeat (first|(with_reducible first|exact HB.out|apply zaa|apply zab|apply zac|refine zag ?_ (IsS139.ge HI0.out))|exact HB.out),by repeat (first|(with_reducible first|exact HK.out|apply KeepBut.set_|apply zbq|apply zbY|apply zbr)|exact HK.out)⟩
          ·rw [if_neg c13] at H
           exact absurd H (by simp)
         ·rw [if_neg c12] at H
          exact absurd H (by simp)
        ·rw [if_neg c11] at H
         exact absurd H (by simp)
       ·replace c10:=Bool.eq_false_iff.mpr c10
        subst c10
        have H1:(if 0≤s0_1 then (if s0_1≤x1001_1 then (if x1001_1≤(s0_0.size:Int) then (some (s0_0.extract (s0_1:Int).toNat (x1001_1:Int).toNat,s0_0,x1001_1,(x1001_1 == s0_1),s0_3,s0_4,s0_5,s0_6,s0_7,s0_8,s0_9,s0_10)) else (none)) else (none)) else (none))=some (r1,r2,r3,r4,r5,r6,r7,r8,r9,r10,r11,r12):=by rw [if_neg (show ¬ (false=true) by decide)] at H; exact H
        clear H
        have H:=H1
        clear H1
        by_cases c15:0≤s0_1
        ·rw [if_pos c15] at H
         have c15b0:=eq_true c15
         have c15b1:decide (0≤s0_1)=true:=decide_eq_true c15
         clear c15
         by_cases c16:s0_1≤x1001_1
         ·rw [if_pos c16] at H
          have c16b0:=eq_true c16
          have c16b1:decide (s0_1≤x1001_1)=true:=decide_eq_true c16
          clear c16
          by_cases c17:x1001_1≤(s0_0.size:Int)
          ·rw [if_pos c17] at H
           have c17b0:=eq_true c17
           have c17b1:decide (x1001_1≤(s0_0.size:Int))=true:=decide_eq_true c17
           clear c17
           simp only [Option.some.injEq,Prod.mk.injEq] at H
           obtain ⟨rfl,rfl,rfl,rfl,rfl,rfl,rfl,rfl,rfl,rfl,rfl,rfl⟩:=H
           obtain ⟨HGz18,hgz18⟩:=HI0.out
           have hcz18_0:=zbB HGz18
           have hcz18_1:=zbA HGz18
           have hcz18_2:=zbz HGz18
           have hcz18_3:=zby HGz18
           have hcz18_4:=zbx HGz18
           have hcz18_5:=zbw HGz18
           have hcz18_6:=zbv HGz18
           have hcz18_7:=zbu HGz18
           have hcz18_8:=zbt HGz18
           have hcz18_9:=zbs HGz18
           have hcz18_10:=zbg HGz18
           have hfz18_0:=zad HGz18 0
           have hfz18_1:=zad HGz18 1
           have hfz18_2:=zad HGz18 2
           have hfz18_3:=zad HGz18 3
           have hfz18_4:=zad HGz18 4
           have hfz18_5:=zad HGz18 5
           have hfz18_6:=zad HGz18 6
           have hfz18_7:=zad HGz18 7
           have hfz18_8:=zad HGz18 8
           have hfz18_9:=zad HGz18 9
           have hfz18_10:=zad HGz18 10
           clear HGz18 hgz18
           have p5:0≤(x1001_1:Int):=of_decide_eq_true (by first|(with_reducible assumption)|assumption)
           have q5:x1001_1<(s0_0.size:Int):=of_decide_eq_true (by first|(with_reducible assumption)|assumption)
           have hx5:=bt_at s0_0 x1001_1
           replace p5:=eq_true p5
           replace q5:=eq_true q5
           have p7:0≤(x1001_1:Int):=of_decide_eq_true (by first|(with_reducible assumption)|assumption)
           have q7:x1001_1<(s0_0.size:Int):=of_decide_eq_true (by first|(with_reducible assumption)|assumption)
           have hx7:=bt_at s0_0 x1001_1
           replace p7:=eq_true p7
           replace q7:=eq_true q7
           go_wp2
           repeat (go_quiet (fail); try go_wp2)
           go_ret
           exact ⟨by first|rfl|(simp [zam,zal]<;>rfl)|(simp [*,zam,zal]<;>rfl),by repeat (first|(with_reducible first|exact HI0.out|apply IsS139.alloc|apply IsS139.drewN|apply IsS139.drew|apply IsS139.set_0|apply IsS139.set_1|apply IsS139.set_2|apply IsS139.set_3|apply IsS139.set_4|apply IsS139.set_5|apply IsS139.set_6|apply IsS139.set_7|apply IsS139.set_8|apply IsS139.set_9|apply IsS139.set_10)|exact HI0.out),by repeat (first|(with_reducible first|exact HB.out|apply zaa|apply zab|apply zac|refine zag ?_ (IsS139.ge HI0.out))|exact HB.out),by repeat (first|(with_reducible first|exact HK.out|apply KeepBut.set_|apply zbq|apply zbY|apply zbr)|exact HK.out)⟩
          ·rw [if_neg c17] at H
           exact absurd H (by simp)
         ·rw [if_neg c16] at H
          exact absurd H (by simp)
        ·rw [if_neg c15] at H
         exact absurd H (by simp)
     ·rw [if_neg c6] at H
      have c6b0:decide (48≤(bt s0_0 x1001_1))=false:=decide_eq_false c6
      clear c6
      by_cases c19:s0_2=true
      ·subst c19
       have H1:(if 0≤s0_1 then (if s0_1≤x1001_1 then (if x1001_1≤(s0_0.size:Int) then (some (s0_0.extract (s0_1:Int).toNat (x1001_1:Int).toNat,s0_0,x1001_1,true,s0_3,s0_4,s0_5,s0_6,s0_7,s0_8,s0_9,s0_10)) else (none)) else (none)) else (none))=some (r1,r2,r3,r4,r5,r6,r7,r8,r9,r10,r11,r12):=by rw [if_pos rfl] at H; exact H
       clear H
       have H:=H1
       clear H1
       by_cases c20:0≤s0_1
       ·rw [if_pos c20] at H
        have c20b0:=eq_true c20
        have c20b1:decide (0≤s0_1)=true:=decide_eq_true c20
        clear c20
        by_cases c21:s0_1≤x1001_1
        ·rw [if_pos c21] at H
         have c21b0:=eq_true c21
         have c21b1:decide (s0_1≤x1001_1)=true:=decide_eq_true c21
         clear c21
         by_cases c22:x1001_1≤(s0_0.size:Int)
         ·rw [if_pos c22] at H
          have c22b0:=eq_true c22
          have c22b1:decide (x1001_1≤(s0_0.size:Int))=true:=decide_eq_true c22
          clear c22
          simp only [Option.some.injEq,Prod.mk.injEq] at H
          obtain ⟨rfl,rfl,rfl,rfl,rfl,rfl,rfl,rfl,rfl,rfl,rfl,rfl⟩:=H
          obtain ⟨HGz23,hgz23⟩:=HI0.out
          have hcz23_0:=zbB HGz23
          have hcz23_1:=zbA HGz23
          have hcz23_2:=zbz HGz23
          have hcz23_3:=zby HGz23
          have hcz23_4:=zbx HGz23
          have hcz23_5:=zbw HGz23
          have hcz23_6:=zbv HGz23
          have hcz23_7:=zbu HGz23
          have hcz23_8:=zbt HGz23
          have hcz23_9:=zbs HGz23
          have hcz23_10:=zbg HGz23
          have hfz23_0:=zad HGz23 0
          have hfz23_1:=zad HGz23 1
          have hfz23_2:=zad HGz23 2
          have hfz23_3:=zad HGz23 3
          have hfz23_4:=zad HGz23 4
          have hfz23_5:=zad HGz23 5
          have hfz23_6:=zad HGz23 6
          have hfz23_7:=zad HGz23 7
          have hfz23_8:=zad HGz23 8
          have hfz23_9:=zad HGz23 9
          have hfz23_10:=zad HGz23 10
          clear HGz23 hgz23
          have p5:0≤(x1001_1:Int):=of_decide_eq_true (by first|(with_reducible assumption)|assumption)
          have q5:x1001_1<(s0_0.size:Int):=of_decide_eq_true (by first|(with_reducible assumption)|assumption)
          have hx5:=bt_at s0_0 x1001_1
          replace p5:=eq_true p5
          replace q5:=eq_true q5
          go_wp2
          repeat (go_quiet (fail); try go_wp2)
          go_ret
          exact ⟨by first|rfl|(simp [zam,zal]<;>rfl)|(simp [*,zam,zal]<;>rfl),by repeat (first|(with_reducible first|exact HI0.out|apply IsS139.alloc|apply IsS139.drewN|apply IsS139.drew|apply IsS139.set_0|apply IsS139.set_1|apply IsS139.set_2|apply IsS139.set_3|apply IsS139.set_4|apply IsS139.set_5|apply IsS139.set_6|apply IsS139.set_7|apply IsS139.set_8|apply IsS139.set_9|apply IsS139.set_10)|exact HI0.out),by repeat (first|(with_reducible first|exact HB.out|apply zaa|apply zab|apply zac|refine zag ?_ (IsS139.ge HI0.out))|exact HB.out),by repeat (first|(with_reducible first|exact HK.out|apply KeepBut.set_|apply zbq|apply zbY|apply zbr)|exact HK.out)⟩
         ·rw [if_neg c22] at H
          exact absurd H (by simp)
        ·rw [if_neg c21] at H
         exact absurd H (by simp)
       ·rw [if_neg c20] at H
        exact absurd H (by simp)
      ·replace c19:=Bool.eq_false_iff.mpr c19
       subst c19
       have H1:(if 0≤s0_1 then (if s0_1≤x1001_1 then (if x1001_1≤(s0_0.size:Int) then (some (s0_0.extract (s0_1:Int).toNat (x1001_1:Int).toNat,s0_0,x1001_1,(x1001_1 == s0_1),s0_3,s0_4,s0_5,s0_6,s0_7,s0_8,s0_9,s0_10)) else (none)) else (none)) else (none))=some (r1,r2,r3,r4,r5,r6,r7,r8,r9,r10,r11,r12):=by rw [if_neg (show ¬ (false=true) by decide)] at H; exact H
       clear H
       have H:=H1
       clear H1
       by_cases c24:0≤s0_1
       ·rw [if_pos c24] at H
        have c24b0:=eq_true c24
        have c24b1:decide (0≤s0_1)=true:=decide_eq_true c24
        clear c24
        by_cases c25:s0_1≤x1001_1
        ·rw [if_pos c25] at H
         have c25b0:=eq_true c25
         have c25b1:decide (s0_1≤x1001_1)=true:=decide_eq_true c25
         clear c25
         by_cases c26:x1001_1≤(s0_0.size:Int)
         ·rw [if_pos c26] at H
          have c26b0:=eq_true c26
          have c26b1:decide (x1001_1≤(s0_0.size:Int))=true:=decide_eq_true c26
          clear c26
          simp only [Option.some.injEq,Prod.mk.injEq] at H
          obtain ⟨rfl,rfl,rfl,rfl,rfl,rfl,rfl,rfl,rfl,rfl,rfl,rfl⟩:=H
          obtain ⟨HGz27,hgz27⟩:=HI0.out
          have hcz27_0:=zbB HGz27
          have hcz27_1:=zbA HGz27
          have hcz27_2:=zbz HGz27
          have hcz27_3:=zby HGz27
          have hcz27_4:=zbx HGz27
          have hcz27_5:=zbw HGz27
          have hcz27_6:=zbv HGz27
          have hcz27_7:=zbu HGz27
          have hcz27_8:=zbt HGz27
          have hcz27_9:=zbs HGz27
          have hcz27_10:=zbg HGz27
          have hfz27_0:=zad HGz27 0
          have hfz27_1:=zad HGz27 1
          have hfz27_2:=zad HGz27 2
          have hfz27_3:=zad HGz27 3
          have hfz27_4:=zad HGz27 4
          have hfz27_5:=zad HGz27 5
          have hfz27_6:=zad HGz27 6
          have hfz27_7:=zad HGz27 7
          have hfz27_8:=zad HGz27 8
          have hfz27_9:=zad HGz27 9
          have hfz27_10:=zad HGz27 10
          clear HGz27 hgz27
          have p5:0≤(x1001_1:Int):=of_decide_eq_true (by first|(with_reducible assumption)|assumption)
          have q5:x1001_1<(s0_0.size:Int):=of_decide_eq_true (by first|(with_reducible assumption)|assumption)
          have hx5:=bt_at s0_0 x1001_1
          replace p5:=eq_true p5
          replace q5:=eq_true q5
          go_wp2
          repeat (go_quiet (fail); try go_wp2)
          go_ret
          exact ⟨by first|rfl|(simp [zam,zal]<;>rfl)|(simp [*,zam,zal]<;>rfl),by repeat (first|(with_reducible first|exact HI0.out|apply IsS139.alloc|apply IsS139.drewN|apply IsS139.drew|apply IsS139.set_0|apply IsS139.set_1|apply IsS139.set_2|apply IsS139.set_3|apply IsS139.set_4|apply IsS139.set_5|apply IsS139.set_6|apply IsS139.set_7|apply IsS139.set_8|apply IsS139.set_9|apply IsS139.set_10)|exact HI0.out),by repeat (first|(with_reducible first|exact HB.out|apply zaa|apply zab|apply zac|refine zag ?_ (IsS139.ge HI0.out))|exact HB.out),by repeat (first|(with_reducible first|exact HK.out|apply KeepBut.set_|apply zbq|apply zbY|apply zbr)|exact HK.out)⟩
         ·rw [if_neg c26] at H
          exact absurd H (by simp)
        ·rw [if_neg c25] at H
         exact absurd H (by simp)
       ·rw [if_neg c24] at H
        exact absurd H (by simp)
    ·rw [if_neg c4] at H
     exact absurd H (by simp)
   ·rw [if_neg c3] at H
    have c3b0:decide (x1001_1<(s0_0.size:Int))=false:=decide_eq_false c3
    clear c3
    by_cases c28:s0_2=true
    ·subst c28
     have H1:(if 0≤s0_1 then (if s0_1≤x1001_1 then (if x1001_1≤(s0_0.size:Int) then (some (s0_0.extract (s0_1:Int).toNat (x1001_1:Int).toNat,s0_0,x1001_1,true,s0_3,s0_4,s0_5,s0_6,s0_7,s0_8,s0_9,s0_10)) else (none)) else (none)) else (none))=some (r1,r2,r3,r4,r5,r6,r7,r8,r9,r10,r11,r12):=by rw [if_pos rfl] at H; exact H
     clear H
     have H:=H1
     clear H1
     by_cases c29:0≤s0_1
     ·rw [if_pos c29] at H
      have c29b0:=eq_true c29
      have c29b1:decide (0≤s0_1)=true:=decide_eq_true c29
      clear c29
      by_cases c30:s0_1≤x1001_1
      ·rw [if_pos c30] at H
       have c30b0:=eq_true c30
       have c30b1:decide (s0_1≤x1001_1)=true:=decide_eq_true c30
       clear c30
       by_cases c31:x1001_1≤(s0_0.size:Int)
       ·rw [if_pos c31] at H
        have c31b0:=eq_true c31
        have c31b1:decide (x1001_1≤(s0_0.size:Int))=true:=decide_eq_true c31
        clear c31
        simp only [Option.some.injEq,Prod.mk.injEq] at H
        obtain ⟨rfl,rfl,rfl,rfl,rfl,rfl,rfl,rfl,rfl,rfl,rfl,rfl⟩:=H
        obtain ⟨HGz32,hgz32⟩:=HI0.out
        have hcz32_0:=zbB HGz32
        have hcz32_1:=zbA HGz32
        have hcz32_2:=zbz HGz32
        have hcz32_3:=zby HGz32
        have hcz32_4:=zbx HGz32
        have hcz32_5:=zbw HGz32
        have hcz32_6:=zbv HGz32
        have hcz32_7:=zbu HGz32
        have hcz32_8:=zbt HGz32
        have hcz32_9:=zbs HGz32
        have hcz32_10:=zbg HGz32
        have hfz32_0:=zad HGz32 0
        have hfz32_1:=zad HGz32 1
        have hfz32_2:=zad HGz32 2
        have hfz32_3:=zad HGz32 3
        have hfz32_4:=zad HGz32 4
        have hfz32_5:=zad HGz32 5
        have hfz32_6:=zad HGz32 6
        have hfz32_7:=zad HGz32 7
        have hfz32_8:=zad HGz32 8
        have hfz32_9:=zad HGz32 9
        have hfz32_10:=zad HGz32 10
        clear HGz32 hgz32
        go_wp2
        repeat (go_quiet (fail); try go_wp2)
        go_ret
        exact ⟨by first|rfl|(simp [zam,zal]<;>rfl)|(simp [*,zam,zal]<;>rfl),by repeat (first|(with_reducible first|exact HI0.out|apply IsS139.alloc|apply IsS139.drewN|apply IsS139.drew|apply IsS139.set_0|apply IsS139.set_1|apply IsS139.set_2|apply IsS139.set_3|apply IsS139.set_4|apply IsS139.set_5|apply IsS139.set_6|apply IsS139.set_7|apply IsS139.set_8|apply IsS139.set_9|apply IsS139.set_10)|exact HI0.out),by repeat (first|(with_reducible first|exact HB.out|apply zaa|apply zab|apply zac|refine zag ?_ (IsS139.ge HI0.out))|exact HB.out),by repeat (first|(with_reducible first|exact HK.out|apply KeepBut.set_|apply zbq|apply zbY|apply zbr)|exact HK.out)⟩
       ·rw [if_neg c31] at H
        exact absurd H (by simp)
      ·rw [if_neg c30] at H
       exact absurd H (by simp)
     ·rw [if_neg c29] at H
      exact absurd H (by simp)
    ·replace c28:=Bool.eq_false_iff.mpr c28
     subst c28
     have H1:(if 0≤s0_1 then (if s0_1≤x1001_1 then (if x1001_1≤(s0_0.size:Int) then (some (s0_0.extract (s0_1:Int).toNat (x1001_1:Int).toNat,s0_0,x1001_1,(x1001_1 == s0_1),s0_3,s0_4,s0_5,s0_6,s0_7,s0_8,s0_9,s0_10)) else (none)) else (none)) else (none))=some (r1,r2,r3,r4,r5,r6,r7,r8,r9,r10,r11,r12):=by rw [if_neg (show ¬ (false=true) by decide)] at H; exact H
     clear H
     have H:=H1
     clear H1
     by_cases c33:0≤s0_1
     ·rw [if_pos c33] at H
      have c33b0:=eq_true c33
      have c33b1:decide (0≤s0_1)=true:=decide_eq_true c33
      clear c33
      by_cases c34:s0_1≤x1001_1
      ·rw [if_pos c34] at H
       have c34b0:=eq_true c34
       have c34b1:decide (s0_1≤x1001_1)=true:=decide_eq_true c34
       clear c34
       by_cases c35:x1001_1≤(s0_0.size:Int)
       ·rw [if_pos c35] at H
        have c35b0:=eq_true c35
        have c35b1:decide (x1001_1≤(s0_0.size:Int))=true:=decide_eq_true c35
        clear c35
        simp only [Option.some.injEq,Prod.mk.injEq] at H
        obtain ⟨rfl,rfl,rfl,rfl,rfl,rfl,rfl,rfl,rfl,rfl,rfl,rfl⟩:=H
        obtain ⟨HGz36,hgz36⟩:=HI0.out
        have hcz36_0:=zbB HGz36
        have hcz36_1:=zbA HGz36
        have hcz36_2:=zbz HGz36
        have hcz36_3:=zby HGz36
        have hcz36_4:=zbx HGz36
        have hcz36_5:=zbw HGz36
        have hcz36_6:=zbv HGz36
        have hcz36_7:=zbu HGz36
        have hcz36_8:=zbt HGz36
        have hcz36_9:=zbs HGz36
        have hcz36_10:=zbg HGz36
        have hfz36_0:=zad HGz36 0
        have hfz36_1:=zad HGz36 1
        have hfz36_2:=zad HGz36 2
        have hfz36_3:=zad HGz36 3
        have hfz36_4:=zad HGz36 4
        have hfz36_5:=zad HGz36 5
        have hfz36_6:=zad HGz36 6
        have hfz36_7:=zad HGz36 7
        have hfz36_8:=zad HGz36 8
        have hfz36_9:=zad HGz36 9
        have hfz36_10:=zad HGz36 10
        clear HGz36 hgz36
        go_wp2
        repeat (go_quiet (fail); try go_wp2)
        go_ret
        exact ⟨by first|rfl|(simp [zam,zal]<;>rfl)|(simp [*,zam,zal]<;>rfl),by repeat (first|(with_reducible first|exact HI0.out|apply IsS139.alloc|apply IsS139.drewN|apply IsS139.drew|apply IsS139.set_0|apply IsS139.set_1|apply IsS139.set_2|apply IsS139.set_3|apply IsS139.set_4|apply IsS139.set_5|apply IsS139.set_6|apply IsS139.set_7|apply IsS139.set_8|apply IsS139.set_9|apply IsS139.set_10)|exact HI0.out),by repeat (first|(with_reducible first|exact HB.out|apply zaa|apply zab|apply zac|refine zag ?_ (IsS139.ge HI0.out))|exact HB.out),by repeat (first|(with_reducible first|exact HK.out|apply KeepBut.set_|apply zbq|apply zbY|apply zbr)|exact HK.out)⟩
       ·rw [if_neg c35] at H
        exact absurd H (by simp)
      ·rw [if_neg c34] at H
       exact absurd H (by simp)
     ·rw [if_neg c33] at H
      exact absurd H (by simp)
end Go.Proofs.ZP
end
