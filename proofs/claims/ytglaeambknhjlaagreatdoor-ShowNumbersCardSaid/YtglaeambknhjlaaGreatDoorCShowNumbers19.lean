/- Texts under the proof, joined by a program (prune.py): Q121, Q122, Q123, Q107, Q108, QFrac1. -/
import Derived.Test.YtglaeambknhjlaaGreatDoorCShowNumbers13
import Derived.Test.YtglaeambknhjlaaGreatDoorCShowNumbers17
import Derived.Test.YtglaeambknhjlaaGreatDoorCShowNumbers11
import Derived.Test.YtglaeambknhjlaaGreatDoorCShowNumbers18
set_option linter.unusedVariables false
set_option linter.unusedSimpArgs false
set_option exponentiation.threshold 20001
set_option maxHeartbeats 8000000
set_option maxRecDepth 100000
section
namespace Go.Proofs.ZQ
open Go.RowKit Go.Proofs.ZW.Wa Go.Proofs.ZW.Wb Go.Proofs.ZW.Wc
attribute [local go_sem] zaE zaD zaL zaK zaC zaB zaH zaG
noncomputable def c1_FMul.f (a0_0:Bool) (a0_1:ByteArray) (a0_2:ByteArray) (a1_0:Bool) (a1_1:ByteArray) (a1_2:ByteArray):Option (Bool×ByteArray×ByteArray):=(c1_Times.f a0_1 a1_1).bind fun t357=>((c1_Times.f a0_2 a1_2).bind fun t358=>((c1_low.f (a0_0 != a1_0) t357 t358).bind fun bt359=>(some (bt359.1,bt359.2.1,bt359.2.2))))
noncomputable def c1_FMul.T1:Bool×List (List Nat×List Nat):=(true,[([],[]),([0],[0]),([],[]),([2],[2]),([1,3],[1,3]),([],[]),([5],[5]),([],[]),([7],[7]),([6,8],[6,8]),([],[]),([10],[10]),([],[]),([12],[12]),([11,13,9],[11,13]),([4,9,14,14],[4,9,14]),([15,15,0,1,2,3,4,5,6,7,8,9,10,11,12,13,14,15],[15])])
noncomputable def c1_FMul.B1:List Nat:=[0,1,0,4,15,0,32,0,128,480,0,1024,0,4096,16352,32767,65535]
theorem c1_FMul.tab1:rtab .any (opsOf Tryz.f81 1)=c1_FMul.T1:=by kernel_rfl
theorem c1_FMul.bits1:waitsOk c1_FMul.T1.2 c1_FMul.B1=true:=by kernel_rfl
theorem c1_FMul.calls (a0_0:Bool) (a0_1:ByteArray) (a0_2:ByteArray) (a1_0:Bool) (a1_1:ByteArray) (a1_2:ByteArray) (r1:Bool) (r2:ByteArray) (r3:ByteArray) (w:World) (h:c1_FMul.f a0_0 a0_1 a0_2 a1_0 a1_1 a1_2=some (r1,r2,r3)) :
  Calls Tryz.prog 81 #[.agg #[.bool a0_0,.string a0_1,.string a0_2],.agg #[.bool a1_0,.string a1_1,.string a1_2]] w fun e w'=>e = .returned (.agg #[.bool r1,.string r2,.string r3])∧Below w.heap.size w w':=by
 have hu28:=Tryz.underlying28
 have HB:=Aside0.mk (Below.refl w.heap.size w)
 have H:((c1_Times.f a0_1 a1_1).bind fun t357=>((c1_Times.f a0_2 a1_2).bind fun t358=>((c1_low.f (a0_0 != a1_0) t357 t358).bind fun bt359=>(some (bt359.1,bt359.2.1,bt359.2.2)))))=some (r1,r2,r3):=h
 clear h
 replace H:=Option.bind_eq_some_iff.mp H
 obtain ⟨t357,A30,H⟩:=H
 replace H:((c1_Times.f a0_2 a1_2).bind fun t358=>((c1_low.f (a0_0 != a1_0) t357 t358).bind fun bt359=>(some (bt359.1,bt359.2.1,bt359.2.2))))=some (r1,r2,r3):=H
 have A3:=Aside0.mk A30
 clear A30
 replace H:=Option.bind_eq_some_iff.mp H
 obtain ⟨t358,A40,H⟩:=H
 replace H:((c1_low.f (a0_0 != a1_0) t357 t358).bind fun bt359=>(some (bt359.1,bt359.2.1,bt359.2.2)))=some (r1,r2,r3):=H
 have A4:=Aside0.mk A40
 clear A40
 replace H:=Option.bind_eq_some_iff.mp H
 obtain ⟨⟨t359,t360,t361⟩,A50,H⟩:=H
 replace H:(some (t359,t360,t361))=some (r1,r2,r3):=H
 have A5:=Aside0.mk A50
 clear A50
 simp only [Option.some.injEq,Prod.mk.injEq] at H
 obtain ⟨rfl,rfl,rfl⟩:=H
 go_enter Tryz.func81,Tryz.ntmps81
 try go_wp2_with (first|((with_reducible refine zau (N:=2) rfl ?_); refine zas ?hg (N:=2) ?hd (cs:=#[.bool a0_0,.string a0_1,.string a0_2]) (t:=28) ?hr ?_; (case hd=>rfl); (case hg=>rfl); (case hr=>first|(go_simp; done)|(go_simp; rfl)); intro gb354 hg w6 hbox hb; have n0_:=Aside0.mk (zak (by repeat (first|(with_reducible first|exact HB.out|apply zab|apply zaa|apply zac)|exact HB.out)) hb); have n1_:=Aside0.mk (hbox); have n2_:=Aside0.mk ((by rw [hg]; exact (zal (by repeat (first|(with_reducible first|exact HB.out|apply zab|apply zaa|apply zac)|exact HB.out))):w.heap.size≤gb354)); have n3_:=Aside0.mk ((by rw [hg]; exact (zal (by repeat (first|(with_reducible first|exact HB.out|apply zab|apply zaa|apply zac)|exact HB.out))):w.heap.size≤gb354)); clear HB; have HB:=n0_; have BK354:=n1_; have GW354:=n2_; have GE354:=n3_; clear n0_ n1_ n2_ n3_; clear hb hbox hg)|((with_reducible refine zau (N:=3) rfl ?_); refine zas ?hg (N:=3) ?hd (cs:=#[.bool a1_0,.string a1_1,.string a1_2]) (t:=28) ?hr ?_; (case hd=>rfl); (case hg=>rfl); (case hr=>first|(go_simp; done)|(go_simp; rfl)); intro gb355 hg w7 hbox hb; have n0_:=Aside0.mk (zao (g:=gb354) (o:=.cells #[.bool a0_0,.string a0_1,.string a0_2] 28 (0,0)) (by (with_reducible repeat (first|refine zaf ?_ _|refine zai ?_|refine zag ?_ _)); exact BK354.out) hb); have n1_:=Aside0.mk (zak (by repeat (first|(with_reducible first|exact HB.out|apply zab|apply zaa|apply zac|refine zae ?_ GE354.out)|exact HB.out)) hb); have n2_:=Aside0.mk (hbox); have n3_:=Aside0.mk ((by rw [hg]; exact (zal (by repeat (first|(with_reducible first|exact HB.out|apply zab|apply zaa|apply zac|refine zae ?_ GE354.out)|exact HB.out))):w.heap.size≤gb355)); have n4_:=Aside0.mk ((by rw [hg]; exact (zal (by repeat (first|(with_reducible first|exact HB.out|apply zab|apply zaa|apply zac|refine zae ?_ GE354.out)|exact HB.out))):w.heap.size≤gb355)); have n5_:=Aside0.mk ((by rw [hg]; exact Nat.ne_of_lt (zaz (g:=gb354) (o:=.cells #[.bool a0_0,.string a0_1,.string a0_2] 28 (0,0)) (by (with_reducible repeat (first|refine zaf ?_ _|refine zai ?_|refine zag ?_ _)); exact BK354.out)):gb354≠gb355)); have n6_:=Aside0.mk ((by rw [hg]; exact Nat.ne_of_gt (zaz (g:=gb354) (o:=.cells #[.bool a0_0,.string a0_1,.string a0_2] 28 (0,0)) (by (with_reducible repeat (first|refine zaf ?_ _|refine zai ?_|refine zag ?_ _)); exact BK354.out)):gb355≠gb354)); clear BK354; clear HB; have BK354:=n0_; have HB:=n1_; have BK355:=n2_; have GW355:=n3_; have GE355:=n4_; have NB354_336:=n5_; have NB355_335:=n6_; clear n0_ n1_ n2_ n3_ n4_ n5_ n6_; clear hb hbox hg)|((with_reducible refine zau (N:=4) rfl ?_); refine zas ?hg (N:=4) ?hd (cs:=#[.bool false,.string (⟨#[]⟩:ByteArray),.string (⟨#[]⟩:ByteArray)]) (t:=28) ?hr ?_; (case hd=>rfl); (case hg=>rfl); (case hr=>first|(go_simp; done)|(go_simp; rfl)); intro gb356 hg w8 hbox hb; have n0_:=Aside0.mk (zao (g:=gb354) (o:=.cells #[.bool a0_0,.string a0_1,.string a0_2] 28 (0,0)) (by (with_reducible repeat (first|refine zaf ?_ _|refine zai ?_|refine zag ?_ _)); exact BK354.out) hb); have n1_:=Aside0.mk (zao (g:=gb355) (o:=.cells #[.bool a1_0,.string a1_1,.string a1_2] 28 (0,0)) (by (with_reducible repeat (first|refine zaf ?_ _|refine zai ?_|refine zag ?_ _)); exact BK355.out) hb); have n2_:=Aside0.mk (zak (by repeat (first|(with_reducible first|exact HB.out|apply zab|apply zaa|apply zac|refine zae ?_ GE354.out|refine zae ?_ GE355.out)|exact HB.out)) hb); have n3_:=Aside0.mk (hbox); have n4_:=Aside0.mk ((by rw [hg]; exact (zal (by repeat (first|(with_reducible first|exact HB.out|apply zab|apply zaa|apply zac|refine zae ?_ GE354.out|refine zae ?_ GE355.out)|exact HB.out))):w.heap.size≤gb356)); have n5_:=Aside0.mk ((by rw [hg]; exact (zal (by repeat (first|(with_reducible first|exact HB.out|apply zab|apply zaa|apply zac|refine zae ?_ GE354.out|refine zae ?_ GE355.out)|exact HB.out))):w.heap.size≤gb356)); have n6_:=Aside0.mk ((by rw [hg]; exact Nat.ne_of_lt (zaz (g:=gb354) (o:=.cells #[.bool a0_0,.string a0_1,.string a0_2] 28 (0,0)) (by (with_reducible repeat (first|refine zaf ?_ _|refine zai ?_|refine zag ?_ _)); exact BK354.out)):gb354≠gb356)); have n7_:=Aside0.mk ((by rw [hg]; exact Nat.ne_of_gt (zaz (g:=gb354) (o:=.cells #[.bool a0_0,.string a0_1,.string a0_2] 28 (0,0)) (by (with_reducible repeat (first|refine zaf ?_ _|refine zai ?_|refine zag ?_ _)); exact BK354.out)):gb356≠gb354)); have n8_:=Aside0.mk ((by rw [hg]; exact Nat.ne_of_lt (zaz (g:=gb355) (o:=.cells #[.bool a1_0,.string a1_1,.string a1_2] 28 (0,0)) (by (with_reducible repeat (first|refine zaf ?_ _|refine zai ?_|refine zag ?_ _)); exact BK355.out)):gb355≠gb356)); have n9_:=Aside0.mk ((by rw [hg]; exact Nat.ne_of_gt (zaz (g:=gb355) (o:=.cells #[.bool a1_0,.string a1_1,.string a1_2] 28 (0,0)) (by (with_reducible repeat (first|refine zaf ?_ _|refine zai ?_|refine zag ?_ _)); exact BK355.out)):gb356≠gb355)); clear BK354; clear BK355; clear HB; have BK354:=n0_; have BK355:=n1_; have HB:=n2_; have BK356:=n3_; have GW356:=n4_; have GE356:=n5_; have NB354_337:=n6_; have NB356_335:=n7_; have NB355_337:=n8_; have NB356_336:=n9_; clear n0_ n1_ n2_ n3_ n4_ n5_ n6_ n7_ n8_ n9_; clear hb hbox hg))
 have n0_:=Aside0.mk (zai BK354.out)
 have n1_:=Aside0.mk (zai BK355.out)
 have n2_:=Aside0.mk (zai BK356.out)
 have n3_:=Aside0.mk (zac HB.out)
 clear BK354
 clear BK355
 clear BK356
 clear HB
 have BK354:=n0_
 have BK355:=n1_
 have BK356:=n2_
 have HB:=n3_
 clear n0_ n1_ n2_ n3_
 refine zbY (n:=17) (S:=fun w'=>w'.cell? ⟨gb354,0,none⟩=some (.bool a0_0)∧w'.cell? ⟨gb354,1,none⟩=some (.string a0_1)∧w'.cell? ⟨gb354,2,none⟩=some (.string a0_2)∧w'.cell? ⟨gb355,0,none⟩=some (.bool a1_0)∧w'.cell? ⟨gb355,1,none⟩=some (.string a1_1)∧w'.cell? ⟨gb355,2,none⟩=some (.string a1_2)) (ds:=[]) #[false,false,false,false,false,false,false,false,false,false,false,false,false,false,false,false,false] (by kernel_rfl) rfl rfl ⟨(zad BK354.out 0).trans rfl,(zad BK354.out 1).trans rfl,(zad BK354.out 2).trans rfl,(zad BK355.out 0).trans rfl,(zad BK355.out 1).trans rfl,(zad BK355.out 2).trans rfl⟩ (fun hHeld => ?_); refine zcG c1_FMul.tab1 c1_FMul.bits1 (fun HT_ HW_ => ?_)
 generalize w8.drew=w9 at BK354 BK355 BK356 HB hHeld ⊢
 refine pure_ (i:=0) (N:=some 5) (v:=?_) (a':=?_) #[true,false,false,false,false,false,false,false,false,false,false,false,false,false,false,false,false] rfl rfl (za1 HT_.out (by kernel_rfl)) (fun _ _ _ h=>h) (Or.inl ⟨by rfl,?_⟩) ?_ ?_
 rotate_left
 ·intro w'
  go_simp
  with_reducible rfl
 rotate_left
 ·simp only [Act.put,List.setIfInBounds_toArray,List.set_cons_zero,List.set_cons_succ,i64_w,i32_w]
  rfl
 refine pure_ (i:=2) (N:=some 7) (v:=?_) (a':=?_) #[true,false,true,false,false,false,false,false,false,false,false,false,false,false,false,false,false] rfl rfl (za1 HT_.out (by kernel_rfl)) (fun _ _ _ h=>h) (Or.inl ⟨by rfl,?_⟩) ?_ ?_
 rotate_left
 ·intro w'
  go_simp
  with_reducible rfl
 rotate_left
 ·simp only [Act.put,List.setIfInBounds_toArray,List.set_cons_zero,List.set_cons_succ,i64_w,i32_w]
  rfl
 refine pure_ (i:=5) (N:=some 10) (v:=?_) (a':=?_) #[true,false,true,false,false,true,false,false,false,false,false,false,false,false,false,false,false] rfl rfl (za1 HT_.out (by kernel_rfl)) (fun _ _ _ h=>h) (Or.inl ⟨by rfl,?_⟩) ?_ ?_
 rotate_left
 ·intro w'
  go_simp
  with_reducible rfl
 rotate_left
 ·simp only [Act.put,List.setIfInBounds_toArray,List.set_cons_zero,List.set_cons_succ,i64_w,i32_w]
  rfl
 refine pure_ (i:=7) (N:=some 12) (v:=?_) (a':=?_) #[true,false,true,false,false,true,false,true,false,false,false,false,false,false,false,false,false] rfl rfl (za1 HT_.out (by kernel_rfl)) (fun _ _ _ h=>h) (Or.inl ⟨by rfl,?_⟩) ?_ ?_
 rotate_left
 ·intro w'
  go_simp
  with_reducible rfl
 rotate_left
 ·simp only [Act.put,List.setIfInBounds_toArray,List.set_cons_zero,List.set_cons_succ,i64_w,i32_w]
  rfl
 refine pure_ (i:=10) (N:=some 15) (v:=?_) (a':=?_) #[true,false,true,false,false,true,false,true,false,false,true,false,false,false,false,false,false] rfl rfl (za1 HT_.out (by kernel_rfl)) (fun _ _ _ h=>h) (Or.inl ⟨by rfl,?_⟩) ?_ ?_
 rotate_left
 ·intro w'
  go_simp
  with_reducible rfl
 rotate_left
 ·simp only [Act.put,List.setIfInBounds_toArray,List.set_cons_zero,List.set_cons_succ,i64_w,i32_w]
  rfl
 refine pure_ (i:=12) (N:=some 17) (v:=?_) (a':=?_) #[true,false,true,false,false,true,false,true,false,false,true,false,true,false,false,false,false] rfl rfl (za1 HT_.out (by kernel_rfl)) (fun _ _ _ h=>h) (Or.inl ⟨by rfl,?_⟩) ?_ ?_
 rotate_left
 ·intro w'
  go_simp
  with_reducible rfl
 rotate_left
 ·simp only [Act.put,List.setIfInBounds_toArray,List.set_cons_zero,List.set_cons_succ,i64_w,i32_w]
  rfl
 refine take_ (i:=1) (N:=some 6) (v:=?_) (a':=?_) #[true,true,true,false,false,true,false,true,false,false,true,false,true,false,false,false,false] rfl rfl (zbj HT_.out HW_.out (by kernel_rfl)) (fun _ _ _ h=>h) (Or.inl ⟨by rfl,?_⟩) hHeld ?_ ?_
 rotate_left
 ·rintro w' ⟨s0,s1,s2,s3,s4,s5⟩
  go_simp
  with_reducible rfl
 rotate_left
 ·simp only [Act.put,List.setIfInBounds_toArray,List.set_cons_zero,List.set_cons_succ,i64_w,i32_w]
  rfl
 refine take_ (i:=3) (N:=some 8) (v:=?_) (a':=?_) #[true,true,true,true,false,true,false,true,false,false,true,false,true,false,false,false,false] rfl rfl (zbj HT_.out HW_.out (by kernel_rfl)) (fun _ _ _ h=>h) (Or.inl ⟨by rfl,?_⟩) hHeld ?_ ?_
 rotate_left
 ·rintro w' ⟨s0,s1,s2,s3,s4,s5⟩
  go_simp
  with_reducible rfl
 rotate_left
 ·simp only [Act.put,List.setIfInBounds_toArray,List.set_cons_zero,List.set_cons_succ,i64_w,i32_w]
  rfl
 refine pure_ (i:=4) (N:=some 9) (v:=?_) (a':=?_) #[true,true,true,true,true,true,false,true,false,false,true,false,true,false,false,false,false] rfl rfl (za1 HT_.out (by kernel_rfl)) (fun _ _ _ h=>h) (Or.inl ⟨by rfl,?_⟩) ?_ ?_
 rotate_left
 ·intro w'
  go_simp
  with_reducible rfl
 rotate_left
 ·simp only [Act.put,List.setIfInBounds_toArray,List.set_cons_zero,List.set_cons_succ,i64_w,i32_w]
  rfl
 refine take_ (i:=6) (N:=some 11) (v:=?_) (a':=?_) #[true,true,true,true,true,true,true,true,false,false,true,false,true,false,false,false,false] rfl rfl (zbj HT_.out HW_.out (by kernel_rfl)) (fun _ _ _ h=>h) (Or.inl ⟨by rfl,?_⟩) hHeld ?_ ?_
 rotate_left
 ·rintro w' ⟨s0,s1,s2,s3,s4,s5⟩
  go_simp
  with_reducible rfl
 rotate_left
 ·simp only [Act.put,List.setIfInBounds_toArray,List.set_cons_zero,List.set_cons_succ,i64_w,i32_w]
  rfl
 refine take_ (i:=8) (N:=some 13) (v:=?_) (a':=?_) #[true,true,true,true,true,true,true,true,true,false,true,false,true,false,false,false,false] rfl rfl (zbj HT_.out HW_.out (by kernel_rfl)) (fun _ _ _ h=>h) (Or.inl ⟨by rfl,?_⟩) hHeld ?_ ?_
 rotate_left
 ·rintro w' ⟨s0,s1,s2,s3,s4,s5⟩
  go_simp
  with_reducible rfl
 rotate_left
 ·simp only [Act.put,List.setIfInBounds_toArray,List.set_cons_zero,List.set_cons_succ,i64_w,i32_w]
  rfl
 refine take_ (i:=11) (N:=some 16) (v:=?_) (a':=?_) #[true,true,true,true,true,true,true,true,true,false,true,true,true,false,false,false,false] rfl rfl (zbj HT_.out HW_.out (by kernel_rfl)) (fun _ _ _ h=>h) (Or.inl ⟨by rfl,?_⟩) hHeld ?_ ?_
 rotate_left
 ·rintro w' ⟨s0,s1,s2,s3,s4,s5⟩
  go_simp
  with_reducible rfl
 rotate_left
 ·simp only [Act.put,List.setIfInBounds_toArray,List.set_cons_zero,List.set_cons_succ,i64_w,i32_w]
  rfl
 refine take_ (i:=13) (N:=some 18) (v:=?_) (a':=?_) #[true,true,true,true,true,true,true,true,true,false,true,true,true,true,false,false,false] rfl rfl (zbj HT_.out HW_.out (by kernel_rfl)) (fun _ _ _ h=>h) (Or.inl ⟨by rfl,?_⟩) hHeld ?_ ?_
 rotate_left
 ·rintro w' ⟨s0,s1,s2,s3,s4,s5⟩
  go_simp
  with_reducible rfl
 rotate_left
 ·simp only [Act.put,List.setIfInBounds_toArray,List.set_cons_zero,List.set_cons_succ,i64_w,i32_w]
  rfl
 refine one_ (i:=9) (N:=some 14) #[true,true,true,true,true,true,true,true,true,true,true,true,true,true,false,false,false] rfl rfl (zcf HT_.out (by kernel_rfl)) (by decide) (fun K hK => ?_)
 refine goes_ Tryz.func131 (by kernel_rfl) rfl #[.string a0_1,.string a1_1] (by rfl) rfl rfl (by (try simp only [List.map_toArray,List.map_cons,List.map_nil]); first|done|rfl|(simp only [List.length_drop,List.length_take]; rfl)) ?_
 with_reducible refine (c1_Times.calls a0_1 a1_1 t357 _ A3.out).mono ?_
 rintro e w10 ⟨rfl,hb⟩
 refine ⟨_,rfl,?_⟩
 have n0_:=Aside0.mk (zao (g:=gb354) (o:=.cells #[.bool a0_0,.string a0_1,.string a0_2] 28 (0,0)) (by (with_reducible repeat (first|refine zaf ?_ _|refine zai ?_|refine zag ?_ _)); exact BK354.out) hb)
 have n1_:=Aside0.mk (zao (g:=gb355) (o:=.cells #[.bool a1_0,.string a1_1,.string a1_2] 28 (0,0)) (by (with_reducible repeat (first|refine zaf ?_ _|refine zai ?_|refine zag ?_ _)); exact BK355.out) hb)
 have n2_:=Aside0.mk (zao (g:=gb356) (o:=.cells #[.bool false,.string (⟨#[]⟩:ByteArray),.string (⟨#[]⟩:ByteArray)] 28 (0,0)) (by (with_reducible repeat (first|refine zaf ?_ _|refine zai ?_|refine zag ?_ _)); exact BK356.out) hb)
 have n3_:=Aside0.mk (zak (by repeat (first|(with_reducible first|exact HB.out|apply zab|apply zaa|apply zac|refine zae ?_ GE354.out|refine zae ?_ GE355.out|refine zae ?_ GE356.out)|exact HB.out)) hb)
 clear BK354
 clear BK355
 clear BK356
 clear HB
 have BK354:=n0_
 have BK355:=n1_
 have BK356:=n2_
 have HB:=n3_
 clear n0_ n1_ n2_ n3_
 (try clear hb)
 (try clear hb2)
 (try clear hk)
 (try clear hi)
 refine hK.out _ _ ⟨(zad BK354.out 0).trans rfl,(zad BK354.out 1).trans rfl,(zad BK354.out 2).trans rfl,(zad BK355.out 0).trans rfl,(zad BK355.out 1).trans rfl,(zad BK355.out 2).trans rfl⟩ (fun hHeld => ?_)
 clear hK K
 refine norm_ (a':=?_) ?_ ?_
 rotate_left
 ·show Act.put _ (some 14) _=_
  simp only [Act.put,List.setIfInBounds_toArray,List.set_cons_zero,List.set_cons_succ,i64_w,i32_w]
  rfl
 refine one_ (i:=14) (N:=some 19) #[true,true,true,true,true,true,true,true,true,true,true,true,true,true,true,false,false] rfl rfl (zcf HT_.out (by kernel_rfl)) (by decide) (fun K hK => ?_)
 refine goes_ Tryz.func131 (by kernel_rfl) rfl #[.string a0_2,.string a1_2] (by rfl) rfl rfl (by (try simp only [List.map_toArray,List.map_cons,List.map_nil]); first|done|rfl|(simp only [List.length_drop,List.length_take]; rfl)) ?_
 with_reducible refine (c1_Times.calls a0_2 a1_2 t358 _ A4.out).mono ?_
 rintro e w11 ⟨rfl,hb⟩
 refine ⟨_,rfl,?_⟩
 have n0_:=Aside0.mk (zao (g:=gb354) (o:=.cells #[.bool a0_0,.string a0_1,.string a0_2] 28 (0,0)) (by (with_reducible repeat (first|refine zaf ?_ _|refine zai ?_|refine zag ?_ _)); exact BK354.out) hb)
 have n1_:=Aside0.mk (zao (g:=gb355) (o:=.cells #[.bool a1_0,.string a1_1,.string a1_2] 28 (0,0)) (by (with_reducible repeat (first|refine zaf ?_ _|refine zai ?_|refine zag ?_ _)); exact BK355.out) hb)
 have n2_:=Aside0.mk (zao (g:=gb356) (o:=.cells #[.bool false,.string (⟨#[]⟩:ByteArray),.string (⟨#[]⟩:ByteArray)] 28 (0,0)) (by (with_reducible repeat (first|refine zaf ?_ _|refine zai ?_|refine zag ?_ _)); exact BK356.out) hb)
 have n3_:=Aside0.mk (zak (by repeat (first|(with_reducible first|exact HB.out|apply zab|apply zaa|apply zac|refine zae ?_ GE354.out|refine zae ?_ GE355.out|refine zae ?_ GE356.out)|exact HB.out)) hb)
 clear BK354
 clear BK355
 clear BK356
 clear HB
 have BK354:=n0_
 have BK355:=n1_
 have BK356:=n2_
 have HB:=n3_
 clear n0_ n1_ n2_ n3_
 (try clear hb)
 (try clear hb2)
 (try clear hk)
 (try clear hi)
 refine hK.out _ _ ⟨(zad BK354.out 0).trans rfl,(zad BK354.out 1).trans rfl,(zad BK354.out 2).trans rfl,(zad BK355.out 0).trans rfl,(zad BK355.out 1).trans rfl,(zad BK355.out 2).trans rfl⟩ (fun hHeld => ?_)
 clear hK K
 refine norm_ (a':=?_) ?_ ?_
 rotate_left
 ·show Act.put _ (some 19) _=_
  simp only [Act.put,List.setIfInBounds_toArray,List.set_cons_zero,List.set_cons_succ,i64_w,i32_w]
  rfl
 refine one_ (i:=15) (N:=some 20) #[true,true,true,true,true,true,true,true,true,true,true,true,true,true,true,true,false] rfl rfl (zcf HT_.out (by kernel_rfl)) (by decide) (fun K hK => ?_)
 refine goes_ Tryz.func163 (by kernel_rfl) rfl #[.bool (a0_0 != a1_0),.string t357,.string t358] (by rfl) rfl rfl (by (try simp only [List.map_toArray,List.map_cons,List.map_nil]); first|done|rfl|(simp only [List.length_drop,List.length_take]; rfl)) ?_
 with_reducible refine (c1_low.calls (a0_0 != a1_0) t357 t358 t359 t360 t361 _ A5.out).mono ?_
 rintro e w12 ⟨rfl,hb⟩
 refine ⟨_,rfl,?_⟩
 have n0_:=Aside0.mk (zao (g:=gb354) (o:=.cells #[.bool a0_0,.string a0_1,.string a0_2] 28 (0,0)) (by (with_reducible repeat (first|refine zaf ?_ _|refine zai ?_|refine zag ?_ _)); exact BK354.out) hb)
 have n1_:=Aside0.mk (zao (g:=gb355) (o:=.cells #[.bool a1_0,.string a1_1,.string a1_2] 28 (0,0)) (by (with_reducible repeat (first|refine zaf ?_ _|refine zai ?_|refine zag ?_ _)); exact BK355.out) hb)
 have n2_:=Aside0.mk (zao (g:=gb356) (o:=.cells #[.bool false,.string (⟨#[]⟩:ByteArray),.string (⟨#[]⟩:ByteArray)] 28 (0,0)) (by (with_reducible repeat (first|refine zaf ?_ _|refine zai ?_|refine zag ?_ _)); exact BK356.out) hb)
 have n3_:=Aside0.mk (zak (by repeat (first|(with_reducible first|exact HB.out|apply zab|apply zaa|apply zac|refine zae ?_ GE354.out|refine zae ?_ GE355.out|refine zae ?_ GE356.out)|exact HB.out)) hb)
 clear BK354
 clear BK355
 clear BK356
 clear HB
 have BK354:=n0_
 have BK355:=n1_
 have BK356:=n2_
 have HB:=n3_
 clear n0_ n1_ n2_ n3_
 (try clear hb)
 (try clear hb2)
 (try clear hk)
 (try clear hi)
 refine hK.out _ _ ⟨(zad BK354.out 0).trans rfl,(zad BK354.out 1).trans rfl,(zad BK354.out 2).trans rfl,(zad BK355.out 0).trans rfl,(zad BK355.out 1).trans rfl,(zad BK355.out 2).trans rfl⟩ (fun hHeld => ?_)
 clear hK K
 refine norm_ (a':=?_) ?_ ?_
 rotate_left
 ·show Act.put _ (some 20) _=_
  simp only [Act.put,List.setIfInBounds_toArray,List.set_cons_zero,List.set_cons_succ,i64_w,i32_w]
  rfl
 refine one_ (i:=16) (N:=none) #[true,true,true,true,true,true,true,true,true,true,true,true,true,true,true,true,true] rfl rfl (zcf HT_.out (by kernel_rfl)) (by decide) (fun K hK => ?_)
 have hs13:w12.cell? ⟨gb356,0,none⟩=some (.bool false):=(zad BK356.out 0).trans rfl
 have hfs13:=zaj BK356.out 0
 have hns13_0:=NB354_337.out
 have hns13_1:=NB355_337.out
 have hms13_0:=NB356_335.out
 have hms13_1:=NB356_336.out
 have hs14:w12.cell? ⟨gb356,1,none⟩=some (.string (⟨#[]⟩:ByteArray)):=(zad BK356.out 1).trans rfl
 have hfs14:=zaj BK356.out 1
 have hns14_0:=NB354_337.out
 have hns14_1:=NB355_337.out
 have hms14_0:=NB356_335.out
 have hms14_1:=NB356_336.out
 have hs15:w12.cell? ⟨gb356,2,none⟩=some (.string (⟨#[]⟩:ByteArray)):=(zad BK356.out 2).trans rfl
 have hfs15:=zaj BK356.out 2
 have hns15_0:=NB354_337.out
 have hns15_1:=NB355_337.out
 have hms15_0:=NB356_335.out
 have hms15_1:=NB356_336.out
 refine skip_ (w1:=?_) (by rfl) rfl ?_ ?_
 rotate_left
 ·go_simp
  rfl
 refine hK.out _ _ ⟨((zat (p:=⟨gb356,_,none⟩) NB354_337.out _).trans (((zat (p:=⟨gb356,_,none⟩) NB354_337.out _).trans (((zat (p:=⟨gb356,_,none⟩) NB354_337.out _).trans (hHeld.1)))))),((zat (p:=⟨gb356,_,none⟩) NB354_337.out _).trans (((zat (p:=⟨gb356,_,none⟩) NB354_337.out _).trans (((zat (p:=⟨gb356,_,none⟩) NB354_337.out _).trans (hHeld.2.1)))))),((zat (p:=⟨gb356,_,none⟩) NB354_337.out _).trans (((zat (p:=⟨gb356,_,none⟩) NB354_337.out _).trans (((zat (p:=⟨gb356,_,none⟩) NB354_337.out _).trans (hHeld.2.2.1)))))),((zat (p:=⟨gb356,_,none⟩) NB355_337.out _).trans (((zat (p:=⟨gb356,_,none⟩) NB355_337.out _).trans (((zat (p:=⟨gb356,_,none⟩) NB355_337.out _).trans (hHeld.2.2.2.1)))))),((zat (p:=⟨gb356,_,none⟩) NB355_337.out _).trans (((zat (p:=⟨gb356,_,none⟩) NB355_337.out _).trans (((zat (p:=⟨gb356,_,none⟩) NB355_337.out _).trans (hHeld.2.2.2.2.1)))))),((zat (p:=⟨gb356,_,none⟩) NB355_337.out _).trans (((zat (p:=⟨gb356,_,none⟩) NB355_337.out _).trans (((zat (p:=⟨gb356,_,none⟩) NB355_337.out _).trans (hHeld.2.2.2.2.2))))))⟩ (fun hHeld => ?_)
 clear hK K
 refine done_ (done_of HT_.out (by kernel_rfl)) ?_
 try go_wp2
 refine bodyPost_ret (results_cell_row rfl _ _ gb356 28 #[.bool t359,.string t360,.string t361] (0,0) _ rfl (by (with_reducible repeat (first|refine zaf ?_ _|refine zai ?_|refine zag ?_ _)); refine zaw (cs:=#[.bool t359,.string t360,.string (⟨#[]⟩:ByteArray)]) ?_ 2 _ rfl; (with_reducible repeat (first|refine zaf ?_ _|refine zai ?_|refine zag ?_ _)); refine zaw (cs:=#[.bool t359,.string (⟨#[]⟩:ByteArray),.string (⟨#[]⟩:ByteArray)]) ?_ 1 _ rfl; (with_reducible repeat (first|refine zaf ?_ _|refine zai ?_|refine zag ?_ _)); refine zaw (cs:=#[.bool false,.string (⟨#[]⟩:ByteArray),.string (⟨#[]⟩:ByteArray)]) ?_ 0 _ rfl; (with_reducible repeat (first|refine zaf ?_ _|refine zai ?_|refine zag ?_ _)); exact BK356.out) Tryz.underlying28 rfl (by kernel_rfl)) rfl ?_
 exact ⟨by first|rfl|(simp [zan,zam]<;>rfl)|(simp [*,zan,zam]<;>rfl),by repeat (first|(with_reducible first|exact HB.out|apply zab|apply zaa|apply zac|refine zae ?_ GE354.out|refine zae ?_ GE355.out|refine zae ?_ GE356.out)|exact HB.out)⟩
noncomputable def c1_FInv.f (a0_0:Bool) (a0_1:ByteArray) (a0_2:ByteArray):Option (Bool×ByteArray×ByteArray):=some (a0_0,a0_2,a0_1)
theorem c1_FInv.calls (a0_0:Bool) (a0_1:ByteArray) (a0_2:ByteArray) (r1:Bool) (r2:ByteArray) (r3:ByteArray) (w:World) (h:c1_FInv.f a0_0 a0_1 a0_2=some (r1,r2,r3)) :
  Calls Tryz.prog 222 #[.agg #[.bool a0_0,.string a0_1,.string a0_2]] w fun e w'=>e = .returned (.agg #[.bool r1,.string r2,.string r3])∧Below w.heap.size w w':=by
 have hu28:=Tryz.underlying28
 have HB:=Aside0.mk (Below.refl w.heap.size w)
 have H:(some (a0_0,a0_2,a0_1))=some (r1,r2,r3):=h
 clear h
 simp only [Option.some.injEq,Prod.mk.injEq] at H
 obtain ⟨rfl,rfl,rfl⟩:=H
 go_enter Tryz.func222,Tryz.ntmps222
 go_wp2_with (first|((with_reducible refine zau (N:=1) rfl ?_); refine zas ?hg (N:=1) ?hd (cs:=#[.bool a0_0,.string a0_1,.string a0_2]) (t:=28) ?hr ?_; (case hd=>rfl); (case hg=>rfl); (case hr=>first|(go_simp; done)|(go_simp; rfl)); intro gb362 hg w2 hbox hb; have n0_:=Aside0.mk (zak (by repeat (first|(with_reducible first|exact HB.out|apply zab|apply zaa|apply zac)|exact HB.out)) hb); have n1_:=Aside0.mk (hbox); have n2_:=Aside0.mk ((by rw [hg]; exact (zal (by repeat (first|(with_reducible first|exact HB.out|apply zab|apply zaa|apply zac)|exact HB.out))):w.heap.size≤gb362)); have n3_:=Aside0.mk ((by rw [hg]; exact (zal (by repeat (first|(with_reducible first|exact HB.out|apply zab|apply zaa|apply zac)|exact HB.out))):w.heap.size≤gb362)); clear HB; have HB:=n0_; have BK362:=n1_; have GW362:=n2_; have GE362:=n3_; clear n0_ n1_ n2_ n3_; clear hb hbox hg)|((with_reducible refine zau (N:=2) rfl ?_); refine zas ?hg (N:=2) ?hd (cs:=#[.bool false,.string (⟨#[]⟩:ByteArray),.string (⟨#[]⟩:ByteArray)]) (t:=28) ?hr ?_; (case hd=>rfl); (case hg=>rfl); (case hr=>first|(go_simp; done)|(go_simp; rfl)); intro gb363 hg w3 hbox hb; have n0_:=Aside0.mk (zao (g:=gb362) (o:=.cells #[.bool a0_0,.string a0_1,.string a0_2] 28 (0,0)) (by (with_reducible repeat (first|refine zaf ?_ _|refine zai ?_|refine zag ?_ _)); exact BK362.out) hb); have n1_:=Aside0.mk (zak (by repeat (first|(with_reducible first|exact HB.out|apply zab|apply zaa|apply zac|refine zae ?_ GE362.out)|exact HB.out)) hb); have n2_:=Aside0.mk (hbox); have n3_:=Aside0.mk ((by rw [hg]; exact (zal (by repeat (first|(with_reducible first|exact HB.out|apply zab|apply zaa|apply zac|refine zae ?_ GE362.out)|exact HB.out))):w.heap.size≤gb363)); have n4_:=Aside0.mk ((by rw [hg]; exact (zal (by repeat (first|(with_reducible first|exact HB.out|apply zab|apply zaa|apply zac|refine zae ?_ GE362.out)|exact HB.out))):w.heap.size≤gb363)); have n5_:=Aside0.mk ((by rw [hg]; exact Nat.ne_of_lt (zaz (g:=gb362) (o:=.cells #[.bool a0_0,.string a0_1,.string a0_2] 28 (0,0)) (by (with_reducible repeat (first|refine zaf ?_ _|refine zai ?_|refine zag ?_ _)); exact BK362.out)):gb362≠gb363)); have n6_:=Aside0.mk ((by rw [hg]; exact Nat.ne_of_gt (zaz (g:=gb362) (o:=.cells #[.bool a0_0,.string a0_1,.string a0_2] 28 (0,0)) (by (with_reducible repeat (first|refine zaf ?_ _|refine zai ?_|refine zag ?_ _)); exact BK362.out)):gb363≠gb362)); clear BK362; clear HB; have BK362:=n0_; have HB:=n1_; have BK363:=n2_; have GW363:=n3_; have GE363:=n4_; have NB362_344:=n5_; have NB363_343:=n6_; clear n0_ n1_ n2_ n3_ n4_ n5_ n6_; clear hb hbox hg; have hnb4:=NB362_344.out; have hnc4:=NB363_343.out; have hcz5_0:w3.cell? ⟨gb362,0,none⟩=some (.bool a0_0):=(zad BK362.out 0).trans rfl; have hcz5_1:w3.cell? ⟨gb362,1,none⟩=some (.string a0_1):=(zad BK362.out 1).trans rfl; have hcz5_2:w3.cell? ⟨gb362,2,none⟩=some (.string a0_2):=(zad BK362.out 2).trans rfl; have hfz5_0:=zaj BK362.out 0; have hfz5_1:=zaj BK362.out 1; have hfz5_2:=zaj BK362.out 2; have hcz6_0:w3.cell? ⟨gb363,0,none⟩=some (.bool false):=(zad BK363.out 0).trans rfl; have hcz6_1:w3.cell? ⟨gb363,1,none⟩=some (.string (⟨#[]⟩:ByteArray)):=(zad BK363.out 1).trans rfl; have hcz6_2:w3.cell? ⟨gb363,2,none⟩=some (.string (⟨#[]⟩:ByteArray)):=(zad BK363.out 2).trans rfl; have hfz6_0:=zaj BK363.out 0; have hfz6_1:=zaj BK363.out 1; have hfz6_2:=zaj BK363.out 2))
 refine bodyPost_ret (results_cell_row rfl _ _ gb363 28 #[.bool a0_0,.string a0_2,.string a0_1] (0,0) _ rfl (by (with_reducible repeat (first|refine zaf ?_ _|refine zai ?_|refine zag ?_ _)); refine zaw (cs:=#[.bool a0_0,.string a0_2,.string (⟨#[]⟩:ByteArray)]) ?_ 2 _ rfl; (with_reducible repeat (first|refine zaf ?_ _|refine zai ?_|refine zag ?_ _)); refine zaw (cs:=#[.bool a0_0,.string (⟨#[]⟩:ByteArray),.string (⟨#[]⟩:ByteArray)]) ?_ 1 _ rfl; (with_reducible repeat (first|refine zaf ?_ _|refine zai ?_|refine zag ?_ _)); refine zaw (cs:=#[.bool false,.string (⟨#[]⟩:ByteArray),.string (⟨#[]⟩:ByteArray)]) ?_ 0 _ rfl; (with_reducible repeat (first|refine zaf ?_ _|refine zai ?_|refine zag ?_ _)); exact BK363.out) Tryz.underlying28 rfl (by kernel_rfl)) rfl ?_
 exact ⟨by first|rfl|(simp [zan,zam]<;>rfl)|(simp [*,zan,zam]<;>rfl),by repeat (first|(with_reducible first|exact HB.out|apply zab|apply zaa|apply zac|refine zae ?_ GE362.out|refine zae ?_ GE363.out)|exact HB.out)⟩
noncomputable def c1_FQuo.f (a0_0:Bool) (a0_1:ByteArray) (a0_2:ByteArray) (a1_0:Bool) (a1_1:ByteArray) (a1_2:ByteArray):Option (Bool×ByteArray×ByteArray):=(c1_FInv.f a1_0 a1_1 a1_2).bind fun bt367=>((c1_FMul.f a0_0 a0_1 a0_2 bt367.1 bt367.2.1 bt367.2.2).bind fun bt370=>(some (bt370.1,bt370.2.1,bt370.2.2)))
theorem c1_FQuo.calls (a0_0:Bool) (a0_1:ByteArray) (a0_2:ByteArray) (a1_0:Bool) (a1_1:ByteArray) (a1_2:ByteArray) (r1:Bool) (r2:ByteArray) (r3:ByteArray) (w:World) (h:c1_FQuo.f a0_0 a0_1 a0_2 a1_0 a1_1 a1_2=some (r1,r2,r3)) :
  Calls Tryz.prog 173 #[.agg #[.bool a0_0,.string a0_1,.string a0_2],.agg #[.bool a1_0,.string a1_1,.string a1_2]] w fun e w'=>e = .returned (.agg #[.bool r1,.string r2,.string r3])∧Below w.heap.size w w':=by
 have hu28:=Tryz.underlying28
 have HB:=Aside0.mk (Below.refl w.heap.size w)
 have H:((c1_FInv.f a1_0 a1_1 a1_2).bind fun bt367=>((c1_FMul.f a0_0 a0_1 a0_2 bt367.1 bt367.2.1 bt367.2.2).bind fun bt370=>(some (bt370.1,bt370.2.1,bt370.2.2))))=some (r1,r2,r3):=h
 clear h
 replace H:=Option.bind_eq_some_iff.mp H
 obtain ⟨⟨t367,t368,t369⟩,A30,H⟩:=H
 replace H:((c1_FMul.f a0_0 a0_1 a0_2 t367 t368 t369).bind fun bt370=>(some (bt370.1,bt370.2.1,bt370.2.2)))=some (r1,r2,r3):=H
 have A3:=Aside0.mk A30
 clear A30
 replace H:=Option.bind_eq_some_iff.mp H
 obtain ⟨⟨t370,t371,t372⟩,A40,H⟩:=H
 replace H:(some (t370,t371,t372))=some (r1,r2,r3):=H
 have A4:=Aside0.mk A40
 clear A40
 simp only [Option.some.injEq,Prod.mk.injEq] at H
 obtain ⟨rfl,rfl,rfl⟩:=H
 go_enter Tryz.func173,Tryz.ntmps173
 try go_wp2_with (first|((with_reducible refine zau (N:=2) rfl ?_); refine zas ?hg (N:=2) ?hd (cs:=#[.bool a0_0,.string a0_1,.string a0_2]) (t:=28) ?hr ?_; (case hd=>rfl); (case hg=>rfl); (case hr=>first|(go_simp; done)|(go_simp; rfl)); intro gb364 hg w5 hbox hb; have n0_:=Aside0.mk (zak (by repeat (first|(with_reducible first|exact HB.out|apply zab|apply zaa|apply zac)|exact HB.out)) hb); have n1_:=Aside0.mk (hbox); have n2_:=Aside0.mk ((by rw [hg]; exact (zal (by repeat (first|(with_reducible first|exact HB.out|apply zab|apply zaa|apply zac)|exact HB.out))):w.heap.size≤gb364)); have n3_:=Aside0.mk ((by rw [hg]; exact (zal (by repeat (first|(with_reducible first|exact HB.out|apply zab|apply zaa|apply zac)|exact HB.out))):w.heap.size≤gb364)); clear HB; have HB:=n0_; have BK364:=n1_; have GW364:=n2_; have GE364:=n3_; clear n0_ n1_ n2_ n3_; clear hb hbox hg)|((with_reducible refine zau (N:=3) rfl ?_); refine zas ?hg (N:=3) ?hd (cs:=#[.bool a1_0,.string a1_1,.string a1_2]) (t:=28) ?hr ?_; (case hd=>rfl); (case hg=>rfl); (case hr=>first|(go_simp; done)|(go_simp; rfl)); intro gb365 hg w6 hbox hb; have n0_:=Aside0.mk (zao (g:=gb364) (o:=.cells #[.bool a0_0,.string a0_1,.string a0_2] 28 (0,0)) (by (with_reducible repeat (first|refine zaf ?_ _|refine zai ?_|refine zag ?_ _)); exact BK364.out) hb); have n1_:=Aside0.mk (zak (by repeat (first|(with_reducible first|exact HB.out|apply zab|apply zaa|apply zac|refine zae ?_ GE364.out)|exact HB.out)) hb); have n2_:=Aside0.mk (hbox); have n3_:=Aside0.mk ((by rw [hg]; exact (zal (by repeat (first|(with_reducible first|exact HB.out|apply zab|apply zaa|apply zac|refine zae ?_ GE364.out)|exact HB.out))):w.heap.size≤gb365)); have n4_:=Aside0.mk ((by rw [hg]; exact (zal (by repeat (first|(with_reducible first|exact HB.out|apply zab|apply zaa|apply zac|refine zae ?_ GE364.out)|exact HB.out))):w.heap.size≤gb365)); have n5_:=Aside0.mk ((by rw [hg]; exact Nat.ne_of_lt (zaz (g:=gb364) (o:=.cells #[.bool a0_0,.string a0_1,.string a0_2] 28 (0,0)) (by (with_reducible repeat (first|refine zaf ?_ _|refine zai ?_|refine zag ?_ _)); exact BK364.out)):gb364≠gb365)); have n6_:=Aside0.mk ((by rw [hg]; exact Nat.ne_of_gt (zaz (g:=gb364) (o:=.cells #[.bool a0_0,.string a0_1,.string a0_2] 28 (0,0)) (by (with_reducible repeat (first|refine zaf ?_ _|refine zai ?_|refine zag ?_ _)); exact BK364.out)):gb365≠gb364)); clear BK364; clear HB; have BK364:=n0_; have HB:=n1_; have BK365:=n2_; have GW365:=n3_; have GE365:=n4_; have NB364_346:=n5_; have NB365_345:=n6_; clear n0_ n1_ n2_ n3_ n4_ n5_ n6_; clear hb hbox hg)|((with_reducible refine zau (N:=4) rfl ?_); refine zas ?hg (N:=4) ?hd (cs:=#[.bool false,.string (⟨#[]⟩:ByteArray),.string (⟨#[]⟩:ByteArray)]) (t:=28) ?hr ?_; (case hd=>rfl); (case hg=>rfl); (case hr=>first|(go_simp; done)|(go_simp; rfl)); intro gb366 hg w7 hbox hb; have n0_:=Aside0.mk (zao (g:=gb364) (o:=.cells #[.bool a0_0,.string a0_1,.string a0_2] 28 (0,0)) (by (with_reducible repeat (first|refine zaf ?_ _|refine zai ?_|refine zag ?_ _)); exact BK364.out) hb); have n1_:=Aside0.mk (zao (g:=gb365) (o:=.cells #[.bool a1_0,.string a1_1,.string a1_2] 28 (0,0)) (by (with_reducible repeat (first|refine zaf ?_ _|refine zai ?_|refine zag ?_ _)); exact BK365.out) hb); have n2_:=Aside0.mk (zak (by repeat (first|(with_reducible first|exact HB.out|apply zab|apply zaa|apply zac|refine zae ?_ GE364.out|refine zae ?_ GE365.out)|exact HB.out)) hb); have n3_:=Aside0.mk (hbox); have n4_:=Aside0.mk ((by rw [hg]; exact (zal (by repeat (first|(with_reducible first|exact HB.out|apply zab|apply zaa|apply zac|refine zae ?_ GE364.out|refine zae ?_ GE365.out)|exact HB.out))):w.heap.size≤gb366)); have n5_:=Aside0.mk ((by rw [hg]; exact (zal (by repeat (first|(with_reducible first|exact HB.out|apply zab|apply zaa|apply zac|refine zae ?_ GE364.out|refine zae ?_ GE365.out)|exact HB.out))):w.heap.size≤gb366)); have n6_:=Aside0.mk ((by rw [hg]; exact Nat.ne_of_lt (zaz (g:=gb364) (o:=.cells #[.bool a0_0,.string a0_1,.string a0_2] 28 (0,0)) (by (with_reducible repeat (first|refine zaf ?_ _|refine zai ?_|refine zag ?_ _)); exact BK364.out)):gb364≠gb366)); have n7_:=Aside0.mk ((by rw [hg]; exact Nat.ne_of_gt (zaz (g:=gb364) (o:=.cells #[.bool a0_0,.string a0_1,.string a0_2] 28 (0,0)) (by (with_reducible repeat (first|refine zaf ?_ _|refine zai ?_|refine zag ?_ _)); exact BK364.out)):gb366≠gb364)); have n8_:=Aside0.mk ((by rw [hg]; exact Nat.ne_of_lt (zaz (g:=gb365) (o:=.cells #[.bool a1_0,.string a1_1,.string a1_2] 28 (0,0)) (by (with_reducible repeat (first|refine zaf ?_ _|refine zai ?_|refine zag ?_ _)); exact BK365.out)):gb365≠gb366)); have n9_:=Aside0.mk ((by rw [hg]; exact Nat.ne_of_gt (zaz (g:=gb365) (o:=.cells #[.bool a1_0,.string a1_1,.string a1_2] 28 (0,0)) (by (with_reducible repeat (first|refine zaf ?_ _|refine zai ?_|refine zag ?_ _)); exact BK365.out)):gb366≠gb365)); clear BK364; clear BK365; clear HB; have BK364:=n0_; have BK365:=n1_; have HB:=n2_; have BK366:=n3_; have GW366:=n4_; have GE366:=n5_; have NB364_347:=n6_; have NB366_345:=n7_; have NB365_347:=n8_; have NB366_346:=n9_; clear n0_ n1_ n2_ n3_ n4_ n5_ n6_ n7_ n8_ n9_; clear hb hbox hg))
 have n0_:=Aside0.mk (zai BK364.out)
 have n1_:=Aside0.mk (zai BK365.out)
 have n2_:=Aside0.mk (zai BK366.out)
 have n3_:=Aside0.mk (zac HB.out)
 clear BK364
 clear BK365
 clear BK366
 clear HB
 have BK364:=n0_
 have BK365:=n1_
 have BK366:=n2_
 have HB:=n3_
 clear n0_ n1_ n2_ n3_
 refine zbY (n:=5) (S:=fun w'=>w'.cell? ⟨gb364,0,none⟩=some (.bool a0_0)∧w'.cell? ⟨gb364,1,none⟩=some (.string a0_1)∧w'.cell? ⟨gb364,2,none⟩=some (.string a0_2)∧w'.cell? ⟨gb365,0,none⟩=some (.bool a1_0)∧w'.cell? ⟨gb365,1,none⟩=some (.string a1_1)∧w'.cell? ⟨gb365,2,none⟩=some (.string a1_2)) (ds:=[]) #[false,false,false,false,false] (by kernel_rfl) rfl rfl ⟨(zad BK364.out 0).trans rfl,(zad BK364.out 1).trans rfl,(zad BK364.out 2).trans rfl,(zad BK365.out 0).trans rfl,(zad BK365.out 1).trans rfl,(zad BK365.out 2).trans rfl⟩ (fun hHeld => ?_)
 generalize w7.drew=w8 at BK364 BK365 BK366 HB hHeld ⊢
 refine take_ (i:=0) (N:=some 5) (v:=?_) (a':=?_) #[true,false,false,false,false] rfl rfl (by kernel_rfl) (fun _ _ _ h=>h) (Or.inl ⟨by rfl,?_⟩) hHeld ?_ ?_
 rotate_left
 ·rintro w' ⟨s0,s1,s2,s3,s4,s5⟩
  go_simp
  with_reducible rfl
 rotate_left
 ·simp only [Act.put,List.setIfInBounds_toArray,List.set_cons_zero,List.set_cons_succ,i64_w,i32_w]
  rfl
 refine take_ (i:=1) (N:=some 6) (v:=?_) (a':=?_) #[true,true,false,false,false] rfl rfl (by kernel_rfl) (fun _ _ _ h=>h) (Or.inl ⟨by rfl,?_⟩) hHeld ?_ ?_
 rotate_left
 ·rintro w' ⟨s0,s1,s2,s3,s4,s5⟩
  go_simp
  with_reducible rfl
 rotate_left
 ·simp only [Act.put,List.setIfInBounds_toArray,List.set_cons_zero,List.set_cons_succ,i64_w,i32_w]
  rfl
 refine one_ (i:=2) (N:=some 7) #[true,true,true,false,false] rfl rfl (by kernel_rfl) (by decide) (fun K hK => ?_)
 refine goes_ Tryz.func222 (by kernel_rfl) rfl #[.agg #[.bool a1_0,.string a1_1,.string a1_2]] (by rfl) rfl rfl (by (try simp only [List.map_toArray,List.map_cons,List.map_nil]); first|done|rfl|(simp only [List.length_drop,List.length_take]; rfl)) ?_
 with_reducible refine (c1_FInv.calls a1_0 a1_1 a1_2 t367 t368 t369 _ A3.out).mono ?_
 rintro e w9 ⟨rfl,hb⟩
 refine ⟨_,rfl,?_⟩
 have n0_:=Aside0.mk (zao (g:=gb364) (o:=.cells #[.bool a0_0,.string a0_1,.string a0_2] 28 (0,0)) (by (with_reducible repeat (first|refine zaf ?_ _|refine zai ?_|refine zag ?_ _)); exact BK364.out) hb)
 have n1_:=Aside0.mk (zao (g:=gb365) (o:=.cells #[.bool a1_0,.string a1_1,.string a1_2] 28 (0,0)) (by (with_reducible repeat (first|refine zaf ?_ _|refine zai ?_|refine zag ?_ _)); exact BK365.out) hb)
 have n2_:=Aside0.mk (zao (g:=gb366) (o:=.cells #[.bool false,.string (⟨#[]⟩:ByteArray),.string (⟨#[]⟩:ByteArray)] 28 (0,0)) (by (with_reducible repeat (first|refine zaf ?_ _|refine zai ?_|refine zag ?_ _)); exact BK366.out) hb)
 have n3_:=Aside0.mk (zak (by repeat (first|(with_reducible first|exact HB.out|apply zab|apply zaa|apply zac|refine zae ?_ GE364.out|refine zae ?_ GE365.out|refine zae ?_ GE366.out)|exact HB.out)) hb)
 clear BK364
 clear BK365
 clear BK366
 clear HB
 have BK364:=n0_
 have BK365:=n1_
 have BK366:=n2_
 have HB:=n3_
 clear n0_ n1_ n2_ n3_
 (try clear hb)
 (try clear hb2)
 (try clear hk)
 (try clear hi)
 refine hK.out _ _ ⟨(zad BK364.out 0).trans rfl,(zad BK364.out 1).trans rfl,(zad BK364.out 2).trans rfl,(zad BK365.out 0).trans rfl,(zad BK365.out 1).trans rfl,(zad BK365.out 2).trans rfl⟩ (fun hHeld => ?_)
 clear hK K
 refine norm_ (a':=?_) ?_ ?_
 rotate_left
 ·show Act.put _ (some 7) _=_
  simp only [Act.put,List.setIfInBounds_toArray,List.set_cons_zero,List.set_cons_succ,i64_w,i32_w]
  rfl
 refine one_ (i:=3) (N:=some 8) #[true,true,true,true,false] rfl rfl (by kernel_rfl) (by decide) (fun K hK => ?_)
 refine goes_ Tryz.func81 (by kernel_rfl) rfl #[.agg #[.bool a0_0,.string a0_1,.string a0_2],.agg #[.bool t367,.string t368,.string t369]] (by rfl) rfl rfl (by (try simp only [List.map_toArray,List.map_cons,List.map_nil]); first|done|rfl|(simp only [List.length_drop,List.length_take]; rfl)) ?_
 with_reducible refine (c1_FMul.calls a0_0 a0_1 a0_2 t367 t368 t369 t370 t371 t372 _ A4.out).mono ?_
 rintro e w10 ⟨rfl,hb⟩
 refine ⟨_,rfl,?_⟩
 have n0_:=Aside0.mk (zao (g:=gb364) (o:=.cells #[.bool a0_0,.string a0_1,.string a0_2] 28 (0,0)) (by (with_reducible repeat (first|refine zaf ?_ _|refine zai ?_|refine zag ?_ _)); exact BK364.out) hb)
 have n1_:=Aside0.mk (zao (g:=gb365) (o:=.cells #[.bool a1_0,.string a1_1,.string a1_2] 28 (0,0)) (by (with_reducible repeat (first|refine zaf ?_ _|refine zai ?_|refine zag ?_ _)); exact BK365.out) hb)
 have n2_:=Aside0.mk (zao (g:=gb366) (o:=.cells #[.bool false,.string (⟨#[]⟩:ByteArray),.string (⟨#[]⟩:ByteArray)] 28 (0,0)) (by (with_reducible repeat (first|refine zaf ?_ _|refine zai ?_|refine zag ?_ _)); exact BK366.out) hb)
 have n3_:=Aside0.mk (zak (by repeat (first|(with_reducible first|exact HB.out|apply zab|apply zaa|apply zac|refine zae ?_ GE364.out|refine zae ?_ GE365.out|refine zae ?_ GE366.out)|exact HB.out)) hb)
 clear BK364
 clear BK365
 clear BK366
 clear HB
 have BK364:=n0_
 have BK365:=n1_
 have BK366:=n2_
 have HB:=n3_
 clear n0_ n1_ n2_ n3_
 (try clear hb)
 (try clear hb2)
 (try clear hk)
 (try clear hi)
 refine hK.out _ _ ⟨(zad BK364.out 0).trans rfl,(zad BK364.out 1).trans rfl,(zad BK364.out 2).trans rfl,(zad BK365.out 0).trans rfl,(zad BK365.out 1).trans rfl,(zad BK365.out 2).trans rfl⟩ (fun hHeld => ?_)
 clear hK K
 refine norm_ (a':=?_) ?_ ?_
 rotate_left
 ·show Act.put _ (some 8) _=_
  simp only [Act.put,List.setIfInBounds_toArray,List.set_cons_zero,List.set_cons_succ,i64_w,i32_w]
  rfl
 refine one_ (i:=4) (N:=none) #[true,true,true,true,true] rfl rfl (by kernel_rfl) (by decide) (fun K hK => ?_)
 have hs11:w10.cell? ⟨gb366,0,none⟩=some (.bool false):=(zad BK366.out 0).trans rfl
 have hfs11:=zaj BK366.out 0
 have hns11_0:=NB364_347.out
 have hns11_1:=NB365_347.out
 have hms11_0:=NB366_345.out
 have hms11_1:=NB366_346.out
 have hs12:w10.cell? ⟨gb366,1,none⟩=some (.string (⟨#[]⟩:ByteArray)):=(zad BK366.out 1).trans rfl
 have hfs12:=zaj BK366.out 1
 have hns12_0:=NB364_347.out
 have hns12_1:=NB365_347.out
 have hms12_0:=NB366_345.out
 have hms12_1:=NB366_346.out
 have hs13:w10.cell? ⟨gb366,2,none⟩=some (.string (⟨#[]⟩:ByteArray)):=(zad BK366.out 2).trans rfl
 have hfs13:=zaj BK366.out 2
 have hns13_0:=NB364_347.out
 have hns13_1:=NB365_347.out
 have hms13_0:=NB366_345.out
 have hms13_1:=NB366_346.out
 refine skip_ (w1:=?_) (by rfl) rfl ?_ ?_
 rotate_left
 ·go_simp
  rfl
 refine hK.out _ _ ⟨((zat (p:=⟨gb366,_,none⟩) NB364_347.out _).trans (((zat (p:=⟨gb366,_,none⟩) NB364_347.out _).trans (((zat (p:=⟨gb366,_,none⟩) NB364_347.out _).trans (hHeld.1)))))),((zat (p:=⟨gb366,_,none⟩) NB364_347.out _).trans (((zat (p:=⟨gb366,_,none⟩) NB364_347.out _).trans (((zat (p:=⟨gb366,_,none⟩) NB364_347.out _).trans (hHeld.2.1)))))),((zat (p:=⟨gb366,_,none⟩) NB364_347.out _).trans (((zat (p:=⟨gb366,_,none⟩) NB364_347.out _).trans (((zat (p:=⟨gb366,_,none⟩) NB364_347.out _).trans (hHeld.2.2.1)))))),((zat (p:=⟨gb366,_,none⟩) NB365_347.out _).trans (((zat (p:=⟨gb366,_,none⟩) NB365_347.out _).trans (((zat (p:=⟨gb366,_,none⟩) NB365_347.out _).trans (hHeld.2.2.2.1)))))),((zat (p:=⟨gb366,_,none⟩) NB365_347.out _).trans (((zat (p:=⟨gb366,_,none⟩) NB365_347.out _).trans (((zat (p:=⟨gb366,_,none⟩) NB365_347.out _).trans (hHeld.2.2.2.2.1)))))),((zat (p:=⟨gb366,_,none⟩) NB365_347.out _).trans (((zat (p:=⟨gb366,_,none⟩) NB365_347.out _).trans (((zat (p:=⟨gb366,_,none⟩) NB365_347.out _).trans (hHeld.2.2.2.2.2))))))⟩ (fun hHeld => ?_)
 clear hK K
 refine done_ (by kernel_rfl) ?_
 try go_wp2
 refine bodyPost_ret (results_cell_row rfl _ _ gb366 28 #[.bool t370,.string t371,.string t372] (0,0) _ rfl (by (with_reducible repeat (first|refine zaf ?_ _|refine zai ?_|refine zag ?_ _)); refine zaw (cs:=#[.bool t370,.string t371,.string (⟨#[]⟩:ByteArray)]) ?_ 2 _ rfl; (with_reducible repeat (first|refine zaf ?_ _|refine zai ?_|refine zag ?_ _)); refine zaw (cs:=#[.bool t370,.string (⟨#[]⟩:ByteArray),.string (⟨#[]⟩:ByteArray)]) ?_ 1 _ rfl; (with_reducible repeat (first|refine zaf ?_ _|refine zai ?_|refine zag ?_ _)); refine zaw (cs:=#[.bool false,.string (⟨#[]⟩:ByteArray),.string (⟨#[]⟩:ByteArray)]) ?_ 0 _ rfl; (with_reducible repeat (first|refine zaf ?_ _|refine zai ?_|refine zag ?_ _)); exact BK366.out) Tryz.underlying28 rfl (by kernel_rfl)) rfl ?_
 exact ⟨by first|rfl|(simp [zan,zam]<;>rfl)|(simp [*,zan,zam]<;>rfl),by repeat (first|(with_reducible first|exact HB.out|apply zab|apply zaa|apply zac|refine zae ?_ GE364.out|refine zae ?_ GE365.out|refine zae ?_ GE366.out)|exact HB.out)⟩
noncomputable def c1_FSize.f (a0_0:Bool) (a0_1:ByteArray) (a0_2:ByteArray):Option (Bool×ByteArray×ByteArray):=some (false,a0_1,a0_2)
theorem c1_FSize.calls (a0_0:Bool) (a0_1:ByteArray) (a0_2:ByteArray) (r1:Bool) (r2:ByteArray) (r3:ByteArray) (w:World) (h:c1_FSize.f a0_0 a0_1 a0_2=some (r1,r2,r3)) :
  Calls Tryz.prog 82 #[.agg #[.bool a0_0,.string a0_1,.string a0_2]] w fun e w'=>e = .returned (.agg #[.bool r1,.string r2,.string r3])∧Below w.heap.size w w':=by
 have hu28:=Tryz.underlying28
 have HB:=Aside0.mk (Below.refl w.heap.size w)
 have H:(some (false,a0_1,a0_2))=some (r1,r2,r3):=h
 clear h
 simp only [Option.some.injEq,Prod.mk.injEq] at H
 obtain ⟨rfl,rfl,rfl⟩:=H
 go_enter Tryz.func82,Tryz.ntmps82
 go_wp2_with (first|((with_reducible refine zau (N:=1) rfl ?_); refine zas ?hg (N:=1) ?hd (cs:=#[.bool a0_0,.string a0_1,.string a0_2]) (t:=28) ?hr ?_; (case hd=>rfl); (case hg=>rfl); (case hr=>first|(go_simp; done)|(go_simp; rfl)); intro gb294 hg w2 hbox hb; have n0_:=Aside0.mk (zak (by repeat (first|(with_reducible first|exact HB.out|apply zab|apply zaa|apply zac)|exact HB.out)) hb); have n1_:=Aside0.mk (hbox); have n2_:=Aside0.mk ((by rw [hg]; exact (zal (by repeat (first|(with_reducible first|exact HB.out|apply zab|apply zaa|apply zac)|exact HB.out))):w.heap.size≤gb294)); have n3_:=Aside0.mk ((by rw [hg]; exact (zal (by repeat (first|(with_reducible first|exact HB.out|apply zab|apply zaa|apply zac)|exact HB.out))):w.heap.size≤gb294)); clear HB; have HB:=n0_; have BK294:=n1_; have GW294:=n2_; have GE294:=n3_; clear n0_ n1_ n2_ n3_; clear hb hbox hg)|((with_reducible refine zau (N:=2) rfl ?_); refine zas ?hg (N:=2) ?hd (cs:=#[.bool false,.string (⟨#[]⟩:ByteArray),.string (⟨#[]⟩:ByteArray)]) (t:=28) ?hr ?_; (case hd=>rfl); (case hg=>rfl); (case hr=>first|(go_simp; done)|(go_simp; rfl)); intro gb295 hg w3 hbox hb; have n0_:=Aside0.mk (zao (g:=gb294) (o:=.cells #[.bool a0_0,.string a0_1,.string a0_2] 28 (0,0)) (by (with_reducible repeat (first|refine zaf ?_ _|refine zai ?_|refine zag ?_ _)); exact BK294.out) hb); have n1_:=Aside0.mk (zak (by repeat (first|(with_reducible first|exact HB.out|apply zab|apply zaa|apply zac|refine zae ?_ GE294.out)|exact HB.out)) hb); have n2_:=Aside0.mk (hbox); have n3_:=Aside0.mk ((by rw [hg]; exact (zal (by repeat (first|(with_reducible first|exact HB.out|apply zab|apply zaa|apply zac|refine zae ?_ GE294.out)|exact HB.out))):w.heap.size≤gb295)); have n4_:=Aside0.mk ((by rw [hg]; exact (zal (by repeat (first|(with_reducible first|exact HB.out|apply zab|apply zaa|apply zac|refine zae ?_ GE294.out)|exact HB.out))):w.heap.size≤gb295)); have n5_:=Aside0.mk ((by rw [hg]; exact Nat.ne_of_lt (zaz (g:=gb294) (o:=.cells #[.bool a0_0,.string a0_1,.string a0_2] 28 (0,0)) (by (with_reducible repeat (first|refine zaf ?_ _|refine zai ?_|refine zag ?_ _)); exact BK294.out)):gb294≠gb295)); have n6_:=Aside0.mk ((by rw [hg]; exact Nat.ne_of_gt (zaz (g:=gb294) (o:=.cells #[.bool a0_0,.string a0_1,.string a0_2] 28 (0,0)) (by (with_reducible repeat (first|refine zaf ?_ _|refine zai ?_|refine zag ?_ _)); exact BK294.out)):gb295≠gb294)); clear BK294; clear HB; have BK294:=n0_; have HB:=n1_; have BK295:=n2_; have GW295:=n3_; have GE295:=n4_; have NB294_295:=n5_; have NB295_294:=n6_; clear n0_ n1_ n2_ n3_ n4_ n5_ n6_; clear hb hbox hg; have hnb4:=NB294_295.out; have hnc4:=NB295_294.out; have hcz5_0:w3.cell? ⟨gb294,0,none⟩=some (.bool a0_0):=(zad BK294.out 0).trans rfl; have hcz5_1:w3.cell? ⟨gb294,1,none⟩=some (.string a0_1):=(zad BK294.out 1).trans rfl; have hcz5_2:w3.cell? ⟨gb294,2,none⟩=some (.string a0_2):=(zad BK294.out 2).trans rfl; have hfz5_0:=zaj BK294.out 0; have hfz5_1:=zaj BK294.out 1; have hfz5_2:=zaj BK294.out 2; have hcz6_0:w3.cell? ⟨gb295,0,none⟩=some (.bool false):=(zad BK295.out 0).trans rfl; have hcz6_1:w3.cell? ⟨gb295,1,none⟩=some (.string (⟨#[]⟩:ByteArray)):=(zad BK295.out 1).trans rfl; have hcz6_2:w3.cell? ⟨gb295,2,none⟩=some (.string (⟨#[]⟩:ByteArray)):=(zad BK295.out 2).trans rfl; have hfz6_0:=zaj BK295.out 0; have hfz6_1:=zaj BK295.out 1; have hfz6_2:=zaj BK295.out 2))
 refine bodyPost_ret (results_cell_row rfl _ _ gb295 28 #[.bool false,.string a0_1,.string a0_2] (0,0) _ rfl (by (with_reducible repeat (first|refine zaf ?_ _|refine zai ?_|refine zag ?_ _)); refine zaw (cs:=#[.bool false,.string a0_1,.string (⟨#[]⟩:ByteArray)]) ?_ 2 _ rfl; (with_reducible repeat (first|refine zaf ?_ _|refine zai ?_|refine zag ?_ _)); refine zaw (cs:=#[.bool false,.string (⟨#[]⟩:ByteArray),.string (⟨#[]⟩:ByteArray)]) ?_ 1 _ rfl; (with_reducible repeat (first|refine zaf ?_ _|refine zai ?_|refine zag ?_ _)); refine zaw (cs:=#[.bool false,.string (⟨#[]⟩:ByteArray),.string (⟨#[]⟩:ByteArray)]) ?_ 0 _ rfl; (with_reducible repeat (first|refine zaf ?_ _|refine zai ?_|refine zag ?_ _)); refine zcc ?_ NB295_294.out _; (with_reducible repeat (first|refine zaf ?_ _|refine zai ?_|refine zag ?_ _)); exact BK295.out) Tryz.underlying28 rfl (by kernel_rfl)) rfl ?_
 exact ⟨by first|rfl|(simp [zan,zam]<;>rfl)|(simp [*,zan,zam]<;>rfl),by repeat (first|(with_reducible first|exact HB.out|apply zab|apply zaa|apply zac|refine zae ?_ GE294.out|refine zae ?_ GE295.out)|exact HB.out)⟩
noncomputable def c1_FZero.f (a0_0:Bool) (a0_1:ByteArray) (a0_2:ByteArray):Option (Bool):=some (a0_1.toList == ([48]:List UInt8))
theorem c1_FZero.calls (a0_0:Bool) (a0_1:ByteArray) (a0_2:ByteArray) (r:Bool) (w:World) (h:c1_FZero.f a0_0 a0_1 a0_2=some r) :
  Calls Tryz.prog 87 #[.agg #[.bool a0_0,.string a0_1,.string a0_2]] w fun e w'=>e = .returned (.bool r)∧Below w.heap.size w w':=by
 have hu28:=Tryz.underlying28
 have HB:=Aside0.mk (Below.refl w.heap.size w)
 have H:(some (a0_1.toList == ([48]:List UInt8)))=some r:=h
 clear h
 obtain rfl:=Option.some.inj H
 go_enter Tryz.func87,Tryz.ntmps87
 go_wp2_with (first|((with_reducible refine zau (N:=1) rfl ?_); refine zas ?hg (N:=1) ?hd (cs:=#[.bool a0_0,.string a0_1,.string a0_2]) (t:=28) ?hr ?_; (case hd=>rfl); (case hg=>rfl); (case hr=>first|(go_simp; done)|(go_simp; rfl)); intro gb296 hg w2 hbox hb; have n0_:=Aside0.mk (zak (by repeat (first|(with_reducible first|exact HB.out|apply zab|apply zaa|apply zac)|exact HB.out)) hb); have n1_:=Aside0.mk (hbox); have n2_:=Aside0.mk ((by rw [hg]; exact (zal (by repeat (first|(with_reducible first|exact HB.out|apply zab|apply zaa|apply zac)|exact HB.out))):w.heap.size≤gb296)); have n3_:=Aside0.mk ((by rw [hg]; exact (zal (by repeat (first|(with_reducible first|exact HB.out|apply zab|apply zaa|apply zac)|exact HB.out))):w.heap.size≤gb296)); clear HB; have HB:=n0_; have BK296:=n1_; have GW296:=n2_; have GE296:=n3_; clear n0_ n1_ n2_ n3_; clear hb hbox hg; have hcz3_0:w2.cell? ⟨gb296,0,none⟩=some (.bool a0_0):=(zad BK296.out 0).trans rfl; have hcz3_1:w2.cell? ⟨gb296,1,none⟩=some (.string a0_1):=(zad BK296.out 1).trans rfl; have hcz3_2:w2.cell? ⟨gb296,2,none⟩=some (.string a0_2):=(zad BK296.out 2).trans rfl; have hfz3_0:=zaj BK296.out 0; have hfz3_1:=zaj BK296.out 1; have hfz3_2:=zaj BK296.out 2))
 go_ret
 exact ⟨by first|rfl|(simp [zan,zam]<;>rfl)|(simp [*,zan,zam]<;>rfl),by repeat (first|(with_reducible first|exact HB.out|apply zab|apply zaa|apply zac|refine zae ?_ GE296.out)|exact HB.out)⟩
end Go.Proofs.ZQ
end
section
namespace Go.Proofs.ZQ
open Go.RowKit Go.Proofs.ZW.Wa Go.Proofs.ZP
theorem low_T1 (s:Bool) (a b:Nat) (hb:0<b) (ha:(T a).size≤137438953472) (hbs:(T b).size≤137438953472):c1_low.f s (T a) (T b)=some (Fr (Rat.divInt (sgn s a) b)):=by
 unfold c1_low.f
 rw [fr_of s a b hb]
 by_cases h0:a=0
 ·subst h0
  rw [if_pos (T_is0.2 rfl),T_0,T_1]
  have:b/Nat.gcd 0 b=1:=by rw [Nat.gcd_zero_left]; exact Nat.div_self hb
  rw [this,Nat.zero_div]
  simp
 ·have hg:0<Nat.gcd a b:=Nat.gcd_pos_of_pos_right _ hb
  have hgs:(T (Nat.gcd a b)).size≤137438953472:=Nat.le_trans (za0 (Nat.le_of_dvd hb (Nat.gcd_dvd_right a b))) hbs
  rw [if_neg (fun e=>h0 (T_is0.1 e)),Common_T ha hbs,Option.bind_some,zce ha hgs hg,Option.bind_some,zce hbs hgs hg,Option.bind_some]
  rw [decide_eq_true h0,Bool.and_true]
theorem FAdd_Fr {x y:Rat} {k:Nat} (hx:Sz k x) (hy:Sz k y) (hk:k≤1000000):c1_FAdd.f (Fr x).1 (Fr x).2.1 (Fr x).2.2 (Fr y).1 (Fr y).2.1 (Fr y).2.2=some (Fr (x+y))∧Sz (2*k+1) (x+y):=by
 have hxd:=x.den_pos
 have hyd:=y.den_pos
 obtain ⟨hx1,hx2⟩:=hx
 obtain ⟨hy1,hy2⟩:=hy
 have hsum:x+y=Rat.divInt (sgn (decide (x.num<0)) (x.num.natAbs*y.den)+sgn (decide (y.num<0)) (y.num.natAbs*x.den)) ((x.den*y.den:Nat):Int):=by
  rw [zcv,←zcA,←zcA,zbZ,zbZ,Int.natCast_mul]
 rw [hsum]
 unfold c1_FAdd.f
 show (c1_Times.f (T x.num.natAbs) (T y.den)).bind _=_∧_
 have m1:=zaR x.num.natAbs y.den
 have m2:=zaR y.num.natAbs x.den
 have m3:=zaR x.den y.den
 have hd:0<x.den*y.den:=Nat.mul_pos hxd hyd
 rw [zcd (by omega) (by omega),Option.bind_some]
 show (c1_Times.f (T y.num.natAbs) (T x.den)).bind _=_∧_
 rw [zcd (by omega) (by omega),Option.bind_some]
 show (c1_Times.f (T x.den) (T y.den)).bind _=_∧_
 rw [zcd (by omega) (by omega),Option.bind_some]
 show (if (decide (x.num<0) == decide (y.num<0))=true then _ else _)=_∧_
 have e1:(Fr x).1=decide (x.num<0):=rfl
 have e2:(Fr y).1=decide (y.num<0):=rfl
 rw [e1,e2]
 generalize decide (x.num<0)=s
 generalize decide (y.num<0)=t
 generalize x.num.natAbs*y.den=A at *
 generalize y.num.natAbs*x.den=B at *
 generalize x.den*y.den=C at *
 have hadd:=T_size_add A B (2*k) (by omega) (by omega)
 by_cases hst:s=t
 ·subst hst
  rw [if_pos (beq_self_eq_true s),Plus_T (by omega) (by omega),Option.bind_some,low_T1 s (A+B) C hd (by omega) (by omega),Option.bind_some,sgn_add_same]
  exact ⟨rfl,sz_div hd (by omega) (by omega)⟩
 ·rw [if_neg (fun e=>hst (beq_iff_eq.1 e)),Compare_T (by omega) (by omega),Option.bind_some]
  by_cases hle:B≤A
  ·have hc:cmpN A B≥0:=by unfold cmpN; split; omega; split<;>omega
   have h3:(T (A-B)).size≤(T A).size:=za0 (Nat.sub_le _ _)
   rw [if_pos hc,Minus_T (by omega) (by omega) hle,Option.bind_some,low_T1 s (A-B) C hd (by omega) (by omega),Option.bind_some,sgn_add_ge s t A B hst hle]
   exact ⟨rfl,sz_div hd (by omega) (by omega)⟩
  ·have hc:¬ cmpN A B≥0:=by unfold cmpN; rw [if_pos (by omega)]; decide
   have h3:(T (B-A)).size≤(T B).size:=za0 (Nat.sub_le _ _)
   rw [if_neg hc,Minus_T (by omega) (by omega) (by omega),Option.bind_some,low_T1 t (B-A) C hd (by omega) (by omega),Option.bind_some,sgn_add_lt s t A B hst (by omega)]
   exact ⟨rfl,sz_div hd (by omega) (by omega)⟩
theorem FMul_Fr {x y:Rat} {k:Nat} (hx:Sz k x) (hy:Sz k y) (hk:k≤1000000):c1_FMul.f (Fr x).1 (Fr x).2.1 (Fr x).2.2 (Fr y).1 (Fr y).2.1 (Fr y).2.2=some (Fr (x*y))∧Sz (2*k) (x*y):=by
 have hxd:=x.den_pos
 have hyd:=y.den_pos
 obtain ⟨hx1,hx2⟩:=hx
 obtain ⟨hy1,hy2⟩:=hy
 have hp:x*y=Rat.divInt (sgn (decide (x.num<0) != decide (y.num<0)) (x.num.natAbs*y.num.natAbs)) ((x.den*y.den:Nat):Int):=by
  rw [zb2,←sgn_mul,zbZ,zbZ,Int.natCast_mul]
 rw [hp]
 unfold c1_FMul.f
 have m1:=zaR x.num.natAbs y.num.natAbs
 have m3:=zaR x.den y.den
 have hd:0<x.den*y.den:=Nat.mul_pos hxd hyd
 show (c1_Times.f (T x.num.natAbs) (T y.num.natAbs)).bind _=_∧_
 rw [zcd (by omega) (by omega),Option.bind_some]
 show (c1_Times.f (T x.den) (T y.den)).bind _=_∧_
 rw [zcd (by omega) (by omega),Option.bind_some]
 have e1:(Fr x).1=decide (x.num<0):=rfl
 have e2:(Fr y).1=decide (y.num<0):=rfl
 rw [e1,e2,low_T1 _ _ _ hd (by omega) (by omega),Option.bind_some]
 exact ⟨rfl,sz_div hd (by omega) (by omega)⟩
theorem FNeg_Fr (x:Rat):c1_FNeg.f (Fr x).1 (Fr x).2.1 (Fr x).2.2=some (Fr (-x)):=by
 have e1:(-x).num = -x.num:=Rat.neg_num x
 have e2:(-x).den=x.den:=rfl
 unfold c1_FNeg.f Fr
 rw [e1,e2,Int.natAbs_neg]
 show (if decide (x.num<0)=true then _ else _)=_
 by_cases h:x.num<0
 ·rw [if_pos (decide_eq_true h),decide_eq_false (show ¬ -x.num<0 by omega)]
 ·rw [if_neg (by simpa using h)]
  refine congrArg some ?_
  show ((T x.num.natAbs).toList != [48],T x.num.natAbs,T x.den)=_
  by_cases h0:x.num=0
  ·rw [h0]
   have:((T (0:Int).natAbs).toList != ([48]:List UInt8))=false:=by
    show ((T 0).toList != ([48]:List UInt8))=false
    rw [b48.2 rfl]; rfl
   rw [this]; rfl
  ·rw [decide_eq_true (show -x.num<0 by omega),bne_iff_ne.2 (fun e=>h0 (by have:=T_inj (b48.1 e); omega))]
theorem FInv_Fr {x:Rat} (h0:x≠0):c1_FInv.f (Fr x).1 (Fr x).2.1 (Fr x).2.2=some (Fr x⁻¹):=by
 have hn:=num_ne h0
 obtain ⟨f1,f2,f3⟩:=zbO (decide (x.num<0)) x.den x.num.natAbs (by omega)
 have hi:x⁻¹=Rat.divInt (sgn (decide (x.num<0)) x.den) x.num.natAbs:=by
  rw [zbN]
  refine (Rat.divInt_eq_divInt_iff hn (by omega)).2 ?_
  by_cases h:x.num<0
  ·have e:x.num = -(x.num.natAbs:Int):=by omega
   have e3:sgn true x.den = -(x.den:Int):=rfl
   rw [decide_eq_true h,e3]
   generalize x.num.natAbs=m at e
   rw [e,Int.neg_mul_neg]
  ·have e:x.num=(x.num.natAbs:Int):=by omega
   have e3:sgn false x.den=(x.den:Int):=rfl
   rw [decide_eq_false h,e3]
   generalize x.num.natAbs=m at e
   rw [e]
 have hg:Nat.gcd x.den x.num.natAbs=1:=by rw [Nat.gcd_comm]; exact x.reduced
 rw [hg,Nat.div_one] at f1 f2
 have hF:Fr x⁻¹=(decide (x.num<0),T x.den,T x.num.natAbs):=by
  unfold Fr
  rw [hi,f1,f2,f3,decide_eq_true x.den_nz,Bool.and_true]
 rw [hF]
 rfl
theorem FSub_Fr {x y:Rat} {k:Nat} (hx:Sz k x) (hy:Sz k y) (hk:k≤1000000):c1_FSub.f (Fr x).1 (Fr x).2.1 (Fr x).2.2 (Fr y).1 (Fr y).2.1 (Fr y).2.2=some (Fr (x-y)):=by
 have h:=(FAdd_Fr hx (neg_sz hy) hk).1
 rw [←Rat.sub_eq_add_neg] at h
 unfold c1_FSub.f
 rw [FNeg_Fr,Option.bind_some,h,Option.bind_some]
theorem FQuo_Fr {x y:Rat} {k:Nat} (hx:Sz k x) (hy:Sz k y) (h0:y≠0) (hk:k≤1000000):c1_FQuo.f (Fr x).1 (Fr x).2.1 (Fr x).2.2 (Fr y).1 (Fr y).2.1 (Fr y).2.2=some (Fr (x/y)):=by
 have h:=(FMul_Fr hx (inv_sz h0 hy) hk).1
 rw [←Rat.div_def] at h
 unfold c1_FQuo.f
 rw [FInv_Fr h0,Option.bind_some,h,Option.bind_some]
theorem FCmp_Fr {x y:Rat} {k:Nat} (hx:Sz k x) (hy:Sz k y) (hk:k≤1000000):c1_FCmp.f (Fr x).1 (Fr x).2.1 (Fr x).2.2 (Fr y).1 (Fr y).2.1 (Fr y).2.2=some (cmpR x y):=by
 unfold c1_FCmp.f
 rw [FSub_Fr hx hy hk,Option.bind_some,cmpR_sub]
 generalize x-y=d
 show (if (T d.num.natAbs).toList=([48]:List UInt8) then _ else (if decide (d.num<0)=true then _ else _))=_
 by_cases h0:d.num=0
 ·rw [if_pos (b48.2 (by rw [h0]; rfl)),h0]; rfl
 ·rw [if_neg (fun e=>h0 (by have:=T_inj (b48.1 e); omega))]
  by_cases h1:d.num<0
  ·rw [if_pos (decide_eq_true h1),Int.sign_eq_neg_one_of_neg h1]
  ·rw [if_neg (by simpa using h1),Int.sign_eq_one_of_pos (by omega)]
end Go.Proofs.ZQ
end
