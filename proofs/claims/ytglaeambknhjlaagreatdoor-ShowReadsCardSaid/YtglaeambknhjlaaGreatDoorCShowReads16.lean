/- Texts under the proof, joined by a program (prune.py): Q121, Q122, Q123, Q107, Q108, QFrac1, HFracs, HSetNeg, QRefOps, QShow1, QShow2, QPairs. -/
import Derived.Test.YtglaeambknhjlaaGreatDoorCShowReads13
import Derived.Test.YtglaeambknhjlaaGreatDoorCShowReads14
import Derived.Test.YtglaeambknhjlaaGreatDoorCShowReads11
import Derived.Test.YtglaeambknhjlaaGreatDoorCShowReads15
import Derived.Test.YtglaeambknhjlaaGreatDoorCShowReads06
set_option linter.unusedVariables false
set_option linter.unusedSimpArgs false
set_option exponentiation.threshold 20001
set_option maxHeartbeats 8000000
set_option maxRecDepth 100000
section
namespace Go.Proofs.ZQ
open Go.RowKit Go.Proofs.ZW.Wa Go.Proofs.ZW.Wb Go.Proofs.ZW.Wc
attribute [local go_sem] zaC zaB zaM zaL zaz zay zaF zaE
noncomputable def c1_FMul.f (a0_0:Bool) (a0_1:ByteArray) (a0_2:ByteArray) (a1_0:Bool) (a1_1:ByteArray) (a1_2:ByteArray):Option (Bool×ByteArray×ByteArray):=(c1_Times.f a0_1 a1_1).bind fun t357=>((c1_Times.f a0_2 a1_2).bind fun t358=>((c1_low.f (a0_0 != a1_0) t357 t358).bind fun bt359=>(some (bt359.1,bt359.2.1,bt359.2.2))))
noncomputable def c1_FMul.T1:Bool×List (List Nat×List Nat):=(true,[([],[]),([0],[0]),([],[]),([2],[2]),([1,3],[1,3]),([],[]),([5],[5]),([],[]),([7],[7]),([6,8],[6,8]),([],[]),([10],[10]),([],[]),([12],[12]),([11,13,9],[11,13]),([4,9,14,14],[4,9,14]),([15,15,0,1,2,3,4,5,6,7,8,9,10,11,12,13,14,15],[15])])
noncomputable def c1_FMul.B1:List Nat:=[0,1,0,4,15,0,32,0,128,480,0,1024,0,4096,16352,32767,65535]
theorem c1_FMul.tab1:rtab .any (opsOf Tryz.f81 1)=c1_FMul.T1:=by kernel_rfl
theorem c1_FMul.bits1:waitsOk c1_FMul.T1.2 c1_FMul.B1=true:=by kernel_rfl
theorem c1_FMul.calls (a0_0:Bool) (a0_1:ByteArray) (a0_2:ByteArray) (a1_0:Bool) (a1_1:ByteArray) (a1_2:ByteArray) (r1:Bool) (r2:ByteArray) (r3:ByteArray) (w:World) (h:c1_FMul.f a0_0 a0_1 a0_2 a1_0 a1_1 a1_2=some (r1,r2,r3)) :
  Calls Tryz.prog 81 #[.agg #[.bool a0_0,.string a0_1,.string a0_2],.agg #[.bool a1_0,.string a1_1,.string a1_2]] w fun e w'=>e = .returned (.agg #[.bool r1,.string r2,.string r3])∧Below w.heap.size w w':=by
 have hu28:=Tryz.underlying28
 have HB:=Aside0.mk (Below.refl w.heap.size w)
 have H:((c1_Times.f a0_1 a1_1).bind fun t357=>((c1_Times.f a0_2 a1_2).bind fun t358=>((c1_low.f (a0_0 != a1_0) t357 t358).bind fun bt359=>(some (bt359.1,bt359.2.1,bt359.2.2)))))=some (r1,r2,r3):=h
 clear h
 replace H:=Option.bind_eq_some_iff.mp H
 obtain ⟨t357,A30,H⟩:=H
 replace H:((c1_Times.f a0_2 a1_2).bind fun t358=>((c1_low.f (a0_0 != a1_0) t357 t358).bind fun bt359=>(some (bt359.1,bt359.2.1,bt359.2.2))))=some (r1,r2,r3):=H
 have A3:=Aside0.mk A30
 clear A30
 replace H:=Option.bind_eq_some_iff.mp H
 obtain ⟨t358,A40,H⟩:=H
 replace H:((c1_low.f (a0_0 != a1_0) t357 t358).bind fun bt359=>(some (bt359.1,bt359.2.1,bt359.2.2)))=some (r1,r2,r3):=H
 have A4:=Aside0.mk A40
 clear A40
 replace H:=Option.bind_eq_some_iff.mp H
 obtain ⟨⟨t359,t360,t361⟩,A50,H⟩:=H
 replace H:(some (t359,t360,t361))=some (r1,r2,r3):=H
 have A5:=Aside0.mk A50
 clear A50
 simp only [Option.some.injEq,Prod.mk.injEq] at H
 obtain ⟨rfl,rfl,rfl⟩:=H
 go_enter Tryz.func81,Tryz.ntmps81
 try go_wp2_with (first|((with_reducible refine zaG (N:=2) rfl ?_); refine zaI ?hg (N:=2) ?hd (cs:=#[.bool a0_0,.string a0_1,.string a0_2]) (t:=28) ?hr ?_; (case hd=>rfl); (case hg=>rfl); (case hr=>first|(go_simp; done)|(go_simp; rfl)); intro gb354 hg w6 hbox hb; have n0_:=Aside0.mk (zam (by repeat (first|(with_reducible first|exact HB.out|apply zaa|apply zab|apply zac)|exact HB.out)) hb); have n1_:=Aside0.mk (hbox); have n2_:=Aside0.mk ((by rw [hg]; exact (zal (by repeat (first|(with_reducible first|exact HB.out|apply zaa|apply zab|apply zac)|exact HB.out))):w.heap.size≤gb354)); have n3_:=Aside0.mk ((by rw [hg]; exact (zal (by repeat (first|(with_reducible first|exact HB.out|apply zaa|apply zab|apply zac)|exact HB.out))):w.heap.size≤gb354)); clear HB; have HB:=n0_; have BK354:=n1_; have GW354:=n2_; have GE354:=n3_; clear n0_ n1_ n2_ n3_; clear hb hbox hg)|((with_reducible refine zaG (N:=3) rfl ?_); refine zaI ?hg (N:=3) ?hd (cs:=#[.bool a1_0,.string a1_1,.string a1_2]) (t:=28) ?hr ?_; (case hd=>rfl); (case hg=>rfl); (case hr=>first|(go_simp; done)|(go_simp; rfl)); intro gb355 hg w7 hbox hb; have n0_:=Aside0.mk (zat (g:=gb354) (o:=.cells #[.bool a0_0,.string a0_1,.string a0_2] 28 (0,0)) (by (with_reducible repeat (first|refine zah ?_ _|refine zaj ?_|refine zai ?_ _)); exact BK354.out) hb); have n1_:=Aside0.mk (zam (by repeat (first|(with_reducible first|exact HB.out|apply zaa|apply zab|apply zac|refine zaf ?_ GE354.out)|exact HB.out)) hb); have n2_:=Aside0.mk (hbox); have n3_:=Aside0.mk ((by rw [hg]; exact (zal (by repeat (first|(with_reducible first|exact HB.out|apply zaa|apply zab|apply zac|refine zaf ?_ GE354.out)|exact HB.out))):w.heap.size≤gb355)); have n4_:=Aside0.mk ((by rw [hg]; exact (zal (by repeat (first|(with_reducible first|exact HB.out|apply zaa|apply zab|apply zac|refine zaf ?_ GE354.out)|exact HB.out))):w.heap.size≤gb355)); have n5_:=Aside0.mk ((by rw [hg]; exact Nat.ne_of_lt (zaq (g:=gb354) (o:=.cells #[.bool a0_0,.string a0_1,.string a0_2] 28 (0,0)) (by (with_reducible repeat (first|refine zah ?_ _|refine zaj ?_|refine zai ?_ _)); exact BK354.out)):gb354≠gb355)); have n6_:=Aside0.mk ((by rw [hg]; exact Nat.ne_of_gt (zaq (g:=gb354) (o:=.cells #[.bool a0_0,.string a0_1,.string a0_2] 28 (0,0)) (by (with_reducible repeat (first|refine zah ?_ _|refine zaj ?_|refine zai ?_ _)); exact BK354.out)):gb355≠gb354)); clear BK354; clear HB; have BK354:=n0_; have HB:=n1_; have BK355:=n2_; have GW355:=n3_; have GE355:=n4_; have NB354_336:=n5_; have NB355_335:=n6_; clear n0_ n1_ n2_ n3_ n4_ n5_ n6_; clear hb hbox hg)|((with_reducible refine zaG (N:=4) rfl ?_); refine zaI ?hg (N:=4) ?hd (cs:=#[.bool false,.string (⟨#[]⟩:ByteArray),.string (⟨#[]⟩:ByteArray)]) (t:=28) ?hr ?_; (case hd=>rfl); (case hg=>rfl); (case hr=>first|(go_simp; done)|(go_simp; rfl)); intro gb356 hg w8 hbox hb; have n0_:=Aside0.mk (zat (g:=gb354) (o:=.cells #[.bool a0_0,.string a0_1,.string a0_2] 28 (0,0)) (by (with_reducible repeat (first|refine zah ?_ _|refine zaj ?_|refine zai ?_ _)); exact BK354.out) hb); have n1_:=Aside0.mk (zat (g:=gb355) (o:=.cells #[.bool a1_0,.string a1_1,.string a1_2] 28 (0,0)) (by (with_reducible repeat (first|refine zah ?_ _|refine zaj ?_|refine zai ?_ _)); exact BK355.out) hb); have n2_:=Aside0.mk (zam (by repeat (first|(with_reducible first|exact HB.out|apply zaa|apply zab|apply zac|refine zaf ?_ GE354.out|refine zaf ?_ GE355.out)|exact HB.out)) hb); have n3_:=Aside0.mk (hbox); have n4_:=Aside0.mk ((by rw [hg]; exact (zal (by repeat (first|(with_reducible first|exact HB.out|apply zaa|apply zab|apply zac|refine zaf ?_ GE354.out|refine zaf ?_ GE355.out)|exact HB.out))):w.heap.size≤gb356)); have n5_:=Aside0.mk ((by rw [hg]; exact (zal (by repeat (first|(with_reducible first|exact HB.out|apply zaa|apply zab|apply zac|refine zaf ?_ GE354.out|refine zaf ?_ GE355.out)|exact HB.out))):w.heap.size≤gb356)); have n6_:=Aside0.mk ((by rw [hg]; exact Nat.ne_of_lt (zaq (g:=gb354) (o:=.cells #[.bool a0_0,.string a0_1,.string a0_2] 28 (0,0)) (by (with_reducible repeat (first|refine zah ?_ _|refine zaj ?_|refine zai ?_ _)); exact BK354.out)):gb354≠gb356)); have n7_:=Aside0.mk ((by rw [hg]; exact Nat.ne_of_gt (zaq (g:=gb354) (o:=.cells #[.bool a0_0,.string a0_1,.string a0_2] 28 (0,0)) (by (with_reducible repeat (first|refine zah ?_ _|refine zaj ?_|refine zai ?_ _)); exact BK354.out)):gb356≠gb354)); have n8_:=Aside0.mk ((by rw [hg]; exact Nat.ne_of_lt (zaq (g:=gb355) (o:=.cells #[.bool a1_0,.string a1_1,.string a1_2] 28 (0,0)) (by (with_reducible repeat (first|refine zah ?_ _|refine zaj ?_|refine zai ?_ _)); exact BK355.out)):gb355≠gb356)); have n9_:=Aside0.mk ((by rw [hg]; exact Nat.ne_of_gt (zaq (g:=gb355) (o:=.cells #[.bool a1_0,.string a1_1,.string a1_2] 28 (0,0)) (by (with_reducible repeat (first|refine zah ?_ _|refine zaj ?_|refine zai ?_ _)); exact BK355.out)):gb356≠gb355)); clear BK354; clear BK355; clear HB; have BK354:=n0_; have BK355:=n1_; have HB:=n2_; have BK356:=n3_; have GW356:=n4_; have GE356:=n5_; have NB354_337:=n6_; have NB356_335:=n7_; have NB355_337:=n8_; have NB356_336:=n9_; clear n0_ n1_ n2_ n3_ n4_ n5_ n6_ n7_ n8_ n9_; clear hb hbox hg))
 have n0_:=Aside0.mk (zaj BK354.out)
 have n1_:=Aside0.mk (zaj BK355.out)
 have n2_:=Aside0.mk (zaj BK356.out)
 have n3_:=Aside0.mk (zac HB.out)
 clear BK354
 clear BK355
 clear BK356
 clear HB
 have BK354:=n0_
 have BK355:=n1_
 have BK356:=n2_
 have HB:=n3_
 clear n0_ n1_ n2_ n3_
 refine start_ (n:=17) (S:=fun w'=>w'.cell? ⟨gb354,0,none⟩=some (.bool a0_0)∧w'.cell? ⟨gb354,1,none⟩=some (.string a0_1)∧w'.cell? ⟨gb354,2,none⟩=some (.string a0_2)∧w'.cell? ⟨gb355,0,none⟩=some (.bool a1_0)∧w'.cell? ⟨gb355,1,none⟩=some (.string a1_1)∧w'.cell? ⟨gb355,2,none⟩=some (.string a1_2)) (ds:=[]) #[false,false,false,false,false,false,false,false,false,false,false,false,false,false,false,false,false] (by kernel_rfl) rfl rfl ⟨(zag BK354.out 0).trans rfl,(zag BK354.out 1).trans rfl,(zag BK354.out 2).trans rfl,(zag BK355.out 0).trans rfl,(zag BK355.out 1).trans rfl,(zag BK355.out 2).trans rfl⟩ (fun hHeld => ?_); refine with_tabW c1_FMul.tab1 c1_FMul.bits1 (fun HT_ HW_ => ?_)
 generalize w8.drew=w9 at BK354 BK355 BK356 HB hHeld ⊢
 refine pure_ (i:=0) (N:=some 5) (v:=?_) (a':=?_) #[true,false,false,false,false,false,false,false,false,false,false,false,false,false,false,false,false] rfl rfl (zbK HT_.out (by kernel_rfl)) (fun _ _ _ h=>h) (Or.inl ⟨by rfl,?_⟩) ?_ ?_
 rotate_left
 ·intro w'
  go_simp
  with_reducible rfl
 rotate_left
 ·simp only [Act.put,List.setIfInBounds_toArray,List.set_cons_zero,List.set_cons_succ,i64_w,i32_w]
  rfl
 refine pure_ (i:=2) (N:=some 7) (v:=?_) (a':=?_) #[true,false,true,false,false,false,false,false,false,false,false,false,false,false,false,false,false] rfl rfl (zbK HT_.out (by kernel_rfl)) (fun _ _ _ h=>h) (Or.inl ⟨by rfl,?_⟩) ?_ ?_
 rotate_left
 ·intro w'
  go_simp
  with_reducible rfl
 rotate_left
 ·simp only [Act.put,List.setIfInBounds_toArray,List.set_cons_zero,List.set_cons_succ,i64_w,i32_w]
  rfl
 refine pure_ (i:=5) (N:=some 10) (v:=?_) (a':=?_) #[true,false,true,false,false,true,false,false,false,false,false,false,false,false,false,false,false] rfl rfl (zbK HT_.out (by kernel_rfl)) (fun _ _ _ h=>h) (Or.inl ⟨by rfl,?_⟩) ?_ ?_
 rotate_left
 ·intro w'
  go_simp
  with_reducible rfl
 rotate_left
 ·simp only [Act.put,List.setIfInBounds_toArray,List.set_cons_zero,List.set_cons_succ,i64_w,i32_w]
  rfl
 refine pure_ (i:=7) (N:=some 12) (v:=?_) (a':=?_) #[true,false,true,false,false,true,false,true,false,false,false,false,false,false,false,false,false] rfl rfl (zbK HT_.out (by kernel_rfl)) (fun _ _ _ h=>h) (Or.inl ⟨by rfl,?_⟩) ?_ ?_
 rotate_left
 ·intro w'
  go_simp
  with_reducible rfl
 rotate_left
 ·simp only [Act.put,List.setIfInBounds_toArray,List.set_cons_zero,List.set_cons_succ,i64_w,i32_w]
  rfl
 refine pure_ (i:=10) (N:=some 15) (v:=?_) (a':=?_) #[true,false,true,false,false,true,false,true,false,false,true,false,false,false,false,false,false] rfl rfl (zbK HT_.out (by kernel_rfl)) (fun _ _ _ h=>h) (Or.inl ⟨by rfl,?_⟩) ?_ ?_
 rotate_left
 ·intro w'
  go_simp
  with_reducible rfl
 rotate_left
 ·simp only [Act.put,List.setIfInBounds_toArray,List.set_cons_zero,List.set_cons_succ,i64_w,i32_w]
  rfl
 refine pure_ (i:=12) (N:=some 17) (v:=?_) (a':=?_) #[true,false,true,false,false,true,false,true,false,false,true,false,true,false,false,false,false] rfl rfl (zbK HT_.out (by kernel_rfl)) (fun _ _ _ h=>h) (Or.inl ⟨by rfl,?_⟩) ?_ ?_
 rotate_left
 ·intro w'
  go_simp
  with_reducible rfl
 rotate_left
 ·simp only [Act.put,List.setIfInBounds_toArray,List.set_cons_zero,List.set_cons_succ,i64_w,i32_w]
  rfl
 refine take_ (i:=1) (N:=some 6) (v:=?_) (a':=?_) #[true,true,true,false,false,true,false,true,false,false,true,false,true,false,false,false,false] rfl rfl (zce HT_.out HW_.out (by kernel_rfl)) (fun _ _ _ h=>h) (Or.inl ⟨by rfl,?_⟩) hHeld ?_ ?_
 rotate_left
 ·rintro w' ⟨s0,s1,s2,s3,s4,s5⟩
  go_simp
  with_reducible rfl
 rotate_left
 ·simp only [Act.put,List.setIfInBounds_toArray,List.set_cons_zero,List.set_cons_succ,i64_w,i32_w]
  rfl
 refine take_ (i:=3) (N:=some 8) (v:=?_) (a':=?_) #[true,true,true,true,false,true,false,true,false,false,true,false,true,false,false,false,false] rfl rfl (zce HT_.out HW_.out (by kernel_rfl)) (fun _ _ _ h=>h) (Or.inl ⟨by rfl,?_⟩) hHeld ?_ ?_
 rotate_left
 ·rintro w' ⟨s0,s1,s2,s3,s4,s5⟩
  go_simp
  with_reducible rfl
 rotate_left
 ·simp only [Act.put,List.setIfInBounds_toArray,List.set_cons_zero,List.set_cons_succ,i64_w,i32_w]
  rfl
 refine pure_ (i:=4) (N:=some 9) (v:=?_) (a':=?_) #[true,true,true,true,true,true,false,true,false,false,true,false,true,false,false,false,false] rfl rfl (zbK HT_.out (by kernel_rfl)) (fun _ _ _ h=>h) (Or.inl ⟨by rfl,?_⟩) ?_ ?_
 rotate_left
 ·intro w'
  go_simp
  with_reducible rfl
 rotate_left
 ·simp only [Act.put,List.setIfInBounds_toArray,List.set_cons_zero,List.set_cons_succ,i64_w,i32_w]
  rfl
 refine take_ (i:=6) (N:=some 11) (v:=?_) (a':=?_) #[true,true,true,true,true,true,true,true,false,false,true,false,true,false,false,false,false] rfl rfl (zce HT_.out HW_.out (by kernel_rfl)) (fun _ _ _ h=>h) (Or.inl ⟨by rfl,?_⟩) hHeld ?_ ?_
 rotate_left
 ·rintro w' ⟨s0,s1,s2,s3,s4,s5⟩
  go_simp
  with_reducible rfl
 rotate_left
 ·simp only [Act.put,List.setIfInBounds_toArray,List.set_cons_zero,List.set_cons_succ,i64_w,i32_w]
  rfl
 refine take_ (i:=8) (N:=some 13) (v:=?_) (a':=?_) #[true,true,true,true,true,true,true,true,true,false,true,false,true,false,false,false,false] rfl rfl (zce HT_.out HW_.out (by kernel_rfl)) (fun _ _ _ h=>h) (Or.inl ⟨by rfl,?_⟩) hHeld ?_ ?_
 rotate_left
 ·rintro w' ⟨s0,s1,s2,s3,s4,s5⟩
  go_simp
  with_reducible rfl
 rotate_left
 ·simp only [Act.put,List.setIfInBounds_toArray,List.set_cons_zero,List.set_cons_succ,i64_w,i32_w]
  rfl
 refine take_ (i:=11) (N:=some 16) (v:=?_) (a':=?_) #[true,true,true,true,true,true,true,true,true,false,true,true,true,false,false,false,false] rfl rfl (zce HT_.out HW_.out (by kernel_rfl)) (fun _ _ _ h=>h) (Or.inl ⟨by rfl,?_⟩) hHeld ?_ ?_
 rotate_left
 ·rintro w' ⟨s0,s1,s2,s3,s4,s5⟩
  go_simp
  with_reducible rfl
 rotate_left
 ·simp only [Act.put,List.setIfInBounds_toArray,List.set_cons_zero,List.set_cons_succ,i64_w,i32_w]
  rfl
 refine take_ (i:=13) (N:=some 18) (v:=?_) (a':=?_) #[true,true,true,true,true,true,true,true,true,false,true,true,true,true,false,false,false] rfl rfl (zce HT_.out HW_.out (by kernel_rfl)) (fun _ _ _ h=>h) (Or.inl ⟨by rfl,?_⟩) hHeld ?_ ?_
 rotate_left
 ·rintro w' ⟨s0,s1,s2,s3,s4,s5⟩
  go_simp
  with_reducible rfl
 rotate_left
 ·simp only [Act.put,List.setIfInBounds_toArray,List.set_cons_zero,List.set_cons_succ,i64_w,i32_w]
  rfl
 refine one_ (i:=9) (N:=some 14) #[true,true,true,true,true,true,true,true,true,true,true,true,true,true,false,false,false] rfl rfl (one_of HT_.out (by kernel_rfl)) (by decide) (fun K hK => ?_)
 refine goes_ Tryz.func131 (by kernel_rfl) rfl #[.string a0_1,.string a1_1] (by rfl) rfl rfl (by (try simp only [List.map_toArray,List.map_cons,List.map_nil]); first|done|rfl|(simp only [List.length_drop,List.length_take]; rfl)) ?_
 with_reducible refine (c1_Times.calls a0_1 a1_1 t357 _ A3.out).mono ?_
 rintro e w10 ⟨rfl,hb⟩
 refine ⟨_,rfl,?_⟩
 have n0_:=Aside0.mk (zat (g:=gb354) (o:=.cells #[.bool a0_0,.string a0_1,.string a0_2] 28 (0,0)) (by (with_reducible repeat (first|refine zah ?_ _|refine zaj ?_|refine zai ?_ _)); exact BK354.out) hb)
 have n1_:=Aside0.mk (zat (g:=gb355) (o:=.cells #[.bool a1_0,.string a1_1,.string a1_2] 28 (0,0)) (by (with_reducible repeat (first|refine zah ?_ _|refine zaj ?_|refine zai ?_ _)); exact BK355.out) hb)
 have n2_:=Aside0.mk (zat (g:=gb356) (o:=.cells #[.bool false,.string (⟨#[]⟩:ByteArray),.string (⟨#[]⟩:ByteArray)] 28 (0,0)) (by (with_reducible repeat (first|refine zah ?_ _|refine zaj ?_|refine zai ?_ _)); exact BK356.out) hb)
 have n3_:=Aside0.mk (zam (by repeat (first|(with_reducible first|exact HB.out|apply zaa|apply zab|apply zac|refine zaf ?_ GE354.out|refine zaf ?_ GE355.out|refine zaf ?_ GE356.out)|exact HB.out)) hb)
 clear BK354
 clear BK355
 clear BK356
 clear HB
 have BK354:=n0_
 have BK355:=n1_
 have BK356:=n2_
 have HB:=n3_
 clear n0_ n1_ n2_ n3_
 (try clear hb)
 (try clear hb2)
 (try clear hk)
 (try clear hi)
 refine hK.out _ _ ⟨(zag BK354.out 0).trans rfl,(zag BK354.out 1).trans rfl,(zag BK354.out 2).trans rfl,(zag BK355.out 0).trans rfl,(zag BK355.out 1).trans rfl,(zag BK355.out 2).trans rfl⟩ (fun hHeld => ?_)
 clear hK K
 refine norm_ (a':=?_) ?_ ?_
 rotate_left
 ·show Act.put _ (some 14) _=_
  simp only [Act.put,List.setIfInBounds_toArray,List.set_cons_zero,List.set_cons_succ,i64_w,i32_w]
  rfl
 refine one_ (i:=14) (N:=some 19) #[true,true,true,true,true,true,true,true,true,true,true,true,true,true,true,false,false] rfl rfl (one_of HT_.out (by kernel_rfl)) (by decide) (fun K hK => ?_)
 refine goes_ Tryz.func131 (by kernel_rfl) rfl #[.string a0_2,.string a1_2] (by rfl) rfl rfl (by (try simp only [List.map_toArray,List.map_cons,List.map_nil]); first|done|rfl|(simp only [List.length_drop,List.length_take]; rfl)) ?_
 with_reducible refine (c1_Times.calls a0_2 a1_2 t358 _ A4.out).mono ?_
 rintro e w11 ⟨rfl,hb⟩
 refine ⟨_,rfl,?_⟩
 have n0_:=Aside0.mk (zat (g:=gb354) (o:=.cells #[.bool a0_0,.string a0_1,.string a0_2] 28 (0,0)) (by (with_reducible repeat (first|refine zah ?_ _|refine zaj ?_|refine zai ?_ _)); exact BK354.out) hb)
 have n1_:=Aside0.mk (zat (g:=gb355) (o:=.cells #[.bool a1_0,.string a1_1,.string a1_2] 28 (0,0)) (by (with_reducible repeat (first|refine zah ?_ _|refine zaj ?_|refine zai ?_ _)); exact BK355.out) hb)
 have n2_:=Aside0.mk (zat (g:=gb356) (o:=.cells #[.bool false,.string (⟨#[]⟩:ByteArray),.string (⟨#[]⟩:ByteArray)] 28 (0,0)) (by (with_reducible repeat (first|refine zah ?_ _|refine zaj ?_|refine zai ?_ _)); exact BK356.out) hb)
 have n3_:=Aside0.mk (zam (by repeat (first|(with_reducible first|exact HB.out|apply zaa|apply zab|apply zac|refine zaf ?_ GE354.out|refine zaf ?_ GE355.out|refine zaf ?_ GE356.out)|exact HB.out)) hb)
 clear BK354
 clear BK355
 clear BK356
 clear HB
 have BK354:=n0_
 have BK355:=n1_
 have BK356:=n2_
 have HB:=n3_
 clear n0_ n1_ n2_ n3_
 (try clear hb)
 (try clear hb2)
 (try clear hk)
 (try clear hi)
 refine hK.out _ _ ⟨(zag BK354.out 0).trans rfl,(zag BK354.out 1).trans rfl,(zag BK354.out 2).trans rfl,(zag BK355.out 0).trans rfl,(zag BK355.out 1).trans rfl,(zag BK355.out 2).trans rfl⟩ (fun hHeld => ?_)
 clear hK K
 refine norm_ (a':=?_) ?_ ?_
 rotate_left
 ·show Act.put _ (some 19) _=_
  simp only [Act.put,List.setIfInBounds_toArray,List.set_cons_zero,List.set_cons_succ,i64_w,i32_w]
  rfl
 refine one_ (i:=15) (N:=some 20) #[true,true,true,true,true,true,true,true,true,true,true,true,true,true,true,true,false] rfl rfl (one_of HT_.out (by kernel_rfl)) (by decide) (fun K hK => ?_)
 refine goes_ Tryz.func163 (by kernel_rfl) rfl #[.bool (a0_0 != a1_0),.string t357,.string t358] (by rfl) rfl rfl (by (try simp only [List.map_toArray,List.map_cons,List.map_nil]); first|done|rfl|(simp only [List.length_drop,List.length_take]; rfl)) ?_
 with_reducible refine (c1_low.calls (a0_0 != a1_0) t357 t358 t359 t360 t361 _ A5.out).mono ?_
 rintro e w12 ⟨rfl,hb⟩
 refine ⟨_,rfl,?_⟩
 have n0_:=Aside0.mk (zat (g:=gb354) (o:=.cells #[.bool a0_0,.string a0_1,.string a0_2] 28 (0,0)) (by (with_reducible repeat (first|refine zah ?_ _|refine zaj ?_|refine zai ?_ _)); exact BK354.out) hb)
 have n1_:=Aside0.mk (zat (g:=gb355) (o:=.cells #[.bool a1_0,.string a1_1,.string a1_2] 28 (0,0)) (by (with_reducible repeat (first|refine zah ?_ _|refine zaj ?_|refine zai ?_ _)); exact BK355.out) hb)
 have n2_:=Aside0.mk (zat (g:=gb356) (o:=.cells #[.bool false,.string (⟨#[]⟩:ByteArray),.string (⟨#[]⟩:ByteArray)] 28 (0,0)) (by (with_reducible repeat (first|refine zah ?_ _|refine zaj ?_|refine zai ?_ _)); exact BK356.out) hb)
 have n3_:=Aside0.mk (zam (by repeat (first|(with_reducible first|exact HB.out|apply zaa|apply zab|apply zac|refine zaf ?_ GE354.out|refine zaf ?_ GE355.out|refine zaf ?_ GE356.out)|exact HB.out)) hb)
 clear BK354
 clear BK355
 clear BK356
 clear HB
 have BK354:=n0_
 have BK355:=n1_
 have BK356:=n2_
 have HB:=n3_
 clear n0_ n1_ n2_ n3_
 (try clear hb)
 (try clear hb2)
 (try clear hk)
 (try clear hi)
 refine hK.out _ _ ⟨(zag BK354.out 0).trans rfl,(zag BK354.out 1).trans rfl,(zag BK354.out 2).trans rfl,(zag BK355.out 0).trans rfl,(zag BK355.out 1).trans rfl,(zag BK355.out 2).trans rfl⟩ (fun hHeld => ?_)
 clear hK K
 refine norm_ (a':=?_) ?_ ?_
 rotate_left
 ·show Act.put _ (some 20) _=_
  simp only [Act.put,List.setIfInBounds_toArray,List.set_cons_zero,List.set_cons_succ,i64_w,i32_w]
  rfl
 refine one_ (i:=16) (N:=none) #[true,true,true,true,true,true,true,true,true,true,true,true,true,true,true,true,true] rfl rfl (one_of HT_.out (by kernel_rfl)) (by decide) (fun K hK => ?_)
 have hs13:w12.cell? ⟨gb356,0,none⟩=some (.bool false):=(zag BK356.out 0).trans rfl
 have hfs13:=zae BK356.out 0
 have hns13_0:=NB354_337.out
 have hns13_1:=NB355_337.out
 have hms13_0:=NB356_335.out
 have hms13_1:=NB356_336.out
 have hs14:w12.cell? ⟨gb356,1,none⟩=some (.string (⟨#[]⟩:ByteArray)):=(zag BK356.out 1).trans rfl
 have hfs14:=zae BK356.out 1
 have hns14_0:=NB354_337.out
 have hns14_1:=NB355_337.out
 have hms14_0:=NB356_335.out
 have hms14_1:=NB356_336.out
 have hs15:w12.cell? ⟨gb356,2,none⟩=some (.string (⟨#[]⟩:ByteArray)):=(zag BK356.out 2).trans rfl
 have hfs15:=zae BK356.out 2
 have hns15_0:=NB354_337.out
 have hns15_1:=NB355_337.out
 have hms15_0:=NB356_335.out
 have hms15_1:=NB356_336.out
 refine skip_ (w1:=?_) (by rfl) rfl ?_ ?_
 rotate_left
 ·go_simp
  rfl
 refine hK.out _ _ ⟨((zaA (p:=⟨gb356,_,none⟩) NB354_337.out _).trans (((zaA (p:=⟨gb356,_,none⟩) NB354_337.out _).trans (((zaA (p:=⟨gb356,_,none⟩) NB354_337.out _).trans (hHeld.1)))))),((zaA (p:=⟨gb356,_,none⟩) NB354_337.out _).trans (((zaA (p:=⟨gb356,_,none⟩) NB354_337.out _).trans (((zaA (p:=⟨gb356,_,none⟩) NB354_337.out _).trans (hHeld.2.1)))))),((zaA (p:=⟨gb356,_,none⟩) NB354_337.out _).trans (((zaA (p:=⟨gb356,_,none⟩) NB354_337.out _).trans (((zaA (p:=⟨gb356,_,none⟩) NB354_337.out _).trans (hHeld.2.2.1)))))),((zaA (p:=⟨gb356,_,none⟩) NB355_337.out _).trans (((zaA (p:=⟨gb356,_,none⟩) NB355_337.out _).trans (((zaA (p:=⟨gb356,_,none⟩) NB355_337.out _).trans (hHeld.2.2.2.1)))))),((zaA (p:=⟨gb356,_,none⟩) NB355_337.out _).trans (((zaA (p:=⟨gb356,_,none⟩) NB355_337.out _).trans (((zaA (p:=⟨gb356,_,none⟩) NB355_337.out _).trans (hHeld.2.2.2.2.1)))))),((zaA (p:=⟨gb356,_,none⟩) NB355_337.out _).trans (((zaA (p:=⟨gb356,_,none⟩) NB355_337.out _).trans (((zaA (p:=⟨gb356,_,none⟩) NB355_337.out _).trans (hHeld.2.2.2.2.2))))))⟩ (fun hHeld => ?_)
 clear hK K
 refine done_ (done_of HT_.out (by kernel_rfl)) ?_
 try go_wp2
 refine bodyPost_ret (results_cell_row rfl _ _ gb356 28 #[.bool t359,.string t360,.string t361] (0,0) _ rfl (by (with_reducible repeat (first|refine zah ?_ _|refine zaj ?_|refine zai ?_ _)); refine zaS (cs:=#[.bool t359,.string t360,.string (⟨#[]⟩:ByteArray)]) ?_ 2 _ rfl; (with_reducible repeat (first|refine zah ?_ _|refine zaj ?_|refine zai ?_ _)); refine zaS (cs:=#[.bool t359,.string (⟨#[]⟩:ByteArray),.string (⟨#[]⟩:ByteArray)]) ?_ 1 _ rfl; (with_reducible repeat (first|refine zah ?_ _|refine zaj ?_|refine zai ?_ _)); refine zaS (cs:=#[.bool false,.string (⟨#[]⟩:ByteArray),.string (⟨#[]⟩:ByteArray)]) ?_ 0 _ rfl; (with_reducible repeat (first|refine zah ?_ _|refine zaj ?_|refine zai ?_ _)); exact BK356.out) Tryz.underlying28 rfl (by kernel_rfl)) rfl ?_
 exact ⟨by first|rfl|(simp [zao,zan]<;>rfl)|(simp [*,zao,zan]<;>rfl),by repeat (first|(with_reducible first|exact HB.out|apply zaa|apply zab|apply zac|refine zaf ?_ GE354.out|refine zaf ?_ GE355.out|refine zaf ?_ GE356.out)|exact HB.out)⟩
noncomputable def c1_FInv.f (a0_0:Bool) (a0_1:ByteArray) (a0_2:ByteArray):Option (Bool×ByteArray×ByteArray):=some (a0_0,a0_2,a0_1)
noncomputable def c1_FQuo.f (a0_0:Bool) (a0_1:ByteArray) (a0_2:ByteArray) (a1_0:Bool) (a1_1:ByteArray) (a1_2:ByteArray):Option (Bool×ByteArray×ByteArray):=(c1_FInv.f a1_0 a1_1 a1_2).bind fun bt367=>((c1_FMul.f a0_0 a0_1 a0_2 bt367.1 bt367.2.1 bt367.2.2).bind fun bt370=>(some (bt370.1,bt370.2.1,bt370.2.2)))
noncomputable def c1_FSize.f (a0_0:Bool) (a0_1:ByteArray) (a0_2:ByteArray):Option (Bool×ByteArray×ByteArray):=some (false,a0_1,a0_2)
theorem c1_FSize.calls (a0_0:Bool) (a0_1:ByteArray) (a0_2:ByteArray) (r1:Bool) (r2:ByteArray) (r3:ByteArray) (w:World) (h:c1_FSize.f a0_0 a0_1 a0_2=some (r1,r2,r3)) :
  Calls Tryz.prog 82 #[.agg #[.bool a0_0,.string a0_1,.string a0_2]] w fun e w'=>e = .returned (.agg #[.bool r1,.string r2,.string r3])∧Below w.heap.size w w':=by
 have hu28:=Tryz.underlying28
 have HB:=Aside0.mk (Below.refl w.heap.size w)
 have H:(some (false,a0_1,a0_2))=some (r1,r2,r3):=h
 clear h
 simp only [Option.some.injEq,Prod.mk.injEq] at H
 obtain ⟨rfl,rfl,rfl⟩:=H
 go_enter Tryz.func82,Tryz.ntmps82
 go_wp2_with (first|((with_reducible refine zaG (N:=1) rfl ?_); refine zaI ?hg (N:=1) ?hd (cs:=#[.bool a0_0,.string a0_1,.string a0_2]) (t:=28) ?hr ?_; (case hd=>rfl); (case hg=>rfl); (case hr=>first|(go_simp; done)|(go_simp; rfl)); intro gb294 hg w2 hbox hb; have n0_:=Aside0.mk (zam (by repeat (first|(with_reducible first|exact HB.out|apply zaa|apply zab|apply zac)|exact HB.out)) hb); have n1_:=Aside0.mk (hbox); have n2_:=Aside0.mk ((by rw [hg]; exact (zal (by repeat (first|(with_reducible first|exact HB.out|apply zaa|apply zab|apply zac)|exact HB.out))):w.heap.size≤gb294)); have n3_:=Aside0.mk ((by rw [hg]; exact (zal (by repeat (first|(with_reducible first|exact HB.out|apply zaa|apply zab|apply zac)|exact HB.out))):w.heap.size≤gb294)); clear HB; have HB:=n0_; have BK294:=n1_; have GW294:=n2_; have GE294:=n3_; clear n0_ n1_ n2_ n3_; clear hb hbox hg)|((with_reducible refine zaG (N:=2) rfl ?_); refine zaI ?hg (N:=2) ?hd (cs:=#[.bool false,.string (⟨#[]⟩:ByteArray),.string (⟨#[]⟩:ByteArray)]) (t:=28) ?hr ?_; (case hd=>rfl); (case hg=>rfl); (case hr=>first|(go_simp; done)|(go_simp; rfl)); intro gb295 hg w3 hbox hb; have n0_:=Aside0.mk (zat (g:=gb294) (o:=.cells #[.bool a0_0,.string a0_1,.string a0_2] 28 (0,0)) (by (with_reducible repeat (first|refine zah ?_ _|refine zaj ?_|refine zai ?_ _)); exact BK294.out) hb); have n1_:=Aside0.mk (zam (by repeat (first|(with_reducible first|exact HB.out|apply zaa|apply zab|apply zac|refine zaf ?_ GE294.out)|exact HB.out)) hb); have n2_:=Aside0.mk (hbox); have n3_:=Aside0.mk ((by rw [hg]; exact (zal (by repeat (first|(with_reducible first|exact HB.out|apply zaa|apply zab|apply zac|refine zaf ?_ GE294.out)|exact HB.out))):w.heap.size≤gb295)); have n4_:=Aside0.mk ((by rw [hg]; exact (zal (by repeat (first|(with_reducible first|exact HB.out|apply zaa|apply zab|apply zac|refine zaf ?_ GE294.out)|exact HB.out))):w.heap.size≤gb295)); have n5_:=Aside0.mk ((by rw [hg]; exact Nat.ne_of_lt (zaq (g:=gb294) (o:=.cells #[.bool a0_0,.string a0_1,.string a0_2] 28 (0,0)) (by (with_reducible repeat (first|refine zah ?_ _|refine zaj ?_|refine zai ?_ _)); exact BK294.out)):gb294≠gb295)); have n6_:=Aside0.mk ((by rw [hg]; exact Nat.ne_of_gt (zaq (g:=gb294) (o:=.cells #[.bool a0_0,.string a0_1,.string a0_2] 28 (0,0)) (by (with_reducible repeat (first|refine zah ?_ _|refine zaj ?_|refine zai ?_ _)); exact BK294.out)):gb295≠gb294)); clear BK294; clear HB; have BK294:=n0_; have HB:=n1_; have BK295:=n2_; have GW295:=n3_; have GE295:=n4_; have NB294_295:=n5_; have NB295_294:=n6_; clear n0_ n1_ n2_ n3_ n4_ n5_ n6_; clear hb hbox hg; have hnb4:=NB294_295.out; have hnc4:=NB295_294.out; have hcz5_0:w3.cell? ⟨gb294,0,none⟩=some (.bool a0_0):=(zag BK294.out 0).trans rfl; have hcz5_1:w3.cell? ⟨gb294,1,none⟩=some (.string a0_1):=(zag BK294.out 1).trans rfl; have hcz5_2:w3.cell? ⟨gb294,2,none⟩=some (.string a0_2):=(zag BK294.out 2).trans rfl; have hfz5_0:=zae BK294.out 0; have hfz5_1:=zae BK294.out 1; have hfz5_2:=zae BK294.out 2; have hcz6_0:w3.cell? ⟨gb295,0,none⟩=some (.bool false):=(zag BK295.out 0).trans rfl; have hcz6_1:w3.cell? ⟨gb295,1,none⟩=some (.string (⟨#[]⟩:ByteArray)):=(zag BK295.out 1).trans rfl; have hcz6_2:w3.cell? ⟨gb295,2,none⟩=some (.string (⟨#[]⟩:ByteArray)):=(zag BK295.out 2).trans rfl; have hfz6_0:=zae BK295.out 0; have hfz6_1:=zae BK295.out 1; have hfz6_2:=zae BK295.out 2))
 refine bodyPost_ret (results_cell_row rfl _ _ gb295 28 #[.bool false,.string a0_1,.string a0_2] (0,0) _ rfl (by (with_reducible repeat (first|refine zah ?_ _|refine zaj ?_|refine zai ?_ _)); refine zaS (cs:=#[.bool false,.string a0_1,.string (⟨#[]⟩:ByteArray)]) ?_ 2 _ rfl; (with_reducible repeat (first|refine zah ?_ _|refine zaj ?_|refine zai ?_ _)); refine zaS (cs:=#[.bool false,.string (⟨#[]⟩:ByteArray),.string (⟨#[]⟩:ByteArray)]) ?_ 1 _ rfl; (with_reducible repeat (first|refine zah ?_ _|refine zaj ?_|refine zai ?_ _)); refine zaS (cs:=#[.bool false,.string (⟨#[]⟩:ByteArray),.string (⟨#[]⟩:ByteArray)]) ?_ 0 _ rfl; (with_reducible repeat (first|refine zah ?_ _|refine zaj ?_|refine zai ?_ _)); refine blk_far ?_ NB295_294.out _; (with_reducible repeat (first|refine zah ?_ _|refine zaj ?_|refine zai ?_ _)); exact BK295.out) Tryz.underlying28 rfl (by kernel_rfl)) rfl ?_
 exact ⟨by first|rfl|(simp [zao,zan]<;>rfl)|(simp [*,zao,zan]<;>rfl),by repeat (first|(with_reducible first|exact HB.out|apply zaa|apply zab|apply zac|refine zaf ?_ GE294.out|refine zaf ?_ GE295.out)|exact HB.out)⟩
noncomputable def c1_FZero.f (a0_0:Bool) (a0_1:ByteArray) (a0_2:ByteArray):Option (Bool):=some (a0_1.toList == ([48]:List UInt8))
end Go.Proofs.ZQ
end
section
namespace Go.Proofs.ZQ
open Go.RowKit Go.Proofs.ZW.Wa Go.Proofs.ZP
theorem low_T1 (s:Bool) (a b:Nat) (hb:0<b) (ha:(T a).size≤137438953472) (hbs:(T b).size≤137438953472):c1_low.f s (T a) (T b)=some (Fr (Rat.divInt (sgn s a) b)):=by
 unfold c1_low.f
 rw [fr_of s a b hb]
 by_cases h0:a=0
 ·subst h0
  rw [if_pos (T_is0.2 rfl),T_0,T_1]
  have:b/Nat.gcd 0 b=1:=by rw [Nat.gcd_zero_left]; exact Nat.div_self hb
  rw [this,Nat.zero_div]
  simp
 ·have hg:0<Nat.gcd a b:=Nat.gcd_pos_of_pos_right _ hb
  have hgs:(T (Nat.gcd a b)).size≤137438953472:=Nat.le_trans (zbl (Nat.le_of_dvd hb (Nat.gcd_dvd_right a b))) hbs
  rw [if_neg (fun e=>h0 (T_is0.1 e)),Common_T ha hbs,Option.bind_some,Divide_T ha hgs hg,Option.bind_some,Divide_T hbs hgs hg,Option.bind_some]
  rw [decide_eq_true h0,Bool.and_true]
theorem FAdd_Fr {x y:Rat} {k:Nat} (hx:Sz k x) (hy:Sz k y) (hk:k≤1000000):c1_FAdd.f (Fr x).1 (Fr x).2.1 (Fr x).2.2 (Fr y).1 (Fr y).2.1 (Fr y).2.2=some (Fr (x+y))∧Sz (2*k+1) (x+y):=by
 have hxd:=x.den_pos
 have hyd:=y.den_pos
 obtain ⟨hx1,hx2⟩:=hx
 obtain ⟨hy1,hy2⟩:=hy
 have hsum:x+y=Rat.divInt (sgn (decide (x.num<0)) (x.num.natAbs*y.den)+sgn (decide (y.num<0)) (y.num.natAbs*x.den)) ((x.den*y.den:Nat):Int):=by
  rw [zcY,←zc5,←zc5,zcF,zcF,Int.natCast_mul]
 rw [hsum]
 unfold c1_FAdd.f
 show (c1_Times.f (T x.num.natAbs) (T y.den)).bind _=_∧_
 have m1:=zbc x.num.natAbs y.den
 have m2:=zbc y.num.natAbs x.den
 have m3:=zbc x.den y.den
 have hd:0<x.den*y.den:=Nat.mul_pos hxd hyd
 rw [zde (by omega) (by omega),Option.bind_some]
 show (c1_Times.f (T y.num.natAbs) (T x.den)).bind _=_∧_
 rw [zde (by omega) (by omega),Option.bind_some]
 show (c1_Times.f (T x.den) (T y.den)).bind _=_∧_
 rw [zde (by omega) (by omega),Option.bind_some]
 show (if (decide (x.num<0) == decide (y.num<0))=true then _ else _)=_∧_
 have e1:(Fr x).1=decide (x.num<0):=rfl
 have e2:(Fr y).1=decide (y.num<0):=rfl
 rw [e1,e2]
 generalize decide (x.num<0)=s
 generalize decide (y.num<0)=t
 generalize x.num.natAbs*y.den=A at *
 generalize y.num.natAbs*x.den=B at *
 generalize x.den*y.den=C at *
 have hadd:=T_size_add A B (2*k) (by omega) (by omega)
 by_cases hst:s=t
 ·subst hst
  rw [if_pos (beq_self_eq_true s),Plus_T (by omega) (by omega),Option.bind_some,low_T1 s (A+B) C hd (by omega) (by omega),Option.bind_some,sgn_add_same]
  exact ⟨rfl,sz_div hd (by omega) (by omega)⟩
 ·rw [if_neg (fun e=>hst (beq_iff_eq.1 e)),Compare_T (by omega) (by omega),Option.bind_some]
  by_cases hle:B≤A
  ·have hc:cmpN A B≥0:=by unfold cmpN; split; omega; split<;>omega
   have h3:(T (A-B)).size≤(T A).size:=zbl (Nat.sub_le _ _)
   rw [if_pos hc,Minus_T (by omega) (by omega) hle,Option.bind_some,low_T1 s (A-B) C hd (by omega) (by omega),Option.bind_some,sgn_add_ge s t A B hst hle]
   exact ⟨rfl,sz_div hd (by omega) (by omega)⟩
  ·have hc:¬ cmpN A B≥0:=by unfold cmpN; rw [if_pos (by omega)]; decide
   have h3:(T (B-A)).size≤(T B).size:=zbl (Nat.sub_le _ _)
   rw [if_neg hc,Minus_T (by omega) (by omega) (by omega),Option.bind_some,low_T1 t (B-A) C hd (by omega) (by omega),Option.bind_some,sgn_add_lt s t A B hst (by omega)]
   exact ⟨rfl,sz_div hd (by omega) (by omega)⟩
theorem FMul_Fr {x y:Rat} {k:Nat} (hx:Sz k x) (hy:Sz k y) (hk:k≤1000000):c1_FMul.f (Fr x).1 (Fr x).2.1 (Fr x).2.2 (Fr y).1 (Fr y).2.1 (Fr y).2.2=some (Fr (x*y))∧Sz (2*k) (x*y):=by
 have hxd:=x.den_pos
 have hyd:=y.den_pos
 obtain ⟨hx1,hx2⟩:=hx
 obtain ⟨hy1,hy2⟩:=hy
 have hp:x*y=Rat.divInt (sgn (decide (x.num<0) != decide (y.num<0)) (x.num.natAbs*y.num.natAbs)) ((x.den*y.den:Nat):Int):=by
  rw [zcU,←sgn_mul,zcF,zcF,Int.natCast_mul]
 rw [hp]
 unfold c1_FMul.f
 have m1:=zbc x.num.natAbs y.num.natAbs
 have m3:=zbc x.den y.den
 have hd:0<x.den*y.den:=Nat.mul_pos hxd hyd
 show (c1_Times.f (T x.num.natAbs) (T y.num.natAbs)).bind _=_∧_
 rw [zde (by omega) (by omega),Option.bind_some]
 show (c1_Times.f (T x.den) (T y.den)).bind _=_∧_
 rw [zde (by omega) (by omega),Option.bind_some]
 have e1:(Fr x).1=decide (x.num<0):=rfl
 have e2:(Fr y).1=decide (y.num<0):=rfl
 rw [e1,e2,low_T1 _ _ _ hd (by omega) (by omega),Option.bind_some]
 exact ⟨rfl,sz_div hd (by omega) (by omega)⟩
theorem FNeg_Fr (x:Rat):c1_FNeg.f (Fr x).1 (Fr x).2.1 (Fr x).2.2=some (Fr (-x)):=by
 have e1:(-x).num = -x.num:=Rat.neg_num x
 have e2:(-x).den=x.den:=rfl
 unfold c1_FNeg.f Fr
 rw [e1,e2,Int.natAbs_neg]
 show (if decide (x.num<0)=true then _ else _)=_
 by_cases h:x.num<0
 ·rw [if_pos (decide_eq_true h),decide_eq_false (show ¬ -x.num<0 by omega)]
 ·rw [if_neg (by simpa using h)]
  refine congrArg some ?_
  show ((T x.num.natAbs).toList != [48],T x.num.natAbs,T x.den)=_
  by_cases h0:x.num=0
  ·rw [h0]
   have:((T (0:Int).natAbs).toList != ([48]:List UInt8))=false:=by
    show ((T 0).toList != ([48]:List UInt8))=false
    rw [b48.2 rfl]; rfl
   rw [this]; rfl
  ·rw [decide_eq_true (show -x.num<0 by omega),bne_iff_ne.2 (fun e=>h0 (by have:=T_inj (b48.1 e); omega))]
theorem FSub_Fr {x y:Rat} {k:Nat} (hx:Sz k x) (hy:Sz k y) (hk:k≤1000000):c1_FSub.f (Fr x).1 (Fr x).2.1 (Fr x).2.2 (Fr y).1 (Fr y).2.1 (Fr y).2.2=some (Fr (x-y)):=by
 have h:=(FAdd_Fr hx (neg_sz hy) hk).1
 rw [←Rat.sub_eq_add_neg] at h
 unfold c1_FSub.f
 rw [FNeg_Fr,Option.bind_some,h,Option.bind_some]
theorem FCmp_Fr {x y:Rat} {k:Nat} (hx:Sz k x) (hy:Sz k y) (hk:k≤1000000):c1_FCmp.f (Fr x).1 (Fr x).2.1 (Fr x).2.2 (Fr y).1 (Fr y).2.1 (Fr y).2.2=some (cmpR x y):=by
 unfold c1_FCmp.f
 rw [FSub_Fr hx hy hk,Option.bind_some,cmpR_sub]
 generalize x-y=d
 show (if (T d.num.natAbs).toList=([48]:List UInt8) then _ else (if decide (d.num<0)=true then _ else _))=_
 by_cases h0:d.num=0
 ·rw [if_pos (b48.2 (by rw [h0]; rfl)),h0]; rfl
 ·rw [if_neg (fun e=>h0 (by have:=T_inj (b48.1 e); omega))]
  by_cases h1:d.num<0
  ·rw [if_pos (decide_eq_true h1),Int.sign_eq_neg_one_of_neg h1]
  ·rw [if_neg (by simpa using h1),Int.sign_eq_one_of_pos (by omega)]
end Go.Proofs.ZQ
end
section
namespace Go.Proofs.ZP
open Go.RowKit Go.Proofs.ZW.Wa
theorem ften_calls (n:Int) (w:World) (h0 : -100000≤n) (h1:n≤100000) :
  Calls Tryz.prog 169 #[.int .i64 n] w fun e w'=>∃ g,e = .returned (.pointer (some ⟨g,0,none⟩))∧w.heap.size≤g∧RatAt w' g (tenR n)∧Below w.heap.size w w':=by
 have hnew:=IntAt.new w 105 (by decide)
 have hba:=zaa (Below.refl w.heap.size w) (.cells #[.bool false,.slice none 0 0] 105)
 have hu105:=Tryz.underlying105
 have hu112:=Tryz.underlying112
 have HBT:=Lib.hid (bd_ten n.natAbs)
 by_cases hn:n<0
 ·have HT:=Lib.hid (show tenR n=(((10:Int)^n.natAbs:Int):Rat)⁻¹ by unfold tenR; rw [if_pos hn])
  go_enter Tryz.func169,Tryz.ntmps169
  go_wp2_with fail
  refine (zaR 10 _ (by decide) (by decide)).mono ?_
  rintro e w1 ⟨N1,rfl,hN1,hx1,hb1⟩
  have hz1:=hnew.slot.below hb1
  have hB1:=bthen hba hb1
  have hl1:=hx1.lt
  go_wp2_with fail
  rw [show max n (-n)=((n.natAbs:Nat):Int) by omega]
  refine (zaR (n.natAbs:Int) _ (by omega) (by omega)).mono ?_
  rintro e w2 ⟨N2,rfl,hN2,hx2,hb2⟩
  have hx12:=hx1.below hb2
  have hz2:=hz1.below hb2
  have hB2:=bthen hB1 hb2
  clear hnew hba hb1 hb2 hx1 hz1 hB1
  go_wp2_with fail
  refine (zdz w.heap.size 0 N1 0 N2 0 _ 10 n.natAbs _ hz2 hx12 hx2 (show Bd 4 (10:Int) by unfold Bd; decide) (by decide) (by unfold big; omega)).mono ?_
  rintro e w3 ⟨rfl,hp3,hu3⟩
  have hB3:=hu3.new hB2 (Nat.le_refl _)
  have hs3:=hB3.size
  have hnewR:=RatAt.new w3 112 (by decide)
  have hbaR:=zaa (Below.refl w3.heap.size w3) (.cells #[.bool false,.slice none 0 0,.bool false,.slice none 0 0] 112)
  clear hx12 hx2 hz2 hu3
  go_wp2_with fail
  refine (zaP w3.heap.size w.heap.size 0 _ _ hnewR.slot (hp3.below hbaR) HBT.out (by unfold big; omega)).mono ?_
  rintro e w4 ⟨rfl,hz4,hu4⟩
  have hB4:=hu4.new (bthen hB3 hbaR) hs3
  clear hp3 hnewR hbaR hu4
  go_wp2_with fail
  refine (inv_calls w3.heap.size w3.heap.size _ _ hz4.slot hz4 (ten_ne _) (Bdr.int HBT.out (by omega)) (by unfold big; omega)).mono ?_
  rintro e w5 ⟨rfl,hz5,hu5⟩
  go_wp2
  go_ret
  exact ⟨_,rfl,hs3,by rw [HT.out]; exact hz5,hu5.new hB4 hs3⟩
 ·have HT:=Lib.hid (show tenR n=(((10:Int)^n.natAbs:Int):Rat) by unfold tenR; rw [if_neg hn])
  go_enter Tryz.func169,Tryz.ntmps169
  go_wp2_with fail
  refine (zaR 10 _ (by decide) (by decide)).mono ?_
  rintro e w1 ⟨N1,rfl,hN1,hx1,hb1⟩
  have hz1:=hnew.slot.below hb1
  have hB1:=bthen hba hb1
  have hl1:=hx1.lt
  go_wp2_with fail
  rw [show max n (-n)=((n.natAbs:Nat):Int) by omega]
  refine (zaR (n.natAbs:Int) _ (by omega) (by omega)).mono ?_
  rintro e w2 ⟨N2,rfl,hN2,hx2,hb2⟩
  have hx12:=hx1.below hb2
  have hz2:=hz1.below hb2
  have hB2:=bthen hB1 hb2
  clear hnew hba hb1 hb2 hx1 hz1 hB1
  go_wp2_with fail
  refine (zdz w.heap.size 0 N1 0 N2 0 _ 10 n.natAbs _ hz2 hx12 hx2 (show Bd 4 (10:Int) by unfold Bd; decide) (by decide) (by unfold big; omega)).mono ?_
  rintro e w3 ⟨rfl,hp3,hu3⟩
  have hB3:=hu3.new hB2 (Nat.le_refl _)
  have hs3:=hB3.size
  have hnewR:=RatAt.new w3 112 (by decide)
  have hbaR:=zaa (Below.refl w3.heap.size w3) (.cells #[.bool false,.slice none 0 0,.bool false,.slice none 0 0] 112)
  clear hx12 hx2 hz2 hu3
  go_wp2_with fail
  refine (zaP w3.heap.size w.heap.size 0 _ _ hnewR.slot (hp3.below hbaR) HBT.out (by unfold big; omega)).mono ?_
  rintro e w4 ⟨rfl,hz4,hu4⟩
  have hB4:=hu4.new (bthen hB3 hbaR) hs3
  clear hp3 hnewR hbaR hu4
  go_wp2
  go_ret
  exact ⟨_,rfl,hs3,by rw [HT.out]; exact hz4,hB4⟩
theorem ffloor_calls (g:Nat) (x:Rat) (w:World) (hx:RatAt w g x) {n:Nat} (hs:Bdr n x) (hn:n≤big) :
  Calls Tryz.prog 220 #[.pointer (some ⟨g,0,none⟩)] w fun e w'=>∃ D,e = .returned (.pointer (some ⟨D,0,none⟩))∧w.heap.size≤D∧IntAt w' D 0 x.floor∧Below w.heap.size w w':=by
 have hu105:=Tryz.underlying105
 rw [Rat.floor_def]
 have hdn:=den_ne x
 go_enter Tryz.func220,Tryz.ntmps220
 have hnew:=IntAt.new w 105 (by decide)
 have hba:=zaa (Below.refl w.heap.size w) (.cells #[.bool false,.slice none 0 0] 105)
 have hd1:Bd n (x.den:Int):=hs.2
 have hn1:Bd n x.num:=hs.1
 go_wp2_with fail
 refine (num_new g x _ (hx.below hba) hs hn).mono ?_
 rintro e w1 ⟨N1,rfl,hN1,hx1,hb1⟩
 have hl1:=hx1.lt
 have hxx1:=(hx.below hba).below hb1
 go_wp2_with fail
 refine (zbp g x _ hxx1 hs hn).mono ?_
 rintro e w2 ⟨N2,rfl,hN2,hx2,hb2⟩
 have hl2:=hx2.lt
 have hs1:=hb1.size
 have hs2:=hb2.size
 simp only [World.size_alloc] at hN1 hs1
 have hz2:=(hnew.slot.below hb1).below hb2
 have hx12:=hx1.below hb2
 have hB2:=bthen (bthen hba hb1) hb2
 have hnewM:=IntAt.new w2 105 (by decide)
 have hbaM:=zaa (Below.refl w2.heap.size w2) (.cells #[.bool false,.slice none 0 0] 105)
 clear hnew hba hx hxx1 hb1 hb2 hx1
 go_wp2_with fail
 refine (divMod_calls w.heap.size 0 N1 0 N2 0 w2.heap.size 0 x.num x.den _ (hz2.below hbaM) hnewM.slot (by omega) (hx12.below hbaM) (hx2.below hbaM) hdn hn1 hd1 hn).mono ?_
 rintro e w3 ⟨rfl,hq3,hm3,w31,hu1,hu2⟩
 have hB3:=hu2.new (hu1.new (bthen hB2 hbaM) (Nat.le_refl _)) (by omega)
 go_wp2
 go_ret
 exact ⟨_,rfl,Nat.le_refl _,hq3,hB3⟩
theorem feven_calls (g:Nat) (x:Rat) (w:World) (hx:RatAt w g x) {n:Nat} (hs:Bdr n x) (hn0:0<n) (hn:4*n+10≤big) :
  Calls Tryz.prog 168 #[.pointer (some ⟨g,0,none⟩)] w fun e w'=>∃ D,e = .returned (.pointer (some ⟨D,0,none⟩))∧w.heap.size≤D∧IntAt w' D 0 (evenR x)∧Below w.heap.size w w':=by
 have hu112:=Tryz.underlying112
 have hnb:n≤big:=by omega
 have hbf:=bd_floor hs
 have hlx:=hx.lt
 have HE:=Lib.hid (show evenR x=if 0<halfS x∨(halfS x=0∧x.floor.natAbs%2=1) then x.floor+1 else x.floor from rfl)
 have HH:=Lib.hid (show halfS x=((x-(x.floor:Rat)).num*(Rat.divInt 1 2).den-(Rat.divInt 1 2).num*(x-(x.floor:Rat)).den).sign from rfl)
 go_enter Tryz.func168,Tryz.ntmps168
 go_wp2_with fail
 refine (ffloor_calls g x _ hx hs hnb).mono ?_
 rintro e w1 ⟨D,rfl,hD,hq1,hb1⟩
 have hx1:=hx.below hb1
 have hlq:=hq1.lt
 have hs1:=hb1.size
 have hbA:=bthen (zaa (Below.refl w1.heap.size w1) (.cells #[.bool false,.slice none 0 0,.bool false,.slice none 0 0] 112)) (zaa (Below.refl _ _) (.cells #[.bool false,.slice none 0 0,.bool false,.slice none 0 0] 112))
 have hr2:RatAt ((w1.alloc (.cells #[.bool false,.slice none 0 0,.bool false,.slice none 0 0] 112)).alloc (.cells #[.bool false,.slice none 0 0,.bool false,.slice none 0 0] 112)) (w1.heap.size+1) 0:=by
  have h:=RatAt.new (w1.alloc (.cells #[.bool false,.slice none 0 0,.bool false,.slice none 0 0] 112)) 112 (by decide)
  rwa [World.size_alloc] at h
 have hr1:=(RatAt.new w1 112 (by decide)).slot.below (zaa (Below.refl (w1.alloc (.cells #[.bool false,.slice none 0 0,.bool false,.slice none 0 0] 112)).heap.size (w1.alloc (.cells #[.bool false,.slice none 0 0,.bool false,.slice none 0 0] 112))) (.cells #[.bool false,.slice none 0 0,.bool false,.slice none 0 0] 112))
 have hqA:=hq1.below hbA
 have hxA:=hx1.below hbA
 have hBA:=bthen hb1 hbA
 clear hq1 hx1 hb1 hbA hx
 go_wp2_with fail
 refine (zaP (w1.heap.size+1) D 0 x.floor _ hr2.slot hqA hbf hnb).mono ?_
 rintro e w2 ⟨rfl,hf2,hu2⟩
 have hq2:=hqA.upd hu2 (Or.inl (by omega))
 have hx2:=hxA.upd hu2 (by omega)
 have hr2':=hr1.upd hu2
 have hB2:=hu2.new hBA (by omega)
 clear hqA hxA hr1 hr2 hu2 hBA
 have hsub:=hs.sub (Bdr.int hbf hn0)
 have HSUB:=Lib.hid hsub
 clear hsub
 go_wp2_with fail
 refine (rsub_calls w1.heap.size g (w1.heap.size+1) x (x.floor:Rat) _ hr2' hx2 hf2 hs (Bdr.int hbf hn0) (by omega)).mono ?_
 rintro e w3 ⟨rfl,hd3,hu3⟩
 have hq3:=hq2.upd hu3 (Or.inl (by omega))
 have hB3:=hu3.new hB2 hs1
 clear hq2 hx2 hf2 hr2' hu3 hB2
 go_wp2_with fail
 refine (newRat_calls 1 2 _ (by decide) (by decide) (by decide) (by decide) (by decide)).mono ?_
 rintro e w4 ⟨N,rfl,hN,hh4,hb4⟩
 have hd4:=hd3.below hb4
 have hq4:=hq3.below hb4
 have hB4:=bthen hB3 hb4
 clear hd3 hq3 hB3 hb4
 go_wp2_with fail
 refine (rcmp_calls w1.heap.size N _ _ _ hd4 hh4 HSUB.out Bdr.half (by omega)).mono ?_
 rintro e w5 ⟨rfl,hb5⟩
 have hq5:=hq4.below hb5
 have hB5:=bthen hB4 hb5
 rw [←HH.out]
 clear hd4 hh4 hq4 hB4 hb5 HH
 by_cases h1:0<halfS x
 ·have HV:=Lib.hid (show evenR x=x.floor+1 by rw [HE.out,if_pos (Or.inl h1)])
  clear HE
  go_wp2_with fail
  refine (zaR 1 _ (by decide) (by decide)).mono ?_
  rintro e w7 ⟨N7,rfl,hN7,hn7,hb7⟩
  have hq7:=hq5.below hb7
  go_wp2_with fail
  refine (zdE D N7 x.floor _ hq7 hn7 hbf hn0 hnb).mono ?_
  rintro e w8 ⟨rfl,hq8,hu8⟩
  have hB8:=hu8.new (bthen hB5 hb7) hD
  go_wp2
  go_ret
  exact ⟨_,rfl,hD,by rw [HV.out]; exact hq8,hB8⟩
 ·by_cases h2:halfS x=0
  ·rw [h2]
   by_cases h3:x.floor.natAbs%2=1
   ·have HV:=Lib.hid (show evenR x=x.floor+1 by rw [HE.out,if_pos (Or.inr ⟨h2,h3⟩)])
    clear HE h1 h2
    go_wp2_with fail
    refine (bit_calls D 0 x.floor 0 _ hq5 (by omega) hbf hnb).mono ?_
    rintro e w6 ⟨rfl,⟨nd,hw6⟩⟩
    have hb6:Below w5.heap.size w5 w6:=by subst hw6; exact zap _ _
    have hq6:=hq5.below hb6
    have hB6:=bthen hB5 hb6
    rw [show x.floor.natAbs/2^0%2=1 by rw [Nat.pow_zero,Nat.div_one]; exact h3]
    clear hw6 h3
    go_wp2_with fail
    refine (zaR 1 _ (by decide) (by decide)).mono ?_
    rintro e w7 ⟨N7,rfl,hN7,hn7,hb7⟩
    have hq7:=hq6.below hb7
    go_wp2_with fail
    refine (zdE D N7 x.floor _ hq7 hn7 hbf hn0 hnb).mono ?_
    rintro e w8 ⟨rfl,hq8,hu8⟩
    have hB8:=hu8.new (bthen hB6 hb7) hD
    go_wp2
    go_ret
    exact ⟨_,rfl,hD,by rw [HV.out]; exact hq8,hB8⟩
   ·have HV:=Lib.hid (show evenR x=x.floor by rw [HE.out,if_neg (fun h=>h.elim h1 (fun h=>h3 h.2))])
    clear HE h1 h2
    go_wp2_with fail
    refine (bit_calls D 0 x.floor 0 _ hq5 (by omega) hbf hnb).mono ?_
    rintro e w6 ⟨rfl,⟨nd,hw6⟩⟩
    have hb6:Below w5.heap.size w5 w6:=by subst hw6; exact zap _ _
    have hq6:=hq5.below hb6
    have hB6:=bthen hB5 hb6
    rw [show x.floor.natAbs/2^0%2=0 by rw [Nat.pow_zero,Nat.div_one]; omega]
    clear hw6 h3
    go_wp2
    go_ret
    exact ⟨_,rfl,hD,by rw [HV.out]; exact hq6,hB6⟩
  ·have hne:(halfS x == 0)=false:=beq_eq_false_iff_ne.2 h2
   have HV:=Lib.hid (show evenR x=x.floor by rw [HE.out,if_neg (fun h=>h.elim h1 (fun h=>h2 h.1))])
   clear HE h2
   go_wp2
   go_ret
   exact ⟨_,rfl,hD,by rw [HV.out]; exact hq5,hB5⟩
theorem setNeg_calls (b o:Nat) (S s:ByteArray) (u:Value) (w:World) (hz:Slot w b o) (hS:S=(⟨#[45]⟩:ByteArray)++s) (hd:Dig s.data.toList) (h0:0<s.size) (h1:s.size≤1048576) :
  Calls Tryz.prog 166 #[.pointer (some ⟨b,o,none⟩),.string S,u] w fun e w'=>e = .returned (.tuple #[.pointer (some ⟨b,o,none⟩),.bool true])∧IntAt w' b o (-(dval s.data.toList:Int))∧Upd w w' b o (o+2):=by
 have hS1:S.size=s.size+1:=by rw [hS,ByteArray.size_append]; show 1+s.size=_; omega
 have hSl:S.data.toList=45 :: s.data.toList:=by rw [hS,ByteArray.data_append,Array.toList_append]; rfl
 have hSp:0<S.size:=by omega
 have hb45:(((S[0]'hSp).toNat:Int) == 45)=true:=by
  have e:S[0]'hSp=45:=by
   have:S.data.toList[0]'(by rw [hSl]; simp)=45:=by simp [hSl]
   exact this
  rw [e]; rfl
 have hex:(S.extract 1 S.size).data.toList=s.data.toList:=by rw [ex_data,hSl]; simp; rw [List.take_of_length_le (by rw [zak]; omega)]
 have hes:(S.extract 1 S.size).size=s.size:=by rw [←zak,hex,zak]
 have hse:(S.extract 1 S.size).toList.isEmpty=false:=by
  cases hs:(S.extract 1 S.size).toList with
  | nil=>have:=congrArg List.length hs; rw [zcB,hes] at this; have h9:s.size=0:=this; omega
  | cons x xs=>rfl
 have hlt:(0:Int)<(S.size:Int):=by omega
 have hle1:(1:Int)≤(S.size:Int):=by omega
 have HEX:=Lib.hid hex
 clear hS hS1 hSl hes hex
 go_enter Tryz.func166,Tryz.ntmps166
 go_wp2
 go_loopw [1,9] (fun vs vw wr=>∃ (k:Nat) (s':ByteArray) (zs:List Int),vs = .string s'∧Hid (SSt w wr s s' k vw zs)) (fun vs _ _=>match vs with|.string s'=>s'.size|_=>0)
 case atStart=>exact ⟨0,S.extract 1 S.size,[],rfl,Lib.hid ⟨by omega,HEX.out,⟨rfl,Or.inl ⟨rfl,rfl⟩⟩,Wd.nil,by simp,rfl,Below.refl _ _⟩⟩
 case round =>
  obtain ⟨k,s',zs,rfl,HS⟩:=hrel
  rename_i vw
  by_cases hk:0<s'.size
  ·have hsz:s'.size≤1048576:=by have:=HS.out.size; omega
   have q1:IntKind.i64.wrap ((s'.size:Int)-1)=(s'.size:Int)-1:=IntWalk.i64_in _ (by omega)
   obtain ⟨n,hn⟩:∃ n:Nat,n=(s'.size-1)%9+1:=⟨_,rfl⟩
   have q2:Int.tmod ((s'.size:Int)-1) 9=(n:Int)-1:=by rw [Int.tmod_eq_emod_of_nonneg (by omega)]; omega
   have hn1:1≤n:=by omega
   have hn9:n≤9:=by omega
   have hns:n≤s'.size:=by omega
   have hnsI:(n:Int)≤(s'.size:Int):=by omega
   clear hn
   obtain ⟨Aw,cw,rfl,hww⟩:=HS.out.own.wat
   have hP:(s'.extract 0 n).size=n:=by rw [ByteArray.size_extract]; omega
   have kb:=fun W=>zc7 (P:=Tryz.prog) 9 95 5 Tryz.underlying9 Tryz.underlying95 Tryz.underlying5 (s'.extract 0 n) W
   rw [hP] at kb
   have hpd:Dig (s'.extract 0 n).data.toList:=by rw [ex_data,HS.out.rest]; exact ((hd.drop _).drop _).take _
   have HP:=Lib.hid hP
   clear hP
   have hrd:=zdc wr 5 (s'.extract 0 n) (by have:=HP.out; omega)
   rw [HP.out] at hrd
   have HRD:=Lib.hid hrd
   have HBB:=Lib.hid (zdd (Below.refl wr.heap.size wr) (Nat.le_refl _) 5 (s'.extract 0 n))
   clear hrd
   have hSp:Hid (∀ j,j<n→∃ d:Nat,d≤9∧rd (bytesOf (s'.extract 0 n)) (j:Int)=(d:Int)+48∧dval ((s'.extract 0 n).data.toList.take (j+1))=dval ((s'.extract 0 n).data.toList.take j)*10+d):=Lib.hid (fun j hj=>dig_step _ hpd j (by rw [HP.out]; exact hj))
   go_wp2
   generalize hwb:Lib.bytesWorld wr 5 (s'.extract 0 n)=wb at HRD HBB ⊢
   obtain ⟨wo,rfl⟩:∃ wo:World,wo=wr:=⟨_,rfl⟩
   clear hwb kb
   go_loopw [11,12,51] (fun vp vt vi w2=>∃ (j pt tm:Nat),j≤n∧vp = .int .u32 pt∧vt = .int .u32 tm∧vi = .int .i64 j∧Hid (pt=dval ((s'.extract 0 n).data.toList.take j))∧Hid (tm=10^j)∧pt<tm∧tm≤1000000000∧Below wb.heap.size wb w2) (fun _ _ vi _=>n-(intOf vi).toNat)
   case atStart=>exact ⟨0,0,1,by omega,by go_num,by go_num,by go_num,Lib.hid (by simp [dval]),Lib.hid rfl,by omega,by omega,Below.refl _ _⟩
   case round =>
    obtain ⟨j,pt,tm,hj,rfl,rfl,rfl,HPT,HTM,hpt,htm,hB2⟩:=hrel
    by_cases hjn:j<n
    ·obtain ⟨d,hd9,hrdd,hdv⟩:=hSp.out j hjn
     obtain ⟨ad,he,hc⟩:=(HRD.out.below hB2).at_ (j:Int) (by omega) (by omega)
     injection he with he
     subst he
     rw [hrdd,Int.toNat_natCast] at hc
     have HDV:=Lib.hid hdv
     have htm2:tm*10≤1000000000:=by
      rw [HTM.out]
      have:10^j≤10^8:=Nat.pow_le_pow_right (by decide) (by omega)
      omega
     have hc2:=hc
     rw [zbk] at hc2
     clear hrdd hdv
     have hjI:(j:Int)<(n:Int):=by omega
     go_wp2
     go_roundw
     case rel=>exact ⟨j+1,pt*10+d,tm*10,by omega,by go_num,by go_num,by go_num,Lib.hid (by rw [HDV.out,←HPT.out]),Lib.hid (by rw [Nat.pow_succ,←HTM.out]),by omega,htm2,hB2⟩
     case measure=>simp [intOf]; omega
    ·have hjn':j=n:=by omega
     subst hjn'
     have hjI:¬ (j:Int)<(j:Int):=by omega
     have hBo:Below wo.heap.size wo wr:=bthen HBB.out hB2
     have hst:=HS.out.step h1 j pt tm hns hn1 HPT.out HTM.out hpt htm
     have HST:=Lib.hid hst
     clear hst
     have hsw:s'.size≤9223372036854775807:=by omega
     go_wp2_with fail
     go_region_held3 (fun _=>True) (exact trivial)
      ((first
       | (go_simp; go_at_call 219; with_reducible refine (HST.out _ (bthen hBo (zad _))).mono ?_; rintro e w5 ⟨v',rs,rfl,HS2⟩)))
     go_wp2
     go_roundw
     case rel=>exact ⟨k+j,s'.extract j s'.size,rs,by go_num,HS2⟩
     case measure=>have e1:=HS2.out.size; have e2:=HS.out.size; simp; omega
  ·obtain ⟨Aw,cw,rfl,hww⟩:=HS.out.own.wat
   have hfin:sg true (val zs) = -((dval s.data.toList:Nat):Int):=by
    have e1:=HS.out.size
    have e2:=HS.out.eq
    rw [List.take_of_length_le (by rw [zak]; omega)] at e2
    show -(val zs)=_
    rw [e2]
   have HF:=Lib.hid hfin
   clear hfin
   go_wp2_with fail
   refine (zaH b o true Aw cw zs _ (hz.upd (Upd.of_below HS.out.below 0 0 0)) hww HS.out.wd).mono ?_
   rintro e w5 ⟨rfl,hx5,hu5⟩
   rw [HF.out] at hx5
   go_wp2
   go_ret2
   exact ⟨rfl,hx5,(Upd.of_below HS.out.below _ _ _).trans hu5⟩
end Go.Proofs.ZP
end
section
namespace Go.Proofs.ZQ
open Go.RowKit Go.Proofs.ZW.Wa Go.Proofs.ZP Go.Proofs.ZW.Wb Go.Proofs.ZW.Wc
def RbAt (w:World) (b:Nat) (x y:ByteArray):Prop:=w.heap[b]? = some (.cells #[.string x,.string y] 23 (0,0))
theorem RbAt.c0 {w:World} {b:Nat} {x y:ByteArray} (h:RbAt w b x y):w.cell? ⟨b,0,none⟩=some (.string x):=(zag h 0).trans rfl
theorem RbAt.c1 {w:World} {b:Nat} {x y:ByteArray} (h:RbAt w b x y):w.cell? ⟨b,1,none⟩=some (.string y):=(zag h 1).trans rfl
theorem RbAt.below {w w':World} {b:Nat} {x y:ByteArray} (h:RbAt w b x y) (hb:Below w.heap.size w w'):RbAt w' b x y:=(hb.block _ (zaq h)).trans h
theorem RbAt.keep {w w':World} {b n:Nat} {x y:ByteArray} (h:RbAt w b x y) (hb:Below n w w') (hn:b<n):RbAt w' b x y:=(hb.block _ hn).trans h
theorem RbAt.new (w:World) (x y:ByteArray):RbAt (w.alloc (.cells #[.string x,.string y] 23)) w.heap.size x y:=zaO w _
theorem RbAt.alloc {w:World} {b:Nat} {x y:ByteArray} (h:RbAt w b x y) (o:Obj):RbAt (w.alloc o) b x y:=h.below (zaa (Below.refl _ _) _)
def Ans (f:FuncId) (args:Array Value) (v:Value):Prop:=∀ W:World,Calls Tryz.prog f args W fun e w'=>e = .returned v∧Below W.heap.size W w'
def FrV (x:Rat):Value:=.agg #[.bool (Fr x).1,.string (Fr x).2.1,.string (Fr x).2.2]
end Go.Proofs.ZQ
end
section
namespace Go.Proofs.ZQ
open Go.RowKit Go.Proofs.ZW.Wa Go.Proofs.ZP
theorem setW_calls (b o:Nat) (z:Int) (u:Value) (w:World) (hz:Slot w b o) (h:z.natAbs<10^600) :
  Calls Tryz.prog 166 #[.pointer (some ⟨b,o,none⟩),.string (wtext z),u] w fun e w'=>e = .returned (.tuple #[.pointer (some ⟨b,o,none⟩),.bool true])∧IntAt w' b o z∧Upd w w' b o (o+2):=by
 have hs:=(zas (k:=600) (by decide)).2 h
 have hp:=zaN z.natAbs
 by_cases hn:z<0
 ·refine (setNeg_calls b o (wtext z) (T z.natAbs) u w hz (zb9 hn) (T_can _).2.1 hp (by omega)).mono ?_
  rintro e w' ⟨h1,h2,h3⟩
  rw [za8,show -((z.natAbs:Nat):Int)=z by omega] at h2
  exact ⟨h1,h2,h3⟩
 ·have e:wtext z=T z.natAbs:=zaK (by omega)
  rw [e]
  refine (zcb b o (T z.natAbs) u w hz (T_can _).2.1 hp (by omega)).mono ?_
  rintro e w' ⟨h1,h2,h3⟩
  rw [za8,show ((z.natAbs:Nat):Int)=z by omega] at h2
  exact ⟨h1,h2,h3⟩
theorem zcu {a b:ByteArray} {x:Rat} (h:RR a b x):Ans 35 #[.agg #[.string a,.string b]] (.bool true):=fun W=>right_walk a b true W ⟨fun _=>⟨x,h⟩,fun _=>rfl⟩
theorem fread_yes {a b:ByteArray} {x:Rat} (h:RR a b x) (w:World) :
  Calls Tryz.prog 89 #[.agg #[.string a,.string b]] w fun e w'=>∃ g,e = .returned (.pointer (some ⟨g,0,none⟩))∧w.heap.size≤g∧RatAt w' g x∧Below w.heap.size w w':=by
 have HA:=Lib.hid (zcu h)
 have HN:=Lib.hid (fun W b o (hz:Slot W b o)=>setW_calls b o x.num (.int .i64 10) W hz h.ln)
 have HD:=Lib.hid (fun W b o (hz:Slot W b o)=>setW_calls b o (x.den:Int) (.int .i64 10) W hz (show ((x.den:Nat):Int).natAbs<10^600 by rw [Int.natAbs_natCast]; exact h.ld))
 have hdn:wtext (x.den:Int)=b:=by rw [zaK (by omega),Int.natAbs_natCast,h.den]
 have hnn:wtext x.num=a:=h.num.symm
 have HBX:=Lib.hid h.bd
 rw [hnn] at HN
 rw [hdn] at HD
 have hds:(x.den:Int).sign=1:=Int.sign_eq_one_of_pos (by have:=x.den_pos; omega)
 have hd0:(x.den:Int)≠0:=by have:=x.den_pos; omega
 have HD0:=Lib.hid hd0
 have HDS:=Lib.hid hds
 clear hds hd0 hdn hnn h
 go_enter Tryz.func89,Tryz.ntmps89
 have fa:=RbAt.new w a b
 have hba:=zaa (Below.refl w.heap.size w) (.cells #[.string a,.string b] 23)
 go_wp2_with fail
 generalize w.alloc (.cells #[.string a,.string b] 23)=W0 at *
 have HFA:=Lib.hid fa
 have HBA:=Lib.hid hba
 clear fa hba
 refine (HA.out _).mono ?_
 rintro e w1 ⟨rfl,hb⟩
 have fa1:=HFA.out.below hb
 have f1:=(HFA.out.below hb).alloc (.cells #[.bool false,.slice none 0 0] 105)
 have c0:=f1.c0
 have hz1:=(IntAt.new w1 105 (by decide)).slot
 have hB1:=bthen (bthen HBA.out hb) (zaa (Below.refl _ _) (.cells #[.bool false,.slice none 0 0] 105))
 have hs1:=(bthen HBA.out hb).size
 clear hb
 go_wp2_with fail
 refine (HN.out _ _ _ hz1).mono ?_
 rintro e w2 ⟨rfl,hi2,hu2⟩
 have hB2:=hu2.new hB1 hs1
 have hb12:Below w1.heap.size w1 w2:=hu2.new (zaa (Below.refl _ _) _) (Nat.le_refl _)
 clear c0 hz1 hu2
 have hl2:=hi2.lt
 have f2:=fa1.below hb12
 generalize w1.heap.size=D1 at *
 have f3:=f2.alloc (.cells #[.bool false,.slice none 0 0] 105)
 have c1:=f3.c1
 have hz2:=(IntAt.new w2 105 (by decide)).slot
 have hB3:=bthen hB2 (zaa (Below.refl _ _) (.cells #[.bool false,.slice none 0 0] 105))
 have hs2:=hB2.size
 clear f1 fa1 f2 f3 hb12 hB1
 go_wp2_with fail
 refine (HD.out _ _ _ hz2).mono ?_
 rintro e w3 ⟨rfl,hi3,hu3⟩
 have hB4:=hu3.new hB3 hs2
 have hb23:Below w2.heap.size w2 w3:=hu3.new (zaa (Below.refl _ _) _) (Nat.le_refl _)
 have hi23:=hi2.below hb23
 have hl3:=hi3.lt
 clear c1 hz2 hu3 hi2 hb23 hB3 hB2
 generalize w2.heap.size=D2 at *
 go_wp2_with fail
 refine (zaV D2 0 (x.den:Int) _ hi3).mono ?_
 rintro e w4 ⟨rfl,rfl⟩
 rw [HDS.out]
 have hz4:=(RatAt.new w3 112 (by decide)).slot
 have hba:=zaa (Below.refl w3.heap.size w3) (.cells #[.bool false,.slice none 0 0,.bool false,.slice none 0 0] 112)
 have hs4:=hB4.size
 go_wp2_with fail
 refine (zbe w3.heap.size D1 0 D2 0 x.num (x.den:Int) _ hz4 (hi23.below hba) (hi3.below hba) HD0.out HBX.out.1 HBX.out.2 (by decide)).mono ?_
 rintro e w5 ⟨rfl,hr5,hu5⟩
 rw [Rat.num_divInt_den] at hr5
 have HB5:=Lib.hid (hu5.new (bthen hB4 hba) hs4)
 have HR5:=Lib.hid hr5
 have HS4:=Lib.hid hs4
 clear hr5 hu5 hi23 hi3 hz4 hba hB4 hl2 hl3 hs1 hs2 hs4
 go_wp2
 go_ret
 exact ⟨_,rfl,HS4.out,HR5.out,HB5.out⟩
def expR (x:Rat):Int:=let e:Int:=((T x.num.natAbs).size:Int)-((T x.den).size:Int); if (x.num*(tenR e).den-(tenR e).num*x.den).sign<0 then e-1 else e
theorem exponent_calls (g:Nat) (x:Rat) (w:World) (hx:RatAt w g x) (hp:0<x.num) (hs:Sz 600 x) (hb:Bdr 2000 x) :
  Calls Tryz.prog 167 #[.pointer (some ⟨g,0,none⟩)] w fun e w'=>e = .returned (.int .i64 (expR x))∧Below w.heap.size w w':=by
 have HX:=Lib.hid hx
 have HBX:=Lib.hid hb
 have htn:wtext x.num=T x.num.natAbs:=zaK (by omega)
 have htd:wtext (x.den:Int)=T x.den:=by rw [zaK (by omega),Int.natAbs_natCast]
 have hs1:=hs.1
 have hs2:=hs.2
 obtain ⟨e,he⟩:∃ e:Int,((T x.num.natAbs).size:Int)-((T x.den).size:Int)=e:=⟨_,rfl⟩
 have hsn:IntKind.i64.wrap (((T x.num.natAbs).size:Int)-((T x.den).size:Int))=e:=by rw [he]; exact IntWalk.i64_in _ (by omega)
 have hsn2:wrap64 (((T x.num.natAbs).size:Int)-((T x.den).size:Int))=e:=by rw [he]; unfold wrap64; omega
 have hel : -600≤e∧e≤600:=by omega
 have hE:=Lib.hid (show expR x=if (x.num*(tenR e).den-(tenR e).num*x.den).sign<0 then e-1 else e by unfold expR; simp only [he])
 have HT:=Lib.hid (Bdr.tenR e)
 have hw1:wrap64 (e-1)=e-1:=by unfold wrap64; omega
 clear he hx hb hs hp
 go_enter Tryz.func167,Tryz.ntmps167
 go_wp2_with fail
 refine (num_new g x _ HX.out HBX.out (by decide)).mono ?_
 rintro e1 w1 ⟨D1,rfl,hD1,hi1,hb1⟩
 go_wp2_with fail
 refine (zbT D1 0 x.num _ hi1 HBX.out.1 (by decide)).mono ?_
 rintro e2 w2 ⟨rfl,hb2⟩
 rw [htn]
 go_wp2_with fail
 refine (zbp g x _ (HX.out.below (bthen hb1 hb2)) HBX.out (by decide)).mono ?_
 rintro e3 w3 ⟨D3,rfl,hD3,hi3,hb3⟩
 go_wp2_with fail
 refine (zbT D3 0 (x.den:Int) _ hi3 HBX.out.2 (by decide)).mono ?_
 rintro e4 w4 ⟨rfl,hb4⟩
 rw [htd]
 have hB4:=bthen hb1 (bthen hb2 (bthen hb3 hb4))
 clear hi1 hi3 hb1 hb2 hb3 hb4 hD1 hD3
 go_wp2_with fail
 refine (ften_calls e _ (by omega) (by omega)).mono ?_
 rintro e5 w5 ⟨G,rfl,hG,ht5,hb5⟩
 go_wp2_with fail
 refine (rcmp_calls g G x (tenR e) _ (HX.out.below (bthen hB4 hb5)) ht5 HBX.out HT.out (by unfold big; omega)).mono ?_
 rintro e6 w6 ⟨rfl,hb6⟩
 have HB6:=Lib.hid (bthen hB4 (bthen hb5 hb6))
 generalize (x.num*(tenR e).den-(tenR e).num*x.den).sign=c at hE ⊢
 clear hB4 hb5 hb6 ht5 hG hsn hsn2
 by_cases hc:c<0
 ·have hv:=Lib.hid (hE.out.trans (if_pos hc))
  go_wp2
  go_ret
  exact ⟨by rw [hv.out]; rfl,HB6.out⟩
 ·have hv:=Lib.hid (hE.out.trans (if_neg hc))
  go_wp2
  go_ret
  exact ⟨by rw [hv.out]; rfl,HB6.out⟩
noncomputable def rndR (x:Rat) (n:Int):ByteArray×Int:=let s:=wtext (evenR (x*tenR (n-1-expR x))); if n<(s.size:Int) then (s.extract 0 n.toNat,expR x+1) else (s,expR x)
theorem expR_le {x:Rat} (hs:Sz 600 x) : -601≤expR x∧expR x≤600:=by
 have hs1:=hs.1
 have hs2:=hs.2
 unfold expR
 dsimp only
 split<;>omega
theorem rounded_calls (g:Nat) (x:Rat) (n:Int) (w:World) (hx:RatAt w g x) (hp:0<x.num) (hs:Sz 600 x) (hb:Bdr 2000 x) (hn:1≤n∧n≤40) :
  Calls Tryz.prog 90 #[.pointer (some ⟨g,0,none⟩),.int .i64 n] w fun e w'=>e = .returned (.tuple #[.string (rndR x n).1,.int .i64 (rndR x n).2])∧Below w.heap.size w w':=by
 have HE:=Lib.hid (fun W (h:RatAt W g x)=>exponent_calls g x W h hp hs hb)
 have HX:=Lib.hid hx
 have HBX:=Lib.hid hb
 have hel:=expR_le hs
 have hV:rndR x n=if n<((wtext (evenR (x*tenR (n-1-expR x)))).size:Int) then ((wtext (evenR (x*tenR (n-1-expR x)))).extract 0 n.toNat,expR x+1) else (wtext (evenR (x*tenR (n-1-expR x))),expR x):=rfl
 generalize expR x=e at *
 have hTT:=(Bdr.tenR (n-1-e)).mono (show 4*(n-1-e).natAbs+1≤2801 by omega)
 have HTT:=Lib.hid hTT
 have HM:=Lib.hid ((hb.mul hTT).mono (show 2000+2801≤4801 by decide))
 have HEV:=Lib.hid (bd_even HM.out)
 have HV:=Lib.hid hV
 have hw1:wrap64 (n-1)=n-1:=by unfold wrap64; omega
 have hw2:wrap64 (n-1-e)=n-1-e:=by unfold wrap64; omega
 have hw3:wrap64 (e+1)=e+1:=by unfold wrap64; omega
 have hn0:0≤n:=by omega
 clear hx hb hs hV hTT hp
 go_enter Tryz.func90,Tryz.ntmps90
 go_wp2_with fail
 refine (HE.out _ HX.out).mono ?_
 rintro e1 w1 ⟨rfl,hb1⟩
 have hz1:=(RatAt.new w1 112 (by decide)).slot
 have hba:=zaa (Below.refl w1.heap.size w1) (.cells #[.bool false,.slice none 0 0,.bool false,.slice none 0 0] 112)
 have hx1:=(HX.out.below hb1).below hba
 have hB1:=bthen hb1 hba
 have hs1:=hb1.size
 go_wp2_with fail
 refine (ften_calls (n-1-e) _ (by omega) (by omega)).mono ?_
 rintro e2 w2 ⟨G,rfl,hG,ht2,hb2⟩
 go_wp2_with fail
 refine (zbM w1.heap.size g G x (tenR (n-1-e)) _ (hz1.below hb2) (hx1.below hb2) ht2 HBX.out HTT.out (by decide)).mono ?_
 rintro e3 w3 ⟨rfl,hr3,hu3⟩
 have hB3:=hu3.new (bthen hB1 hb2) hs1
 generalize w1.heap.size=D1 at *
 clear hz1 hba hx1 hB1 ht2 hb2 hu3 hG
 go_wp2_with fail
 refine (feven_calls D1 _ _ hr3 HM.out (by decide) (by decide)).mono ?_
 rintro e4 w4 ⟨D4,rfl,hD4,hi4,hb4⟩
 go_wp2_with fail
 refine (zbT D4 0 _ _ hi4 HEV.out (by decide)).mono ?_
 rintro e5 w5 ⟨rfl,hb5⟩
 have HB5:=Lib.hid (bthen hB3 (bthen hb4 hb5))
 clear hr3 hB3 hb4 hb5 hi4 hD4 hb1 hs1
 generalize wtext (evenR (x*tenR (n-1-e)))=s at *
 by_cases hc:n<(s.size:Int)
 ·have hv:=Lib.hid (HV.out.trans (if_pos hc))
  have hle:n≤(s.size:Int):=by omega
  go_wp2
  go_ret2
  exact ⟨by rw [hv.out]; rfl,HB5.out⟩
 ·have hv:=Lib.hid (HV.out.trans (if_neg hc))
  go_wp2
  go_ret2
  exact ⟨by rw [hv.out]; rfl,HB5.out⟩
structure St4 (w W:World) (A B X Y:Nat) (a0 a1 b0 b1 x0 x1 y0 y1:ByteArray):Prop where
 a:RbAt W A a0 a1
 b:RbAt W B b0 b1
 x:RbAt W X x0 x1
 y:RbAt W Y y0 y1
 hb:Below w.heap.size w W
 d:w.heap.size≤X∧A<X∧B<X∧X<Y
theorem St4.call {w W W':World} {A B X Y:Nat} {a0 a1 b0 b1 x0 x1 y0 y1:ByteArray} (h:St4 w W A B X Y a0 a1 b0 b1 x0 x1 y0 y1) (k:Below W.heap.size W W'):St4 w W' A B X Y a0 a1 b0 b1 x0 x1 y0 y1:=
 ⟨h.a.below k,h.b.below k,h.x.below k,h.y.below k,bthen h.hb k,h.d⟩
end Go.Proofs.ZQ
end
