/- Texts under the proof, joined by a program (prune.py): Q196, Q212, Q240, QFr4, QRefOps, QRatSum, QSumFr, SSimple, QBetween, QRatC, QRatD, QRatSimple, QComp, Q214, Q218, Q219, Q215, QSimpleA. -/
import Derived.Test.YtglaeambknhjlaaGreatDoorCRatSums13
import Derived.Test.YtglaeambknhjlaaGreatDoorCRatSums11
import Derived.Test.YtglaeambknhjlaaGreatDoorCRatSums15
import Derived.Test.YtglaeambknhjlaaGreatDoorCRatSums09
import Derived.Test.YtglaeambknhjlaaGreatDoorCRatSums06
import Derived.Test.YtglaeambknhjlaaGreatDoorCRatSums12
import Derived.Test.YtglaeambknhjlaaGreatDoorCRatSums14
import Derived.Deep.CutRange
set_option linter.unusedVariables false
set_option linter.unusedSimpArgs false
set_option exponentiation.threshold 20001
set_option maxHeartbeats 8000000
set_option maxRecDepth 100000
section
namespace Go.Proofs.ZQ
open Go.RowKit Go.Proofs.ZW.Wa Go.Proofs.ZW.Wb Go.Proofs.ZW.Wc
attribute [local go_sem] zaI zaG zaS zaR zaB zaA zaH zaF
noncomputable def c2_Times.f (a0_0:Bool) (a0_1:ByteArray) (a0_2:ByteArray) (a1_0:Bool) (a1_1:ByteArray) (a1_2:ByteArray):Option (Bool×ByteArray×ByteArray):=(c1_Times.f a0_1 a1_1).bind fun t618=>((c1_Times.f a0_2 a1_2).bind fun t619=>((c2_Lowest.f (a0_0 != a1_0) t618 t619).bind fun bt620=>(some (bt620.1,bt620.2.1,bt620.2.2))))
noncomputable def c2_Times.T1:Bool×List (List Nat×List Nat):=(true,[([],[]),([0],[0]),([],[]),([2],[2]),([1,3],[1,3]),([],[]),([5],[5]),([],[]),([7],[7]),([6,8],[6,8]),([],[]),([10],[10]),([],[]),([12],[12]),([11,13,9],[11,13]),([4,9,14,14],[4,9,14]),([15,15,0,1,2,3,4,5,6,7,8,9,10,11,12,13,14,15],[15])])
noncomputable def c2_Times.B1:List Nat:=[0,1,0,4,15,0,32,0,128,480,0,1024,0,4096,16352,32767,65535]
theorem c2_Times.tab1:rtab .any (opsOf Tryz.f64 1)=c2_Times.T1:=by kernel_rfl
theorem c2_Times.bits1:waitsOk c2_Times.T1.2 c2_Times.B1=true:=by kernel_rfl
theorem c2_Times.calls (a0_0:Bool) (a0_1:ByteArray) (a0_2:ByteArray) (a1_0:Bool) (a1_1:ByteArray) (a1_2:ByteArray) (r1:Bool) (r2:ByteArray) (r3:ByteArray) (w:World) (h:c2_Times.f a0_0 a0_1 a0_2 a1_0 a1_1 a1_2=some (r1,r2,r3)) :
  Calls Tryz.prog 64 #[.agg #[.bool a0_0,.string a0_1,.string a0_2],.agg #[.bool a1_0,.string a1_1,.string a1_2]] w fun e w'=>e = .returned (.agg #[.bool r1,.string r2,.string r3])∧Below w.heap.size w w':=by
 have hu66:=Tryz.underlying66
 have HB:=Aside0.mk (Below.refl w.heap.size w)
 have H:((c1_Times.f a0_1 a1_1).bind fun t618=>((c1_Times.f a0_2 a1_2).bind fun t619=>((c2_Lowest.f (a0_0 != a1_0) t618 t619).bind fun bt620=>(some (bt620.1,bt620.2.1,bt620.2.2)))))=some (r1,r2,r3):=h
 clear h
 replace H:=Option.bind_eq_some_iff.mp H
 obtain ⟨t618,A30,H⟩:=H
 replace H:((c1_Times.f a0_2 a1_2).bind fun t619=>((c2_Lowest.f (a0_0 != a1_0) t618 t619).bind fun bt620=>(some (bt620.1,bt620.2.1,bt620.2.2))))=some (r1,r2,r3):=H
 have A3:=Aside0.mk A30
 clear A30
 replace H:=Option.bind_eq_some_iff.mp H
 obtain ⟨t619,A40,H⟩:=H
 replace H:((c2_Lowest.f (a0_0 != a1_0) t618 t619).bind fun bt620=>(some (bt620.1,bt620.2.1,bt620.2.2)))=some (r1,r2,r3):=H
 have A4:=Aside0.mk A40
 clear A40
 replace H:=Option.bind_eq_some_iff.mp H
 obtain ⟨⟨t620,t621,t622⟩,A50,H⟩:=H
 replace H:(some (t620,t621,t622))=some (r1,r2,r3):=H
 have A5:=Aside0.mk A50
 clear A50
 simp only [Option.some.injEq,Prod.mk.injEq] at H
 obtain ⟨rfl,rfl,rfl⟩:=H
 go_enter Tryz.func64,Tryz.ntmps64
 try go_wp2_with (first|((with_reducible refine zaO (N:=2) rfl ?_); refine za9 ?hg (N:=2) ?hd (cs:=#[.bool a0_0,.string a0_1,.string a0_2]) (t:=66) ?hr ?_; (case hd=>rfl); (case hg=>rfl); (case hr=>first|(go_simp; done)|(go_simp; rfl)); intro gb615 hg w6 hbox hb; have n0_:=Aside0.mk (zam (by repeat (first|(with_reducible first|exact HB.out|apply zaa|apply zab|apply zac)|exact HB.out)) hb); have n1_:=Aside0.mk (hbox); have n2_:=Aside0.mk ((by rw [hg]; exact (zan (by repeat (first|(with_reducible first|exact HB.out|apply zaa|apply zab|apply zac)|exact HB.out))):w.heap.size≤gb615)); have n3_:=Aside0.mk ((by rw [hg]; exact (zan (by repeat (first|(with_reducible first|exact HB.out|apply zaa|apply zab|apply zac)|exact HB.out))):w.heap.size≤gb615)); clear HB; have HB:=n0_; have BK615:=n1_; have GW615:=n2_; have GE615:=n3_; clear n0_ n1_ n2_ n3_; clear hb hbox hg)|((with_reducible refine zaO (N:=3) rfl ?_); refine za9 ?hg (N:=3) ?hd (cs:=#[.bool a1_0,.string a1_1,.string a1_2]) (t:=66) ?hr ?_; (case hd=>rfl); (case hg=>rfl); (case hr=>first|(go_simp; done)|(go_simp; rfl)); intro gb616 hg w7 hbox hb; have n0_:=Aside0.mk (zav (g:=gb615) (o:=.cells #[.bool a0_0,.string a0_1,.string a0_2] 66 (0,0)) (by (with_reducible repeat (first|refine zah ?_ _|refine zaj ?_|refine zai ?_ _)); exact BK615.out) hb); have n1_:=Aside0.mk (zam (by repeat (first|(with_reducible first|exact HB.out|apply zaa|apply zab|apply zac|refine zag ?_ GE615.out)|exact HB.out)) hb); have n2_:=Aside0.mk (hbox); have n3_:=Aside0.mk ((by rw [hg]; exact (zan (by repeat (first|(with_reducible first|exact HB.out|apply zaa|apply zab|apply zac|refine zag ?_ GE615.out)|exact HB.out))):w.heap.size≤gb616)); have n4_:=Aside0.mk ((by rw [hg]; exact (zan (by repeat (first|(with_reducible first|exact HB.out|apply zaa|apply zab|apply zac|refine zag ?_ GE615.out)|exact HB.out))):w.heap.size≤gb616)); have n5_:=Aside0.mk ((by rw [hg]; exact Nat.ne_of_lt (zar (g:=gb615) (o:=.cells #[.bool a0_0,.string a0_1,.string a0_2] 66 (0,0)) (by (with_reducible repeat (first|refine zah ?_ _|refine zaj ?_|refine zai ?_ _)); exact BK615.out)):gb615≠gb616)); have n6_:=Aside0.mk ((by rw [hg]; exact Nat.ne_of_gt (zar (g:=gb615) (o:=.cells #[.bool a0_0,.string a0_1,.string a0_2] 66 (0,0)) (by (with_reducible repeat (first|refine zah ?_ _|refine zaj ?_|refine zai ?_ _)); exact BK615.out)):gb616≠gb615)); clear BK615; clear HB; have BK615:=n0_; have HB:=n1_; have BK616:=n2_; have GW616:=n3_; have GE616:=n4_; have NB615_597:=n5_; have NB616_596:=n6_; clear n0_ n1_ n2_ n3_ n4_ n5_ n6_; clear hb hbox hg)|((with_reducible refine zaO (N:=4) rfl ?_); refine za9 ?hg (N:=4) ?hd (cs:=#[.bool false,.string (⟨#[]⟩:ByteArray),.string (⟨#[]⟩:ByteArray)]) (t:=66) ?hr ?_; (case hd=>rfl); (case hg=>rfl); (case hr=>first|(go_simp; done)|(go_simp; rfl)); intro gb617 hg w8 hbox hb; have n0_:=Aside0.mk (zav (g:=gb615) (o:=.cells #[.bool a0_0,.string a0_1,.string a0_2] 66 (0,0)) (by (with_reducible repeat (first|refine zah ?_ _|refine zaj ?_|refine zai ?_ _)); exact BK615.out) hb); have n1_:=Aside0.mk (zav (g:=gb616) (o:=.cells #[.bool a1_0,.string a1_1,.string a1_2] 66 (0,0)) (by (with_reducible repeat (first|refine zah ?_ _|refine zaj ?_|refine zai ?_ _)); exact BK616.out) hb); have n2_:=Aside0.mk (zam (by repeat (first|(with_reducible first|exact HB.out|apply zaa|apply zab|apply zac|refine zag ?_ GE615.out|refine zag ?_ GE616.out)|exact HB.out)) hb); have n3_:=Aside0.mk (hbox); have n4_:=Aside0.mk ((by rw [hg]; exact (zan (by repeat (first|(with_reducible first|exact HB.out|apply zaa|apply zab|apply zac|refine zag ?_ GE615.out|refine zag ?_ GE616.out)|exact HB.out))):w.heap.size≤gb617)); have n5_:=Aside0.mk ((by rw [hg]; exact (zan (by repeat (first|(with_reducible first|exact HB.out|apply zaa|apply zab|apply zac|refine zag ?_ GE615.out|refine zag ?_ GE616.out)|exact HB.out))):w.heap.size≤gb617)); have n6_:=Aside0.mk ((by rw [hg]; exact Nat.ne_of_lt (zar (g:=gb615) (o:=.cells #[.bool a0_0,.string a0_1,.string a0_2] 66 (0,0)) (by (with_reducible repeat (first|refine zah ?_ _|refine zaj ?_|refine zai ?_ _)); exact BK615.out)):gb615≠gb617)); have n7_:=Aside0.mk ((by rw [hg]; exact Nat.ne_of_gt (zar (g:=gb615) (o:=.cells #[.bool a0_0,.string a0_1,.string a0_2] 66 (0,0)) (by (with_reducible repeat (first|refine zah ?_ _|refine zaj ?_|refine zai ?_ _)); exact BK615.out)):gb617≠gb615)); have n8_:=Aside0.mk ((by rw [hg]; exact Nat.ne_of_lt (zar (g:=gb616) (o:=.cells #[.bool a1_0,.string a1_1,.string a1_2] 66 (0,0)) (by (with_reducible repeat (first|refine zah ?_ _|refine zaj ?_|refine zai ?_ _)); exact BK616.out)):gb616≠gb617)); have n9_:=Aside0.mk ((by rw [hg]; exact Nat.ne_of_gt (zar (g:=gb616) (o:=.cells #[.bool a1_0,.string a1_1,.string a1_2] 66 (0,0)) (by (with_reducible repeat (first|refine zah ?_ _|refine zaj ?_|refine zai ?_ _)); exact BK616.out)):gb617≠gb616)); clear BK615; clear BK616; clear HB; have BK615:=n0_; have BK616:=n1_; have HB:=n2_; have BK617:=n3_; have GW617:=n4_; have GE617:=n5_; have NB615_598:=n6_; have NB617_596:=n7_; have NB616_598:=n8_; have NB617_597:=n9_; clear n0_ n1_ n2_ n3_ n4_ n5_ n6_ n7_ n8_ n9_; clear hb hbox hg))
 have n0_:=Aside0.mk (zaj BK615.out)
 have n1_:=Aside0.mk (zaj BK616.out)
 have n2_:=Aside0.mk (zaj BK617.out)
 have n3_:=Aside0.mk (zac HB.out)
 clear BK615
 clear BK616
 clear BK617
 clear HB
 have BK615:=n0_
 have BK616:=n1_
 have BK617:=n2_
 have HB:=n3_
 clear n0_ n1_ n2_ n3_
 refine start_ (n:=17) (S:=fun w'=>w'.cell? ⟨gb615,0,none⟩=some (.bool a0_0)∧w'.cell? ⟨gb615,1,none⟩=some (.string a0_1)∧w'.cell? ⟨gb615,2,none⟩=some (.string a0_2)∧w'.cell? ⟨gb616,0,none⟩=some (.bool a1_0)∧w'.cell? ⟨gb616,1,none⟩=some (.string a1_1)∧w'.cell? ⟨gb616,2,none⟩=some (.string a1_2)) (ds:=[]) #[false,false,false,false,false,false,false,false,false,false,false,false,false,false,false,false,false] (by kernel_rfl) rfl rfl ⟨(zaf BK615.out 0).trans rfl,(zaf BK615.out 1).trans rfl,(zaf BK615.out 2).trans rfl,(zaf BK616.out 0).trans rfl,(zaf BK616.out 1).trans rfl,(zaf BK616.out 2).trans rfl⟩ (fun hHeld => ?_); refine with_tabW c2_Times.tab1 c2_Times.bits1 (fun HT_ HW_ => ?_)
 generalize w8.drew=w9 at BK615 BK616 BK617 HB hHeld ⊢
 refine pure_ (i:=0) (N:=some 5) (v:=?_) (a':=?_) #[true,false,false,false,false,false,false,false,false,false,false,false,false,false,false,false,false] rfl rfl (zbE HT_.out (by kernel_rfl)) (fun _ _ _ h=>h) (Or.inl ⟨by rfl,?_⟩) ?_ ?_
 rotate_left
 ·intro w'
  go_simp
  with_reducible rfl
 rotate_left
 ·simp only [Act.put,List.setIfInBounds_toArray,List.set_cons_zero,List.set_cons_succ,i64_w,i32_w]
  rfl
 refine pure_ (i:=2) (N:=some 7) (v:=?_) (a':=?_) #[true,false,true,false,false,false,false,false,false,false,false,false,false,false,false,false,false] rfl rfl (zbE HT_.out (by kernel_rfl)) (fun _ _ _ h=>h) (Or.inl ⟨by rfl,?_⟩) ?_ ?_
 rotate_left
 ·intro w'
  go_simp
  with_reducible rfl
 rotate_left
 ·simp only [Act.put,List.setIfInBounds_toArray,List.set_cons_zero,List.set_cons_succ,i64_w,i32_w]
  rfl
 refine pure_ (i:=5) (N:=some 10) (v:=?_) (a':=?_) #[true,false,true,false,false,true,false,false,false,false,false,false,false,false,false,false,false] rfl rfl (zbE HT_.out (by kernel_rfl)) (fun _ _ _ h=>h) (Or.inl ⟨by rfl,?_⟩) ?_ ?_
 rotate_left
 ·intro w'
  go_simp
  with_reducible rfl
 rotate_left
 ·simp only [Act.put,List.setIfInBounds_toArray,List.set_cons_zero,List.set_cons_succ,i64_w,i32_w]
  rfl
 refine pure_ (i:=7) (N:=some 12) (v:=?_) (a':=?_) #[true,false,true,false,false,true,false,true,false,false,false,false,false,false,false,false,false] rfl rfl (zbE HT_.out (by kernel_rfl)) (fun _ _ _ h=>h) (Or.inl ⟨by rfl,?_⟩) ?_ ?_
 rotate_left
 ·intro w'
  go_simp
  with_reducible rfl
 rotate_left
 ·simp only [Act.put,List.setIfInBounds_toArray,List.set_cons_zero,List.set_cons_succ,i64_w,i32_w]
  rfl
 refine pure_ (i:=10) (N:=some 15) (v:=?_) (a':=?_) #[true,false,true,false,false,true,false,true,false,false,true,false,false,false,false,false,false] rfl rfl (zbE HT_.out (by kernel_rfl)) (fun _ _ _ h=>h) (Or.inl ⟨by rfl,?_⟩) ?_ ?_
 rotate_left
 ·intro w'
  go_simp
  with_reducible rfl
 rotate_left
 ·simp only [Act.put,List.setIfInBounds_toArray,List.set_cons_zero,List.set_cons_succ,i64_w,i32_w]
  rfl
 refine pure_ (i:=12) (N:=some 17) (v:=?_) (a':=?_) #[true,false,true,false,false,true,false,true,false,false,true,false,true,false,false,false,false] rfl rfl (zbE HT_.out (by kernel_rfl)) (fun _ _ _ h=>h) (Or.inl ⟨by rfl,?_⟩) ?_ ?_
 rotate_left
 ·intro w'
  go_simp
  with_reducible rfl
 rotate_left
 ·simp only [Act.put,List.setIfInBounds_toArray,List.set_cons_zero,List.set_cons_succ,i64_w,i32_w]
  rfl
 refine take_ (i:=1) (N:=some 6) (v:=?_) (a':=?_) #[true,true,true,false,false,true,false,true,false,false,true,false,true,false,false,false,false] rfl rfl (zb8 HT_.out HW_.out (by kernel_rfl)) (fun _ _ _ h=>h) (Or.inl ⟨by rfl,?_⟩) hHeld ?_ ?_
 rotate_left
 ·rintro w' ⟨s0,s1,s2,s3,s4,s5⟩
  go_simp
  with_reducible rfl
 rotate_left
 ·simp only [Act.put,List.setIfInBounds_toArray,List.set_cons_zero,List.set_cons_succ,i64_w,i32_w]
  rfl
 refine take_ (i:=3) (N:=some 8) (v:=?_) (a':=?_) #[true,true,true,true,false,true,false,true,false,false,true,false,true,false,false,false,false] rfl rfl (zb8 HT_.out HW_.out (by kernel_rfl)) (fun _ _ _ h=>h) (Or.inl ⟨by rfl,?_⟩) hHeld ?_ ?_
 rotate_left
 ·rintro w' ⟨s0,s1,s2,s3,s4,s5⟩
  go_simp
  with_reducible rfl
 rotate_left
 ·simp only [Act.put,List.setIfInBounds_toArray,List.set_cons_zero,List.set_cons_succ,i64_w,i32_w]
  rfl
 refine pure_ (i:=4) (N:=some 9) (v:=?_) (a':=?_) #[true,true,true,true,true,true,false,true,false,false,true,false,true,false,false,false,false] rfl rfl (zbE HT_.out (by kernel_rfl)) (fun _ _ _ h=>h) (Or.inl ⟨by rfl,?_⟩) ?_ ?_
 rotate_left
 ·intro w'
  go_simp
  with_reducible rfl
 rotate_left
 ·simp only [Act.put,List.setIfInBounds_toArray,List.set_cons_zero,List.set_cons_succ,i64_w,i32_w]
  rfl
 refine take_ (i:=6) (N:=some 11) (v:=?_) (a':=?_) #[true,true,true,true,true,true,true,true,false,false,true,false,true,false,false,false,false] rfl rfl (zb8 HT_.out HW_.out (by kernel_rfl)) (fun _ _ _ h=>h) (Or.inl ⟨by rfl,?_⟩) hHeld ?_ ?_
 rotate_left
 ·rintro w' ⟨s0,s1,s2,s3,s4,s5⟩
  go_simp
  with_reducible rfl
 rotate_left
 ·simp only [Act.put,List.setIfInBounds_toArray,List.set_cons_zero,List.set_cons_succ,i64_w,i32_w]
  rfl
 refine take_ (i:=8) (N:=some 13) (v:=?_) (a':=?_) #[true,true,true,true,true,true,true,true,true,false,true,false,true,false,false,false,false] rfl rfl (zb8 HT_.out HW_.out (by kernel_rfl)) (fun _ _ _ h=>h) (Or.inl ⟨by rfl,?_⟩) hHeld ?_ ?_
 rotate_left
 ·rintro w' ⟨s0,s1,s2,s3,s4,s5⟩
  go_simp
  with_reducible rfl
 rotate_left
 ·simp only [Act.put,List.setIfInBounds_toArray,List.set_cons_zero,List.set_cons_succ,i64_w,i32_w]
  rfl
 refine take_ (i:=11) (N:=some 16) (v:=?_) (a':=?_) #[true,true,true,true,true,true,true,true,true,false,true,true,true,false,false,false,false] rfl rfl (zb8 HT_.out HW_.out (by kernel_rfl)) (fun _ _ _ h=>h) (Or.inl ⟨by rfl,?_⟩) hHeld ?_ ?_
 rotate_left
 ·rintro w' ⟨s0,s1,s2,s3,s4,s5⟩
  go_simp
  with_reducible rfl
 rotate_left
 ·simp only [Act.put,List.setIfInBounds_toArray,List.set_cons_zero,List.set_cons_succ,i64_w,i32_w]
  rfl
 refine take_ (i:=13) (N:=some 18) (v:=?_) (a':=?_) #[true,true,true,true,true,true,true,true,true,false,true,true,true,true,false,false,false] rfl rfl (zb8 HT_.out HW_.out (by kernel_rfl)) (fun _ _ _ h=>h) (Or.inl ⟨by rfl,?_⟩) hHeld ?_ ?_
 rotate_left
 ·rintro w' ⟨s0,s1,s2,s3,s4,s5⟩
  go_simp
  with_reducible rfl
 rotate_left
 ·simp only [Act.put,List.setIfInBounds_toArray,List.set_cons_zero,List.set_cons_succ,i64_w,i32_w]
  rfl
 refine one_ (i:=9) (N:=some 14) #[true,true,true,true,true,true,true,true,true,true,true,true,true,true,false,false,false] rfl rfl (one_of HT_.out (by kernel_rfl)) (by decide) (fun K hK => ?_)
 refine goes_ Tryz.func131 (by kernel_rfl) rfl #[.string a0_1,.string a1_1] (by rfl) rfl rfl (by (try simp only [List.map_toArray,List.map_cons,List.map_nil]); first|done|rfl|(simp only [List.length_drop,List.length_take]; rfl)) ?_
 with_reducible refine (c1_Times.calls a0_1 a1_1 t618 _ A3.out).mono ?_
 rintro e w10 ⟨rfl,hb⟩
 refine ⟨_,rfl,?_⟩
 have n0_:=Aside0.mk (zav (g:=gb615) (o:=.cells #[.bool a0_0,.string a0_1,.string a0_2] 66 (0,0)) (by (with_reducible repeat (first|refine zah ?_ _|refine zaj ?_|refine zai ?_ _)); exact BK615.out) hb)
 have n1_:=Aside0.mk (zav (g:=gb616) (o:=.cells #[.bool a1_0,.string a1_1,.string a1_2] 66 (0,0)) (by (with_reducible repeat (first|refine zah ?_ _|refine zaj ?_|refine zai ?_ _)); exact BK616.out) hb)
 have n2_:=Aside0.mk (zav (g:=gb617) (o:=.cells #[.bool false,.string (⟨#[]⟩:ByteArray),.string (⟨#[]⟩:ByteArray)] 66 (0,0)) (by (with_reducible repeat (first|refine zah ?_ _|refine zaj ?_|refine zai ?_ _)); exact BK617.out) hb)
 have n3_:=Aside0.mk (zam (by repeat (first|(with_reducible first|exact HB.out|apply zaa|apply zab|apply zac|refine zag ?_ GE615.out|refine zag ?_ GE616.out|refine zag ?_ GE617.out)|exact HB.out)) hb)
 clear BK615
 clear BK616
 clear BK617
 clear HB
 have BK615:=n0_
 have BK616:=n1_
 have BK617:=n2_
 have HB:=n3_
 clear n0_ n1_ n2_ n3_
 (try clear hb)
 (try clear hb2)
 (try clear hk)
 (try clear hi)
 refine hK.out _ _ ⟨(zaf BK615.out 0).trans rfl,(zaf BK615.out 1).trans rfl,(zaf BK615.out 2).trans rfl,(zaf BK616.out 0).trans rfl,(zaf BK616.out 1).trans rfl,(zaf BK616.out 2).trans rfl⟩ (fun hHeld => ?_)
 clear hK K
 refine norm_ (a':=?_) ?_ ?_
 rotate_left
 ·show Act.put _ (some 14) _=_
  simp only [Act.put,List.setIfInBounds_toArray,List.set_cons_zero,List.set_cons_succ,i64_w,i32_w]
  rfl
 refine one_ (i:=14) (N:=some 19) #[true,true,true,true,true,true,true,true,true,true,true,true,true,true,true,false,false] rfl rfl (one_of HT_.out (by kernel_rfl)) (by decide) (fun K hK => ?_)
 refine goes_ Tryz.func131 (by kernel_rfl) rfl #[.string a0_2,.string a1_2] (by rfl) rfl rfl (by (try simp only [List.map_toArray,List.map_cons,List.map_nil]); first|done|rfl|(simp only [List.length_drop,List.length_take]; rfl)) ?_
 with_reducible refine (c1_Times.calls a0_2 a1_2 t619 _ A4.out).mono ?_
 rintro e w11 ⟨rfl,hb⟩
 refine ⟨_,rfl,?_⟩
 have n0_:=Aside0.mk (zav (g:=gb615) (o:=.cells #[.bool a0_0,.string a0_1,.string a0_2] 66 (0,0)) (by (with_reducible repeat (first|refine zah ?_ _|refine zaj ?_|refine zai ?_ _)); exact BK615.out) hb)
 have n1_:=Aside0.mk (zav (g:=gb616) (o:=.cells #[.bool a1_0,.string a1_1,.string a1_2] 66 (0,0)) (by (with_reducible repeat (first|refine zah ?_ _|refine zaj ?_|refine zai ?_ _)); exact BK616.out) hb)
 have n2_:=Aside0.mk (zav (g:=gb617) (o:=.cells #[.bool false,.string (⟨#[]⟩:ByteArray),.string (⟨#[]⟩:ByteArray)] 66 (0,0)) (by (with_reducible repeat (first|refine zah ?_ _|refine zaj ?_|refine zai ?_ _)); exact BK617.out) hb)
 have n3_:=Aside0.mk (zam (by repeat (first|(with_reducible first|exact HB.out|apply zaa|apply zab|apply zac|refine zag ?_ GE615.out|refine zag ?_ GE616.out|refine zag ?_ GE617.out)|exact HB.out)) hb)
 clear BK615
 clear BK616
 clear BK617
 clear HB
 have BK615:=n0_
 have BK616:=n1_
 have BK617:=n2_
 have HB:=n3_
 clear n0_ n1_ n2_ n3_
 (try clear hb)
 (try clear hb2)
 (try clear hk)
 (try clear hi)
 refine hK.out _ _ ⟨(zaf BK615.out 0).trans rfl,(zaf BK615.out 1).trans rfl,(zaf BK615.out 2).trans rfl,(zaf BK616.out 0).trans rfl,(zaf BK616.out 1).trans rfl,(zaf BK616.out 2).trans rfl⟩ (fun hHeld => ?_)
 clear hK K
 refine norm_ (a':=?_) ?_ ?_
 rotate_left
 ·show Act.put _ (some 19) _=_
  simp only [Act.put,List.setIfInBounds_toArray,List.set_cons_zero,List.set_cons_succ,i64_w,i32_w]
  rfl
 refine one_ (i:=15) (N:=some 20) #[true,true,true,true,true,true,true,true,true,true,true,true,true,true,true,true,false] rfl rfl (one_of HT_.out (by kernel_rfl)) (by decide) (fun K hK => ?_)
 refine goes_ Tryz.func111 (by kernel_rfl) rfl #[.bool (a0_0 != a1_0),.string t618,.string t619] (by rfl) rfl rfl (by (try simp only [List.map_toArray,List.map_cons,List.map_nil]); first|done|rfl|(simp only [List.length_drop,List.length_take]; rfl)) ?_
 with_reducible refine (c2_Lowest.calls (a0_0 != a1_0) t618 t619 t620 t621 t622 _ A5.out).mono ?_
 rintro e w12 ⟨rfl,hb⟩
 refine ⟨_,rfl,?_⟩
 have n0_:=Aside0.mk (zav (g:=gb615) (o:=.cells #[.bool a0_0,.string a0_1,.string a0_2] 66 (0,0)) (by (with_reducible repeat (first|refine zah ?_ _|refine zaj ?_|refine zai ?_ _)); exact BK615.out) hb)
 have n1_:=Aside0.mk (zav (g:=gb616) (o:=.cells #[.bool a1_0,.string a1_1,.string a1_2] 66 (0,0)) (by (with_reducible repeat (first|refine zah ?_ _|refine zaj ?_|refine zai ?_ _)); exact BK616.out) hb)
 have n2_:=Aside0.mk (zav (g:=gb617) (o:=.cells #[.bool false,.string (⟨#[]⟩:ByteArray),.string (⟨#[]⟩:ByteArray)] 66 (0,0)) (by (with_reducible repeat (first|refine zah ?_ _|refine zaj ?_|refine zai ?_ _)); exact BK617.out) hb)
 have n3_:=Aside0.mk (zam (by repeat (first|(with_reducible first|exact HB.out|apply zaa|apply zab|apply zac|refine zag ?_ GE615.out|refine zag ?_ GE616.out|refine zag ?_ GE617.out)|exact HB.out)) hb)
 clear BK615
 clear BK616
 clear BK617
 clear HB
 have BK615:=n0_
 have BK616:=n1_
 have BK617:=n2_
 have HB:=n3_
 clear n0_ n1_ n2_ n3_
 (try clear hb)
 (try clear hb2)
 (try clear hk)
 (try clear hi)
 refine hK.out _ _ ⟨(zaf BK615.out 0).trans rfl,(zaf BK615.out 1).trans rfl,(zaf BK615.out 2).trans rfl,(zaf BK616.out 0).trans rfl,(zaf BK616.out 1).trans rfl,(zaf BK616.out 2).trans rfl⟩ (fun hHeld => ?_)
 clear hK K
 refine norm_ (a':=?_) ?_ ?_
 rotate_left
 ·show Act.put _ (some 20) _=_
  simp only [Act.put,List.setIfInBounds_toArray,List.set_cons_zero,List.set_cons_succ,i64_w,i32_w]
  rfl
 refine one_ (i:=16) (N:=none) #[true,true,true,true,true,true,true,true,true,true,true,true,true,true,true,true,true] rfl rfl (one_of HT_.out (by kernel_rfl)) (by decide) (fun K hK => ?_)
 have hs13:w12.cell? ⟨gb617,0,none⟩=some (.bool false):=(zaf BK617.out 0).trans rfl
 have hfs13:=zae BK617.out 0
 have hns13_0:=NB615_598.out
 have hns13_1:=NB616_598.out
 have hms13_0:=NB617_596.out
 have hms13_1:=NB617_597.out
 have hs14:w12.cell? ⟨gb617,1,none⟩=some (.string (⟨#[]⟩:ByteArray)):=(zaf BK617.out 1).trans rfl
 have hfs14:=zae BK617.out 1
 have hns14_0:=NB615_598.out
 have hns14_1:=NB616_598.out
 have hms14_0:=NB617_596.out
 have hms14_1:=NB617_597.out
 have hs15:w12.cell? ⟨gb617,2,none⟩=some (.string (⟨#[]⟩:ByteArray)):=(zaf BK617.out 2).trans rfl
 have hfs15:=zae BK617.out 2
 have hns15_0:=NB615_598.out
 have hns15_1:=NB616_598.out
 have hms15_0:=NB617_596.out
 have hms15_1:=NB617_597.out
 refine skip_ (w1:=?_) (by rfl) rfl ?_ ?_
 rotate_left
 ·go_simp
  rfl
 refine hK.out _ _ ⟨((zaJ (p:=⟨gb617,_,none⟩) NB615_598.out _).trans (((zaJ (p:=⟨gb617,_,none⟩) NB615_598.out _).trans (((zaJ (p:=⟨gb617,_,none⟩) NB615_598.out _).trans (hHeld.1)))))),((zaJ (p:=⟨gb617,_,none⟩) NB615_598.out _).trans (((zaJ (p:=⟨gb617,_,none⟩) NB615_598.out _).trans (((zaJ (p:=⟨gb617,_,none⟩) NB615_598.out _).trans (hHeld.2.1)))))),((zaJ (p:=⟨gb617,_,none⟩) NB615_598.out _).trans (((zaJ (p:=⟨gb617,_,none⟩) NB615_598.out _).trans (((zaJ (p:=⟨gb617,_,none⟩) NB615_598.out _).trans (hHeld.2.2.1)))))),((zaJ (p:=⟨gb617,_,none⟩) NB616_598.out _).trans (((zaJ (p:=⟨gb617,_,none⟩) NB616_598.out _).trans (((zaJ (p:=⟨gb617,_,none⟩) NB616_598.out _).trans (hHeld.2.2.2.1)))))),((zaJ (p:=⟨gb617,_,none⟩) NB616_598.out _).trans (((zaJ (p:=⟨gb617,_,none⟩) NB616_598.out _).trans (((zaJ (p:=⟨gb617,_,none⟩) NB616_598.out _).trans (hHeld.2.2.2.2.1)))))),((zaJ (p:=⟨gb617,_,none⟩) NB616_598.out _).trans (((zaJ (p:=⟨gb617,_,none⟩) NB616_598.out _).trans (((zaJ (p:=⟨gb617,_,none⟩) NB616_598.out _).trans (hHeld.2.2.2.2.2))))))⟩ (fun hHeld => ?_)
 clear hK K
 refine done_ (done_of HT_.out (by kernel_rfl)) ?_
 try go_wp2
 refine bodyPost_ret (results_cell_row rfl _ _ gb617 66 #[.bool t620,.string t621,.string t622] (0,0) _ rfl (by (with_reducible repeat (first|refine zah ?_ _|refine zaj ?_|refine zai ?_ _)); refine zaE (cs:=#[.bool t620,.string t621,.string (⟨#[]⟩:ByteArray)]) ?_ 2 _ rfl; (with_reducible repeat (first|refine zah ?_ _|refine zaj ?_|refine zai ?_ _)); refine zaE (cs:=#[.bool t620,.string (⟨#[]⟩:ByteArray),.string (⟨#[]⟩:ByteArray)]) ?_ 1 _ rfl; (with_reducible repeat (first|refine zah ?_ _|refine zaj ?_|refine zai ?_ _)); refine zaE (cs:=#[.bool false,.string (⟨#[]⟩:ByteArray),.string (⟨#[]⟩:ByteArray)]) ?_ 0 _ rfl; (with_reducible repeat (first|refine zah ?_ _|refine zaj ?_|refine zai ?_ _)); exact BK617.out) Tryz.underlying66 rfl (by kernel_rfl)) rfl ?_
 exact ⟨by first|rfl|(simp [zal,zak]<;>rfl)|(simp [*,zal,zak]<;>rfl),by repeat (first|(with_reducible first|exact HB.out|apply zaa|apply zab|apply zac|refine zag ?_ GE615.out|refine zag ?_ GE616.out|refine zag ?_ GE617.out)|exact HB.out)⟩
noncomputable def c2_Minus.f (a0_0:Bool) (a0_1:ByteArray) (a0_2:ByteArray):Option (Bool×ByteArray×ByteArray):=if a0_0=true then (some (false,a0_1,a0_2)) else (some ((a0_1.toList != ([48]:List UInt8)),a0_1,a0_2))
noncomputable def c2_Over.f (a0_0:Bool) (a0_1:ByteArray) (a0_2:ByteArray):Option (Bool×ByteArray×ByteArray):=some (a0_0,a0_2,a0_1)
end Go.Proofs.ZQ
end
section
namespace Go.Proofs.ZQ
open Go.RowKit Go.Proofs.ZW.Wa Go.Proofs.ZP
def Sz (k:Nat) (x:Rat):Prop:=(T x.num.natAbs).size≤k∧(T x.den).size≤k
theorem rr_sz {a b:ByteArray} {x:Rat} (h:RR a b x):Sz 600 x:=⟨(zax (k:=600) (by decide)).2 h.ln,(zax (k:=600) (by decide)).2 h.ld⟩
theorem sz_div {s:Bool} {a b k:Nat} (hb:0<b) (ha:(T a).size≤k) (hbs:(T b).size≤k):Sz k (Rat.divInt (sgn s a) b):=by
 obtain ⟨f1,f2,f3⟩:=zdi s a b hb
 refine ⟨?_,?_⟩
 ·rw [f1]; exact Nat.le_trans (za3 (Nat.div_le_self _ _)) ha
 ·rw [f2]; exact Nat.le_trans (za3 (Nat.div_le_self _ _)) hbs
theorem core_no {a b:ByteArray} (h:¬ ∃ x,RR a b x):coreB (spl a).1 (spl a).2 b=false:=by
 cases hc:coreB (spl a).1 (spl a).2 b
 ·rfl
 ·exact absurd ((core_iff a b).1 hc) h
theorem right_yes {a b:ByteArray} {x:Rat} (h:RR a b x):Ev (fun k=>c2_Right.f k a b) true:=by
 have:=right_ev a b
 rwa [(core_iff a b).2 ⟨x,h⟩] at this
theorem right_no {a b:ByteArray} (h:¬ ∃ x,RR a b x):Ev (fun k=>c2_Right.f k a b) false:=by
 have:=right_ev a b
 rwa [core_no h] at this
end Go.Proofs.ZQ
end
section
namespace Go.Proofs.ZQ
open Go.RowKit Go.Proofs.ZW.Wa Go.Proofs.ZP Go.Proofs.ZW.Wb Go.Proofs.ZW.Wc
def RbAt (w:World) (b:Nat) (x y:ByteArray):Prop:=w.heap[b]? = some (.cells #[.string x,.string y] 23 (0,0))
theorem RbAt.c0 {w:World} {b:Nat} {x y:ByteArray} (h:RbAt w b x y):w.cell? ⟨b,0,none⟩=some (.string x):=(zaf h 0).trans rfl
theorem RbAt.c1 {w:World} {b:Nat} {x y:ByteArray} (h:RbAt w b x y):w.cell? ⟨b,1,none⟩=some (.string y):=(zaf h 1).trans rfl
theorem RbAt.below {w w':World} {b:Nat} {x y:ByteArray} (h:RbAt w b x y) (hb:Below w.heap.size w w'):RbAt w' b x y:=(hb.block _ (zar h)).trans h
theorem RbAt.keep {w w':World} {b n:Nat} {x y:ByteArray} (h:RbAt w b x y) (hb:Below n w w') (hn:b<n):RbAt w' b x y:=(hb.block _ hn).trans h
theorem RbAt.new (w:World) (x y:ByteArray):RbAt (w.alloc (.cells #[.string x,.string y] 23)) w.heap.size x y:=zaC w _
theorem RbAt.alloc {w:World} {b:Nat} {x y:ByteArray} (h:RbAt w b x y) (o:Obj):RbAt (w.alloc o) b x y:=h.below (zaa (Below.refl _ _) _)
theorem zda {w w2:World} {D:Nat} {x y:ByteArray} (f:RbAt w2 D x y) (hb:Below w.heap.size w w2) (hD:w.heap.size≤D) (u v:ByteArray):RbAt ((w2.setCell ⟨D,0,none⟩ (.string u)).setCell ⟨D,1,none⟩ (.string v)) D u v∧Below w.heap.size w ((w2.setCell ⟨D,0,none⟩ (.string u)).setCell ⟨D,1,none⟩ (.string v)):=
 ⟨(zaw (zaw f 0 (.string u)) 1 (.string v)).trans rfl,zag (zag hb hD) hD⟩
def Ans (f:FuncId) (args:Array Value) (v:Value):Prop:=∀ W:World,Calls Tryz.prog f args W fun e w'=>e = .returned v∧Below W.heap.size W w'
theorem zc7 {a b:ByteArray} {x:Rat} (h:RR a b x):Ans 36 #[.agg #[.string a,.string b]] (.bool true):=fun W=>by
 obtain ⟨k,hk⟩:=(right_yes h).rounds
 exact c2_Right.calls k a b true W hk
theorem right_ans_no {a b:ByteArray} (h:¬ ∃ x,RR a b x):Ans 36 #[.agg #[.string a,.string b]] (.bool false):=fun W=>by
 obtain ⟨k,hk⟩:=(right_no h).rounds
 exact c2_Right.calls k a b false W hk
def FrV (x:Rat):Value:=.agg #[.bool (Fr x).1,.string (Fr x).2.1,.string (Fr x).2.2]
theorem read_ans {a b:ByteArray} {x:Rat} (h:RR a b x):Ans 61 #[.agg #[.string a,.string b]] (FrV x):=fun W=>by
 obtain ⟨k,hk⟩:=(read_ev a b x h).rounds
 exact c2_Read.calls k a b _ _ _ W hk
theorem told_ans (x:Rat):Ans 110 #[FrV x] (.tuple #[.agg #[.string (toldR x).1,.string (toldR x).2.1],.int .i64 (toldR x).2.2]):=fun W=>by
 obtain ⟨k,hk⟩:=(told_ev x).rounds
 exact c2_Told.calls k _ _ _ _ _ _ W hk
end Go.Proofs.ZQ
end
section
namespace Go.Proofs.ZQ
open Go.RowKit Go.Proofs.ZW.Wa Go.Proofs.ZP
def FoldDo (K:Nat) (op:Rat→Rat→Rat):Prop:=∀ (W:World) (z gx:Nat) (x y:Rat) (n:Nat),Bdr n x→Bdr 2000 y→n+2001≤big→z≠gx→RatAt W z x→RatAt W gx y →
 Calls Tryz.prog K #[.pointer (some ⟨z,0,none⟩),.pointer (some ⟨gx,0,none⟩)] W fun e w'=>e = .returned (.tuple #[])∧RatAt w' z (op x y)∧Upd W w' z 0 4
theorem Sum_fold:FoldDo 114 (fun x y=>x+y):=by
 intro W z gx x y n hsx hsy hn hne hx hy
 have HC:=Lib.hid (radd_calls z z gx x y W hx.slot hx hy hsx hsy (by omega))
 clear hx hy hsx hsy hne hn
 go_enter Tryz.func114,Tryz.ntmps114
 go_wp2_with fail
 refine HC.out.mono ?_
 rintro e w1 ⟨rfl,hr,hu⟩
 have HR:=Lib.hid hr
 have HU:=Lib.hid hu
 clear hr hu HC
 go_wp2
 go_end0
 exact ⟨rfl,HR.out,HU.out⟩
theorem Prod_fold:FoldDo 117 (fun x y=>x*y):=by
 intro W z gx x y n hsx hsy hn hne hx hy
 have HC:=Lib.hid (zbj z z gx x y W hx.slot hx hy hsx hsy (by omega))
 clear hx hy hsx hsy hne hn
 go_enter Tryz.func117,Tryz.ntmps117
 go_wp2_with fail
 refine HC.out.mono ?_
 rintro e w1 ⟨rfl,hr,hu⟩
 have HR:=Lib.hid hr
 have HU:=Lib.hid hu
 clear hr hu HC
 go_wp2
 go_end0
 exact ⟨rfl,HR.out,HU.out⟩
def fv (op:Rat→Rat→Rat) (x0:Rat) (X:Nat→Rat):Nat→Rat
 | 0=>x0
 | n+1=>op (fv op x0 X n) (X n)
theorem fv_bd {op:Rat→Rat→Rat} {x0:Rat} {X:Nat→Rat} {N:Nat} (h0:Bdr 1 x0) (ho:∀ x y n,Bdr n x→Bdr 2000 y→Bdr (n+2001) (op x y)) (hx:∀ j,j<N→Bdr 2000 (X j)):∀ n,n≤N→Bdr (2001*n+1) (fv op x0 X n):=by
 intro n
 induction n with
 | zero=>intro _; exact h0
 | succ n ih=>intro h; exact (ho _ _ _ (ih (by omega)) (hx n (by omega))).mono (by omega)
theorem ast_upd {w wr w':World} {g n z lo hi:Nat} {X:Nat→Rat} {ds:List Nat} (h:ASt w wr g n X ds) (hu:Upd wr w' z lo hi) (hz:w.heap.size≤z) (hg:g≠z) (hd:∀ j (h:j<ds.length),ds[j]≠z):ASt w w' g n X ds where
 le:=h.le
 blk:=(hu.other _ (zar h.blk) hg).trans h.blk
 at_:=fun j hj=>by
  obtain ⟨h1,h2,h3⟩:=h.at_ j hj
  exact ⟨h1,h2,h3.upd hu (hd j hj)⟩
 below:=hu.new h.below hz
 ge:=h.ge
theorem ast_apart {w wr:World} {g n:Nat} {X:Nat→Rat} {ds:List Nat} (h:ASt w wr g n X ds) {z:Nat} (hz:wr.heap.size≤z):∀ j (h:j<ds.length),ds[j]≠z:=fun j hj e=>by
 obtain ⟨_,_,h3⟩:=h.at_ j hj
 have:=h3.lt
 omega
theorem ast_cell {w wr:World} {g n:Nat} {X:Nat→Rat} {ds:List Nat} (h:ASt w wr g n X ds) {j:Nat} (hj:j<ds.length):wr.cell? ⟨g,j,none⟩=some (.pointer (some ⟨ds[j],0,none⟩)):=(zaf h.blk j).trans (by
 rw [List.getElem?_toArray]
 exact ptrs_at hj)
theorem fold_yes (A:Option Addr) (c:Nat) (ps:List (ByteArray×ByteArray)) (X:Nat→Rat) (K:Nat) (op:Rat→Rat→Rat) (first:Int) (w:World) (hE:Enters Tryz.prog K) (hf:0≤first∧first≤1) (hr:RowR w A ps) (hn:ps.length≤1048576) (hx:∀ j (h:j<ps.length),RR ps[j].1 ps[j].2 (X j)) (hd:FoldDo K op) (ho:∀ x y n,Bdr n x→Bdr 2000 y→Bdr (n+2001) (op x y)) (tt:ByteArray×ByteArray×Int) (htt:toldR (fv op (first:Rat) X ps.length)=tt) :
  Calls Tryz.prog 113 #[.slice A ps.length c,.int .i64 first,.func (.func K) #[] #[]] w fun e w'=>e = .returned (.tuple #[.agg #[.string tt.1,.string tt.2.1],.int .i64 tt.2.2])∧Below w.heap.size w w':=by
 have HBD:=Lib.hid (fv_bd (N:=ps.length) (op:=op) (x0:=(first:Rat)) (X:=X) (Bdr.int (n:=1) (by unfold Bd; omega) (by decide)) ho (fun j hj=>(hx j hj).bd))
 have HXB:=Lib.hid (fun j (hj:j<ps.length)=>(hx j hj).bd)
 have HR:=Lib.hid (RbAt.new w ⟨#[]⟩ ⟨#[]⟩)
 have HBA:=Lib.hid (zaa (Below.refl w.heap.size w) (.cells #[.string ⟨#[]⟩,.string ⟨#[]⟩] 23))
 have HA:=Lib.hid (all_yes A c ps X (w.alloc (.cells #[.string ⟨#[]⟩,.string ⟨#[]⟩] 23)) (hr.below HBA.out) (by omega) hx)
 have HTT:=Lib.hid htt
 have HD:=Lib.hid hd
 have HE:=Lib.hid hE
 have hnil:=fun (W:World) (a:Option Addr) (n c:Nat)=>Lib.run_eql_slice_nil (P:=Tryz.prog) W 120 82 a n c 0 0 Tryz.underlying120
 clear hr hx hd ho htt hE
 go_enter Tryz.func113,Tryz.ntmps113
 go_wp2_with fail
 refine HA.out.mono ?_
 rintro e w1 ⟨g,ds,rfl,hdl,HS⟩
 have HDL:=Lib.hid hdl
 have HR1:=Lib.hid (HR.out.below HS.out.below)
 have hwz:(w.alloc (.cells #[.string ⟨#[]⟩,.string ⟨#[]⟩] 23)).heap.size=w.heap.size+1:=World.size_alloc _ _
 have hg0:=HS.out.ge
 have hgl:=zar HS.out.blk
 have hsz:=HS.out.below.size
 clear hdl HA HR HBA
 go_wp2_with fail
 refine (newRat_calls first 1 _ (by omega) (by omega) (by decide) (by decide) (by decide)).mono ?_
 rintro e w2 ⟨D,rfl,hD,hz2,hb2⟩
 rw [show Rat.divInt first 1=(first:Rat) from zbH (first:Rat)] at hz2
 have HS2:=Lib.hid (HS.out.below' hb2)
 have HR2:=Lib.hid (HR1.out.below hb2)
 have HZ2:=Lib.hid (show RatAt w2 D (fv op (first:Rat) X 0) from hz2)
 have HAP:=Lib.hid (ast_apart HS.out (z:=D) hD)
 have hgD:g≠D:=by omega
 have hwD:w.heap.size≠D:=by omega
 have hwD':w.heap.size≤D:=by omega
 have hwD2:(w.alloc (.cells #[.string ⟨#[]⟩,.string ⟨#[]⟩] 23)).heap.size≤D:=by omega
 have HWW:=Lib.hid (zaa (Below.refl w.heap.size w) (.cells #[.string ⟨#[]⟩,.string ⟨#[]⟩] 23))
 clear hz2 hb2 HS HR1 hnil hD
 go_wp2
 go_loopw [26] (fun v wr=>∃ i:Nat,i≤ps.length∧v = .int .i64 i∧Hid (ASt (w.alloc (.cells #[.string ⟨#[]⟩,.string ⟨#[]⟩] 23)) wr g ps.length X ds)∧Hid (RatAt wr D (fv op (first:Rat) X i))∧Hid (RbAt wr w.heap.size ⟨#[]⟩ ⟨#[]⟩)) (fun v _=>ps.length-(intOf v).toNat)
 case atStart=>exact ⟨0,Nat.zero_le _,by go_num,HS2,HZ2,HR2⟩
 case round =>
  obtain ⟨i,hi,rfl,HS,HZ,HR⟩:=hrel
  clear HS2 HZ2 HR2
  by_cases hin:i<ps.length
  ·have hdl:=HDL.out
   have hid:i<ds.length:=by omega
   have hcell:=ast_cell HS.out hid
   have h3:=(HS.out.at_ i hid).2.2
   have hne:=HAP.out i hid
   generalize ds[i]=dx at hcell h3 hne
   have HDO:=Lib.hid (HD.out _ D dx _ _ _ (HBD.out i hi) (HXB.out i hin) (by unfold big; omega) (fun e=>hne e.symm) HZ.out h3)
   have hE:=HE.out
   unfold Enters at hE
   clear h3 hdl hid
   go_wp2_with fail
   refine HDO.out.mono ?_
   rintro e w3 ⟨rfl,hz3,hu3⟩
   have HS3:=Lib.hid (ast_upd HS.out hu3 hwD2 hgD HAP.out)
   have HZ3:=Lib.hid (show RatAt w3 D (fv op (first:Rat) X (i+1)) from hz3)
   have HR3:=Lib.hid (show RbAt w3 w.heap.size ⟨#[]⟩ ⟨#[]⟩ from (hu3.other _ (zar HR.out) hwD).trans HR.out)
   clear hz3 hu3 hcell HS HZ HR HDO hE
   go_wp2
   go_roundw
   case rel=>exact ⟨i+1,by omega,by go_num,HS3,HZ3,HR3⟩
   case measure=>simp [intOf]; omega
  ·obtain rfl:i=ps.length:=by omega
   have HBZ:=Lib.hid (HBD.out ps.length (Nat.le_refl _))
   clear hin hi
   go_wp2_with fail
   refine (zcg D _ _ HZ.out HBZ.out (by unfold big; omega)).mono ?_
   rintro e w3 ⟨rfl,hb3⟩
   rw [HTT.out]
   have HR3:=Lib.hid (HR.out.below hb3)
   have HBA3:=Lib.hid (show Below w.heap.size w w3 from bthen (bthen HWW.out HS.out.below) hb3)
   clear hb3 HR HS HZ
   obtain ⟨hF,hBF⟩:=zda HR3.out HBA3.out (Nat.le_refl _) tt.1 tt.2.1
   have cB0:=(HR3.out).c0
   have cB1:=(HR3.out).c1
   have fB0:=zae HR3.out 0
   have fB1:=zae HR3.out 1
   have HFF:=Lib.hid hF
   have HBF:=Lib.hid hBF
   clear hF hBF
   go_wp2
   refine bodyPost_ret (zaM rfl _ _ w.heap.size 23 #[.string tt.1,.string tt.2.1] (0,0) _ rfl HFF.out Tryz.underlying23 rfl (by kernel_rfl)) rfl ?_
   exact ⟨rfl,HBF.out⟩
theorem fold_no (A:Option Addr) (c:Nat) (ps:List (ByteArray×ByteArray)) (X:Nat→Rat) (m:Nat) (K:Nat) (first:Int) (w:World) (hr:RowR w A ps) (hn:ps.length≤1048576) (hm:m<ps.length) (hx:∀ j (h:j<ps.length),j<m→RR ps[j].1 ps[j].2 (X j)) (hno:¬ ∃ x,RR ps[m].1 ps[m].2 x) :
  Calls Tryz.prog 113 #[.slice A ps.length c,.int .i64 first,.func (.func K) #[] #[]] w fun e w'=>e = .returned (.tuple #[.agg #[.string ⟨#[]⟩,.string ⟨#[]⟩],.int .i64 3])∧Below w.heap.size w w':=by
 have HR:=Lib.hid (RbAt.new w ⟨#[]⟩ ⟨#[]⟩)
 have HBA:=Lib.hid (zaa (Below.refl w.heap.size w) (.cells #[.string ⟨#[]⟩,.string ⟨#[]⟩] 23))
 have HA:=Lib.hid (all_no A c ps X m (w.alloc (.cells #[.string ⟨#[]⟩,.string ⟨#[]⟩] 23)) (hr.below HBA.out) (by omega) hm hx hno)
 have hnil:=fun (W:World) (a:Option Addr) (n c:Nat)=>Lib.run_eql_slice_nil (P:=Tryz.prog) W 120 82 a n c 0 0 Tryz.underlying120
 have hgt:decide ((0:Int)<(ps.length:Int))=true:=decide_eq_true (by omega)
 clear hr hx hno
 go_enter Tryz.func113,Tryz.ntmps113
 go_wp2_with fail
 refine HA.out.mono ?_
 rintro e w1 ⟨rfl,hb1⟩
 have HR1:=Lib.hid (HR.out.below hb1)
 have HBA1:=Lib.hid (bthen HBA.out hb1)
 clear hb1 HR HBA HA
 obtain ⟨hF,hBF⟩:=zda HR1.out HBA1.out (Nat.le_refl _) ⟨#[]⟩ ⟨#[]⟩
 have cB0:=(HR1.out).c0
 have cB1:=(HR1.out).c1
 have fB0:=zae HR1.out 0
 have fB1:=zae HR1.out 1
 have HFF:=Lib.hid hF
 have HBF:=Lib.hid hBF
 clear hF hBF
 go_wp2
 refine bodyPost_ret (zaM rfl _ _ w.heap.size 23 #[.string ⟨#[]⟩,.string ⟨#[]⟩] (0,0) _ rfl HFF.out Tryz.underlying23 rfl (by kernel_rfl)) rfl ?_
 exact ⟨rfl,HBF.out⟩
theorem Sum_wrap (A:Option Addr) (c n:Nat) (w:World) (tt:ByteArray×ByteArray×Int) (h:∀ W:World,Below w.heap.size w W→Calls Tryz.prog 113 #[.slice A n c,.int .i64 0,.func (.func 114) #[] #[]] W fun e w'=>e = .returned (.tuple #[.agg #[.string tt.1,.string tt.2.1],.int .i64 tt.2.2])∧Below W.heap.size W w') :
  Calls Tryz.prog 39 #[.slice A n c] w fun e w'=>e = .returned (.tuple #[.agg #[.string tt.1,.string tt.2.1],.int .i64 tt.2.2])∧Below w.heap.size w w':=by
 have HR:=Lib.hid (RbAt.new w ⟨#[]⟩ ⟨#[]⟩)
 have HBA:=Lib.hid (zaa (Below.refl w.heap.size w) (.cells #[.string ⟨#[]⟩,.string ⟨#[]⟩] 23))
 have HF:=Lib.hid (h _ HBA.out)
 clear h
 go_enter Tryz.func39,Tryz.ntmps39
 go_wp2_with fail
 refine HF.out.mono ?_
 rintro e w1 ⟨rfl,hb1⟩
 have HR1:=Lib.hid (HR.out.below hb1)
 have HBA1:=Lib.hid (bthen HBA.out hb1)
 clear hb1 HR HBA HF
 obtain ⟨hF,hBF⟩:=zda HR1.out HBA1.out (Nat.le_refl _) tt.1 tt.2.1
 have cB0:=(HR1.out).c0
 have cB1:=(HR1.out).c1
 have fB0:=zae HR1.out 0
 have fB1:=zae HR1.out 1
 have HFF:=Lib.hid hF
 have HBF:=Lib.hid hBF
 clear hF hBF
 go_wp2
 refine bodyPost_ret (zaM rfl _ _ w.heap.size 23 #[.string tt.1,.string tt.2.1] (0,0) _ rfl HFF.out Tryz.underlying23 rfl (by kernel_rfl)) rfl ?_
 exact ⟨rfl,HBF.out⟩
noncomputable def rat_Sum.v (X:Nat→Rat) (n:Nat):ByteArray×ByteArray×Int:=toldR (fv (fun x y=>x+y) (0:Rat) X n)
theorem Sum_yes (A:Option Addr) (c:Nat) (ps:List (ByteArray×ByteArray)) (X:Nat→Rat) (w:World) (hr:RowR w A ps) (hn:ps.length≤1048576) (hx:∀ j (h:j<ps.length),RR ps[j].1 ps[j].2 (X j)) :
  Calls Tryz.prog 39 #[.slice A ps.length c] w fun e w'=>e = .returned (.tuple #[.agg #[.string (rat_Sum.v X ps.length).1,.string (rat_Sum.v X ps.length).2.1],.int .i64 (rat_Sum.v X ps.length).2.2])∧Below w.heap.size w w':=
 Sum_wrap A c ps.length w _ fun W hb=>fold_yes A c ps X 114 (fun x y=>x+y) 0 W (enters_of Tryz.func114 (by kernel_rfl) rfl) (by decide) (hr.below hb) hn hx Sum_fold (fun x y n hx hy=>(Bdr.add hx hy).mono (by omega)) _ rfl
theorem Sum_no (A:Option Addr) (c:Nat) (ps:List (ByteArray×ByteArray)) (X:Nat→Rat) (m:Nat) (w:World) (hr:RowR w A ps) (hn:ps.length≤1048576) (hm:m<ps.length) (hx:∀ j (h:j<ps.length),j<m→RR ps[j].1 ps[j].2 (X j)) (hno:¬ ∃ x,RR ps[m].1 ps[m].2 x) :
  Calls Tryz.prog 39 #[.slice A ps.length c] w fun e w'=>e = .returned (.tuple #[.agg #[.string ⟨#[]⟩,.string ⟨#[]⟩],.int .i64 3])∧Below w.heap.size w w':=
 Sum_wrap A c ps.length w (⟨#[]⟩,⟨#[]⟩,3) fun W hb=>fold_no A c ps X m 114 0 W (hr.below hb) hn hm hx hno
theorem Prod_wrap (A:Option Addr) (c n:Nat) (w:World) (tt:ByteArray×ByteArray×Int) (h:∀ W:World,Below w.heap.size w W→Calls Tryz.prog 113 #[.slice A n c,.int .i64 1,.func (.func 117) #[] #[]] W fun e w'=>e = .returned (.tuple #[.agg #[.string tt.1,.string tt.2.1],.int .i64 tt.2.2])∧Below W.heap.size W w') :
  Calls Tryz.prog 41 #[.slice A n c] w fun e w'=>e = .returned (.tuple #[.agg #[.string tt.1,.string tt.2.1],.int .i64 tt.2.2])∧Below w.heap.size w w':=by
 have HR:=Lib.hid (RbAt.new w ⟨#[]⟩ ⟨#[]⟩)
 have HBA:=Lib.hid (zaa (Below.refl w.heap.size w) (.cells #[.string ⟨#[]⟩,.string ⟨#[]⟩] 23))
 have HF:=Lib.hid (h _ HBA.out)
 clear h
 go_enter Tryz.func41,Tryz.ntmps41
 go_wp2_with fail
 refine HF.out.mono ?_
 rintro e w1 ⟨rfl,hb1⟩
 have HR1:=Lib.hid (HR.out.below hb1)
 have HBA1:=Lib.hid (bthen HBA.out hb1)
 clear hb1 HR HBA HF
 obtain ⟨hF,hBF⟩:=zda HR1.out HBA1.out (Nat.le_refl _) tt.1 tt.2.1
 have cB0:=(HR1.out).c0
 have cB1:=(HR1.out).c1
 have fB0:=zae HR1.out 0
 have fB1:=zae HR1.out 1
 have HFF:=Lib.hid hF
 have HBF:=Lib.hid hBF
 clear hF hBF
 go_wp2
 refine bodyPost_ret (zaM rfl _ _ w.heap.size 23 #[.string tt.1,.string tt.2.1] (0,0) _ rfl HFF.out Tryz.underlying23 rfl (by kernel_rfl)) rfl ?_
 exact ⟨rfl,HBF.out⟩
noncomputable def rat_Prod.v (X:Nat→Rat) (n:Nat):ByteArray×ByteArray×Int:=toldR (fv (fun x y=>x*y) (1:Rat) X n)
theorem Prod_yes (A:Option Addr) (c:Nat) (ps:List (ByteArray×ByteArray)) (X:Nat→Rat) (w:World) (hr:RowR w A ps) (hn:ps.length≤1048576) (hx:∀ j (h:j<ps.length),RR ps[j].1 ps[j].2 (X j)) :
  Calls Tryz.prog 41 #[.slice A ps.length c] w fun e w'=>e = .returned (.tuple #[.agg #[.string (rat_Prod.v X ps.length).1,.string (rat_Prod.v X ps.length).2.1],.int .i64 (rat_Prod.v X ps.length).2.2])∧Below w.heap.size w w':=
 Prod_wrap A c ps.length w _ fun W hb=>fold_yes A c ps X 117 (fun x y=>x*y) 1 W (enters_of Tryz.func117 (by kernel_rfl) rfl) (by decide) (hr.below hb) hn hx Prod_fold (fun x y n hx hy=>(Bdr.mul hx hy).mono (by omega)) _ rfl
theorem Prod_no (A:Option Addr) (c:Nat) (ps:List (ByteArray×ByteArray)) (X:Nat→Rat) (m:Nat) (w:World) (hr:RowR w A ps) (hn:ps.length≤1048576) (hm:m<ps.length) (hx:∀ j (h:j<ps.length),j<m→RR ps[j].1 ps[j].2 (X j)) (hno:¬ ∃ x,RR ps[m].1 ps[m].2 x) :
  Calls Tryz.prog 41 #[.slice A ps.length c] w fun e w'=>e = .returned (.tuple #[.agg #[.string ⟨#[]⟩,.string ⟨#[]⟩],.int .i64 3])∧Below w.heap.size w w':=
 Prod_wrap A c ps.length w (⟨#[]⟩,⟨#[]⟩,3) fun W hb=>fold_no A c ps X m 117 1 W (hr.below hb) hn hm hx hno
theorem Plus_Fr2 {x y:Rat} {k j:Nat} (hx:Sz k x) (hy:Sz j y) (hk:k+j≤2000000000):c2_Plus.f (Fr x).1 (Fr x).2.1 (Fr x).2.2 (Fr y).1 (Fr y).2.1 (Fr y).2.2=some (Fr (x+y))∧Sz ((k+j)+1) (x+y):=by
 have hxd:=x.den_pos
 have hyd:=y.den_pos
 obtain ⟨hx1,hx2⟩:=hx
 obtain ⟨hy1,hy2⟩:=hy
 have hsum:x+y=Rat.divInt (sgn (decide (x.num<0)) (x.num.natAbs*y.den)+sgn (decide (y.num<0)) (y.num.natAbs*x.den)) ((x.den*y.den:Nat):Int):=by
  rw [add_divInt,←zcT,←zcT,zcN,zcN,Int.natCast_mul]
 rw [hsum]
 unfold c2_Plus.f
 show (c1_Times.f (T x.num.natAbs) (T y.den)).bind _=_∧_
 have m1:=zbx x.num.natAbs y.den
 have m2:=zbx y.num.natAbs x.den
 have m3:=zbx x.den y.den
 have hd:0<x.den*y.den:=Nat.mul_pos hxd hyd
 rw [zcY (by omega) (by omega),Option.bind_some]
 show (c1_Times.f (T y.num.natAbs) (T x.den)).bind _=_∧_
 rw [zcY (by omega) (by omega),Option.bind_some]
 show (c1_Times.f (T x.den) (T y.den)).bind _=_∧_
 rw [zcY (by omega) (by omega),Option.bind_some]
 show (if (decide (x.num<0) == decide (y.num<0))=true then _ else _)=_∧_
 have e1:(Fr x).1=decide (x.num<0):=rfl
 have e2:(Fr y).1=decide (y.num<0):=rfl
 rw [e1,e2]
 generalize decide (x.num<0)=s
 generalize decide (y.num<0)=t
 generalize x.num.natAbs*y.den=A at *
 generalize y.num.natAbs*x.den=B at *
 generalize x.den*y.den=C at *
 have hadd:=T_size_add A B ((k+j)) (by omega) (by omega)
 by_cases hst:s=t
 ·subst hst
  rw [if_pos (beq_self_eq_true s),Plus_T (by omega) (by omega),Option.bind_some,lowest_T s (A+B) C hd (by omega) (by omega),Option.bind_some,sgn_add_same]
  exact ⟨rfl,sz_div hd (by omega) (by omega)⟩
 ·rw [if_neg (fun e=>hst (beq_iff_eq.1 e)),Compare_T (by omega) (by omega),Option.bind_some]
  by_cases hle:B≤A
  ·have hc:cmpN A B≥0:=by unfold cmpN; split; omega; split<;>omega
   have h3:(T (A-B)).size≤(T A).size:=za3 (Nat.sub_le _ _)
   rw [if_pos hc,Minus_T (by omega) (by omega) hle,Option.bind_some,lowest_T s (A-B) C hd (by omega) (by omega),Option.bind_some,sgn_add_ge s t A B hst hle]
   exact ⟨rfl,sz_div hd (by omega) (by omega)⟩
  ·have hc:¬ cmpN A B≥0:=by unfold cmpN; rw [if_pos (by omega)]; decide
   have h3:(T (B-A)).size≤(T B).size:=za3 (Nat.sub_le _ _)
   rw [if_neg hc,Minus_T (by omega) (by omega) (by omega),Option.bind_some,lowest_T t (B-A) C hd (by omega) (by omega),Option.bind_some,sgn_add_lt s t A B hst (by omega)]
   exact ⟨rfl,sz_div hd (by omega) (by omega)⟩
theorem Times_Fr2 {x y:Rat} {k j:Nat} (hx:Sz k x) (hy:Sz j y) (hk:k+j≤2000000000):c2_Times.f (Fr x).1 (Fr x).2.1 (Fr x).2.2 (Fr y).1 (Fr y).2.1 (Fr y).2.2=some (Fr (x*y))∧Sz ((k+j)) (x*y):=by
 have hxd:=x.den_pos
 have hyd:=y.den_pos
 obtain ⟨hx1,hx2⟩:=hx
 obtain ⟨hy1,hy2⟩:=hy
 have hp:x*y=Rat.divInt (sgn (decide (x.num<0) != decide (y.num<0)) (x.num.natAbs*y.num.natAbs)) ((x.den*y.den:Nat):Int):=by
  rw [zcK,←sgn_mul,zcN,zcN,Int.natCast_mul]
 rw [hp]
 unfold c2_Times.f
 have m1:=zbx x.num.natAbs y.num.natAbs
 have m3:=zbx x.den y.den
 have hd:0<x.den*y.den:=Nat.mul_pos hxd hyd
 show (c1_Times.f (T x.num.natAbs) (T y.num.natAbs)).bind _=_∧_
 rw [zcY (by omega) (by omega),Option.bind_some]
 show (c1_Times.f (T x.den) (T y.den)).bind _=_∧_
 rw [zcY (by omega) (by omega),Option.bind_some]
 have e1:(Fr x).1=decide (x.num<0):=rfl
 have e2:(Fr y).1=decide (y.num<0):=rfl
 rw [e1,e2,lowest_T _ _ _ hd (by omega) (by omega),Option.bind_some]
 exact ⟨rfl,sz_div hd (by omega) (by omega)⟩
theorem plus_ans2 {x y:Rat} {k j:Nat} (hx:Sz k x) (hy:Sz j y) (hk:k+j≤2000000000):Ans 60 #[FrV x,FrV y] (FrV (x+y)):=fun W=>c2_Plus.calls _ _ _ _ _ _ _ _ _ W (Plus_Fr2 hx hy hk).1
theorem times_ans2 {x y:Rat} {k j:Nat} (hx:Sz k x) (hy:Sz j y) (hk:k+j≤2000000000):Ans 64 #[FrV x,FrV y] (FrV (x*y)):=fun W=>c2_Times.calls _ _ _ _ _ _ _ _ _ W (Times_Fr2 hx hy hk).1
end Go.Proofs.ZQ
end
section
namespace Go.Proofs.ZP
inductive Simp:Rat→Rat→Rat→Prop
 | whole (x y:Rat) (h:((x.floor:Int):Rat)=x):Simp x y ((x.floor:Int):Rat)
 | up (x y:Rat) (h:((x.floor:Int):Rat)≠x) (k:((x.floor:Int):Rat)+1≤y):Simp x y (((x.floor:Int):Rat)+1)
 | inner (x y s:Rat) (h:((x.floor:Int):Rat)≠x) (k:¬ ((x.floor:Int):Rat)+1≤y) (r:Simp (y-((x.floor:Int):Rat))⁻¹ (x-((x.floor:Int):Rat))⁻¹ s):Simp x y (((x.floor:Int):Rat)+s⁻¹)
theorem fl_le (x:Rat):((x.floor:Int):Rat)≤x:=Rat.floor_le x
theorem fl_lt (x:Rat):x<((x.floor:Int):Rat)+1:=by
 have:=Rat.lt_floor_add_one x
 rwa [Rat.intCast_add] at this
theorem rpos {x:Rat}:0<x↔0<x.num:=by
 rw [Rat.lt_iff]; simp
theorem zcm (y:Rat) (f:Int):(y-(f:Rat)).num=y.num-f*y.den∧(y-(f:Rat)).den=y.den:=by
 have hd:=y.den_nz
 have hg:Nat.gcd (y.num-f*y.den).natAbs y.den=1:=by
  have hr:=y.reduced
  unfold Nat.Coprime at hr
  have h1:Int.gcd (y.num-f*y.den) y.den=Int.gcd y.num y.den:=by
   rw [show y.num-f*(y.den:Int)=y.num+(-f)*y.den by rw [Int.neg_mul]; rfl]
   exact Int.gcd_add_mul_right_left _ _ _
  exact h1.trans hr
 have hm:y-(f:Rat)=⟨y.num-f*y.den,y.den,hd,hg⟩:=by
  rw [Rat.sub_def',Rat.mk_eq_mkRat]
  simp
 rw [hm]
 exact ⟨rfl,rfl⟩
theorem inv_parts {x:Rat} (h:0<x):(x⁻¹).num=x.den∧((x⁻¹).den:Int)=x.num:=by
 have h:=rpos.1 h
 rw [Rat.num_inv,Rat.den_inv,if_neg (by omega),Int.sign_eq_one_of_pos h]
 exact ⟨by omega,by omega⟩
theorem fl_nonneg {x:Rat} (h:0<x):0≤x.floor:=Rat.le_floor_iff.2 (by rw [Rat.intCast_zero]; exact Rat.le_of_lt h)
theorem inv_le {a b:Rat} (ha:0<a) (h:a≤b):b⁻¹≤a⁻¹:=by
 have hb:0<b:=by grind
 have h1:=Rat.inv_pos.2 ha
 have h2:=Rat.inv_pos.2 hb
 have e1:=Rat.mul_inv_cancel a (by grind)
 have e2:=Rat.mul_inv_cancel b (by grind)
 have h3:=Rat.mul_le_mul_of_nonneg_right (Rat.mul_le_mul_of_nonneg_right h (Rat.le_of_lt h1)) (Rat.le_of_lt h2)
 have e3:a*a⁻¹*b⁻¹=b⁻¹:=by rw [e1,Rat.one_mul]
 have e4:b*a⁻¹*b⁻¹=a⁻¹:=by rw [Rat.mul_comm b,Rat.mul_assoc,e2,Rat.mul_one]
 rwa [e3,e4] at h3
theorem Simp.step {x y:Rat} (h0:0<x) (hxy:x≤y) (h:((x.floor:Int):Rat)≠x) (k:¬ ((x.floor:Int):Rat)+1≤y) :
  0<x-((x.floor:Int):Rat)∧0<y-((x.floor:Int):Rat)∧0<(y-((x.floor:Int):Rat))⁻¹∧(y-((x.floor:Int):Rat))⁻¹≤(x-((x.floor:Int):Rat))⁻¹:=by
 have h1:=fl_le x
 have h2:0<x-((x.floor:Int):Rat):=by grind
 have h3:0<y-((x.floor:Int):Rat):=by grind
 exact ⟨h2,h3,Rat.inv_pos.2 h3,inv_le h2 (by grind)⟩
theorem Simp.between {x y s:Rat} (h:Simp x y s) (h0:0<x) (hxy:x≤y):x≤s∧s≤y:=by
 induction h with
 | whole x y h=>rw [h]; exact ⟨Rat.le_refl,hxy⟩
 | up x y h k=>exact ⟨Rat.le_of_lt (fl_lt x),k⟩
 | inner x y s h k r ih =>
  obtain ⟨h1,h2,h3,h4⟩:=Simp.step h0 hxy h k
  obtain ⟨i1,i2⟩:=ih h3 h4
  have hs:0<s:=by grind
  have j1:=inv_le h3 i1
  have j2:=inv_le hs i2
  rw [Rat.inv_inv] at j1 j2
  constructor<;>grind
theorem zcO (f:Int) {t:Rat} (h:0<t):((f:Rat)+t⁻¹).num=f*t.num+t.den∧(((f:Rat)+t⁻¹).den:Int)=t.num:=by
 obtain ⟨h1,h2⟩:=inv_parts h
 have e:(f:Rat)+t⁻¹=t⁻¹-((-f:Int):Rat):=by rw [Rat.intCast_neg]; grind
 obtain ⟨h3,h4⟩:=zcm t⁻¹ (-f)
 rw [←e] at h3 h4
 refine ⟨?_,by rw [h4,h2]⟩
 rw [h3,h1,h2,Int.neg_mul,Int.sub_neg,Int.add_comm]
theorem Simp.least {x y s:Rat} (h:Simp x y s) (h0:0<x) (hxy:x≤y):∀ z,x≤z→z≤y→s.num≤z.num∧s.den≤z.den:=by
 induction h with
 | whole x y h =>
  intro z hz1 hz2
  have hd:=z.den_pos
  refine ⟨?_,by rw [Rat.den_intCast]; omega⟩
  rw [Rat.num_intCast]
  have hf:=fl_nonneg h0
  have h3:((x.floor:Int):Rat)≤z:=Rat.le_trans (fl_le x) hz1
  have h4:=(Rat.le_iff _ _).1 h3
  rw [Rat.num_intCast,Rat.den_intCast] at h4
  have h5:x.floor*1≤x.floor*(z.den:Int):=Int.mul_le_mul_of_nonneg_left (by omega) hf
  omega
 | up x y h k =>
  intro z hz1 hz2
  have hd:=z.den_pos
  have e:((x.floor:Int):Rat)+1=((x.floor+1:Int):Rat):=by rw [Rat.intCast_add]; rfl
  rw [e,Rat.num_intCast,Rat.den_intCast]
  refine ⟨?_,by omega⟩
  have hf:=fl_nonneg h0
  have h3:((x.floor:Int):Rat)<z:=by have:=fl_le x; grind
  have h4:=(Rat.lt_iff _ _).1 h3
  rw [Rat.num_intCast,Rat.den_intCast] at h4
  have h5:x.floor*1≤x.floor*(z.den:Int):=Int.mul_le_mul_of_nonneg_left (by omega) hf
  omega
 | inner x y s h k r ih =>
  intro z hz1 hz2
  obtain ⟨h1,h2,h3,h4⟩:=Simp.step h0 hxy h k
  obtain ⟨i1,i2⟩:=Simp.between r h3 h4
  have hs:0<s:=by grind
  have hz:0<z-((x.floor:Int):Rat):=by grind
  have ht:0<(z-((x.floor:Int):Rat))⁻¹:=Rat.inv_pos.2 hz
  have e:z=((x.floor:Int):Rat)+((z-((x.floor:Int):Rat))⁻¹)⁻¹:=by rw [Rat.inv_inv]; grind
  obtain ⟨k1,k2⟩:=ih h3 h4 (z-((x.floor:Int):Rat))⁻¹ (inv_le hz (by grind)) (inv_le h1 (by grind))
  obtain ⟨p1,p2⟩:=zcO x.floor hs
  obtain ⟨q1,q2⟩:=zcO x.floor ht
  rw [←e] at q1 q2
  have hf:=fl_nonneg h0
  have h5:x.floor*s.num≤x.floor*((z-((x.floor:Int):Rat))⁻¹).num:=Int.mul_le_mul_of_nonneg_left k1 hf
  constructor
  ·rw [p1,q1]; omega
  ·omega
theorem Simp.parts {x y:Rat} (h0:0<x) (hxy:x≤y) (h:((x.floor:Int):Rat)≠x) (k:¬ ((x.floor:Int):Rat)+1≤y) :
  ((y-((x.floor:Int):Rat))⁻¹).num=y.den∧(((y-((x.floor:Int):Rat))⁻¹).den:Int)=y.num-x.floor*y.den ∧
  ((x-((x.floor:Int):Rat))⁻¹).num=x.den∧(((x-((x.floor:Int):Rat))⁻¹).den:Int)=x.num-x.floor*x.den ∧
  0<y.num-x.floor*y.den∧y.num-x.floor*y.den<y.den∧0<x.num-x.floor*x.den∧x.num-x.floor*x.den<x.den:=by
 obtain ⟨h1,h2,h3,h4⟩:=Simp.step h0 hxy h k
 obtain ⟨a1,a2⟩:=inv_parts h2
 obtain ⟨b1,b2⟩:=inv_parts h1
 obtain ⟨c1,c2⟩:=zcm y x.floor
 obtain ⟨d1,d2⟩:=zcm x x.floor
 rw [c1] at a2
 rw [c2] at a1
 rw [d1] at b2
 rw [d2] at b1
 have p1:=rpos.1 h2
 have p2:=rpos.1 h1
 rw [c1] at p1
 rw [d1] at p2
 have q1:y-((x.floor:Int):Rat)<1:=by grind
 have q2:x-((x.floor:Int):Rat)<1:=by have:=fl_lt x; grind
 rw [Rat.lt_iff,c1,c2] at q1
 rw [Rat.lt_iff,d1,d2] at q2
 simp at q1 q2
 exact ⟨a1,a2,b1,b2,p1,q1,p2,q2⟩
theorem Simp.exists:∀ (n:Nat) (x y:Rat),x.den+y.den≤n→0<x→x≤y→∃ s,Simp x y s:=by
 intro n
 induction n with
 | zero=>intro x y hn h0 hxy; have:=x.den_pos; omega
 | succ n ih =>
  intro x y hn h0 hxy
  by_cases h:((x.floor:Int):Rat)=x
  ·exact ⟨_,.whole x y h⟩
  by_cases k:((x.floor:Int):Rat)+1≤y
  ·exact ⟨_,.up x y h k⟩
  obtain ⟨h1,h2,h3,h4⟩:=Simp.step h0 hxy h k
  obtain ⟨a1,a2,b1,b2,p1,q1,p2,q2⟩:=Simp.parts h0 hxy h k
  obtain ⟨s,hs⟩:=ih _ _ (by omega) h3 h4
  exact ⟨_,.inner x y s h k hs⟩
end Go.Proofs.ZP
end
section
namespace Go.Proofs.ZQ
open Go.RowKit Go.Proofs.ZW.Wa Go.Proofs.ZP
theorem Simp.sz {k:Nat} {x y s:Rat} (h:Simp x y s) (h0:0<x) (hxy:x≤y) (hx:Sz k x):Sz k s:=by
 obtain ⟨h1,h2⟩:=h.least h0 hxy x Rat.le_refl hxy
 obtain ⟨h3,h4⟩:=h.between h0 hxy
 have h5:0<s.num:=rpos.1 (by grind)
 have h6:0<x.num:=rpos.1 h0
 exact ⟨Nat.le_trans (za3 (by omega)) hx.1,Nat.le_trans (za3 h2) hx.2⟩
def cmpR (x y:Rat):Int:=(x.num*y.den-y.num*x.den).sign
noncomputable def rat_Cmp.f (a0_0 a0_1 a1_0 a1_1:ByteArray):Option (Int×Int):=by
 classical exact if h:(∃ x,RR a0_0 a0_1 x)∧∃ y,RR a1_0 a1_1 y then some (cmpR h.1.choose h.2.choose,0) else some (0,3)
noncomputable def rat_Floor.f (a0_0 a0_1:ByteArray):Option (ByteArray×ByteArray×Int):=oneF (fun x=>0) (fun x=>((x.floor:Int):Rat)) a0_0 a0_1
theorem Simp.bd {n:Nat} {x y s:Rat} (h:Simp x y s) (h0:0<x) (hxy:x≤y) (hx:Bdr n x):Bdr n s:=by
 obtain ⟨h1,h2⟩:=h.least h0 hxy x Rat.le_refl hxy
 obtain ⟨h3,h4⟩:=h.between h0 hxy
 have h5:0<s.num:=rpos.1 (by grind)
 have h6:0<x.num:=rpos.1 h0
 exact ⟨hx.1.le (by omega),hx.2.le (by omega)⟩
noncomputable def simp1 (x y:Rat):Rat:=by
 classical exact if h:0<x∧x≤y then (Simp.exists _ x y (Nat.le_refl _) h.1 h.2).choose else 0
noncomputable def simR (x y:Rat):Rat:=if x≤0∧0≤y then 0 else if 0<x then simp1 x y else -simp1 (-y) (-x)
noncomputable def rat_Simple.f (a0_0 a0_1 a1_0 a1_1:ByteArray):Option (ByteArray×ByteArray×Int):=twoF (fun x y=>if y<x then 9 else 0) (fun x y=>simR x y) a0_0 a0_1 a1_0 a1_1
end Go.Proofs.ZQ
end
section
namespace Go.Proofs.ZQ
open Go.RowKit Go.Proofs.ZW.Wa Go.Proofs.ZP Go.Proofs.ZW.Wb Go.Proofs.ZW.Wc
noncomputable def c2_Compare.f (a0_0:Bool) (a0_1:ByteArray) (a0_2:ByteArray) (a1_0:Bool) (a1_1:ByteArray) (a1_2:ByteArray):Option (Int):=(c2_Minus.f a1_0 a1_1 a1_2).bind fun bt821=>((c2_Plus.f a0_0 a0_1 a0_2 bt821.1 bt821.2.1 bt821.2.2).bind fun bt824=>(if bt824.2.1.toList=([48]:List UInt8) then (some 0) else (if bt824.1=true then (some (-1)) else (some 1))))
end Go.Proofs.ZQ
end
section
namespace Go.Proofs.ZQ
open Go.RowKit Go.Proofs.ZW.Wa Go.Proofs.ZW.Wb Go.Proofs.ZW.Wc
attribute [local go_sem] zaI zaG zaS zaR zaB zaA zaH zaF
noncomputable def c2_Cmp.j0:Nat→Bool→ByteArray→ByteArray→ByteArray→ByteArray→Option (Int×Int)
 | 0,_,_,_,_,_=>none
 | k+1,x13,x801000,x801001,x802000,x802001=>if x13=true then (some (0,3)) else ((c2_Read.f k x801000 x801001).bind fun bt804=>((c2_Read.f k x802000 x802001).bind fun bt807=>((c2_Compare.f bt804.1 bt804.2.1 bt804.2.2 bt807.1 bt807.2.1 bt807.2.2).bind fun t810=>(some (t810,0)))))
noncomputable def c2_Cmp.f (k:Nat) (a0_0:ByteArray) (a0_1:ByteArray) (a1_0:ByteArray) (a1_1:ByteArray):Option (Int×Int):=(c2_Right.f k a0_0 a0_1).bind fun t802=>(if t802=true then ((c2_Right.f k a1_0 a1_1).bind fun t803=>(c2_Cmp.j0 k (!t803) a0_0 a0_1 a1_0 a1_1)) else (c2_Cmp.j0 k true a0_0 a0_1 a1_0 a1_1))
noncomputable def c2_Down.j0:Nat→ByteArray→Bool→Bool→ByteArray→ByteArray→Option (Bool×ByteArray×ByteArray)
 | 0,_,_,_,_,_=>none
 | k+1,x3,x18,x817000,x817001,x817002=>if x18=true then ((c1_Plus.f x3 (⟨#[49]⟩:ByteArray)).bind fun t820=>((c2_Lowest.f x817000 t820 (⟨#[49]⟩:ByteArray)).bind fun bt821=>(some (bt821.1,bt821.2.1,bt821.2.2)))) else ((c2_Lowest.f x817000 x3 (⟨#[49]⟩:ByteArray)).bind fun bt824=>(some (bt824.1,bt824.2.1,bt824.2.2)))
noncomputable def c2_Down.f (k:Nat) (a0_0:Bool) (a0_1:ByteArray) (a0_2:ByteArray):Option (Bool×ByteArray×ByteArray):=(c1_Divide.f a0_1 a0_2).bind fun bt818=>(if a0_0=true then (c2_Down.j0 k bt818.1 (bt818.2.toList != ([48]:List UInt8)) a0_0 a0_1 a0_2) else (c2_Down.j0 k bt818.1 false a0_0 a0_1 a0_2))
noncomputable def c2_Floor.f (k:Nat) (a0_0:ByteArray) (a0_1:ByteArray):Option (ByteArray×ByteArray×Int):=(c2_Right.f k a0_0 a0_1).bind fun t829=>(if t829=true then ((c2_Read.f k a0_0 a0_1).bind fun bt830=>((c2_Down.f k bt830.1 bt830.2.1 bt830.2.2).bind fun bt833=>((c2_Told.f k bt833.1 bt833.2.1 bt833.2.2).bind fun bt836=>(some (bt836.1,bt836.2.1,bt836.2.2))))) else (some ((⟨#[]⟩:ByteArray),(⟨#[]⟩:ByteArray),3)))
noncomputable def rat_Sign.f (a0_0:ByteArray) (a0_1:ByteArray):Option (Int×Int):=(rat_Of.f 0).bind fun bt812=>((rat_Cmp.f a0_0 a0_1 bt812.1 bt812.2).bind fun bt814=>(some (bt814.1,bt814.2)))
end Go.Proofs.ZQ
end
section
namespace Go.Proofs.ZQ
open Go.RowKit Go.Proofs.ZW.Wa Go.Proofs.ZP
theorem toldR_zero:toldR 0=(⟨#[48]⟩,⟨#[49]⟩,0):=by
 have h1:(1:Nat)<10^600:=Nat.lt_of_lt_of_le (show 1<10^1 by decide) (Nat.pow_le_pow_right (by decide) (by decide))
 have h0:(0:Nat)<10^600:=by omega
 have e:toldR 0=(wtext (0:Rat).num,T (0:Rat).den,0):=if_pos ⟨h0,h1⟩
 rw [e]
 have e1:wtext (0:Rat).num=T 0:=zaU (x:=0) (by decide)
 have e2:T (0:Rat).den=T 1:=rfl
 rw [e1,e2,←T_1]
 have e3:T 0=(⟨#[48]⟩:ByteArray):=by decide +kernel
 rw [e3]
end Go.Proofs.ZQ
end
