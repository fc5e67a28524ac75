/- Texts under the proof, joined by a program (prune.py): Q196, Q212, Q240, QFr4. -/
import Derived.Test.YtglaeambknhjlaaGreatDoorCRatReckons13
import Derived.Test.YtglaeambknhjlaaGreatDoorCRatReckons14
import Derived.Test.YtglaeambknhjlaaGreatDoorCRatReckons11
import Derived.Test.YtglaeambknhjlaaGreatDoorCRatReckons15
import Derived.Test.YtglaeambknhjlaaGreatDoorCRatReckons16
set_option linter.unusedVariables false
set_option linter.unusedSimpArgs false
set_option exponentiation.threshold 20001
set_option maxHeartbeats 8000000
set_option maxRecDepth 100000
section
namespace Go.Proofs.ZQ
open Go.RowKit Go.Proofs.ZW.Wa Go.Proofs.ZW.Wb Go.Proofs.ZW.Wc
attribute [local go_sem] zaK zaJ zaU zaT zaG zaF zaM zaL
noncomputable def c2_Times.f (a0_0:Bool) (a0_1:ByteArray) (a0_2:ByteArray) (a1_0:Bool) (a1_1:ByteArray) (a1_2:ByteArray):Option (Bool×ByteArray×ByteArray):=(c1_Times.f a0_1 a1_1).bind fun t618=>((c1_Times.f a0_2 a1_2).bind fun t619=>((c2_Lowest.f (a0_0 != a1_0) t618 t619).bind fun bt620=>(some (bt620.1,bt620.2.1,bt620.2.2))))
noncomputable def c2_Times.T1:Bool×List (List Nat×List Nat):=(true,[([],[]),([0],[0]),([],[]),([2],[2]),([1,3],[1,3]),([],[]),([5],[5]),([],[]),([7],[7]),([6,8],[6,8]),([],[]),([10],[10]),([],[]),([12],[12]),([11,13,9],[11,13]),([4,9,14,14],[4,9,14]),([15,15,0,1,2,3,4,5,6,7,8,9,10,11,12,13,14,15],[15])])
noncomputable def c2_Times.B1:List Nat:=[0,1,0,4,15,0,32,0,128,480,0,1024,0,4096,16352,32767,65535]
theorem c2_Times.tab1:rtab .any (opsOf Tryz.f64 1)=c2_Times.T1:=by kernel_rfl
theorem c2_Times.bits1:waitsOk c2_Times.T1.2 c2_Times.B1=true:=by kernel_rfl
theorem c2_Times.calls (a0_0:Bool) (a0_1:ByteArray) (a0_2:ByteArray) (a1_0:Bool) (a1_1:ByteArray) (a1_2:ByteArray) (r1:Bool) (r2:ByteArray) (r3:ByteArray) (w:World) (h:c2_Times.f a0_0 a0_1 a0_2 a1_0 a1_1 a1_2=some (r1,r2,r3)) :
  Calls Tryz.prog 64 #[.agg #[.bool a0_0,.string a0_1,.string a0_2],.agg #[.bool a1_0,.string a1_1,.string a1_2]] w fun e w'=>e = .returned (.agg #[.bool r1,.string r2,.string r3])∧Below w.heap.size w w':=by
 have hu66:=Tryz.underlying66
 have HB:=Aside0.mk (Below.refl w.heap.size w)
 have H:((c1_Times.f a0_1 a1_1).bind fun t618=>((c1_Times.f a0_2 a1_2).bind fun t619=>((c2_Lowest.f (a0_0 != a1_0) t618 t619).bind fun bt620=>(some (bt620.1,bt620.2.1,bt620.2.2)))))=some (r1,r2,r3):=h
 clear h
 replace H:=Option.bind_eq_some_iff.mp H
 obtain ⟨t618,A30,H⟩:=H
 replace H:((c1_Times.f a0_2 a1_2).bind fun t619=>((c2_Lowest.f (a0_0 != a1_0) t618 t619).bind fun bt620=>(some (bt620.1,bt620.2.1,bt620.2.2))))=some (r1,r2,r3):=H
 have A3:=Aside0.mk A30
 clear A30
 replace H:=Option.bind_eq_some_iff.mp H
 obtain ⟨t619,A40,H⟩:=H
 replace H:((c2_Lowest.f (a0_0 != a1_0) t618 t619).bind fun bt620=>(some (bt620.1,bt620.2.1,bt620.2.2)))=some (r1,r2,r3):=H
 have A4:=Aside0.mk A40
 clear A40
 replace H:=Option.bind_eq_some_iff.mp H
 obtain ⟨⟨t620,t621,t622⟩,A50,H⟩:=H
 replace H:(some (t620,t621,t622))=some (r1,r2,r3):=H
 have A5:=Aside0.mk A50
 clear A50
 simp only [Option.some.injEq,Prod.mk.injEq] at H
 obtain ⟨rfl,rfl,rfl⟩:=H
 go_enter Tryz.func64,Tryz.ntmps64
 try go_wp2_with (first|((with_reducible refine zaI (N:=2) rfl ?_); refine zaP ?hg (N:=2) ?hd (cs:=#[.bool a0_0,.string a0_1,.string a0_2]) (t:=66) ?hr ?_; (case hd=>rfl); (case hg=>rfl); (case hr=>first|(go_simp; done)|(go_simp; rfl)); intro gb615 hg w6 hbox hb; have n0_:=Aside0.mk (zam (by repeat (first|(with_reducible first|exact HB.out|apply zaa|apply zab|apply zad)|exact HB.out)) hb); have n1_:=Aside0.mk (hbox); have n2_:=Aside0.mk ((by rw [hg]; exact (zap (by repeat (first|(with_reducible first|exact HB.out|apply zaa|apply zab|apply zad)|exact HB.out))):w.heap.size≤gb615)); have n3_:=Aside0.mk ((by rw [hg]; exact (zap (by repeat (first|(with_reducible first|exact HB.out|apply zaa|apply zab|apply zad)|exact HB.out))):w.heap.size≤gb615)); clear HB; have HB:=n0_; have BK615:=n1_; have GW615:=n2_; have GE615:=n3_; clear n0_ n1_ n2_ n3_; clear hb hbox hg)|((with_reducible refine zaI (N:=3) rfl ?_); refine zaP ?hg (N:=3) ?hd (cs:=#[.bool a1_0,.string a1_1,.string a1_2]) (t:=66) ?hr ?_; (case hd=>rfl); (case hg=>rfl); (case hr=>first|(go_simp; done)|(go_simp; rfl)); intro gb616 hg w7 hbox hb; have n0_:=Aside0.mk (zav (g:=gb615) (o:=.cells #[.bool a0_0,.string a0_1,.string a0_2] 66 (0,0)) (by (with_reducible repeat (first|refine zah ?_ _|refine zaj ?_|refine zai ?_ _)); exact BK615.out) hb); have n1_:=Aside0.mk (zam (by repeat (first|(with_reducible first|exact HB.out|apply zaa|apply zab|apply zad|refine zag ?_ GE615.out)|exact HB.out)) hb); have n2_:=Aside0.mk (hbox); have n3_:=Aside0.mk ((by rw [hg]; exact (zap (by repeat (first|(with_reducible first|exact HB.out|apply zaa|apply zab|apply zad|refine zag ?_ GE615.out)|exact HB.out))):w.heap.size≤gb616)); have n4_:=Aside0.mk ((by rw [hg]; exact (zap (by repeat (first|(with_reducible first|exact HB.out|apply zaa|apply zab|apply zad|refine zag ?_ GE615.out)|exact HB.out))):w.heap.size≤gb616)); have n5_:=Aside0.mk ((by rw [hg]; exact Nat.ne_of_lt (zaq (g:=gb615) (o:=.cells #[.bool a0_0,.string a0_1,.string a0_2] 66 (0,0)) (by (with_reducible repeat (first|refine zah ?_ _|refine zaj ?_|refine zai ?_ _)); exact BK615.out)):gb615≠gb616)); have n6_:=Aside0.mk ((by rw [hg]; exact Nat.ne_of_gt (zaq (g:=gb615) (o:=.cells #[.bool a0_0,.string a0_1,.string a0_2] 66 (0,0)) (by (with_reducible repeat (first|refine zah ?_ _|refine zaj ?_|refine zai ?_ _)); exact BK615.out)):gb616≠gb615)); clear BK615; clear HB; have BK615:=n0_; have HB:=n1_; have BK616:=n2_; have GW616:=n3_; have GE616:=n4_; have NB615_616:=n5_; have NB616_615:=n6_; clear n0_ n1_ n2_ n3_ n4_ n5_ n6_; clear hb hbox hg)|((with_reducible refine zaI (N:=4) rfl ?_); refine zaP ?hg (N:=4) ?hd (cs:=#[.bool false,.string (⟨#[]⟩:ByteArray),.string (⟨#[]⟩:ByteArray)]) (t:=66) ?hr ?_; (case hd=>rfl); (case hg=>rfl); (case hr=>first|(go_simp; done)|(go_simp; rfl)); intro gb617 hg w8 hbox hb; have n0_:=Aside0.mk (zav (g:=gb615) (o:=.cells #[.bool a0_0,.string a0_1,.string a0_2] 66 (0,0)) (by (with_reducible repeat (first|refine zah ?_ _|refine zaj ?_|refine zai ?_ _)); exact BK615.out) hb); have n1_:=Aside0.mk (zav (g:=gb616) (o:=.cells #[.bool a1_0,.string a1_1,.string a1_2] 66 (0,0)) (by (with_reducible repeat (first|refine zah ?_ _|refine zaj ?_|refine zai ?_ _)); exact BK616.out) hb); have n2_:=Aside0.mk (zam (by repeat (first|(with_reducible first|exact HB.out|apply zaa|apply zab|apply zad|refine zag ?_ GE615.out|refine zag ?_ GE616.out)|exact HB.out)) hb); have n3_:=Aside0.mk (hbox); have n4_:=Aside0.mk ((by rw [hg]; exact (zap (by repeat (first|(with_reducible first|exact HB.out|apply zaa|apply zab|apply zad|refine zag ?_ GE615.out|refine zag ?_ GE616.out)|exact HB.out))):w.heap.size≤gb617)); have n5_:=Aside0.mk ((by rw [hg]; exact (zap (by repeat (first|(with_reducible first|exact HB.out|apply zaa|apply zab|apply zad|refine zag ?_ GE615.out|refine zag ?_ GE616.out)|exact HB.out))):w.heap.size≤gb617)); have n6_:=Aside0.mk ((by rw [hg]; exact Nat.ne_of_lt (zaq (g:=gb615) (o:=.cells #[.bool a0_0,.string a0_1,.string a0_2] 66 (0,0)) (by (with_reducible repeat (first|refine zah ?_ _|refine zaj ?_|refine zai ?_ _)); exact BK615.out)):gb615≠gb617)); have n7_:=Aside0.mk ((by rw [hg]; exact Nat.ne_of_gt (zaq (g:=gb615) (o:=.cells #[.bool a0_0,.string a0_1,.string a0_2] 66 (0,0)) (by (with_reducible repeat (first|refine zah ?_ _|refine zaj ?_|refine zai ?_ _)); exact BK615.out)):gb617≠gb615)); have n8_:=Aside0.mk ((by rw [hg]; exact Nat.ne_of_lt (zaq (g:=gb616) (o:=.cells #[.bool a1_0,.string a1_1,.string a1_2] 66 (0,0)) (by (with_reducible repeat (first|refine zah ?_ _|refine zaj ?_|refine zai ?_ _)); exact BK616.out)):gb616≠gb617)); have n9_:=Aside0.mk ((by rw [hg]; exact Nat.ne_of_gt (zaq (g:=gb616) (o:=.cells #[.bool a1_0,.string a1_1,.string a1_2] 66 (0,0)) (by (with_reducible repeat (first|refine zah ?_ _|refine zaj ?_|refine zai ?_ _)); exact BK616.out)):gb617≠gb616)); clear BK615; clear BK616; clear HB; have BK615:=n0_; have BK616:=n1_; have HB:=n2_; have BK617:=n3_; have GW617:=n4_; have GE617:=n5_; have NB615_617:=n6_; have NB617_615:=n7_; have NB616_617:=n8_; have NB617_616:=n9_; clear n0_ n1_ n2_ n3_ n4_ n5_ n6_ n7_ n8_ n9_; clear hb hbox hg))
 have n0_:=Aside0.mk (zaj BK615.out)
 have n1_:=Aside0.mk (zaj BK616.out)
 have n2_:=Aside0.mk (zaj BK617.out)
 have n3_:=Aside0.mk (zad HB.out)
 clear BK615
 clear BK616
 clear BK617
 clear HB
 have BK615:=n0_
 have BK616:=n1_
 have BK617:=n2_
 have HB:=n3_
 clear n0_ n1_ n2_ n3_
 refine start_ (n:=17) (S:=fun w'=>w'.cell? ⟨gb615,0,none⟩=some (.bool a0_0)∧w'.cell? ⟨gb615,1,none⟩=some (.string a0_1)∧w'.cell? ⟨gb615,2,none⟩=some (.string a0_2)∧w'.cell? ⟨gb616,0,none⟩=some (.bool a1_0)∧w'.cell? ⟨gb616,1,none⟩=some (.string a1_1)∧w'.cell? ⟨gb616,2,none⟩=some (.string a1_2)) (ds:=[]) #[false,false,false,false,false,false,false,false,false,false,false,false,false,false,false,false,false] (by kernel_rfl) rfl rfl ⟨(zaf BK615.out 0).trans rfl,(zaf BK615.out 1).trans rfl,(zaf BK615.out 2).trans rfl,(zaf BK616.out 0).trans rfl,(zaf BK616.out 1).trans rfl,(zaf BK616.out 2).trans rfl⟩ (fun hHeld => ?_); refine with_tabW c2_Times.tab1 c2_Times.bits1 (fun HT_ HW_ => ?_)
 generalize w8.drew=w9 at BK615 BK616 BK617 HB hHeld ⊢
 refine pure_ (i:=0) (N:=some 5) (v:=?_) (a':=?_) #[true,false,false,false,false,false,false,false,false,false,false,false,false,false,false,false,false] rfl rfl (zbN HT_.out (by kernel_rfl)) (fun _ _ _ h=>h) (Or.inl ⟨by rfl,?_⟩) ?_ ?_
 rotate_left
 ·intro w'
  go_simp
  with_reducible rfl
 rotate_left
 ·simp only [Act.put,List.setIfInBounds_toArray,List.set_cons_zero,List.set_cons_succ,i64_w,i32_w]
  rfl
 refine pure_ (i:=2) (N:=some 7) (v:=?_) (a':=?_) #[true,false,true,false,false,false,false,false,false,false,false,false,false,false,false,false,false] rfl rfl (zbN HT_.out (by kernel_rfl)) (fun _ _ _ h=>h) (Or.inl ⟨by rfl,?_⟩) ?_ ?_
 rotate_left
 ·intro w'
  go_simp
  with_reducible rfl
 rotate_left
 ·simp only [Act.put,List.setIfInBounds_toArray,List.set_cons_zero,List.set_cons_succ,i64_w,i32_w]
  rfl
 refine pure_ (i:=5) (N:=some 10) (v:=?_) (a':=?_) #[true,false,true,false,false,true,false,false,false,false,false,false,false,false,false,false,false] rfl rfl (zbN HT_.out (by kernel_rfl)) (fun _ _ _ h=>h) (Or.inl ⟨by rfl,?_⟩) ?_ ?_
 rotate_left
 ·intro w'
  go_simp
  with_reducible rfl
 rotate_left
 ·simp only [Act.put,List.setIfInBounds_toArray,List.set_cons_zero,List.set_cons_succ,i64_w,i32_w]
  rfl
 refine pure_ (i:=7) (N:=some 12) (v:=?_) (a':=?_) #[true,false,true,false,false,true,false,true,false,false,false,false,false,false,false,false,false] rfl rfl (zbN HT_.out (by kernel_rfl)) (fun _ _ _ h=>h) (Or.inl ⟨by rfl,?_⟩) ?_ ?_
 rotate_left
 ·intro w'
  go_simp
  with_reducible rfl
 rotate_left
 ·simp only [Act.put,List.setIfInBounds_toArray,List.set_cons_zero,List.set_cons_succ,i64_w,i32_w]
  rfl
 refine pure_ (i:=10) (N:=some 15) (v:=?_) (a':=?_) #[true,false,true,false,false,true,false,true,false,false,true,false,false,false,false,false,false] rfl rfl (zbN HT_.out (by kernel_rfl)) (fun _ _ _ h=>h) (Or.inl ⟨by rfl,?_⟩) ?_ ?_
 rotate_left
 ·intro w'
  go_simp
  with_reducible rfl
 rotate_left
 ·simp only [Act.put,List.setIfInBounds_toArray,List.set_cons_zero,List.set_cons_succ,i64_w,i32_w]
  rfl
 refine pure_ (i:=12) (N:=some 17) (v:=?_) (a':=?_) #[true,false,true,false,false,true,false,true,false,false,true,false,true,false,false,false,false] rfl rfl (zbN HT_.out (by kernel_rfl)) (fun _ _ _ h=>h) (Or.inl ⟨by rfl,?_⟩) ?_ ?_
 rotate_left
 ·intro w'
  go_simp
  with_reducible rfl
 rotate_left
 ·simp only [Act.put,List.setIfInBounds_toArray,List.set_cons_zero,List.set_cons_succ,i64_w,i32_w]
  rfl
 refine take_ (i:=1) (N:=some 6) (v:=?_) (a':=?_) #[true,true,true,false,false,true,false,true,false,false,true,false,true,false,false,false,false] rfl rfl (zci HT_.out HW_.out (by kernel_rfl)) (fun _ _ _ h=>h) (Or.inl ⟨by rfl,?_⟩) hHeld ?_ ?_
 rotate_left
 ·rintro w' ⟨s0,s1,s2,s3,s4,s5⟩
  go_simp
  with_reducible rfl
 rotate_left
 ·simp only [Act.put,List.setIfInBounds_toArray,List.set_cons_zero,List.set_cons_succ,i64_w,i32_w]
  rfl
 refine take_ (i:=3) (N:=some 8) (v:=?_) (a':=?_) #[true,true,true,true,false,true,false,true,false,false,true,false,true,false,false,false,false] rfl rfl (zci HT_.out HW_.out (by kernel_rfl)) (fun _ _ _ h=>h) (Or.inl ⟨by rfl,?_⟩) hHeld ?_ ?_
 rotate_left
 ·rintro w' ⟨s0,s1,s2,s3,s4,s5⟩
  go_simp
  with_reducible rfl
 rotate_left
 ·simp only [Act.put,List.setIfInBounds_toArray,List.set_cons_zero,List.set_cons_succ,i64_w,i32_w]
  rfl
 refine pure_ (i:=4) (N:=some 9) (v:=?_) (a':=?_) #[true,true,true,true,true,true,false,true,false,false,true,false,true,false,false,false,false] rfl rfl (zbN HT_.out (by kernel_rfl)) (fun _ _ _ h=>h) (Or.inl ⟨by rfl,?_⟩) ?_ ?_
 rotate_left
 ·intro w'
  go_simp
  with_reducible rfl
 rotate_left
 ·simp only [Act.put,List.setIfInBounds_toArray,List.set_cons_zero,List.set_cons_succ,i64_w,i32_w]
  rfl
 refine take_ (i:=6) (N:=some 11) (v:=?_) (a':=?_) #[true,true,true,true,true,true,true,true,false,false,true,false,true,false,false,false,false] rfl rfl (zci HT_.out HW_.out (by kernel_rfl)) (fun _ _ _ h=>h) (Or.inl ⟨by rfl,?_⟩) hHeld ?_ ?_
 rotate_left
 ·rintro w' ⟨s0,s1,s2,s3,s4,s5⟩
  go_simp
  with_reducible rfl
 rotate_left
 ·simp only [Act.put,List.setIfInBounds_toArray,List.set_cons_zero,List.set_cons_succ,i64_w,i32_w]
  rfl
 refine take_ (i:=8) (N:=some 13) (v:=?_) (a':=?_) #[true,true,true,true,true,true,true,true,true,false,true,false,true,false,false,false,false] rfl rfl (zci HT_.out HW_.out (by kernel_rfl)) (fun _ _ _ h=>h) (Or.inl ⟨by rfl,?_⟩) hHeld ?_ ?_
 rotate_left
 ·rintro w' ⟨s0,s1,s2,s3,s4,s5⟩
  go_simp
  with_reducible rfl
 rotate_left
 ·simp only [Act.put,List.setIfInBounds_toArray,List.set_cons_zero,List.set_cons_succ,i64_w,i32_w]
  rfl
 refine take_ (i:=11) (N:=some 16) (v:=?_) (a':=?_) #[true,true,true,true,true,true,true,true,true,false,true,true,true,false,false,false,false] rfl rfl (zci HT_.out HW_.out (by kernel_rfl)) (fun _ _ _ h=>h) (Or.inl ⟨by rfl,?_⟩) hHeld ?_ ?_
 rotate_left
 ·rintro w' ⟨s0,s1,s2,s3,s4,s5⟩
  go_simp
  with_reducible rfl
 rotate_left
 ·simp only [Act.put,List.setIfInBounds_toArray,List.set_cons_zero,List.set_cons_succ,i64_w,i32_w]
  rfl
 refine take_ (i:=13) (N:=some 18) (v:=?_) (a':=?_) #[true,true,true,true,true,true,true,true,true,false,true,true,true,true,false,false,false] rfl rfl (zci HT_.out HW_.out (by kernel_rfl)) (fun _ _ _ h=>h) (Or.inl ⟨by rfl,?_⟩) hHeld ?_ ?_
 rotate_left
 ·rintro w' ⟨s0,s1,s2,s3,s4,s5⟩
  go_simp
  with_reducible rfl
 rotate_left
 ·simp only [Act.put,List.setIfInBounds_toArray,List.set_cons_zero,List.set_cons_succ,i64_w,i32_w]
  rfl
 refine one_ (i:=9) (N:=some 14) #[true,true,true,true,true,true,true,true,true,true,true,true,true,true,false,false,false] rfl rfl (one_of HT_.out (by kernel_rfl)) (by decide) (fun K hK => ?_)
 refine goes_ Tryz.func131 (by kernel_rfl) rfl #[.string a0_1,.string a1_1] (by rfl) rfl rfl (by (try simp only [List.map_toArray,List.map_cons,List.map_nil]); first|done|rfl|(simp only [List.length_drop,List.length_take]; rfl)) ?_
 with_reducible refine (c1_Times.calls a0_1 a1_1 t618 _ A3.out).mono ?_
 rintro e w10 ⟨rfl,hb⟩
 refine ⟨_,rfl,?_⟩
 have n0_:=Aside0.mk (zav (g:=gb615) (o:=.cells #[.bool a0_0,.string a0_1,.string a0_2] 66 (0,0)) (by (with_reducible repeat (first|refine zah ?_ _|refine zaj ?_|refine zai ?_ _)); exact BK615.out) hb)
 have n1_:=Aside0.mk (zav (g:=gb616) (o:=.cells #[.bool a1_0,.string a1_1,.string a1_2] 66 (0,0)) (by (with_reducible repeat (first|refine zah ?_ _|refine zaj ?_|refine zai ?_ _)); exact BK616.out) hb)
 have n2_:=Aside0.mk (zav (g:=gb617) (o:=.cells #[.bool false,.string (⟨#[]⟩:ByteArray),.string (⟨#[]⟩:ByteArray)] 66 (0,0)) (by (with_reducible repeat (first|refine zah ?_ _|refine zaj ?_|refine zai ?_ _)); exact BK617.out) hb)
 have n3_:=Aside0.mk (zam (by repeat (first|(with_reducible first|exact HB.out|apply zaa|apply zab|apply zad|refine zag ?_ GE615.out|refine zag ?_ GE616.out|refine zag ?_ GE617.out)|exact HB.out)) hb)
 clear BK615
 clear BK616
 clear BK617
 clear HB
 have BK615:=n0_
 have BK616:=n1_
 have BK617:=n2_
 have HB:=n3_
 clear n0_ n1_ n2_ n3_
 (try clear hb)
 (try clear hb2)
 (try clear hk)
 (try clear hi)
 refine hK.out _ _ ⟨(zaf BK615.out 0).trans rfl,(zaf BK615.out 1).trans rfl,(zaf BK615.out 2).trans rfl,(zaf BK616.out 0).trans rfl,(zaf BK616.out 1).trans rfl,(zaf BK616.out 2).trans rfl⟩ (fun hHeld => ?_)
 clear hK K
 refine norm_ (a':=?_) ?_ ?_
 rotate_left
 ·show Act.put _ (some 14) _=_
  simp only [Act.put,List.setIfInBounds_toArray,List.set_cons_zero,List.set_cons_succ,i64_w,i32_w]
  rfl
 refine one_ (i:=14) (N:=some 19) #[true,true,true,true,true,true,true,true,true,true,true,true,true,true,true,false,false] rfl rfl (one_of HT_.out (by kernel_rfl)) (by decide) (fun K hK => ?_)
 refine goes_ Tryz.func131 (by kernel_rfl) rfl #[.string a0_2,.string a1_2] (by rfl) rfl rfl (by (try simp only [List.map_toArray,List.map_cons,List.map_nil]); first|done|rfl|(simp only [List.length_drop,List.length_take]; rfl)) ?_
 with_reducible refine (c1_Times.calls a0_2 a1_2 t619 _ A4.out).mono ?_
 rintro e w11 ⟨rfl,hb⟩
 refine ⟨_,rfl,?_⟩
 have n0_:=Aside0.mk (zav (g:=gb615) (o:=.cells #[.bool a0_0,.string a0_1,.string a0_2] 66 (0,0)) (by (with_reducible repeat (first|refine zah ?_ _|refine zaj ?_|refine zai ?_ _)); exact BK615.out) hb)
 have n1_:=Aside0.mk (zav (g:=gb616) (o:=.cells #[.bool a1_0,.string a1_1,.string a1_2] 66 (0,0)) (by (with_reducible repeat (first|refine zah ?_ _|refine zaj ?_|refine zai ?_ _)); exact BK616.out) hb)
 have n2_:=Aside0.mk (zav (g:=gb617) (o:=.cells #[.bool false,.string (⟨#[]⟩:ByteArray),.string (⟨#[]⟩:ByteArray)] 66 (0,0)) (by (with_reducible repeat (first|refine zah ?_ _|refine zaj ?_|refine zai ?_ _)); exact BK617.out) hb)
 have n3_:=Aside0.mk (zam (by repeat (first|(with_reducible first|exact HB.out|apply zaa|apply zab|apply zad|refine zag ?_ GE615.out|refine zag ?_ GE616.out|refine zag ?_ GE617.out)|exact HB.out)) hb)
 clear BK615
 clear BK616
 clear BK617
 clear HB
 have BK615:=n0_
 have BK616:=n1_
 have BK617:=n2_
 have HB:=n3_
 clear n0_ n1_ n2_ n3_
 (try clear hb)
 (try clear hb2)
 (try clear hk)
 (try clear hi)
 refine hK.out _ _ ⟨(zaf BK615.out 0).trans rfl,(zaf BK615.out 1).trans rfl,(zaf BK615.out 2).trans rfl,(zaf BK616.out 0).trans rfl,(zaf BK616.out 1).trans rfl,(zaf BK616.out 2).trans rfl⟩ (fun hHeld => ?_)
 clear hK K
 refine norm_ (a':=?_) ?_ ?_
 rotate_left
 ·show Act.put _ (some 19) _=_
  simp only [Act.put,List.setIfInBounds_toArray,List.set_cons_zero,List.set_cons_succ,i64_w,i32_w]
  rfl
 refine one_ (i:=15) (N:=some 20) #[true,true,true,true,true,true,true,true,true,true,true,true,true,true,true,true,false] rfl rfl (one_of HT_.out (by kernel_rfl)) (by decide) (fun K hK => ?_)
 refine goes_ Tryz.func111 (by kernel_rfl) rfl #[.bool (a0_0 != a1_0),.string t618,.string t619] (by rfl) rfl rfl (by (try simp only [List.map_toArray,List.map_cons,List.map_nil]); first|done|rfl|(simp only [List.length_drop,List.length_take]; rfl)) ?_
 with_reducible refine (c2_Lowest.calls (a0_0 != a1_0) t618 t619 t620 t621 t622 _ A5.out).mono ?_
 rintro e w12 ⟨rfl,hb⟩
 refine ⟨_,rfl,?_⟩
 have n0_:=Aside0.mk (zav (g:=gb615) (o:=.cells #[.bool a0_0,.string a0_1,.string a0_2] 66 (0,0)) (by (with_reducible repeat (first|refine zah ?_ _|refine zaj ?_|refine zai ?_ _)); exact BK615.out) hb)
 have n1_:=Aside0.mk (zav (g:=gb616) (o:=.cells #[.bool a1_0,.string a1_1,.string a1_2] 66 (0,0)) (by (with_reducible repeat (first|refine zah ?_ _|refine zaj ?_|refine zai ?_ _)); exact BK616.out) hb)
 have n2_:=Aside0.mk (zav (g:=gb617) (o:=.cells #[.bool false,.string (⟨#[]⟩:ByteArray),.string (⟨#[]⟩:ByteArray)] 66 (0,0)) (by (with_reducible repeat (first|refine zah ?_ _|refine zaj ?_|refine zai ?_ _)); exact BK617.out) hb)
 have n3_:=Aside0.mk (zam (by repeat (first|(with_reducible first|exact HB.out|apply zaa|apply zab|apply zad|refine zag ?_ GE615.out|refine zag ?_ GE616.out|refine zag ?_ GE617.out)|exact HB.out)) hb)
 clear BK615
 clear BK616
 clear BK617
 clear HB
 have BK615:=n0_
 have BK616:=n1_
 have BK617:=n2_
 have HB:=n3_
 clear n0_ n1_ n2_ n3_
 (try clear hb)
 (try clear hb2)
 (try clear hk)
 (try clear hi)
 refine hK.out _ _ ⟨(zaf BK615.out 0).trans rfl,(zaf BK615.out 1).trans rfl,(zaf BK615.out 2).trans rfl,(zaf BK616.out 0).trans rfl,(zaf BK616.out 1).trans rfl,(zaf BK616.out 2).trans rfl⟩ (fun hHeld => ?_)
 clear hK K
 refine norm_ (a':=?_) ?_ ?_
 rotate_left
 ·show Act.put _ (some 20) _=_
  simp only [Act.put,List.setIfInBounds_toArray,List.set_cons_zero,List.set_cons_succ,i64_w,i32_w]
  rfl
 refine one_ (i:=16) (N:=none) #[true,true,true,true,true,true,true,true,true,true,true,true,true,true,true,true,true] rfl rfl (one_of HT_.out (by kernel_rfl)) (by decide) (fun K hK => ?_)
 have hs13:w12.cell? ⟨gb617,0,none⟩=some (.bool false):=(zaf BK617.out 0).trans rfl
 have hfs13:=zac BK617.out 0
 have hns13_0:=NB615_617.out
 have hns13_1:=NB616_617.out
 have hms13_0:=NB617_615.out
 have hms13_1:=NB617_616.out
 have hs14:w12.cell? ⟨gb617,1,none⟩=some (.string (⟨#[]⟩:ByteArray)):=(zaf BK617.out 1).trans rfl
 have hfs14:=zac BK617.out 1
 have hns14_0:=NB615_617.out
 have hns14_1:=NB616_617.out
 have hms14_0:=NB617_615.out
 have hms14_1:=NB617_616.out
 have hs15:w12.cell? ⟨gb617,2,none⟩=some (.string (⟨#[]⟩:ByteArray)):=(zaf BK617.out 2).trans rfl
 have hfs15:=zac BK617.out 2
 have hns15_0:=NB615_617.out
 have hns15_1:=NB616_617.out
 have hms15_0:=NB617_615.out
 have hms15_1:=NB617_616.out
 refine skip_ (w1:=?_) (by rfl) rfl ?_ ?_
 rotate_left
 ·go_simp
  rfl
 refine hK.out _ _ ⟨((zaO (p:=⟨gb617,_,none⟩) NB615_617.out _).trans (((zaO (p:=⟨gb617,_,none⟩) NB615_617.out _).trans (((zaO (p:=⟨gb617,_,none⟩) NB615_617.out _).trans (hHeld.1)))))),((zaO (p:=⟨gb617,_,none⟩) NB615_617.out _).trans (((zaO (p:=⟨gb617,_,none⟩) NB615_617.out _).trans (((zaO (p:=⟨gb617,_,none⟩) NB615_617.out _).trans (hHeld.2.1)))))),((zaO (p:=⟨gb617,_,none⟩) NB615_617.out _).trans (((zaO (p:=⟨gb617,_,none⟩) NB615_617.out _).trans (((zaO (p:=⟨gb617,_,none⟩) NB615_617.out _).trans (hHeld.2.2.1)))))),((zaO (p:=⟨gb617,_,none⟩) NB616_617.out _).trans (((zaO (p:=⟨gb617,_,none⟩) NB616_617.out _).trans (((zaO (p:=⟨gb617,_,none⟩) NB616_617.out _).trans (hHeld.2.2.2.1)))))),((zaO (p:=⟨gb617,_,none⟩) NB616_617.out _).trans (((zaO (p:=⟨gb617,_,none⟩) NB616_617.out _).trans (((zaO (p:=⟨gb617,_,none⟩) NB616_617.out _).trans (hHeld.2.2.2.2.1)))))),((zaO (p:=⟨gb617,_,none⟩) NB616_617.out _).trans (((zaO (p:=⟨gb617,_,none⟩) NB616_617.out _).trans (((zaO (p:=⟨gb617,_,none⟩) NB616_617.out _).trans (hHeld.2.2.2.2.2))))))⟩ (fun hHeld => ?_)
 clear hK K
 refine done_ (done_of HT_.out (by kernel_rfl)) ?_
 try go_wp2
 refine bodyPost_ret (results_cell_row rfl _ _ gb617 66 #[.bool t620,.string t621,.string t622] (0,0) _ rfl (by (with_reducible repeat (first|refine zah ?_ _|refine zaj ?_|refine zai ?_ _)); refine zaD (cs:=#[.bool t620,.string t621,.string (⟨#[]⟩:ByteArray)]) ?_ 2 _ rfl; (with_reducible repeat (first|refine zah ?_ _|refine zaj ?_|refine zai ?_ _)); refine zaD (cs:=#[.bool t620,.string (⟨#[]⟩:ByteArray),.string (⟨#[]⟩:ByteArray)]) ?_ 1 _ rfl; (with_reducible repeat (first|refine zah ?_ _|refine zaj ?_|refine zai ?_ _)); refine zaD (cs:=#[.bool false,.string (⟨#[]⟩:ByteArray),.string (⟨#[]⟩:ByteArray)]) ?_ 0 _ rfl; (with_reducible repeat (first|refine zah ?_ _|refine zaj ?_|refine zai ?_ _)); exact BK617.out) Tryz.underlying66 rfl (by kernel_rfl)) rfl ?_
 exact ⟨by first|rfl|(simp [zal,zak]<;>rfl)|(simp [*,zal,zak]<;>rfl),by repeat (first|(with_reducible first|exact HB.out|apply zaa|apply zab|apply zad|refine zag ?_ GE615.out|refine zag ?_ GE616.out|refine zag ?_ GE617.out)|exact HB.out)⟩
noncomputable def c2_Minus.f (a0_0:Bool) (a0_1:ByteArray) (a0_2:ByteArray):Option (Bool×ByteArray×ByteArray):=if a0_0=true then (some (false,a0_1,a0_2)) else (some ((a0_1.toList != ([48]:List UInt8)),a0_1,a0_2))
theorem c2_Minus.calls (a0_0:Bool) (a0_1:ByteArray) (a0_2:ByteArray) (r1:Bool) (r2:ByteArray) (r3:ByteArray) (w:World) (h:c2_Minus.f a0_0 a0_1 a0_2=some (r1,r2,r3)) :
  Calls Tryz.prog 62 #[.agg #[.bool a0_0,.string a0_1,.string a0_2]] w fun e w'=>e = .returned (.agg #[.bool r1,.string r2,.string r3])∧Below w.heap.size w w':=by
 have hu66:=Tryz.underlying66
 have HB:=Aside0.mk (Below.refl w.heap.size w)
 have H:(if a0_0=true then (some (false,a0_1,a0_2)) else (some ((a0_1.toList != ([48]:List UInt8)),a0_1,a0_2)))=some (r1,r2,r3):=h
 clear h
 by_cases c2:a0_0=true
 ·subst c2
  have H1:(some (false,a0_1,a0_2))=some (r1,r2,r3):=by rw [if_pos rfl] at H; exact H
  clear H
  have H:=H1
  clear H1
  simp only [Option.some.injEq,Prod.mk.injEq] at H
  obtain ⟨rfl,rfl,rfl⟩:=H
  go_enter Tryz.func62,Tryz.ntmps62
  go_wp2_with (first|((with_reducible refine zaI (N:=1) rfl ?_); refine zaP ?hg (N:=1) ?hd (cs:=#[.bool true,.string a0_1,.string a0_2]) (t:=66) ?hr ?_; (case hd=>rfl); (case hg=>rfl); (case hr=>first|(go_simp; done)|(go_simp; rfl)); intro gb798 hg w3 hbox hb; have n0_:=Aside0.mk (zam (by repeat (first|(with_reducible first|exact HB.out|apply zaa|apply zab|apply zad)|exact HB.out)) hb); have n1_:=Aside0.mk (hbox); have n2_:=Aside0.mk ((by rw [hg]; exact (zap (by repeat (first|(with_reducible first|exact HB.out|apply zaa|apply zab|apply zad)|exact HB.out))):w.heap.size≤gb798)); have n3_:=Aside0.mk ((by rw [hg]; exact (zap (by repeat (first|(with_reducible first|exact HB.out|apply zaa|apply zab|apply zad)|exact HB.out))):w.heap.size≤gb798)); clear HB; have HB:=n0_; have BK798:=n1_; have GW798:=n2_; have GE798:=n3_; clear n0_ n1_ n2_ n3_; clear hb hbox hg)|((with_reducible refine zaI (N:=2) rfl ?_); refine zaP ?hg (N:=2) ?hd (cs:=#[.bool false,.string (⟨#[]⟩:ByteArray),.string (⟨#[]⟩:ByteArray)]) (t:=66) ?hr ?_; (case hd=>rfl); (case hg=>rfl); (case hr=>first|(go_simp; done)|(go_simp; rfl)); intro gb799 hg w4 hbox hb; have n0_:=Aside0.mk (zav (g:=gb798) (o:=.cells #[.bool true,.string a0_1,.string a0_2] 66 (0,0)) (by (with_reducible repeat (first|refine zah ?_ _|refine zaj ?_|refine zai ?_ _)); exact BK798.out) hb); have n1_:=Aside0.mk (zam (by repeat (first|(with_reducible first|exact HB.out|apply zaa|apply zab|apply zad|refine zag ?_ GE798.out)|exact HB.out)) hb); have n2_:=Aside0.mk (hbox); have n3_:=Aside0.mk ((by rw [hg]; exact (zap (by repeat (first|(with_reducible first|exact HB.out|apply zaa|apply zab|apply zad|refine zag ?_ GE798.out)|exact HB.out))):w.heap.size≤gb799)); have n4_:=Aside0.mk ((by rw [hg]; exact (zap (by repeat (first|(with_reducible first|exact HB.out|apply zaa|apply zab|apply zad|refine zag ?_ GE798.out)|exact HB.out))):w.heap.size≤gb799)); have n5_:=Aside0.mk ((by rw [hg]; exact Nat.ne_of_lt (zaq (g:=gb798) (o:=.cells #[.bool true,.string a0_1,.string a0_2] 66 (0,0)) (by (with_reducible repeat (first|refine zah ?_ _|refine zaj ?_|refine zai ?_ _)); exact BK798.out)):gb798≠gb799)); have n6_:=Aside0.mk ((by rw [hg]; exact Nat.ne_of_gt (zaq (g:=gb798) (o:=.cells #[.bool true,.string a0_1,.string a0_2] 66 (0,0)) (by (with_reducible repeat (first|refine zah ?_ _|refine zaj ?_|refine zai ?_ _)); exact BK798.out)):gb799≠gb798)); clear BK798; clear HB; have BK798:=n0_; have HB:=n1_; have BK799:=n2_; have GW799:=n3_; have GE799:=n4_; have NB798_799:=n5_; have NB799_798:=n6_; clear n0_ n1_ n2_ n3_ n4_ n5_ n6_; clear hb hbox hg; have hnb5:=NB798_799.out; have hnc5:=NB799_798.out; have hcz6_0:w4.cell? ⟨gb798,0,none⟩=some (.bool true):=(zaf BK798.out 0).trans rfl; have hcz6_1:w4.cell? ⟨gb798,1,none⟩=some (.string a0_1):=(zaf BK798.out 1).trans rfl; have hcz6_2:w4.cell? ⟨gb798,2,none⟩=some (.string a0_2):=(zaf BK798.out 2).trans rfl; have hfz6_0:=zac BK798.out 0; have hfz6_1:=zac BK798.out 1; have hfz6_2:=zac BK798.out 2; have hcz7_0:w4.cell? ⟨gb799,0,none⟩=some (.bool false):=(zaf BK799.out 0).trans rfl; have hcz7_1:w4.cell? ⟨gb799,1,none⟩=some (.string (⟨#[]⟩:ByteArray)):=(zaf BK799.out 1).trans rfl; have hcz7_2:w4.cell? ⟨gb799,2,none⟩=some (.string (⟨#[]⟩:ByteArray)):=(zaf BK799.out 2).trans rfl; have hfz7_0:=zac BK799.out 0; have hfz7_1:=zac BK799.out 1; have hfz7_2:=zac BK799.out 2))
  refine bodyPost_ret (results_cell_row rfl _ _ gb799 66 #[.bool false,.string a0_1,.string a0_2] (0,0) _ rfl (by (with_reducible repeat (first|refine zah ?_ _|refine zaj ?_|refine zai ?_ _)); refine zaD (cs:=#[.bool false,.string a0_1,.string (⟨#[]⟩:ByteArray)]) ?_ 2 _ rfl; (with_reducible repeat (first|refine zah ?_ _|refine zaj ?_|refine zai ?_ _)); refine zaD (cs:=#[.bool false,.string (⟨#[]⟩:ByteArray),.string (⟨#[]⟩:ByteArray)]) ?_ 1 _ rfl; (with_reducible repeat (first|refine zah ?_ _|refine zaj ?_|refine zai ?_ _)); refine zaD (cs:=#[.bool false,.string (⟨#[]⟩:ByteArray),.string (⟨#[]⟩:ByteArray)]) ?_ 0 _ rfl; (with_reducible repeat (first|refine zah ?_ _|refine zaj ?_|refine zai ?_ _)); refine blk_far ?_ NB799_798.out _; (with_reducible repeat (first|refine zah ?_ _|refine zaj ?_|refine zai ?_ _)); exact BK799.out) Tryz.underlying66 rfl (by kernel_rfl)) rfl ?_
  exact ⟨by first|rfl|(simp [zal,zak]<;>rfl)|(simp [*,zal,zak]<;>rfl),by repeat (first|(with_reducible first|exact HB.out|apply zaa|apply zab|apply zad|refine zag ?_ GE798.out|refine zag ?_ GE799.out)|exact HB.out)⟩
 ·replace c2:=Bool.eq_false_iff.mpr c2
  subst c2
  have H1:(some ((a0_1.toList != ([48]:List UInt8)),a0_1,a0_2))=some (r1,r2,r3):=by rw [if_neg (show ¬ (false=true) by decide)] at H; exact H
  clear H
  have H:=H1
  clear H1
  simp only [Option.some.injEq,Prod.mk.injEq] at H
  obtain ⟨rfl,rfl,rfl⟩:=H
  go_enter Tryz.func62,Tryz.ntmps62
  go_wp2_with (first|((with_reducible refine zaI (N:=1) rfl ?_); refine zaP ?hg (N:=1) ?hd (cs:=#[.bool false,.string a0_1,.string a0_2]) (t:=66) ?hr ?_; (case hd=>rfl); (case hg=>rfl); (case hr=>first|(go_simp; done)|(go_simp; rfl)); intro gb798 hg w8 hbox hb; have n0_:=Aside0.mk (zam (by repeat (first|(with_reducible first|exact HB.out|apply zaa|apply zab|apply zad)|exact HB.out)) hb); have n1_:=Aside0.mk (hbox); have n2_:=Aside0.mk ((by rw [hg]; exact (zap (by repeat (first|(with_reducible first|exact HB.out|apply zaa|apply zab|apply zad)|exact HB.out))):w.heap.size≤gb798)); have n3_:=Aside0.mk ((by rw [hg]; exact (zap (by repeat (first|(with_reducible first|exact HB.out|apply zaa|apply zab|apply zad)|exact HB.out))):w.heap.size≤gb798)); clear HB; have HB:=n0_; have BK798:=n1_; have GW798:=n2_; have GE798:=n3_; clear n0_ n1_ n2_ n3_; clear hb hbox hg)|((with_reducible refine zaI (N:=2) rfl ?_); refine zaP ?hg (N:=2) ?hd (cs:=#[.bool false,.string (⟨#[]⟩:ByteArray),.string (⟨#[]⟩:ByteArray)]) (t:=66) ?hr ?_; (case hd=>rfl); (case hg=>rfl); (case hr=>first|(go_simp; done)|(go_simp; rfl)); intro gb799 hg w9 hbox hb; have n0_:=Aside0.mk (zav (g:=gb798) (o:=.cells #[.bool false,.string a0_1,.string a0_2] 66 (0,0)) (by (with_reducible repeat (first|refine zah ?_ _|refine zaj ?_|refine zai ?_ _)); exact BK798.out) hb); have n1_:=Aside0.mk (zam (by repeat (first|(with_reducible first|exact HB.out|apply zaa|apply zab|apply zad|refine zag ?_ GE798.out)|exact HB.out)) hb); have n2_:=Aside0.mk (hbox); have n3_:=Aside0.mk ((by rw [hg]; exact (zap (by repeat (first|(with_reducible first|exact HB.out|apply zaa|apply zab|apply zad|refine zag ?_ GE798.out)|exact HB.out))):w.heap.size≤gb799)); have n4_:=Aside0.mk ((by rw [hg]; exact (zap (by repeat (first|(with_reducible first|exact HB.out|apply zaa|apply zab|apply zad|refine zag ?_ GE798.out)|exact HB.out))):w.heap.size≤gb799)); have n5_:=Aside0.mk ((by rw [hg]; exact Nat.ne_of_lt (zaq (g:=gb798) (o:=.cells #[.bool false,.string a0_1,.string a0_2] 66 (0,0)) (by (with_reducible repeat (first|refine zah ?_ _|refine zaj ?_|refine zai ?_ _)); exact BK798.out)):gb798≠gb799)); have n6_:=Aside0.mk ((by rw [hg]; exact Nat.ne_of_gt (zaq (g:=gb798) (o:=.cells #[.bool false,.string a0_1,.string a0_2] 66 (0,0)) (by (with_reducible repeat (first|refine zah ?_ _|refine zaj ?_|refine zai ?_ _)); exact BK798.out)):gb799≠gb798)); clear BK798; clear HB; have BK798:=n0_; have HB:=n1_; have BK799:=n2_; have GW799:=n3_; have GE799:=n4_; have NB798_799:=n5_; have NB799_798:=n6_; clear n0_ n1_ n2_ n3_ n4_ n5_ n6_; clear hb hbox hg; have hnb10:=NB798_799.out; have hnc10:=NB799_798.out; have hcz11_0:w9.cell? ⟨gb798,0,none⟩=some (.bool false):=(zaf BK798.out 0).trans rfl; have hcz11_1:w9.cell? ⟨gb798,1,none⟩=some (.string a0_1):=(zaf BK798.out 1).trans rfl; have hcz11_2:w9.cell? ⟨gb798,2,none⟩=some (.string a0_2):=(zaf BK798.out 2).trans rfl; have hfz11_0:=zac BK798.out 0; have hfz11_1:=zac BK798.out 1; have hfz11_2:=zac BK798.out 2; have hcz12_0:w9.cell? ⟨gb799,0,none⟩=some (.bool false):=(zaf BK799.out 0).trans rfl; have hcz12_1:w9.cell? ⟨gb799,1,none⟩=some (.string (⟨#[]⟩:ByteArray)):=(zaf BK799.out 1).trans rfl; have hcz12_2:w9.cell? ⟨gb799,2,none⟩=some (.string (⟨#[]⟩:ByteArray)):=(zaf BK799.out 2).trans rfl; have hfz12_0:=zac BK799.out 0; have hfz12_1:=zac BK799.out 1; have hfz12_2:=zac BK799.out 2))
  refine bodyPost_ret (results_cell_row rfl _ _ gb799 66 #[.bool (a0_1.toList != ([48]:List UInt8)),.string a0_1,.string a0_2] (0,0) _ rfl (by (with_reducible repeat (first|refine zah ?_ _|refine zaj ?_|refine zai ?_ _)); refine zaD (cs:=#[.bool (a0_1.toList != ([48]:List UInt8)),.string a0_1,.string (⟨#[]⟩:ByteArray)]) ?_ 2 _ rfl; (with_reducible repeat (first|refine zah ?_ _|refine zaj ?_|refine zai ?_ _)); refine zaD (cs:=#[.bool (a0_1.toList != ([48]:List UInt8)),.string (⟨#[]⟩:ByteArray),.string (⟨#[]⟩:ByteArray)]) ?_ 1 _ rfl; (with_reducible repeat (first|refine zah ?_ _|refine zaj ?_|refine zai ?_ _)); refine zaD (cs:=#[.bool false,.string (⟨#[]⟩:ByteArray),.string (⟨#[]⟩:ByteArray)]) ?_ 0 _ rfl; (with_reducible repeat (first|refine zah ?_ _|refine zaj ?_|refine zai ?_ _)); refine blk_far ?_ NB799_798.out _; (with_reducible repeat (first|refine zah ?_ _|refine zaj ?_|refine zai ?_ _)); exact BK799.out) Tryz.underlying66 rfl (by kernel_rfl)) rfl ?_
  exact ⟨by first|rfl|(simp [zal,zak]<;>rfl)|(simp [*,zal,zak]<;>rfl),by repeat (first|(with_reducible first|exact HB.out|apply zaa|apply zab|apply zad|refine zag ?_ GE798.out|refine zag ?_ GE799.out)|exact HB.out)⟩
noncomputable def c2_Over.f (a0_0:Bool) (a0_1:ByteArray) (a0_2:ByteArray):Option (Bool×ByteArray×ByteArray):=some (a0_0,a0_2,a0_1)
theorem c2_Over.calls (a0_0:Bool) (a0_1:ByteArray) (a0_2:ByteArray) (r1:Bool) (r2:ByteArray) (r3:ByteArray) (w:World) (h:c2_Over.f a0_0 a0_1 a0_2=some (r1,r2,r3)) :
  Calls Tryz.prog 160 #[.agg #[.bool a0_0,.string a0_1,.string a0_2]] w fun e w'=>e = .returned (.agg #[.bool r1,.string r2,.string r3])∧Below w.heap.size w w':=by
 have hu66:=Tryz.underlying66
 have HB:=Aside0.mk (Below.refl w.heap.size w)
 have H:(some (a0_0,a0_2,a0_1))=some (r1,r2,r3):=h
 clear h
 simp only [Option.some.injEq,Prod.mk.injEq] at H
 obtain ⟨rfl,rfl,rfl⟩:=H
 go_enter Tryz.func160,Tryz.ntmps160
 go_wp2_with (first|((with_reducible refine zaI (N:=1) rfl ?_); refine zaP ?hg (N:=1) ?hd (cs:=#[.bool a0_0,.string a0_1,.string a0_2]) (t:=66) ?hr ?_; (case hd=>rfl); (case hg=>rfl); (case hr=>first|(go_simp; done)|(go_simp; rfl)); intro gb1167 hg w2 hbox hb; have n0_:=Aside0.mk (zam (by repeat (first|(with_reducible first|exact HB.out|apply zaa|apply zab|apply zad)|exact HB.out)) hb); have n1_:=Aside0.mk (hbox); have n2_:=Aside0.mk ((by rw [hg]; exact (zap (by repeat (first|(with_reducible first|exact HB.out|apply zaa|apply zab|apply zad)|exact HB.out))):w.heap.size≤gb1167)); have n3_:=Aside0.mk ((by rw [hg]; exact (zap (by repeat (first|(with_reducible first|exact HB.out|apply zaa|apply zab|apply zad)|exact HB.out))):w.heap.size≤gb1167)); clear HB; have HB:=n0_; have BK1167:=n1_; have GW1167:=n2_; have GE1167:=n3_; clear n0_ n1_ n2_ n3_; clear hb hbox hg)|((with_reducible refine zaI (N:=2) rfl ?_); refine zaP ?hg (N:=2) ?hd (cs:=#[.bool false,.string (⟨#[]⟩:ByteArray),.string (⟨#[]⟩:ByteArray)]) (t:=66) ?hr ?_; (case hd=>rfl); (case hg=>rfl); (case hr=>first|(go_simp; done)|(go_simp; rfl)); intro gb1168 hg w3 hbox hb; have n0_:=Aside0.mk (zav (g:=gb1167) (o:=.cells #[.bool a0_0,.string a0_1,.string a0_2] 66 (0,0)) (by (with_reducible repeat (first|refine zah ?_ _|refine zaj ?_|refine zai ?_ _)); exact BK1167.out) hb); have n1_:=Aside0.mk (zam (by repeat (first|(with_reducible first|exact HB.out|apply zaa|apply zab|apply zad|refine zag ?_ GE1167.out)|exact HB.out)) hb); have n2_:=Aside0.mk (hbox); have n3_:=Aside0.mk ((by rw [hg]; exact (zap (by repeat (first|(with_reducible first|exact HB.out|apply zaa|apply zab|apply zad|refine zag ?_ GE1167.out)|exact HB.out))):w.heap.size≤gb1168)); have n4_:=Aside0.mk ((by rw [hg]; exact (zap (by repeat (first|(with_reducible first|exact HB.out|apply zaa|apply zab|apply zad|refine zag ?_ GE1167.out)|exact HB.out))):w.heap.size≤gb1168)); have n5_:=Aside0.mk ((by rw [hg]; exact Nat.ne_of_lt (zaq (g:=gb1167) (o:=.cells #[.bool a0_0,.string a0_1,.string a0_2] 66 (0,0)) (by (with_reducible repeat (first|refine zah ?_ _|refine zaj ?_|refine zai ?_ _)); exact BK1167.out)):gb1167≠gb1168)); have n6_:=Aside0.mk ((by rw [hg]; exact Nat.ne_of_gt (zaq (g:=gb1167) (o:=.cells #[.bool a0_0,.string a0_1,.string a0_2] 66 (0,0)) (by (with_reducible repeat (first|refine zah ?_ _|refine zaj ?_|refine zai ?_ _)); exact BK1167.out)):gb1168≠gb1167)); clear BK1167; clear HB; have BK1167:=n0_; have HB:=n1_; have BK1168:=n2_; have GW1168:=n3_; have GE1168:=n4_; have NB1167_1168:=n5_; have NB1168_1167:=n6_; clear n0_ n1_ n2_ n3_ n4_ n5_ n6_; clear hb hbox hg; have hnb4:=NB1167_1168.out; have hnc4:=NB1168_1167.out; have hcz5_0:w3.cell? ⟨gb1167,0,none⟩=some (.bool a0_0):=(zaf BK1167.out 0).trans rfl; have hcz5_1:w3.cell? ⟨gb1167,1,none⟩=some (.string a0_1):=(zaf BK1167.out 1).trans rfl; have hcz5_2:w3.cell? ⟨gb1167,2,none⟩=some (.string a0_2):=(zaf BK1167.out 2).trans rfl; have hfz5_0:=zac BK1167.out 0; have hfz5_1:=zac BK1167.out 1; have hfz5_2:=zac BK1167.out 2; have hcz6_0:w3.cell? ⟨gb1168,0,none⟩=some (.bool false):=(zaf BK1168.out 0).trans rfl; have hcz6_1:w3.cell? ⟨gb1168,1,none⟩=some (.string (⟨#[]⟩:ByteArray)):=(zaf BK1168.out 1).trans rfl; have hcz6_2:w3.cell? ⟨gb1168,2,none⟩=some (.string (⟨#[]⟩:ByteArray)):=(zaf BK1168.out 2).trans rfl; have hfz6_0:=zac BK1168.out 0; have hfz6_1:=zac BK1168.out 1; have hfz6_2:=zac BK1168.out 2))
 refine bodyPost_ret (results_cell_row rfl _ _ gb1168 66 #[.bool a0_0,.string a0_2,.string a0_1] (0,0) _ rfl (by (with_reducible repeat (first|refine zah ?_ _|refine zaj ?_|refine zai ?_ _)); refine zaD (cs:=#[.bool a0_0,.string a0_2,.string (⟨#[]⟩:ByteArray)]) ?_ 2 _ rfl; (with_reducible repeat (first|refine zah ?_ _|refine zaj ?_|refine zai ?_ _)); refine zaD (cs:=#[.bool a0_0,.string (⟨#[]⟩:ByteArray),.string (⟨#[]⟩:ByteArray)]) ?_ 1 _ rfl; (with_reducible repeat (first|refine zah ?_ _|refine zaj ?_|refine zai ?_ _)); refine zaD (cs:=#[.bool false,.string (⟨#[]⟩:ByteArray),.string (⟨#[]⟩:ByteArray)]) ?_ 0 _ rfl; (with_reducible repeat (first|refine zah ?_ _|refine zaj ?_|refine zai ?_ _)); exact BK1168.out) Tryz.underlying66 rfl (by kernel_rfl)) rfl ?_
 exact ⟨by first|rfl|(simp [zal,zak]<;>rfl)|(simp [*,zal,zak]<;>rfl),by repeat (first|(with_reducible first|exact HB.out|apply zaa|apply zab|apply zad|refine zag ?_ GE1167.out|refine zag ?_ GE1168.out)|exact HB.out)⟩
end Go.Proofs.ZQ
end
section
namespace Go.Proofs.ZQ
open Go.RowKit Go.Proofs.ZW.Wa Go.Proofs.ZP
def Sz (k:Nat) (x:Rat):Prop:=(T x.num.natAbs).size≤k∧(T x.den).size≤k
theorem rr_sz {a b:ByteArray} {x:Rat} (h:RR a b x):Sz 600 x:=⟨(zaz (k:=600) (by decide)).2 h.ln,(zaz (k:=600) (by decide)).2 h.ld⟩
theorem sz_div {s:Bool} {a b k:Nat} (hb:0<b) (ha:(T a).size≤k) (hbs:(T b).size≤k):Sz k (Rat.divInt (sgn s a) b):=by
 obtain ⟨f1,f2,f3⟩:=zcO s a b hb
 refine ⟨?_,?_⟩
 ·rw [f1]; exact Nat.le_trans (zbn (Nat.div_le_self _ _)) ha
 ·rw [f2]; exact Nat.le_trans (zbn (Nat.div_le_self _ _)) hbs
theorem Plus_Fr {x y:Rat} {k:Nat} (hx:Sz k x) (hy:Sz k y) (hk:k≤1000000):c2_Plus.f (Fr x).1 (Fr x).2.1 (Fr x).2.2 (Fr y).1 (Fr y).2.1 (Fr y).2.2=some (Fr (x+y))∧Sz (2*k+1) (x+y):=by
 have hxd:=x.den_pos
 have hyd:=y.den_pos
 obtain ⟨hx1,hx2⟩:=hx
 obtain ⟨hy1,hy2⟩:=hy
 have hsum:x+y=Rat.divInt (sgn (decide (x.num<0)) (x.num.natAbs*y.den)+sgn (decide (y.num<0)) (y.num.natAbs*x.den)) ((x.den*y.den:Nat):Int):=by
  rw [add_divInt,←zc7,←zc7,zc2,zc2,Int.natCast_mul]
 rw [hsum]
 unfold c2_Plus.f
 show (c1_Times.f (T x.num.natAbs) (T y.den)).bind _=_∧_
 have m1:=zbd x.num.natAbs y.den
 have m2:=zbd y.num.natAbs x.den
 have m3:=zbd x.den y.den
 have hd:0<x.den*y.den:=Nat.mul_pos hxd hyd
 rw [zde (by omega) (by omega),Option.bind_some]
 show (c1_Times.f (T y.num.natAbs) (T x.den)).bind _=_∧_
 rw [zde (by omega) (by omega),Option.bind_some]
 show (c1_Times.f (T x.den) (T y.den)).bind _=_∧_
 rw [zde (by omega) (by omega),Option.bind_some]
 show (if (decide (x.num<0) == decide (y.num<0))=true then _ else _)=_∧_
 have e1:(Fr x).1=decide (x.num<0):=rfl
 have e2:(Fr y).1=decide (y.num<0):=rfl
 rw [e1,e2]
 generalize decide (x.num<0)=s
 generalize decide (y.num<0)=t
 generalize x.num.natAbs*y.den=A at *
 generalize y.num.natAbs*x.den=B at *
 generalize x.den*y.den=C at *
 have hadd:=T_size_add A B (2*k) (by omega) (by omega)
 by_cases hst:s=t
 ·subst hst
  rw [if_pos (beq_self_eq_true s),Plus_T (by omega) (by omega),Option.bind_some,lowest_T s (A+B) C hd (by omega) (by omega),Option.bind_some,sgn_add_same]
  exact ⟨rfl,sz_div hd (by omega) (by omega)⟩
 ·rw [if_neg (fun e=>hst (beq_iff_eq.1 e)),Compare_T (by omega) (by omega),Option.bind_some]
  by_cases hle:B≤A
  ·have hc:cmpN A B≥0:=by unfold cmpN; split; omega; split<;>omega
   have h3:(T (A-B)).size≤(T A).size:=zbn (Nat.sub_le _ _)
   rw [if_pos hc,Minus_T (by omega) (by omega) hle,Option.bind_some,lowest_T s (A-B) C hd (by omega) (by omega),Option.bind_some,sgn_add_ge s t A B hst hle]
   exact ⟨rfl,sz_div hd (by omega) (by omega)⟩
  ·have hc:¬ cmpN A B≥0:=by unfold cmpN; rw [if_pos (by omega)]; decide
   have h3:(T (B-A)).size≤(T B).size:=zbn (Nat.sub_le _ _)
   rw [if_neg hc,Minus_T (by omega) (by omega) (by omega),Option.bind_some,lowest_T t (B-A) C hd (by omega) (by omega),Option.bind_some,sgn_add_lt s t A B hst (by omega)]
   exact ⟨rfl,sz_div hd (by omega) (by omega)⟩
theorem Times_Fr {x y:Rat} {k:Nat} (hx:Sz k x) (hy:Sz k y) (hk:k≤1000000):c2_Times.f (Fr x).1 (Fr x).2.1 (Fr x).2.2 (Fr y).1 (Fr y).2.1 (Fr y).2.2=some (Fr (x*y))∧Sz (2*k) (x*y):=by
 have hxd:=x.den_pos
 have hyd:=y.den_pos
 obtain ⟨hx1,hx2⟩:=hx
 obtain ⟨hy1,hy2⟩:=hy
 have hp:x*y=Rat.divInt (sgn (decide (x.num<0) != decide (y.num<0)) (x.num.natAbs*y.num.natAbs)) ((x.den*y.den:Nat):Int):=by
  rw [zcZ,←sgn_mul,zc2,zc2,Int.natCast_mul]
 rw [hp]
 unfold c2_Times.f
 have m1:=zbd x.num.natAbs y.num.natAbs
 have m3:=zbd x.den y.den
 have hd:0<x.den*y.den:=Nat.mul_pos hxd hyd
 show (c1_Times.f (T x.num.natAbs) (T y.num.natAbs)).bind _=_∧_
 rw [zde (by omega) (by omega),Option.bind_some]
 show (c1_Times.f (T x.den) (T y.den)).bind _=_∧_
 rw [zde (by omega) (by omega),Option.bind_some]
 have e1:(Fr x).1=decide (x.num<0):=rfl
 have e2:(Fr y).1=decide (y.num<0):=rfl
 rw [e1,e2,lowest_T _ _ _ hd (by omega) (by omega),Option.bind_some]
 exact ⟨rfl,sz_div hd (by omega) (by omega)⟩
theorem Minus_Fr (x:Rat):c2_Minus.f (Fr x).1 (Fr x).2.1 (Fr x).2.2=some (Fr (-x)):=by
 have e1:(-x).num = -x.num:=Rat.neg_num x
 have e2:(-x).den=x.den:=rfl
 unfold c2_Minus.f Fr
 rw [e1,e2,Int.natAbs_neg]
 show (if decide (x.num<0)=true then _ else _)=_
 by_cases h:x.num<0
 ·rw [if_pos (decide_eq_true h),decide_eq_false (show ¬ -x.num<0 by omega)]
 ·rw [if_neg (by simpa using h)]
  refine congrArg some ?_
  show ((T x.num.natAbs).toList != [48],T x.num.natAbs,T x.den)=_
  by_cases h0:x.num=0
  ·rw [h0]
   have:((T (0:Int).natAbs).toList != ([48]:List UInt8))=false:=by
    show ((T 0).toList != ([48]:List UInt8))=false
    rw [b48.2 rfl]; rfl
   rw [this]; rfl
  ·rw [decide_eq_true (show -x.num<0 by omega),bne_iff_ne.2 (fun e=>h0 (by have:=T_inj (b48.1 e); omega))]
theorem Over_Fr {x:Rat} (h0:x≠0):c2_Over.f (Fr x).1 (Fr x).2.1 (Fr x).2.2=some (Fr x⁻¹):=by
 have hn:=num_ne h0
 obtain ⟨f1,f2,f3⟩:=zcO (decide (x.num<0)) x.den x.num.natAbs (by omega)
 have hi:x⁻¹=Rat.divInt (sgn (decide (x.num<0)) x.den) x.num.natAbs:=by
  rw [zcE]
  refine (Rat.divInt_eq_divInt_iff hn (by omega)).2 ?_
  by_cases h:x.num<0
  ·have e:x.num = -(x.num.natAbs:Int):=by omega
   have e3:sgn true x.den = -(x.den:Int):=rfl
   rw [decide_eq_true h,e3]
   generalize x.num.natAbs=m at e
   rw [e,Int.neg_mul_neg]
  ·have e:x.num=(x.num.natAbs:Int):=by omega
   have e3:sgn false x.den=(x.den:Int):=rfl
   rw [decide_eq_false h,e3]
   generalize x.num.natAbs=m at e
   rw [e]
 have hg:Nat.gcd x.den x.num.natAbs=1:=by rw [Nat.gcd_comm]; exact x.reduced
 rw [hg,Nat.div_one] at f1 f2
 have hF:Fr x⁻¹=(decide (x.num<0),T x.den,T x.num.natAbs):=by
  unfold Fr
  rw [hi,f1,f2,f3,decide_eq_true x.den_nz,Bool.and_true]
 rw [hF]
 rfl
theorem core_no {a b:ByteArray} (h:¬ ∃ x,RR a b x):coreB (spl a).1 (spl a).2 b=false:=by
 cases hc:coreB (spl a).1 (spl a).2 b
 ·rfl
 ·exact absurd ((core_iff a b).1 hc) h
theorem right_yes {a b:ByteArray} {x:Rat} (h:RR a b x):Ev (fun k=>c2_Right.f k a b) true:=by
 have:=right_ev a b
 rwa [(core_iff a b).2 ⟨x,h⟩] at this
theorem right_no {a b:ByteArray} (h:¬ ∃ x,RR a b x):Ev (fun k=>c2_Right.f k a b) false:=by
 have:=right_ev a b
 rwa [core_no h] at this
theorem tell_ok (x:Rat):tell 0 x=toldR x:=if_pos rfl
theorem neg_sz {x:Rat} {k:Nat} (h:Sz k x):Sz k (-x):=by
 unfold Sz at *
 rw [Rat.neg_num,Int.natAbs_neg]; exact h
theorem rr_zero {a b:ByteArray} {y:Rat} (h:RR a b y):a.toList=([48]:List UInt8)↔y=0:=by
 rw [b48,h.num]
 have e0:T 0=wtext 0:=(za4 (x:=0) (by decide)).symm
 constructor
 ·intro e
  rw [e0] at e
  exact Rat.num_eq_zero.1 (wtext_inj e)
 ·rintro rfl; exact e0.symm
theorem inv_sz {x:Rat} {k:Nat} (h0:x≠0) (h:Sz k x):Sz k x⁻¹:=by
 have hF:=Over_Fr h0
 unfold c2_Over.f at hF
 have hF:=Option.some.inj hF
 have e1:=congrArg (fun r=>r.2.1) hF
 have e2:=congrArg (fun r=>r.2.2) hF
 exact ⟨by rw [←show _=T (x⁻¹).num.natAbs from e1]; exact h.2,by rw [←show _=T (x⁻¹).den from e2]; exact h.1⟩
theorem rr_11:RR ⟨#[49]⟩ ⟨#[49]⟩ 1:=by
 have e:(⟨#[49]⟩:ByteArray)=T 1:=T_1
 have h1:(1:Nat)<10^600:=Nat.lt_of_lt_of_le (show 1<10^1 by decide) (Nat.pow_le_pow_right (by decide) (by decide))
 refine ⟨?_,e,h1,h1⟩
 rw [e]; exact (za4 (x:=1) (by decide)).symm
end Go.Proofs.ZQ
end
