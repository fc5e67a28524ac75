/- Texts under the proof, joined by a program (prune.py): TRatOrdered, LawRatOrdered. -/
import Derived.Test.YtglaeambknhjlaaGreatDoorCRatOrdered11
import Derived.Test.YtglaeambknhjlaaGreatDoorCRatOrdered09
set_option linter.unusedVariables false
set_option linter.unusedSimpArgs false
set_option exponentiation.threshold 20001
set_option maxHeartbeats 8000000
set_option maxRecDepth 100000
section
namespace Go.Proofs.Q9
open Go.RowKit Go.Proofs.W9.Wa Go.Proofs.W9.Wb Go.Proofs.W9.Wc
attribute [local go_sem] zaz zax zaE zaD zas zar zay zaw
set_option linter.unusedVariables false
set_option linter.unusedSimpArgs false
attribute [local go_sem high] eqA23
theorem l2_RatOrdered.callsT (k:Nat) (a0_0:ByteArray) (a0_1:ByteArray) (a1_0:ByteArray) (a1_1:ByteArray) (a2_0:ByteArray) (a2_1:ByteArray) (r:Bool) (w:World) (h:l2_RatOrdered.f k a0_0 a0_1 a1_0 a1_1 a2_0 a2_1=some r) (hr:r=true) :
  Calls Tryz.prog 8 #[.agg #[.string a0_0,.string a0_1],.agg #[.string a1_0,.string a1_1],.agg #[.string a2_0,.string a2_1]] w fun e w'=>e = .returned (.bool r)∧Below w.heap.size w w':=by
 have hu23:=Tryz.underlying23
 have HB:=Aside0.mk (Below.refl w.heap.size w)
 have H:((c2_Right.f k a0_0 a0_1).bind fun t659=>(if t659=true then ((c2_Right.f k a1_0 a1_1).bind fun t660=>(if t660=true then ((c2_Right.f k a2_0 a2_1).bind fun t661=>(l2_RatOrdered.j0 k (!t661) a0_0 a0_1 a1_0 a1_1 a2_0 a2_1)) else (l2_RatOrdered.j0 k true a0_0 a0_1 a1_0 a1_1 a2_0 a2_1))) else (l2_RatOrdered.j0 k true a0_0 a0_1 a1_0 a1_1 a2_0 a2_1)))=some r:=h
 clear h
 have HC4:=Aside0.mk H
 clear H
 go_enter Tryz.func8,Tryz.ntmps8
 go_upto_region 1 with (first|((with_reducible refine zbd (N:=3) rfl ?_); refine zbS ?hg (N:=3) ?hd (cs:=#[.string a0_0,.string a0_1]) (t:=23) ?hr ?_; (case hd=>rfl); (case hg=>rfl); (case hr=>first|(go_simp; done)|(go_simp; rfl)); intro gb656 hg w5 hbox hb; have n0_:=Aside0.mk (zan (by repeat (first|(with_reducible first|exact HB.out|apply zaa|apply zab|apply zaf)|exact HB.out)) hb); have n1_:=Aside0.mk (hbox); have n2_:=Aside0.mk ((by rw [hg]; exact (zaC (by repeat (first|(with_reducible first|exact HB.out|apply zaa|apply zab|apply zaf)|exact HB.out))):w.heap.size≤gb656)); have n3_:=Aside0.mk ((by rw [hg]; exact (zaC (by repeat (first|(with_reducible first|exact HB.out|apply zaa|apply zab|apply zaf)|exact HB.out))):w.heap.size≤gb656)); clear HB; have HB:=n0_; have BK656:=n1_; have GW656:=n2_; have GE656:=n3_; clear n0_ n1_ n2_ n3_; clear hb hbox hg)|((with_reducible refine zbd (N:=4) rfl ?_); refine zbS ?hg (N:=4) ?hd (cs:=#[.string a1_0,.string a1_1]) (t:=23) ?hr ?_; (case hd=>rfl); (case hg=>rfl); (case hr=>first|(go_simp; done)|(go_simp; rfl)); intro gb657 hg w6 hbox hb; have n0_:=Aside0.mk (zak (g:=gb656) (o:=.cells #[.string a0_0,.string a0_1] 23 (0,0)) (by (with_reducible repeat (first|refine zag ?_ _|refine zai ?_|refine zah ?_ _)); exact BK656.out) hb); have n1_:=Aside0.mk (zan (by repeat (first|(with_reducible first|exact HB.out|apply zaa|apply zab|apply zaf|refine zad ?_ GE656.out)|exact HB.out)) hb); have n2_:=Aside0.mk (hbox); have n3_:=Aside0.mk ((by rw [hg]; exact (zaC (by repeat (first|(with_reducible first|exact HB.out|apply zaa|apply zab|apply zaf|refine zad ?_ GE656.out)|exact HB.out))):w.heap.size≤gb657)); have n4_:=Aside0.mk ((by rw [hg]; exact (zaC (by repeat (first|(with_reducible first|exact HB.out|apply zaa|apply zab|apply zaf|refine zad ?_ GE656.out)|exact HB.out))):w.heap.size≤gb657)); have n5_:=Aside0.mk ((by rw [hg]; exact Nat.ne_of_lt (zap (g:=gb656) (o:=.cells #[.string a0_0,.string a0_1] 23 (0,0)) (by (with_reducible repeat (first|refine zag ?_ _|refine zai ?_|refine zah ?_ _)); exact BK656.out)):gb656≠gb657)); have n6_:=Aside0.mk ((by rw [hg]; exact Nat.ne_of_gt (zap (g:=gb656) (o:=.cells #[.string a0_0,.string a0_1] 23 (0,0)) (by (with_reducible repeat (first|refine zag ?_ _|refine zai ?_|refine zah ?_ _)); exact BK656.out)):gb657≠gb656)); clear BK656; clear HB; have BK656:=n0_; have HB:=n1_; have BK657:=n2_; have GW657:=n3_; have GE657:=n4_; have NB656_657:=n5_; have NB657_656:=n6_; clear n0_ n1_ n2_ n3_ n4_ n5_ n6_; clear hb hbox hg)|((with_reducible refine zbd (N:=5) rfl ?_); refine zbS ?hg (N:=5) ?hd (cs:=#[.string a2_0,.string a2_1]) (t:=23) ?hr ?_; (case hd=>rfl); (case hg=>rfl); (case hr=>first|(go_simp; done)|(go_simp; rfl)); intro gb658 hg w7 hbox hb; have n0_:=Aside0.mk (zak (g:=gb656) (o:=.cells #[.string a0_0,.string a0_1] 23 (0,0)) (by (with_reducible repeat (first|refine zag ?_ _|refine zai ?_|refine zah ?_ _)); exact BK656.out) hb); have n1_:=Aside0.mk (zak (g:=gb657) (o:=.cells #[.string a1_0,.string a1_1] 23 (0,0)) (by (with_reducible repeat (first|refine zag ?_ _|refine zai ?_|refine zah ?_ _)); exact BK657.out) hb); have n2_:=Aside0.mk (zan (by repeat (first|(with_reducible first|exact HB.out|apply zaa|apply zab|apply zaf|refine zad ?_ GE656.out|refine zad ?_ GE657.out)|exact HB.out)) hb); have n3_:=Aside0.mk (hbox); have n4_:=Aside0.mk ((by rw [hg]; exact (zaC (by repeat (first|(with_reducible first|exact HB.out|apply zaa|apply zab|apply zaf|refine zad ?_ GE656.out|refine zad ?_ GE657.out)|exact HB.out))):w.heap.size≤gb658)); have n5_:=Aside0.mk ((by rw [hg]; exact (zaC (by repeat (first|(with_reducible first|exact HB.out|apply zaa|apply zab|apply zaf|refine zad ?_ GE656.out|refine zad ?_ GE657.out)|exact HB.out))):w.heap.size≤gb658)); have n6_:=Aside0.mk ((by rw [hg]; exact Nat.ne_of_lt (zap (g:=gb656) (o:=.cells #[.string a0_0,.string a0_1] 23 (0,0)) (by (with_reducible repeat (first|refine zag ?_ _|refine zai ?_|refine zah ?_ _)); exact BK656.out)):gb656≠gb658)); have n7_:=Aside0.mk ((by rw [hg]; exact Nat.ne_of_gt (zap (g:=gb656) (o:=.cells #[.string a0_0,.string a0_1] 23 (0,0)) (by (with_reducible repeat (first|refine zag ?_ _|refine zai ?_|refine zah ?_ _)); exact BK656.out)):gb658≠gb656)); have n8_:=Aside0.mk ((by rw [hg]; exact Nat.ne_of_lt (zap (g:=gb657) (o:=.cells #[.string a1_0,.string a1_1] 23 (0,0)) (by (with_reducible repeat (first|refine zag ?_ _|refine zai ?_|refine zah ?_ _)); exact BK657.out)):gb657≠gb658)); have n9_:=Aside0.mk ((by rw [hg]; exact Nat.ne_of_gt (zap (g:=gb657) (o:=.cells #[.string a1_0,.string a1_1] 23 (0,0)) (by (with_reducible repeat (first|refine zag ?_ _|refine zai ?_|refine zah ?_ _)); exact BK657.out)):gb658≠gb657)); clear BK656; clear BK657; clear HB; have BK656:=n0_; have BK657:=n1_; have HB:=n2_; have BK658:=n3_; have GW658:=n4_; have GE658:=n5_; have NB656_658:=n6_; have NB658_656:=n7_; have NB657_658:=n8_; have NB658_657:=n9_; clear n0_ n1_ n2_ n3_ n4_ n5_ n6_ n7_ n8_ n9_; clear hb hbox hg))
 (try simp only [Act.put,List.setIfInBounds_toArray,List.set_cons_zero,List.set_cons_succ])
 go_cut [33] (fun v33 wc=>∃ (kq:Nat) (x33_3:Bool),v33 = .bool x33_3∧Aside0 (l2_RatOrdered.j0 kq x33_3 a0_0 a0_1 a1_0 a1_1 a2_0 a2_1=some r)∧Aside0 (kq≤k)∧Aside0 (wc.heap[gb656]? = some (.cells #[.string a0_0,.string a0_1] 23 (0,0)))∧Aside0 (wc.heap[gb657]? = some (.cells #[.string a1_0,.string a1_1] 23 (0,0)))∧Aside0 (wc.heap[gb658]? = some (.cells #[.string a2_0,.string a2_1] 23 (0,0)))∧Aside0 (Below w.heap.size w wc))
 case first =>
  have H:=HC4.out
  clear HC4
  replace H:=Option.bind_eq_some_iff.mp H
  obtain ⟨t659,A80,H⟩:=H
  replace H:(if t659=true then ((c2_Right.f k a1_0 a1_1).bind fun t660=>(if t660=true then ((c2_Right.f k a2_0 a2_1).bind fun t661=>(l2_RatOrdered.j0 k (!t661) a0_0 a0_1 a1_0 a1_1 a2_0 a2_1)) else (l2_RatOrdered.j0 k true a0_0 a0_1 a1_0 a1_1 a2_0 a2_1))) else (l2_RatOrdered.j0 k true a0_0 a0_1 a1_0 a1_1 a2_0 a2_1))=some r:=H
  have A8:=Aside0.mk A80
  clear A80
  by_cases c9:t659=true
  ·subst c9
   have H1:((c2_Right.f k a1_0 a1_1).bind fun t660=>(if t660=true then ((c2_Right.f k a2_0 a2_1).bind fun t661=>(l2_RatOrdered.j0 k (!t661) a0_0 a0_1 a1_0 a1_1 a2_0 a2_1)) else (l2_RatOrdered.j0 k true a0_0 a0_1 a1_0 a1_1 a2_0 a2_1)))=some r:=by rw [if_pos rfl] at H; exact H
   clear H
   have H:=H1
   clear H1
   replace H:=Option.bind_eq_some_iff.mp H
   obtain ⟨t660,A100,H⟩:=H
   replace H:(if t660=true then ((c2_Right.f k a2_0 a2_1).bind fun t661=>(l2_RatOrdered.j0 k (!t661) a0_0 a0_1 a1_0 a1_1 a2_0 a2_1)) else (l2_RatOrdered.j0 k true a0_0 a0_1 a1_0 a1_1 a2_0 a2_1))=some r:=H
   have A10:=Aside0.mk A100
   clear A100
   by_cases c11:t660=true
   ·subst c11
    have H1:((c2_Right.f k a2_0 a2_1).bind fun t661=>(l2_RatOrdered.j0 k (!t661) a0_0 a0_1 a1_0 a1_1 a2_0 a2_1))=some r:=by rw [if_pos rfl] at H; exact H
    clear H
    have H:=H1
    clear H1
    replace H:=Option.bind_eq_some_iff.mp H
    obtain ⟨t661,A120,H⟩:=H
    replace H:(l2_RatOrdered.j0 k (!t661) a0_0 a0_1 a1_0 a1_1 a2_0 a2_1)=some r:=H
    have A12:=Aside0.mk A120
    clear A120
    have H':=Aside0.mk H
    clear H
    have hnb13:=NB656_657.out
    have hnc13:=NB657_656.out
    have hnb14:=NB656_658.out
    have hnc14:=NB658_656.out
    have hcz15_0:w7.cell? ⟨gb656,0,none⟩=some (.string a0_0):=(zaj BK656.out 0).trans rfl
    have hcz15_1:w7.cell? ⟨gb656,1,none⟩=some (.string a0_1):=(zaj BK656.out 1).trans rfl
    have hfz15_0:=zae BK656.out 0
    have hfz15_1:=zae BK656.out 1
    go_wp2_with (first|((with_reducible refine zat (f:=36) rfl ?_); refine zaU (some 22) rfl rfl Tryz.func36 (by kernel_rfl) rfl #[.agg #[.string a0_0,.string a0_1]] rfl (by (try simp only [List.map_toArray,List.map_cons,List.map_nil]); first|done|rfl|(simp only [List.length_drop,List.length_take]; rfl)) ?_; (with_reducible refine (c2_Right.calls k a0_0 a0_1 true _ A8.out).mono ?_); rintro e w16 ⟨rfl,hb⟩; refine ⟨_,rfl,?_⟩; have n0_:=Aside0.mk (zak (g:=gb656) (o:=.cells #[.string a0_0,.string a0_1] 23 (0,0)) (by (with_reducible repeat (first|refine zag ?_ _|refine zai ?_|refine zah ?_ _)); exact BK656.out) hb); have n1_:=Aside0.mk (zak (g:=gb657) (o:=.cells #[.string a1_0,.string a1_1] 23 (0,0)) (by (with_reducible repeat (first|refine zag ?_ _|refine zai ?_|refine zah ?_ _)); exact BK657.out) hb); have n2_:=Aside0.mk (zak (g:=gb658) (o:=.cells #[.string a2_0,.string a2_1] 23 (0,0)) (by (with_reducible repeat (first|refine zag ?_ _|refine zai ?_|refine zah ?_ _)); exact BK658.out) hb); have n3_:=Aside0.mk (zan (by repeat (first|(with_reducible first|exact HB.out|apply zaa|apply zab|apply zaf|refine zad ?_ GE656.out|refine zad ?_ GE657.out|refine zad ?_ GE658.out)|exact HB.out)) hb); clear BK656; clear BK657; clear BK658; clear HB; have BK656:=n0_; have BK657:=n1_; have BK658:=n2_; have HB:=n3_; clear n0_ n1_ n2_ n3_; (try clear hb); (try clear hb2); (try clear hk); (try clear hi); have hnb17:=NB657_658.out; have hnc17:=NB658_657.out; have hcz18_0:w16.cell? ⟨gb657,0,none⟩=some (.string a1_0):=(zaj BK657.out 0).trans rfl; have hcz18_1:w16.cell? ⟨gb657,1,none⟩=some (.string a1_1):=(zaj BK657.out 1).trans rfl; have hfz18_0:=zae BK657.out 0; have hfz18_1:=zae BK657.out 1)|(go_at_call 36; (with_reducible refine (c2_Right.calls k a1_0 a1_1 true _ A10.out).mono ?_); rintro e w19 ⟨rfl,hb⟩; have n0_:=Aside0.mk (zak (g:=gb656) (o:=.cells #[.string a0_0,.string a0_1] 23 (0,0)) (by (with_reducible repeat (first|refine zag ?_ _|refine zai ?_|refine zah ?_ _)); exact BK656.out) hb); have n1_:=Aside0.mk (zak (g:=gb657) (o:=.cells #[.string a1_0,.string a1_1] 23 (0,0)) (by (with_reducible repeat (first|refine zag ?_ _|refine zai ?_|refine zah ?_ _)); exact BK657.out) hb); have n2_:=Aside0.mk (zak (g:=gb658) (o:=.cells #[.string a2_0,.string a2_1] 23 (0,0)) (by (with_reducible repeat (first|refine zag ?_ _|refine zai ?_|refine zah ?_ _)); exact BK658.out) hb); have n3_:=Aside0.mk (zan (by repeat (first|(with_reducible first|exact HB.out|apply zaa|apply zab|apply zaf|refine zad ?_ GE656.out|refine zad ?_ GE657.out|refine zad ?_ GE658.out)|exact HB.out)) hb); clear BK656; clear BK657; clear BK658; clear HB; have BK656:=n0_; have BK657:=n1_; have BK658:=n2_; have HB:=n3_; clear n0_ n1_ n2_ n3_; (try clear hb); (try clear hb2); (try clear hk); (try clear hi); have hcz20_0:w19.cell? ⟨gb658,0,none⟩=some (.string a2_0):=(zaj BK658.out 0).trans rfl; have hcz20_1:w19.cell? ⟨gb658,1,none⟩=some (.string a2_1):=(zaj BK658.out 1).trans rfl; have hfz20_0:=zae BK658.out 0; have hfz20_1:=zae BK658.out 1)|(go_at_call 36; (with_reducible refine (c2_Right.calls k a2_0 a2_1 t661 _ A12.out).mono ?_); rintro e w21 ⟨rfl,hb⟩; have n0_:=Aside0.mk (zak (g:=gb656) (o:=.cells #[.string a0_0,.string a0_1] 23 (0,0)) (by (with_reducible repeat (first|refine zag ?_ _|refine zai ?_|refine zah ?_ _)); exact BK656.out) hb); have n1_:=Aside0.mk (zak (g:=gb657) (o:=.cells #[.string a1_0,.string a1_1] 23 (0,0)) (by (with_reducible repeat (first|refine zag ?_ _|refine zai ?_|refine zah ?_ _)); exact BK657.out) hb); have n2_:=Aside0.mk (zak (g:=gb658) (o:=.cells #[.string a2_0,.string a2_1] 23 (0,0)) (by (with_reducible repeat (first|refine zag ?_ _|refine zai ?_|refine zah ?_ _)); exact BK658.out) hb); have n3_:=Aside0.mk (zan (by repeat (first|(with_reducible first|exact HB.out|apply zaa|apply zab|apply zaf|refine zad ?_ GE656.out|refine zad ?_ GE657.out|refine zad ?_ GE658.out)|exact HB.out)) hb); clear BK656; clear BK657; clear BK658; clear HB; have BK656:=n0_; have BK657:=n1_; have BK658:=n2_; have HB:=n3_; clear n0_ n1_ n2_ n3_; (try clear hb); (try clear hb2); (try clear hk); (try clear hi)))
    go_meet
    case rel=>exact ⟨_,(!t661),(by first|rfl|(simp; done)|(simp [*]; done)),H',⟨by first|omega|exact Nat.le_refl _⟩,⟨by (with_reducible repeat (first|refine zag ?_ _|refine zai ?_|refine zah ?_ _)); exact BK656.out⟩,⟨by (with_reducible repeat (first|refine zag ?_ _|refine zai ?_|refine zah ?_ _)); exact BK657.out⟩,⟨by (with_reducible repeat (first|refine zag ?_ _|refine zai ?_|refine zah ?_ _)); exact BK658.out⟩,⟨by repeat (first|(with_reducible first|exact HB.out|apply zaa|apply zab|apply zaf|refine zad ?_ GE656.out|refine zad ?_ GE657.out|refine zad ?_ GE658.out)|exact HB.out)⟩⟩
   ·replace c11:=Bool.eq_false_iff.mpr c11
    subst c11
    have H1:(l2_RatOrdered.j0 k true a0_0 a0_1 a1_0 a1_1 a2_0 a2_1)=some r:=by rw [if_neg (show ¬ (false=true) by decide)] at H; exact H
    clear H
    have H:=H1
    clear H1
    have H':=Aside0.mk H
    clear H
    have hnb22:=NB656_657.out
    have hnc22:=NB657_656.out
    have hnb23:=NB656_658.out
    have hnc23:=NB658_656.out
    have hcz24_0:w7.cell? ⟨gb656,0,none⟩=some (.string a0_0):=(zaj BK656.out 0).trans rfl
    have hcz24_1:w7.cell? ⟨gb656,1,none⟩=some (.string a0_1):=(zaj BK656.out 1).trans rfl
    have hfz24_0:=zae BK656.out 0
    have hfz24_1:=zae BK656.out 1
    go_wp2_with (first|((with_reducible refine zat (f:=36) rfl ?_); refine zaU (some 22) rfl rfl Tryz.func36 (by kernel_rfl) rfl #[.agg #[.string a0_0,.string a0_1]] rfl (by (try simp only [List.map_toArray,List.map_cons,List.map_nil]); first|done|rfl|(simp only [List.length_drop,List.length_take]; rfl)) ?_; (with_reducible refine (c2_Right.calls k a0_0 a0_1 true _ A8.out).mono ?_); rintro e w25 ⟨rfl,hb⟩; refine ⟨_,rfl,?_⟩; have n0_:=Aside0.mk (zak (g:=gb656) (o:=.cells #[.string a0_0,.string a0_1] 23 (0,0)) (by (with_reducible repeat (first|refine zag ?_ _|refine zai ?_|refine zah ?_ _)); exact BK656.out) hb); have n1_:=Aside0.mk (zak (g:=gb657) (o:=.cells #[.string a1_0,.string a1_1] 23 (0,0)) (by (with_reducible repeat (first|refine zag ?_ _|refine zai ?_|refine zah ?_ _)); exact BK657.out) hb); have n2_:=Aside0.mk (zak (g:=gb658) (o:=.cells #[.string a2_0,.string a2_1] 23 (0,0)) (by (with_reducible repeat (first|refine zag ?_ _|refine zai ?_|refine zah ?_ _)); exact BK658.out) hb); have n3_:=Aside0.mk (zan (by repeat (first|(with_reducible first|exact HB.out|apply zaa|apply zab|apply zaf|refine zad ?_ GE656.out|refine zad ?_ GE657.out|refine zad ?_ GE658.out)|exact HB.out)) hb); clear BK656; clear BK657; clear BK658; clear HB; have BK656:=n0_; have BK657:=n1_; have BK658:=n2_; have HB:=n3_; clear n0_ n1_ n2_ n3_; (try clear hb); (try clear hb2); (try clear hk); (try clear hi); have hnb26:=NB657_658.out; have hnc26:=NB658_657.out; have hcz27_0:w25.cell? ⟨gb657,0,none⟩=some (.string a1_0):=(zaj BK657.out 0).trans rfl; have hcz27_1:w25.cell? ⟨gb657,1,none⟩=some (.string a1_1):=(zaj BK657.out 1).trans rfl; have hfz27_0:=zae BK657.out 0; have hfz27_1:=zae BK657.out 1)|(go_at_call 36; (with_reducible refine (c2_Right.calls k a1_0 a1_1 false _ A10.out).mono ?_); rintro e w28 ⟨rfl,hb⟩; have n0_:=Aside0.mk (zak (g:=gb656) (o:=.cells #[.string a0_0,.string a0_1] 23 (0,0)) (by (with_reducible repeat (first|refine zag ?_ _|refine zai ?_|refine zah ?_ _)); exact BK656.out) hb); have n1_:=Aside0.mk (zak (g:=gb657) (o:=.cells #[.string a1_0,.string a1_1] 23 (0,0)) (by (with_reducible repeat (first|refine zag ?_ _|refine zai ?_|refine zah ?_ _)); exact BK657.out) hb); have n2_:=Aside0.mk (zak (g:=gb658) (o:=.cells #[.string a2_0,.string a2_1] 23 (0,0)) (by (with_reducible repeat (first|refine zag ?_ _|refine zai ?_|refine zah ?_ _)); exact BK658.out) hb); have n3_:=Aside0.mk (zan (by repeat (first|(with_reducible first|exact HB.out|apply zaa|apply zab|apply zaf|refine zad ?_ GE656.out|refine zad ?_ GE657.out|refine zad ?_ GE658.out)|exact HB.out)) hb); clear BK656; clear BK657; clear BK658; clear HB; have BK656:=n0_; have BK657:=n1_; have BK658:=n2_; have HB:=n3_; clear n0_ n1_ n2_ n3_; (try clear hb); (try clear hb2); (try clear hk); (try clear hi)))
    go_meet
    case rel=>exact ⟨_,(true),(by first|rfl|(simp; done)|(simp [*]; done)),H',⟨by first|omega|exact Nat.le_refl _⟩,⟨by (with_reducible repeat (first|refine zag ?_ _|refine zai ?_|refine zah ?_ _)); exact BK656.out⟩,⟨by (with_reducible repeat (first|refine zag ?_ _|refine zai ?_|refine zah ?_ _)); exact BK657.out⟩,⟨by (with_reducible repeat (first|refine zag ?_ _|refine zai ?_|refine zah ?_ _)); exact BK658.out⟩,⟨by repeat (first|(with_reducible first|exact HB.out|apply zaa|apply zab|apply zaf|refine zad ?_ GE656.out|refine zad ?_ GE657.out|refine zad ?_ GE658.out)|exact HB.out)⟩⟩
  ·replace c9:=Bool.eq_false_iff.mpr c9
   subst c9
   have H1:(l2_RatOrdered.j0 k true a0_0 a0_1 a1_0 a1_1 a2_0 a2_1)=some r:=by rw [if_neg (show ¬ (false=true) by decide)] at H; exact H
   clear H
   have H:=H1
   clear H1
   have H':=Aside0.mk H
   clear H
   have hnb29:=NB656_657.out
   have hnc29:=NB657_656.out
   have hnb30:=NB656_658.out
   have hnc30:=NB658_656.out
   have hcz31_0:w7.cell? ⟨gb656,0,none⟩=some (.string a0_0):=(zaj BK656.out 0).trans rfl
   have hcz31_1:w7.cell? ⟨gb656,1,none⟩=some (.string a0_1):=(zaj BK656.out 1).trans rfl
   have hfz31_0:=zae BK656.out 0
   have hfz31_1:=zae BK656.out 1
   go_wp2_with (first|((with_reducible refine zat (f:=36) rfl ?_); refine zaU (some 22) rfl rfl Tryz.func36 (by kernel_rfl) rfl #[.agg #[.string a0_0,.string a0_1]] rfl (by (try simp only [List.map_toArray,List.map_cons,List.map_nil]); first|done|rfl|(simp only [List.length_drop,List.length_take]; rfl)) ?_; (with_reducible refine (c2_Right.calls k a0_0 a0_1 false _ A8.out).mono ?_); rintro e w32 ⟨rfl,hb⟩; refine ⟨_,rfl,?_⟩; have n0_:=Aside0.mk (zak (g:=gb656) (o:=.cells #[.string a0_0,.string a0_1] 23 (0,0)) (by (with_reducible repeat (first|refine zag ?_ _|refine zai ?_|refine zah ?_ _)); exact BK656.out) hb); have n1_:=Aside0.mk (zak (g:=gb657) (o:=.cells #[.string a1_0,.string a1_1] 23 (0,0)) (by (with_reducible repeat (first|refine zag ?_ _|refine zai ?_|refine zah ?_ _)); exact BK657.out) hb); have n2_:=Aside0.mk (zak (g:=gb658) (o:=.cells #[.string a2_0,.string a2_1] 23 (0,0)) (by (with_reducible repeat (first|refine zag ?_ _|refine zai ?_|refine zah ?_ _)); exact BK658.out) hb); have n3_:=Aside0.mk (zan (by repeat (first|(with_reducible first|exact HB.out|apply zaa|apply zab|apply zaf|refine zad ?_ GE656.out|refine zad ?_ GE657.out|refine zad ?_ GE658.out)|exact HB.out)) hb); clear BK656; clear BK657; clear BK658; clear HB; have BK656:=n0_; have BK657:=n1_; have BK658:=n2_; have HB:=n3_; clear n0_ n1_ n2_ n3_; (try clear hb); (try clear hb2); (try clear hk); (try clear hi)))
   go_meet
   case rel=>exact ⟨_,(true),(by first|rfl|(simp; done)|(simp [*]; done)),H',⟨by first|omega|exact Nat.le_refl _⟩,⟨by (with_reducible repeat (first|refine zag ?_ _|refine zai ?_|refine zah ?_ _)); exact BK656.out⟩,⟨by (with_reducible repeat (first|refine zag ?_ _|refine zai ?_|refine zah ?_ _)); exact BK657.out⟩,⟨by (with_reducible repeat (first|refine zag ?_ _|refine zai ?_|refine zah ?_ _)); exact BK658.out⟩,⟨by repeat (first|(with_reducible first|exact HB.out|apply zaa|apply zab|apply zaf|refine zad ?_ GE656.out|refine zad ?_ GE657.out|refine zad ?_ GE658.out)|exact HB.out)⟩⟩
 case rest =>
  clear HC4
  try clear c1
  try clear c2
  try clear p2
  try clear c3
  try clear c8
  try clear c9
  try clear c11
  try clear c13
  try clear c14
  try clear c17
  try clear c22
  try clear c23
  try clear c26
  try clear c29
  try clear c30
  try clear hcz15_0
  try clear hcz15_1
  try clear hcz18_0
  try clear hcz18_1
  try clear hcz20_0
  try clear hcz20_1
  try clear hcz24_0
  try clear hcz24_1
  try clear hcz27_0
  try clear hcz27_1
  try clear hcz31_0
  try clear hcz31_1
  try clear hfz15_0
  try clear hfz15_1
  try clear hfz18_0
  try clear hfz18_1
  try clear hfz20_0
  try clear hfz20_1
  try clear hfz24_0
  try clear hfz24_1
  try clear hfz27_0
  try clear hfz27_1
  try clear hfz31_0
  try clear hfz31_1
  obtain ⟨kq,x33_3,rfl,HA,HJ3,BK656,BK657,BK658,HB⟩:=hcut
  cases kq with
  | zero=>exact absurd HA.out (by simp [l2_RatOrdered.j0])
  | succ kj3 =>
   have H:=HA.out
   clear HA
   simp only [l2_RatOrdered.j0] at H
   by_cases c33:x33_3=true
   ·subst c33
    have H1:((l2_awake.f).bind fun t662=>(some t662))=some r:=by rw [if_pos rfl] at H; exact H
    clear H
    have H:=H1
    clear H1
    replace H:=Option.bind_eq_some_iff.mp H
    obtain ⟨t662,A340,H⟩:=H
    replace H:(some t662)=some r:=H
    have A34:=Aside0.mk A340
    clear A340
    obtain rfl:=Option.some.inj H; clear hr
    go_wp2_with (first|((with_reducible refine zat (f:=32) rfl ?_); refine zaU (some 34) rfl rfl Tryz.func32 (by kernel_rfl) rfl #[] rfl (by (try simp only [List.map_toArray,List.map_cons,List.map_nil]); first|done|rfl|(simp only [List.length_drop,List.length_take]; rfl)) ?_; (with_reducible refine (zct  t662 _ A34.out).mono ?_); rintro e w35 ⟨rfl,hb⟩; refine ⟨_,rfl,?_⟩; have n0_:=Aside0.mk (zak (g:=gb656) (o:=.cells #[.string a0_0,.string a0_1] 23 (0,0)) (by (with_reducible repeat (first|refine zag ?_ _|refine zai ?_|refine zah ?_ _)); exact BK656.out) hb); have n1_:=Aside0.mk (zak (g:=gb657) (o:=.cells #[.string a1_0,.string a1_1] 23 (0,0)) (by (with_reducible repeat (first|refine zag ?_ _|refine zai ?_|refine zah ?_ _)); exact BK657.out) hb); have n2_:=Aside0.mk (zak (g:=gb658) (o:=.cells #[.string a2_0,.string a2_1] 23 (0,0)) (by (with_reducible repeat (first|refine zag ?_ _|refine zai ?_|refine zah ?_ _)); exact BK658.out) hb); have n3_:=Aside0.mk (zan (by repeat (first|(with_reducible first|exact HB.out|apply zaa|apply zab|apply zaf|refine zad ?_ GE656.out|refine zad ?_ GE657.out|refine zad ?_ GE658.out)|exact HB.out)) hb); clear BK656; clear BK657; clear BK658; clear HB; have BK656:=n0_; have BK657:=n1_; have BK658:=n2_; have HB:=n3_; clear n0_ n1_ n2_ n3_; (try clear hb); (try clear hb2); (try clear hk); (try clear hi)))
    go_ret
    exact ⟨by first|rfl|(simp [zam,zal]<;>rfl)|(simp [*,zam,zal]<;>rfl),by repeat (first|(with_reducible first|exact HB.out|apply zaa|apply zab|apply zaf|refine zad ?_ GE656.out|refine zad ?_ GE657.out|refine zad ?_ GE658.out)|exact HB.out)⟩
   ·replace c33:=Bool.eq_false_iff.mpr c33
    subst c33
    have H1:((rat_Cmp.f a0_0 a0_1 a1_0 a1_1).bind fun bt663=>((rat_Cmp.f a1_0 a1_1 a0_0 a0_1).bind fun bt665=>(if bt663.2=0 then (if bt665.2=0 then (if bt663.1=(wrap64 (-bt665.1)) then (if bt663.1<(-1) then (l2_RatOrdered.j1 kj3 bt663.1 true a0_0 a0_1 a1_0 a1_1 a2_0 a2_1) else (if bt663.1>1 then (l2_RatOrdered.j1 kj3 bt663.1 true a0_0 a0_1 a1_0 a1_1 a2_0 a2_1) else (l2_RatOrdered.j1 kj3 bt663.1 ((bt663.1 == 0) != (a0_0.toList == a1_0.toList && (a0_1.toList == a1_1.toList))) a0_0 a0_1 a1_0 a1_1 a2_0 a2_1))) else (l2_RatOrdered.j1 kj3 bt663.1 true a0_0 a0_1 a1_0 a1_1 a2_0 a2_1)) else (l2_RatOrdered.j1 kj3 bt663.1 true a0_0 a0_1 a1_0 a1_1 a2_0 a2_1)) else (l2_RatOrdered.j1 kj3 bt663.1 true a0_0 a0_1 a1_0 a1_1 a2_0 a2_1))))=some r:=by rw [if_neg (show ¬ (false=true) by decide)] at H; exact H
    clear H
    have H:=H1
    clear H1
    replace H:=Option.bind_eq_some_iff.mp H
    obtain ⟨⟨t663,t664⟩,A360,H⟩:=H
    replace H:((rat_Cmp.f a1_0 a1_1 a0_0 a0_1).bind fun bt665=>(if t664=0 then (if bt665.2=0 then (if t663=(wrap64 (-bt665.1)) then (if t663<(-1) then (l2_RatOrdered.j1 kj3 t663 true a0_0 a0_1 a1_0 a1_1 a2_0 a2_1) else (if t663>1 then (l2_RatOrdered.j1 kj3 t663 true a0_0 a0_1 a1_0 a1_1 a2_0 a2_1) else (l2_RatOrdered.j1 kj3 t663 ((t663 == 0) != (a0_0.toList == a1_0.toList && (a0_1.toList == a1_1.toList))) a0_0 a0_1 a1_0 a1_1 a2_0 a2_1))) else (l2_RatOrdered.j1 kj3 t663 true a0_0 a0_1 a1_0 a1_1 a2_0 a2_1)) else (l2_RatOrdered.j1 kj3 t663 true a0_0 a0_1 a1_0 a1_1 a2_0 a2_1)) else (l2_RatOrdered.j1 kj3 t663 true a0_0 a0_1 a1_0 a1_1 a2_0 a2_1)))=some r:=H
    have A36:=Aside0.mk A360
    clear A360
    replace H:=Option.bind_eq_some_iff.mp H
    obtain ⟨⟨t665,t666⟩,A370,H⟩:=H
    replace H:(if t664=0 then (if t666=0 then (if t663=(wrap64 (-t665)) then (if t663<(-1) then (l2_RatOrdered.j1 kj3 t663 true a0_0 a0_1 a1_0 a1_1 a2_0 a2_1) else (if t663>1 then (l2_RatOrdered.j1 kj3 t663 true a0_0 a0_1 a1_0 a1_1 a2_0 a2_1) else (l2_RatOrdered.j1 kj3 t663 ((t663 == 0) != (a0_0.toList == a1_0.toList && (a0_1.toList == a1_1.toList))) a0_0 a0_1 a1_0 a1_1 a2_0 a2_1))) else (l2_RatOrdered.j1 kj3 t663 true a0_0 a0_1 a1_0 a1_1 a2_0 a2_1)) else (l2_RatOrdered.j1 kj3 t663 true a0_0 a0_1 a1_0 a1_1 a2_0 a2_1)) else (l2_RatOrdered.j1 kj3 t663 true a0_0 a0_1 a1_0 a1_1 a2_0 a2_1))=some r:=H
    have A37:=Aside0.mk A370
    clear A370
    have HC38:=Aside0.mk H
    clear H
    have hnb39:=NB656_657.out
    have hnc39:=NB657_656.out
    have hnb40:=NB656_658.out
    have hnc40:=NB658_656.out
    have hcz41_0:wc.cell? ⟨gb656,0,none⟩=some (.string a0_0):=(zaj BK656.out 0).trans rfl
    have hcz41_1:wc.cell? ⟨gb656,1,none⟩=some (.string a0_1):=(zaj BK656.out 1).trans rfl
    have hfz41_0:=zae BK656.out 0
    have hfz41_1:=zae BK656.out 1
    have hnb42:=NB657_658.out
    have hnc42:=NB658_657.out
    have hcz43_0:wc.cell? ⟨gb657,0,none⟩=some (.string a1_0):=(zaj BK657.out 0).trans rfl
    have hcz43_1:wc.cell? ⟨gb657,1,none⟩=some (.string a1_1):=(zaj BK657.out 1).trans rfl
    have hfz43_0:=zae BK657.out 0
    have hfz43_1:=zae BK657.out 1
    go_upto_region 5 with (first|((with_reducible refine zat (f:=43) rfl ?_); refine zaU (some 38) rfl rfl Tryz.func43 (by kernel_rfl) rfl #[.agg #[.string a0_0,.string a0_1],.agg #[.string a1_0,.string a1_1]] rfl (by (try simp only [List.map_toArray,List.map_cons,List.map_nil]); first|done|rfl|(simp only [List.length_drop,List.length_take]; rfl)) ?_; (with_reducible refine (rat_Cmp.calls a0_0 a0_1 a1_0 a1_1 t663 t664 _ A36.out).mono ?_); rintro e w44 ⟨rfl,hb⟩; refine ⟨_,rfl,?_⟩; have n0_:=Aside0.mk (zak (g:=gb656) (o:=.cells #[.string a0_0,.string a0_1] 23 (0,0)) (by (with_reducible repeat (first|refine zag ?_ _|refine zai ?_|refine zah ?_ _)); exact BK656.out) hb); have n1_:=Aside0.mk (zak (g:=gb657) (o:=.cells #[.string a1_0,.string a1_1] 23 (0,0)) (by (with_reducible repeat (first|refine zag ?_ _|refine zai ?_|refine zah ?_ _)); exact BK657.out) hb); have n2_:=Aside0.mk (zak (g:=gb658) (o:=.cells #[.string a2_0,.string a2_1] 23 (0,0)) (by (with_reducible repeat (first|refine zag ?_ _|refine zai ?_|refine zah ?_ _)); exact BK658.out) hb); have n3_:=Aside0.mk (zan (by repeat (first|(with_reducible first|exact HB.out|apply zaa|apply zab|apply zaf|refine zad ?_ GE656.out|refine zad ?_ GE657.out|refine zad ?_ GE658.out)|exact HB.out)) hb); clear BK656; clear BK657; clear BK658; clear HB; have BK656:=n0_; have BK657:=n1_; have BK658:=n2_; have HB:=n3_; clear n0_ n1_ n2_ n3_; (try clear hb); (try clear hb2); (try clear hk); (try clear hi); have hcz45_0:w44.cell? ⟨gb657,0,none⟩=some (.string a1_0):=(zaj BK657.out 0).trans rfl; have hcz45_1:w44.cell? ⟨gb657,1,none⟩=some (.string a1_1):=(zaj BK657.out 1).trans rfl; have hfz45_0:=zae BK657.out 0; have hfz45_1:=zae BK657.out 1; have hcz46_0:w44.cell? ⟨gb656,0,none⟩=some (.string a0_0):=(zaj BK656.out 0).trans rfl; have hcz46_1:w44.cell? ⟨gb656,1,none⟩=some (.string a0_1):=(zaj BK656.out 1).trans rfl; have hfz46_0:=zae BK656.out 0; have hfz46_1:=zae BK656.out 1)|((with_reducible refine zat (f:=43) rfl ?_); refine zaU (some 44) rfl rfl Tryz.func43 (by kernel_rfl) rfl #[.agg #[.string a1_0,.string a1_1],.agg #[.string a0_0,.string a0_1]] rfl (by (try simp only [List.map_toArray,List.map_cons,List.map_nil]); first|done|rfl|(simp only [List.length_drop,List.length_take]; rfl)) ?_; (with_reducible refine (rat_Cmp.calls a1_0 a1_1 a0_0 a0_1 t665 t666 _ A37.out).mono ?_); rintro e w47 ⟨rfl,hb⟩; refine ⟨_,rfl,?_⟩; have n0_:=Aside0.mk (zak (g:=gb656) (o:=.cells #[.string a0_0,.string a0_1] 23 (0,0)) (by (with_reducible repeat (first|refine zag ?_ _|refine zai ?_|refine zah ?_ _)); exact BK656.out) hb); have n1_:=Aside0.mk (zak (g:=gb657) (o:=.cells #[.string a1_0,.string a1_1] 23 (0,0)) (by (with_reducible repeat (first|refine zag ?_ _|refine zai ?_|refine zah ?_ _)); exact BK657.out) hb); have n2_:=Aside0.mk (zak (g:=gb658) (o:=.cells #[.string a2_0,.string a2_1] 23 (0,0)) (by (with_reducible repeat (first|refine zag ?_ _|refine zai ?_|refine zah ?_ _)); exact BK658.out) hb); have n3_:=Aside0.mk (zan (by repeat (first|(with_reducible first|exact HB.out|apply zaa|apply zab|apply zaf|refine zad ?_ GE656.out|refine zad ?_ GE657.out|refine zad ?_ GE658.out)|exact HB.out)) hb); clear BK656; clear BK657; clear BK658; clear HB; have BK656:=n0_; have BK657:=n1_; have BK658:=n2_; have HB:=n3_; clear n0_ n1_ n2_ n3_; (try clear hb); (try clear hb2); (try clear hk); (try clear hi)))
    (try simp only [Act.put,List.setIfInBounds_toArray,List.set_cons_zero,List.set_cons_succ])
    go_cut [74] (fun v74 wc=>∃ (kq:Nat) (x74_37:Bool),v74 = .bool x74_37∧Aside0 (l2_RatOrdered.j1 kq t663 x74_37 a0_0 a0_1 a1_0 a1_1 a2_0 a2_1=some r)∧Aside0 (kq≤kj3)∧Aside0 (wc.heap[gb656]? = some (.cells #[.string a0_0,.string a0_1] 23 (0,0)))∧Aside0 (wc.heap[gb657]? = some (.cells #[.string a1_0,.string a1_1] 23 (0,0)))∧Aside0 (wc.heap[gb658]? = some (.cells #[.string a2_0,.string a2_1] 23 (0,0)))∧Aside0 (Below w.heap.size w wc))
    case first =>
     have H:=HC38.out
     clear HC38
     by_cases c48:t664=0
     ·rw [if_pos c48] at H
      have c48b0:(t664 == 0)=true:=beq_iff_eq.mpr c48
      have c48b1:(t664 != 0)=false:=bne_eq_false_iff_eq.mpr c48
      clear c48
      (first|rw [c48b0]|(simp only [i64_w,i32_w]; rw [c48b0])|skip)
      by_cases c49:t666=0
      ·rw [if_pos c49] at H
       have c49b0:(t666 == 0)=true:=beq_iff_eq.mpr c49
       have c49b1:(t666 != 0)=false:=bne_eq_false_iff_eq.mpr c49
       clear c49
       by_cases c50:t663=(wrap64 (-t665))
       ·rw [if_pos c50] at H
        have c50b0:(t663 == (wrap64 (-t665)))=true:=beq_iff_eq.mpr c50
        have c50b1:(t663 != (wrap64 (-t665)))=false:=bne_eq_false_iff_eq.mpr c50
        clear c50
        by_cases c51:t663<(-1)
        ·rw [if_pos c51] at H
         have c51b0:decide (t663<(-1))=true:=decide_eq_true c51
         clear c51
         have H':=Aside0.mk H
         clear H
         go_wp2
         go_meet
         case rel=>exact ⟨_,(true),(by first|rfl|(simp; done)|(simp [*]; done)),H',⟨by have:=HJ3.out; first|omega|exact Nat.le_refl _⟩,⟨by (with_reducible repeat (first|refine zag ?_ _|refine zai ?_|refine zah ?_ _)); exact BK656.out⟩,⟨by (with_reducible repeat (first|refine zag ?_ _|refine zai ?_|refine zah ?_ _)); exact BK657.out⟩,⟨by (with_reducible repeat (first|refine zag ?_ _|refine zai ?_|refine zah ?_ _)); exact BK658.out⟩,⟨by repeat (first|(with_reducible first|exact HB.out|apply zaa|apply zab|apply zaf|refine zad ?_ GE656.out|refine zad ?_ GE657.out|refine zad ?_ GE658.out)|exact HB.out)⟩⟩
        ·rw [if_neg c51] at H
         have c51b0:decide (t663<(-1))=false:=decide_eq_false c51
         clear c51
         by_cases c52:t663>1
         ·rw [if_pos c52] at H
          have c52b0:decide (1<t663)=true:=decide_eq_true c52
          clear c52
          have H':=Aside0.mk H
          clear H
          go_wp2
          go_meet
          case rel=>exact ⟨_,(true),(by first|rfl|(simp; done)|(simp [*]; done)),H',⟨by have:=HJ3.out; first|omega|exact Nat.le_refl _⟩,⟨by (with_reducible repeat (first|refine zag ?_ _|refine zai ?_|refine zah ?_ _)); exact BK656.out⟩,⟨by (with_reducible repeat (first|refine zag ?_ _|refine zai ?_|refine zah ?_ _)); exact BK657.out⟩,⟨by (with_reducible repeat (first|refine zag ?_ _|refine zai ?_|refine zah ?_ _)); exact BK658.out⟩,⟨by repeat (first|(with_reducible first|exact HB.out|apply zaa|apply zab|apply zaf|refine zad ?_ GE656.out|refine zad ?_ GE657.out|refine zad ?_ GE658.out)|exact HB.out)⟩⟩
         ·rw [if_neg c52] at H
          have c52b0:decide (1<t663)=false:=decide_eq_false c52
          clear c52
          have H':=Aside0.mk H
          clear H
          have hnb53:=NB656_657.out
          have hnc53:=NB657_656.out
          have hnb54:=NB656_658.out
          have hnc54:=NB658_656.out
          have hcz55_0:w47.cell? ⟨gb656,0,none⟩=some (.string a0_0):=(zaj BK656.out 0).trans rfl
          have hcz55_1:w47.cell? ⟨gb656,1,none⟩=some (.string a0_1):=(zaj BK656.out 1).trans rfl
          have hfz55_0:=zae BK656.out 0
          have hfz55_1:=zae BK656.out 1
          have hnb56:=NB657_658.out
          have hnc56:=NB658_657.out
          have hcz57_0:w47.cell? ⟨gb657,0,none⟩=some (.string a1_0):=(zaj BK657.out 0).trans rfl
          have hcz57_1:w47.cell? ⟨gb657,1,none⟩=some (.string a1_1):=(zaj BK657.out 1).trans rfl
          have hfz57_0:=zae BK657.out 0
          have hfz57_1:=zae BK657.out 1
          go_wp2
          go_meet
          case rel=>exact ⟨_,(((t663 == 0) != (a0_0.toList == a1_0.toList && (a0_1.toList == a1_1.toList)))),(by first|rfl|(simp; done)|(simp [*]; done)),H',⟨by have:=HJ3.out; first|omega|exact Nat.le_refl _⟩,⟨by (with_reducible repeat (first|refine zag ?_ _|refine zai ?_|refine zah ?_ _)); exact BK656.out⟩,⟨by (with_reducible repeat (first|refine zag ?_ _|refine zai ?_|refine zah ?_ _)); exact BK657.out⟩,⟨by (with_reducible repeat (first|refine zag ?_ _|refine zai ?_|refine zah ?_ _)); exact BK658.out⟩,⟨by repeat (first|(with_reducible first|exact HB.out|apply zaa|apply zab|apply zaf|refine zad ?_ GE656.out|refine zad ?_ GE657.out|refine zad ?_ GE658.out)|exact HB.out)⟩⟩
       ·rw [if_neg c50] at H
        have c50b0:(t663 == (wrap64 (-t665)))=false:=beq_eq_false_iff_ne.mpr c50
        have c50b1:(t663 != (wrap64 (-t665)))=true:=bne_iff_ne.mpr c50
        have H':=Aside0.mk H
        clear H
        go_wp2
        go_meet
        case rel=>exact ⟨_,(true),(by first|rfl|(simp; done)|(simp [*]; done)),H',⟨by have:=HJ3.out; first|omega|exact Nat.le_refl _⟩,⟨by (with_reducible repeat (first|refine zag ?_ _|refine zai ?_|refine zah ?_ _)); exact BK656.out⟩,⟨by (with_reducible repeat (first|refine zag ?_ _|refine zai ?_|refine zah ?_ _)); exact BK657.out⟩,⟨by (with_reducible repeat (first|refine zag ?_ _|refine zai ?_|refine zah ?_ _)); exact BK658.out⟩,⟨by repeat (first|(with_reducible first|exact HB.out|apply zaa|apply zab|apply zaf|refine zad ?_ GE656.out|refine zad ?_ GE657.out|refine zad ?_ GE658.out)|exact HB.out)⟩⟩
      ·rw [if_neg c49] at H
       have c49b0:(t666 == 0)=false:=beq_eq_false_iff_ne.mpr c49
       have c49b1:(t666 != 0)=true:=bne_iff_ne.mpr c49
       have H':=Aside0.mk H
       clear H
       go_wp2
       go_meet
       case rel=>exact ⟨_,(true),(by first|rfl|(simp; done)|(simp [*]; done)),H',⟨by have:=HJ3.out; first|omega|exact Nat.le_refl _⟩,⟨by (with_reducible repeat (first|refine zag ?_ _|refine zai ?_|refine zah ?_ _)); exact BK656.out⟩,⟨by (with_reducible repeat (first|refine zag ?_ _|refine zai ?_|refine zah ?_ _)); exact BK657.out⟩,⟨by (with_reducible repeat (first|refine zag ?_ _|refine zai ?_|refine zah ?_ _)); exact BK658.out⟩,⟨by repeat (first|(with_reducible first|exact HB.out|apply zaa|apply zab|apply zaf|refine zad ?_ GE656.out|refine zad ?_ GE657.out|refine zad ?_ GE658.out)|exact HB.out)⟩⟩
     ·rw [if_neg c48] at H
      have c48b0:(t664 == 0)=false:=beq_eq_false_iff_ne.mpr c48
      have c48b1:(t664 != 0)=true:=bne_iff_ne.mpr c48
      (first|rw [c48b0]|(simp only [i64_w,i32_w]; rw [c48b0])|skip)
      have H':=Aside0.mk H
      clear H
      go_wp2
      go_meet
      case rel=>exact ⟨_,(true),(by first|rfl|(simp; done)|(simp [*]; done)),H',⟨by have:=HJ3.out; first|omega|exact Nat.le_refl _⟩,⟨by (with_reducible repeat (first|refine zag ?_ _|refine zai ?_|refine zah ?_ _)); exact BK656.out⟩,⟨by (with_reducible repeat (first|refine zag ?_ _|refine zai ?_|refine zah ?_ _)); exact BK657.out⟩,⟨by (with_reducible repeat (first|refine zag ?_ _|refine zai ?_|refine zah ?_ _)); exact BK658.out⟩,⟨by repeat (first|(with_reducible first|exact HB.out|apply zaa|apply zab|apply zaf|refine zad ?_ GE656.out|refine zad ?_ GE657.out|refine zad ?_ GE658.out)|exact HB.out)⟩⟩
    case rest =>
     clear HC38
     try clear c1
     try clear c2
     try clear p2
     try clear c3
     try clear c4
     try clear c5
     try clear p6
     try clear c8
     try clear c9
     try clear c11
     try clear c13
     try clear c14
     try clear c17
     try clear c22
     try clear c23
     try clear c26
     try clear c29
     try clear c30
     try clear c32
     try clear c33
     try clear c36
     try clear c39
     try clear c40
     try clear c42
     try clear c43
     try clear c48
     try clear c48b0
     try clear c48b1
     try clear c49
     try clear c49b0
     try clear c49b1
     try clear c50
     try clear c50b0
     try clear c50b1
     try clear c51
     try clear c51b0
     try clear c52
     try clear c52b0
     try clear c53
     try clear c54
     try clear c56
     try clear hcz15_0
     try clear hcz15_1
     try clear hcz18_0
     try clear hcz18_1
     try clear hcz20_0
     try clear hcz20_1
     try clear hcz24_0
     try clear hcz24_1
     try clear hcz27_0
     try clear hcz27_1
     try clear hcz31_0
     try clear hcz31_1
     try clear hcz41_0
     try clear hcz41_1
     try clear hcz43_0
     try clear hcz43_1
     try clear hcz45_0
     try clear hcz45_1
     try clear hcz46_0
     try clear hcz46_1
     try clear hcz55_0
     try clear hcz55_1
     try clear hcz57_0
     try clear hcz57_1
     try clear hfz15_0
     try clear hfz15_1
     try clear hfz18_0
     try clear hfz18_1
     try clear hfz20_0
     try clear hfz20_1
     try clear hfz24_0
     try clear hfz24_1
     try clear hfz27_0
     try clear hfz27_1
     try clear hfz31_0
     try clear hfz31_1
     try clear hfz41_0
     try clear hfz41_1
     try clear hfz43_0
     try clear hfz43_1
     try clear hfz45_0
     try clear hfz45_1
     try clear hfz46_0
     try clear hfz46_1
     try clear hfz55_0
     try clear hfz55_1
     try clear hfz57_0
     try clear hfz57_1
     try clear p2
     obtain ⟨kq,x74_37,rfl,HA,HJ37,BK656,BK657,BK658,HB⟩:=hcut
     cases kq with
     | zero=>exact absurd HA.out (by simp [l2_RatOrdered.j1])
     | succ kj37 =>
      have H:=HA.out
      clear HA
      simp only [l2_RatOrdered.j1] at H
      by_cases c58:x74_37=true
      ·subst c58
       have H1:(some false)=some r:=by rw [if_pos rfl] at H; exact H
       clear H
       have H:=H1
       clear H1
       obtain rfl:=Option.some.inj H; clear hr
       go_wp2
       go_ret
       exact ⟨by first|rfl|(simp [zam,zal]<;>rfl)|(simp [*,zam,zal]<;>rfl),by repeat (first|(with_reducible first|exact HB.out|apply zaa|apply zab|apply zaf|refine zad ?_ GE656.out|refine zad ?_ GE657.out|refine zad ?_ GE658.out)|exact HB.out)⟩
      ·replace c58:=Bool.eq_false_iff.mpr c58
       subst c58
       have H1:((rat_Cmp.f a1_0 a1_1 a2_0 a2_1).bind fun bt667=>((rat_Cmp.f a0_0 a0_1 a2_0 a2_1).bind fun bt669=>(if t663≤0 then (if bt667.1≤0 then (l2_RatOrdered.j2 kj37 t663 (decide (bt669.1>0)) a0_0 a0_1 a1_0 a1_1 a2_0 a2_1) else (l2_RatOrdered.j2 kj37 t663 false a0_0 a0_1 a1_0 a1_1 a2_0 a2_1)) else (l2_RatOrdered.j2 kj37 t663 false a0_0 a0_1 a1_0 a1_1 a2_0 a2_1))))=some r:=by rw [if_neg (show ¬ (false=true) by decide)] at H; exact H
       clear H
       have H:=H1
       clear H1
       replace H:=Option.bind_eq_some_iff.mp H
       obtain ⟨⟨t667,t668⟩,A590,H⟩:=H
       replace H:((rat_Cmp.f a0_0 a0_1 a2_0 a2_1).bind fun bt669=>(if t663≤0 then (if t667≤0 then (l2_RatOrdered.j2 kj37 t663 (decide (bt669.1>0)) a0_0 a0_1 a1_0 a1_1 a2_0 a2_1) else (l2_RatOrdered.j2 kj37 t663 false a0_0 a0_1 a1_0 a1_1 a2_0 a2_1)) else (l2_RatOrdered.j2 kj37 t663 false a0_0 a0_1 a1_0 a1_1 a2_0 a2_1)))=some r:=H
       have A59:=Aside0.mk A590
       clear A590
       replace H:=Option.bind_eq_some_iff.mp H
       obtain ⟨⟨t669,t670⟩,A600,H⟩:=H
       replace H:(if t663≤0 then (if t667≤0 then (l2_RatOrdered.j2 kj37 t663 (decide (t669>0)) a0_0 a0_1 a1_0 a1_1 a2_0 a2_1) else (l2_RatOrdered.j2 kj37 t663 false a0_0 a0_1 a1_0 a1_1 a2_0 a2_1)) else (l2_RatOrdered.j2 kj37 t663 false a0_0 a0_1 a1_0 a1_1 a2_0 a2_1))=some r:=H
       have A60:=Aside0.mk A600
       clear A600
       have HC61:=Aside0.mk H
       clear H
       have hnb62:=NB657_656.out
       have hnc62:=NB656_657.out
       have hnb63:=NB657_658.out
       have hnc63:=NB658_657.out
       have hcz64_0:wc.cell? ⟨gb657,0,none⟩=some (.string a1_0):=(zaj BK657.out 0).trans rfl
       have hcz64_1:wc.cell? ⟨gb657,1,none⟩=some (.string a1_1):=(zaj BK657.out 1).trans rfl
       have hfz64_0:=zae BK657.out 0
       have hfz64_1:=zae BK657.out 1
       have hnb65:=NB658_656.out
       have hnc65:=NB656_658.out
       have hcz66_0:wc.cell? ⟨gb658,0,none⟩=some (.string a2_0):=(zaj BK658.out 0).trans rfl
       have hcz66_1:wc.cell? ⟨gb658,1,none⟩=some (.string a2_1):=(zaj BK658.out 1).trans rfl
       have hfz66_0:=zae BK658.out 0
       have hfz66_1:=zae BK658.out 1
       go_upto_region 9 with (first|((with_reducible refine zat (f:=43) rfl ?_); refine zaU (some 78) rfl rfl Tryz.func43 (by kernel_rfl) rfl #[.agg #[.string a1_0,.string a1_1],.agg #[.string a2_0,.string a2_1]] rfl (by (try simp only [List.map_toArray,List.map_cons,List.map_nil]); first|done|rfl|(simp only [List.length_drop,List.length_take]; rfl)) ?_; (with_reducible refine (rat_Cmp.calls a1_0 a1_1 a2_0 a2_1 t667 t668 _ A59.out).mono ?_); rintro e w67 ⟨rfl,hb⟩; refine ⟨_,rfl,?_⟩; have n0_:=Aside0.mk (zak (g:=gb656) (o:=.cells #[.string a0_0,.string a0_1] 23 (0,0)) (by (with_reducible repeat (first|refine zag ?_ _|refine zai ?_|refine zah ?_ _)); exact BK656.out) hb); have n1_:=Aside0.mk (zak (g:=gb657) (o:=.cells #[.string a1_0,.string a1_1] 23 (0,0)) (by (with_reducible repeat (first|refine zag ?_ _|refine zai ?_|refine zah ?_ _)); exact BK657.out) hb); have n2_:=Aside0.mk (zak (g:=gb658) (o:=.cells #[.string a2_0,.string a2_1] 23 (0,0)) (by (with_reducible repeat (first|refine zag ?_ _|refine zai ?_|refine zah ?_ _)); exact BK658.out) hb); have n3_:=Aside0.mk (zan (by repeat (first|(with_reducible first|exact HB.out|apply zaa|apply zab|apply zaf|refine zad ?_ GE656.out|refine zad ?_ GE657.out|refine zad ?_ GE658.out)|exact HB.out)) hb); clear BK656; clear BK657; clear BK658; clear HB; have BK656:=n0_; have BK657:=n1_; have BK658:=n2_; have HB:=n3_; clear n0_ n1_ n2_ n3_; (try clear hb); (try clear hb2); (try clear hk); (try clear hi); have hcz68_0:w67.cell? ⟨gb656,0,none⟩=some (.string a0_0):=(zaj BK656.out 0).trans rfl; have hcz68_1:w67.cell? ⟨gb656,1,none⟩=some (.string a0_1):=(zaj BK656.out 1).trans rfl; have hfz68_0:=zae BK656.out 0; have hfz68_1:=zae BK656.out 1; have hcz69_0:w67.cell? ⟨gb658,0,none⟩=some (.string a2_0):=(zaj BK658.out 0).trans rfl; have hcz69_1:w67.cell? ⟨gb658,1,none⟩=some (.string a2_1):=(zaj BK658.out 1).trans rfl; have hfz69_0:=zae BK658.out 0; have hfz69_1:=zae BK658.out 1)|((with_reducible refine zat (f:=43) rfl ?_); refine zaU (some 84) rfl rfl Tryz.func43 (by kernel_rfl) rfl #[.agg #[.string a0_0,.string a0_1],.agg #[.string a2_0,.string a2_1]] rfl (by (try simp only [List.map_toArray,List.map_cons,List.map_nil]); first|done|rfl|(simp only [List.length_drop,List.length_take]; rfl)) ?_; (with_reducible refine (rat_Cmp.calls a0_0 a0_1 a2_0 a2_1 t669 t670 _ A60.out).mono ?_); rintro e w70 ⟨rfl,hb⟩; refine ⟨_,rfl,?_⟩; have n0_:=Aside0.mk (zak (g:=gb656) (o:=.cells #[.string a0_0,.string a0_1] 23 (0,0)) (by (with_reducible repeat (first|refine zag ?_ _|refine zai ?_|refine zah ?_ _)); exact BK656.out) hb); have n1_:=Aside0.mk (zak (g:=gb657) (o:=.cells #[.string a1_0,.string a1_1] 23 (0,0)) (by (with_reducible repeat (first|refine zag ?_ _|refine zai ?_|refine zah ?_ _)); exact BK657.out) hb); have n2_:=Aside0.mk (zak (g:=gb658) (o:=.cells #[.string a2_0,.string a2_1] 23 (0,0)) (by (with_reducible repeat (first|refine zag ?_ _|refine zai ?_|refine zah ?_ _)); exact BK658.out) hb); have n3_:=Aside0.mk (zan (by repeat (first|(with_reducible first|exact HB.out|apply zaa|apply zab|apply zaf|refine zad ?_ GE656.out|refine zad ?_ GE657.out|refine zad ?_ GE658.out)|exact HB.out)) hb); clear BK656; clear BK657; clear BK658; clear HB; have BK656:=n0_; have BK657:=n1_; have BK658:=n2_; have HB:=n3_; clear n0_ n1_ n2_ n3_; (try clear hb); (try clear hb2); (try clear hk); (try clear hi)))
       (try simp only [Act.put,List.setIfInBounds_toArray,List.set_cons_zero,List.set_cons_succ])
       go_cut [96] (fun v96 wc=>∃ (kq:Nat) (x96_60:Bool),v96 = .bool x96_60∧Aside0 (l2_RatOrdered.j2 kq t663 x96_60 a0_0 a0_1 a1_0 a1_1 a2_0 a2_1=some r)∧Aside0 (kq≤kj37)∧Aside0 (wc.heap[gb656]? = some (.cells #[.string a0_0,.string a0_1] 23 (0,0)))∧Aside0 (wc.heap[gb657]? = some (.cells #[.string a1_0,.string a1_1] 23 (0,0)))∧Aside0 (wc.heap[gb658]? = some (.cells #[.string a2_0,.string a2_1] 23 (0,0)))∧Aside0 (Below w.heap.size w wc))
       case first =>
        have H:=HC61.out
        clear HC61
        by_cases c71:t663≤0
        ·rw [if_pos c71] at H
         have c71b0:decide (t663≤0)=true:=decide_eq_true c71
         clear c71
         (first|rw [c71b0]|(simp only [i64_w,i32_w]; rw [c71b0])|skip)
         by_cases c72:t667≤0
         ·rw [if_pos c72] at H
          have c72b0:decide (t667≤0)=true:=decide_eq_true c72
          clear c72
          have H':=Aside0.mk H
          clear H
          go_wp2
          go_meet
          case rel=>exact ⟨_,(decide (t669>0)),(by first|rfl|(simp; done)|(simp [*]; done)),H',⟨by have:=HJ3.out; have:=HJ37.out; first|omega|exact Nat.le_refl _⟩,⟨by (with_reducible repeat (first|refine zag ?_ _|refine zai ?_|refine zah ?_ _)); exact BK656.out⟩,⟨by (with_reducible repeat (first|refine zag ?_ _|refine zai ?_|refine zah ?_ _)); exact BK657.out⟩,⟨by (with_reducible repeat (first|refine zag ?_ _|refine zai ?_|refine zah ?_ _)); exact BK658.out⟩,⟨by repeat (first|(with_reducible first|exact HB.out|apply zaa|apply zab|apply zaf|refine zad ?_ GE656.out|refine zad ?_ GE657.out|refine zad ?_ GE658.out)|exact HB.out)⟩⟩
         ·rw [if_neg c72] at H
          have c72b0:decide (t667≤0)=false:=decide_eq_false c72
          clear c72
          have H':=Aside0.mk H
          clear H
          go_wp2
          go_meet
          case rel=>exact ⟨_,(false),(by first|rfl|(simp; done)|(simp [*]; done)),H',⟨by have:=HJ3.out; have:=HJ37.out; first|omega|exact Nat.le_refl _⟩,⟨by (with_reducible repeat (first|refine zag ?_ _|refine zai ?_|refine zah ?_ _)); exact BK656.out⟩,⟨by (with_reducible repeat (first|refine zag ?_ _|refine zai ?_|refine zah ?_ _)); exact BK657.out⟩,⟨by (with_reducible repeat (first|refine zag ?_ _|refine zai ?_|refine zah ?_ _)); exact BK658.out⟩,⟨by repeat (first|(with_reducible first|exact HB.out|apply zaa|apply zab|apply zaf|refine zad ?_ GE656.out|refine zad ?_ GE657.out|refine zad ?_ GE658.out)|exact HB.out)⟩⟩
        ·rw [if_neg c71] at H
         have c71b0:decide (t663≤0)=false:=decide_eq_false c71
         clear c71
         (first|rw [c71b0]|(simp only [i64_w,i32_w]; rw [c71b0])|skip)
         have H':=Aside0.mk H
         clear H
         go_wp2
         go_meet
         case rel=>exact ⟨_,(false),(by first|rfl|(simp; done)|(simp [*]; done)),H',⟨by have:=HJ3.out; have:=HJ37.out; first|omega|exact Nat.le_refl _⟩,⟨by (with_reducible repeat (first|refine zag ?_ _|refine zai ?_|refine zah ?_ _)); exact BK656.out⟩,⟨by (with_reducible repeat (first|refine zag ?_ _|refine zai ?_|refine zah ?_ _)); exact BK657.out⟩,⟨by (with_reducible repeat (first|refine zag ?_ _|refine zai ?_|refine zah ?_ _)); exact BK658.out⟩,⟨by repeat (first|(with_reducible first|exact HB.out|apply zaa|apply zab|apply zaf|refine zad ?_ GE656.out|refine zad ?_ GE657.out|refine zad ?_ GE658.out)|exact HB.out)⟩⟩
       case rest =>
        clear HC61
        try clear c1
        try clear c2
        try clear p2
        try clear c3
        try clear c4
        try clear c5
        try clear c6
        try clear p6
        try clear c7
        try clear c8
        try clear c9
        try clear c11
        try clear c13
        try clear c14
        try clear c17
        try clear c22
        try clear c23
        try clear c26
        try clear c29
        try clear c30
        try clear c32
        try clear c33
        try clear c36
        try clear c39
        try clear c40
        try clear c42
        try clear c43
        try clear c48
        try clear c48b0
        try clear c48b1
        try clear c49
        try clear c49b0
        try clear c49b1
        try clear c50
        try clear c50b0
        try clear c50b1
        try clear c51
        try clear c51b0
        try clear c52
        try clear c52b0
        try clear c53
        try clear c54
        try clear c56
        try clear c58
        try clear c62
        try clear c63
        try clear p64
        try clear c65
        try clear c71
        try clear c71b0
        try clear c72
        try clear c72b0
        try clear hcz15_0
        try clear hcz15_1
        try clear hcz18_0
        try clear hcz18_1
        try clear hcz20_0
        try clear hcz20_1
        try clear hcz24_0
        try clear hcz24_1
        try clear hcz27_0
        try clear hcz27_1
        try clear hcz31_0
        try clear hcz31_1
        try clear hcz41_0
        try clear hcz41_1
        try clear hcz43_0
        try clear hcz43_1
        try clear hcz45_0
        try clear hcz45_1
        try clear hcz46_0
        try clear hcz46_1
        try clear hcz55_0
        try clear hcz55_1
        try clear hcz57_0
        try clear hcz57_1
        try clear hcz64_0
        try clear hcz64_1
        try clear hcz66_0
        try clear hcz66_1
        try clear hcz68_0
        try clear hcz68_1
        try clear hcz69_0
        try clear hcz69_1
        try clear hfz15_0
        try clear hfz15_1
        try clear hfz18_0
        try clear hfz18_1
        try clear hfz20_0
        try clear hfz20_1
        try clear hfz24_0
        try clear hfz24_1
        try clear hfz27_0
        try clear hfz27_1
        try clear hfz31_0
        try clear hfz31_1
        try clear hfz41_0
        try clear hfz41_1
        try clear hfz43_0
        try clear hfz43_1
        try clear hfz45_0
        try clear hfz45_1
        try clear hfz46_0
        try clear hfz46_1
        try clear hfz55_0
        try clear hfz55_1
        try clear hfz57_0
        try clear hfz57_1
        try clear hfz64_0
        try clear hfz64_1
        try clear hfz66_0
        try clear hfz66_1
        try clear hfz68_0
        try clear hfz68_1
        try clear hfz69_0
        try clear hfz69_1
        try clear p2
        try clear p6
        obtain ⟨kq,x96_60,rfl,HA,HJ60,BK656,BK657,BK658,HB⟩:=hcut
        cases kq with
        | zero=>exact absurd HA.out (by simp [l2_RatOrdered.j2])
        | succ kj60 =>
         have H:=HA.out
         clear HA
         simp only [l2_RatOrdered.j2] at H
         by_cases c73:x96_60=true
         ·subst c73
          have H1:(some false)=some r:=by rw [if_pos rfl] at H; exact H
          clear H
          have H:=H1
          clear H1
          obtain rfl:=Option.some.inj H; clear hr
          go_wp2
          go_ret
          exact ⟨by first|rfl|(simp [zam,zal]<;>rfl)|(simp [*,zam,zal]<;>rfl),by repeat (first|(with_reducible first|exact HB.out|apply zaa|apply zab|apply zaf|refine zad ?_ GE656.out|refine zad ?_ GE657.out|refine zad ?_ GE658.out)|exact HB.out)⟩
         ·replace c73:=Bool.eq_false_iff.mpr c73
          subst c73
          have H1:((rat_Add.f a0_0 a0_1 a2_0 a2_1).bind fun bt671=>((rat_Add.f a1_0 a1_1 a2_0 a2_1).bind fun bt675=>(if bt671.2.2=0 then (l2_RatOrdered.j3 kj60 t663 (bt675.2.2 == 0) bt671.1 bt671.2.1 bt675.1 bt675.2.1) else (l2_RatOrdered.j3 kj60 t663 false bt671.1 bt671.2.1 bt675.1 bt675.2.1))))=some r:=by rw [if_neg (show ¬ (false=true) by decide)] at H; exact H
          clear H
          have H:=H1
          clear H1
          replace H:=Option.bind_eq_some_iff.mp H
          obtain ⟨⟨t671,t672,t673⟩,A740,H⟩:=H
          replace H:((rat_Add.f a1_0 a1_1 a2_0 a2_1).bind fun bt675=>(if t673=0 then (l2_RatOrdered.j3 kj60 t663 (bt675.2.2 == 0) t671 t672 bt675.1 bt675.2.1) else (l2_RatOrdered.j3 kj60 t663 false t671 t672 bt675.1 bt675.2.1)))=some r:=H
          have A74:=Aside0.mk A740
          clear A740
          replace H:=Option.bind_eq_some_iff.mp H
          obtain ⟨⟨t675,t676,t677⟩,A750,H⟩:=H
          replace H:(if t673=0 then (l2_RatOrdered.j3 kj60 t663 (t677 == 0) t671 t672 t675 t676) else (l2_RatOrdered.j3 kj60 t663 false t671 t672 t675 t676))=some r:=H
          have A75:=Aside0.mk A750
          clear A750
          have HC76:=Aside0.mk H
          clear H
          have hnb77:=NB656_657.out
          have hnc77:=NB657_656.out
          have hnb78:=NB656_658.out
          have hnc78:=NB658_656.out
          have hcz79_0:wc.cell? ⟨gb656,0,none⟩=some (.string a0_0):=(zaj BK656.out 0).trans rfl
          have hcz79_1:wc.cell? ⟨gb656,1,none⟩=some (.string a0_1):=(zaj BK656.out 1).trans rfl
          have hfz79_0:=zae BK656.out 0
          have hfz79_1:=zae BK656.out 1
          have hnb80:=NB658_657.out
          have hnc80:=NB657_658.out
          have hcz81_0:wc.cell? ⟨gb658,0,none⟩=some (.string a2_0):=(zaj BK658.out 0).trans rfl
          have hcz81_1:wc.cell? ⟨gb658,1,none⟩=some (.string a2_1):=(zaj BK658.out 1).trans rfl
          have hfz81_0:=zae BK658.out 0
          have hfz81_1:=zae BK658.out 1
          go_upto_region 13 with (first|((with_reducible refine zat (f:=44) rfl ?_); refine zaU (some 100) rfl rfl Tryz.func44 (by kernel_rfl) rfl #[.agg #[.string a0_0,.string a0_1],.agg #[.string a2_0,.string a2_1]] rfl (by (try simp only [List.map_toArray,List.map_cons,List.map_nil]); first|done|rfl|(simp only [List.length_drop,List.length_take]; rfl)) ?_; (with_reducible refine (rat_Add.calls a0_0 a0_1 a2_0 a2_1 t671 t672 t673 _ A74.out).mono ?_); rintro e w82 ⟨rfl,hb⟩; refine ⟨_,rfl,?_⟩; have n0_:=Aside0.mk (zak (g:=gb656) (o:=.cells #[.string a0_0,.string a0_1] 23 (0,0)) (by (with_reducible repeat (first|refine zag ?_ _|refine zai ?_|refine zah ?_ _)); exact BK656.out) hb); have n1_:=Aside0.mk (zak (g:=gb657) (o:=.cells #[.string a1_0,.string a1_1] 23 (0,0)) (by (with_reducible repeat (first|refine zag ?_ _|refine zai ?_|refine zah ?_ _)); exact BK657.out) hb); have n2_:=Aside0.mk (zak (g:=gb658) (o:=.cells #[.string a2_0,.string a2_1] 23 (0,0)) (by (with_reducible repeat (first|refine zag ?_ _|refine zai ?_|refine zah ?_ _)); exact BK658.out) hb); have n3_:=Aside0.mk (zan (by repeat (first|(with_reducible first|exact HB.out|apply zaa|apply zab|apply zaf|refine zad ?_ GE656.out|refine zad ?_ GE657.out|refine zad ?_ GE658.out)|exact HB.out)) hb); clear BK656; clear BK657; clear BK658; clear HB; have BK656:=n0_; have BK657:=n1_; have BK658:=n2_; have HB:=n3_; clear n0_ n1_ n2_ n3_; (try clear hb); (try clear hb2); (try clear hk); (try clear hi))|((with_reducible refine zbd (N:=15) rfl ?_); refine zbS ?hg (N:=15) ?hd (cs:=#[.string (⟨#[]⟩:ByteArray),.string (⟨#[]⟩:ByteArray)]) (t:=23) ?hr ?_; (case hd=>rfl); (case hg=>rfl); (case hr=>first|(go_simp; done)|(go_simp; rfl)); intro gb674 hg w83 hbox hb; have n0_:=Aside0.mk (zak (g:=gb656) (o:=.cells #[.string a0_0,.string a0_1] 23 (0,0)) (by (with_reducible repeat (first|refine zag ?_ _|refine zai ?_|refine zah ?_ _)); exact BK656.out) hb); have n1_:=Aside0.mk (zak (g:=gb657) (o:=.cells #[.string a1_0,.string a1_1] 23 (0,0)) (by (with_reducible repeat (first|refine zag ?_ _|refine zai ?_|refine zah ?_ _)); exact BK657.out) hb); have n2_:=Aside0.mk (zak (g:=gb658) (o:=.cells #[.string a2_0,.string a2_1] 23 (0,0)) (by (with_reducible repeat (first|refine zag ?_ _|refine zai ?_|refine zah ?_ _)); exact BK658.out) hb); have n3_:=Aside0.mk (zan (by repeat (first|(with_reducible first|exact HB.out|apply zaa|apply zab|apply zaf|refine zad ?_ GE656.out|refine zad ?_ GE657.out|refine zad ?_ GE658.out)|exact HB.out)) hb); have n4_:=Aside0.mk (hbox); have n5_:=Aside0.mk ((by rw [hg]; exact (zaC (by repeat (first|(with_reducible first|exact HB.out|apply zaa|apply zab|apply zaf|refine zad ?_ GE656.out|refine zad ?_ GE657.out|refine zad ?_ GE658.out)|exact HB.out))):w.heap.size≤gb674)); have n6_:=Aside0.mk ((by rw [hg]; exact (zaC (by repeat (first|(with_reducible first|exact HB.out|apply zaa|apply zab|apply zaf|refine zad ?_ GE656.out|refine zad ?_ GE657.out|refine zad ?_ GE658.out)|exact HB.out))):w.heap.size≤gb674)); have n7_:=Aside0.mk ((by rw [hg]; exact Nat.ne_of_lt (zap (g:=gb656) (o:=.cells #[.string a0_0,.string a0_1] 23 (0,0)) (by (with_reducible repeat (first|refine zag ?_ _|refine zai ?_|refine zah ?_ _)); exact BK656.out)):gb656≠gb674)); have n8_:=Aside0.mk ((by rw [hg]; exact Nat.ne_of_gt (zap (g:=gb656) (o:=.cells #[.string a0_0,.string a0_1] 23 (0,0)) (by (with_reducible repeat (first|refine zag ?_ _|refine zai ?_|refine zah ?_ _)); exact BK656.out)):gb674≠gb656)); have n9_:=Aside0.mk ((by rw [hg]; exact Nat.ne_of_lt (zap (g:=gb657) (o:=.cells #[.string a1_0,.string a1_1] 23 (0,0)) (by (with_reducible repeat (first|refine zag ?_ _|refine zai ?_|refine zah ?_ _)); exact BK657.out)):gb657≠gb674)); have n10_:=Aside0.mk ((by rw [hg]; exact Nat.ne_of_gt (zap (g:=gb657) (o:=.cells #[.string a1_0,.string a1_1] 23 (0,0)) (by (with_reducible repeat (first|refine zag ?_ _|refine zai ?_|refine zah ?_ _)); exact BK657.out)):gb674≠gb657)); have n11_:=Aside0.mk ((by rw [hg]; exact Nat.ne_of_lt (zap (g:=gb658) (o:=.cells #[.string a2_0,.string a2_1] 23 (0,0)) (by (with_reducible repeat (first|refine zag ?_ _|refine zai ?_|refine zah ?_ _)); exact BK658.out)):gb658≠gb674)); have n12_:=Aside0.mk ((by rw [hg]; exact Nat.ne_of_gt (zap (g:=gb658) (o:=.cells #[.string a2_0,.string a2_1] 23 (0,0)) (by (with_reducible repeat (first|refine zag ?_ _|refine zai ?_|refine zah ?_ _)); exact BK658.out)):gb674≠gb658)); clear BK656; clear BK657; clear BK658; clear HB; have BK656:=n0_; have BK657:=n1_; have BK658:=n2_; have HB:=n3_; have BK674:=n4_; have GW674:=n5_; have GE674:=n6_; have NB656_674:=n7_; have NB674_656:=n8_; have NB657_674:=n9_; have NB674_657:=n10_; have NB658_674:=n11_; have NB674_658:=n12_; clear n0_ n1_ n2_ n3_ n4_ n5_ n6_ n7_ n8_ n9_ n10_ n11_ n12_; clear hb hbox hg; have hnb84:=NB674_656.out; have hnc84:=NB656_674.out; have hnb85:=NB674_657.out; have hnc85:=NB657_674.out; have hnb86:=NB674_658.out; have hnc86:=NB658_674.out; have hcz87_0:w83.cell? ⟨gb674,0,none⟩=some (.string (⟨#[]⟩:ByteArray)):=(zaj BK674.out 0).trans rfl; have hcz87_1:w83.cell? ⟨gb674,1,none⟩=some (.string (⟨#[]⟩:ByteArray)):=(zaj BK674.out 1).trans rfl; have hfz87_0:=zae BK674.out 0; have hfz87_1:=zae BK674.out 1; have hcz88_0:w83.cell? ⟨gb657,0,none⟩=some (.string a1_0):=(zaj BK657.out 0).trans rfl; have hcz88_1:w83.cell? ⟨gb657,1,none⟩=some (.string a1_1):=(zaj BK657.out 1).trans rfl; have hfz88_0:=zae BK657.out 0; have hfz88_1:=zae BK657.out 1; have hcz89_0:w83.cell? ⟨gb658,0,none⟩=some (.string a2_0):=(zaj BK658.out 0).trans rfl; have hcz89_1:w83.cell? ⟨gb658,1,none⟩=some (.string a2_1):=(zaj BK658.out 1).trans rfl; have hfz89_0:=zae BK658.out 0; have hfz89_1:=zae BK658.out 1)|((with_reducible refine zat (f:=44) rfl ?_); refine zaU (some 106) rfl rfl Tryz.func44 (by kernel_rfl) rfl #[.agg #[.string a1_0,.string a1_1],.agg #[.string a2_0,.string a2_1]] rfl (by (try simp only [List.map_toArray,List.map_cons,List.map_nil]); first|done|rfl|(simp only [List.length_drop,List.length_take]; rfl)) ?_; (with_reducible refine (rat_Add.calls a1_0 a1_1 a2_0 a2_1 t675 t676 t677 _ A75.out).mono ?_); rintro e w90 ⟨rfl,hb⟩; refine ⟨_,rfl,?_⟩; have n0_:=Aside0.mk (zak (g:=gb656) (o:=.cells #[.string a0_0,.string a0_1] 23 (0,0)) (by (with_reducible repeat (first|refine zag ?_ _|refine zai ?_|refine zah ?_ _)); refine zaV ?_ NB656_674.out _; (with_reducible repeat (first|refine zag ?_ _|refine zai ?_|refine zah ?_ _)); refine zaV ?_ NB656_674.out _; (with_reducible repeat (first|refine zag ?_ _|refine zai ?_|refine zah ?_ _)); exact BK656.out) hb); have n1_:=Aside0.mk (zak (g:=gb657) (o:=.cells #[.string a1_0,.string a1_1] 23 (0,0)) (by (with_reducible repeat (first|refine zag ?_ _|refine zai ?_|refine zah ?_ _)); refine zaV ?_ NB657_674.out _; (with_reducible repeat (first|refine zag ?_ _|refine zai ?_|refine zah ?_ _)); refine zaV ?_ NB657_674.out _; (with_reducible repeat (first|refine zag ?_ _|refine zai ?_|refine zah ?_ _)); exact BK657.out) hb); have n2_:=Aside0.mk (zak (g:=gb658) (o:=.cells #[.string a2_0,.string a2_1] 23 (0,0)) (by (with_reducible repeat (first|refine zag ?_ _|refine zai ?_|refine zah ?_ _)); refine zaV ?_ NB658_674.out _; (with_reducible repeat (first|refine zag ?_ _|refine zai ?_|refine zah ?_ _)); refine zaV ?_ NB658_674.out _; (with_reducible repeat (first|refine zag ?_ _|refine zai ?_|refine zah ?_ _)); exact BK658.out) hb); have n3_:=Aside0.mk (zak (g:=gb674) (o:=.cells #[.string t671,.string t672] 23 (0,0)) (by (with_reducible repeat (first|refine zag ?_ _|refine zai ?_|refine zah ?_ _)); refine zcr (cs:=#[.string t671,.string (⟨#[]⟩:ByteArray)]) ?_ 1 _ rfl; (with_reducible repeat (first|refine zag ?_ _|refine zai ?_|refine zah ?_ _)); refine zcr (cs:=#[.string (⟨#[]⟩:ByteArray),.string (⟨#[]⟩:ByteArray)]) ?_ 0 _ rfl; (with_reducible repeat (first|refine zag ?_ _|refine zai ?_|refine zah ?_ _)); exact BK674.out) hb); have n4_:=Aside0.mk (zan (by repeat (first|(with_reducible first|exact HB.out|apply zaa|apply zab|apply zaf|refine zad ?_ GE656.out|refine zad ?_ GE657.out|refine zad ?_ GE658.out|refine zad ?_ GE674.out)|exact HB.out)) hb); clear BK656; clear BK657; clear BK658; clear BK674; clear HB; have BK656:=n0_; have BK657:=n1_; have BK658:=n2_; have BK674:=n3_; have HB:=n4_; clear n0_ n1_ n2_ n3_ n4_; (try clear hb); (try clear hb2); (try clear hk); (try clear hi))|((with_reducible refine zbd (N:=17) rfl ?_); refine zbS ?hg (N:=17) ?hd (cs:=#[.string (⟨#[]⟩:ByteArray),.string (⟨#[]⟩:ByteArray)]) (t:=23) ?hr ?_; (case hd=>rfl); (case hg=>rfl); (case hr=>first|(go_simp; done)|(go_simp; rfl)); intro gb678 hg w91 hbox hb; have n0_:=Aside0.mk (zak (g:=gb656) (o:=.cells #[.string a0_0,.string a0_1] 23 (0,0)) (by (with_reducible repeat (first|refine zag ?_ _|refine zai ?_|refine zah ?_ _)); exact BK656.out) hb); have n1_:=Aside0.mk (zak (g:=gb657) (o:=.cells #[.string a1_0,.string a1_1] 23 (0,0)) (by (with_reducible repeat (first|refine zag ?_ _|refine zai ?_|refine zah ?_ _)); exact BK657.out) hb); have n2_:=Aside0.mk (zak (g:=gb658) (o:=.cells #[.string a2_0,.string a2_1] 23 (0,0)) (by (with_reducible repeat (first|refine zag ?_ _|refine zai ?_|refine zah ?_ _)); exact BK658.out) hb); have n3_:=Aside0.mk (zak (g:=gb674) (o:=.cells #[.string t671,.string t672] 23 (0,0)) (by (with_reducible repeat (first|refine zag ?_ _|refine zai ?_|refine zah ?_ _)); exact BK674.out) hb); have n4_:=Aside0.mk (zan (by repeat (first|(with_reducible first|exact HB.out|apply zaa|apply zab|apply zaf|refine zad ?_ GE656.out|refine zad ?_ GE657.out|refine zad ?_ GE658.out|refine zad ?_ GE674.out)|exact HB.out)) hb); have n5_:=Aside0.mk (hbox); have n6_:=Aside0.mk ((by rw [hg]; exact (zaC (by repeat (first|(with_reducible first|exact HB.out|apply zaa|apply zab|apply zaf|refine zad ?_ GE656.out|refine zad ?_ GE657.out|refine zad ?_ GE658.out|refine zad ?_ GE674.out)|exact HB.out))):w.heap.size≤gb678)); have n7_:=Aside0.mk ((by rw [hg]; exact (zaC (by repeat (first|(with_reducible first|exact HB.out|apply zaa|apply zab|apply zaf|refine zad ?_ GE656.out|refine zad ?_ GE657.out|refine zad ?_ GE658.out|refine zad ?_ GE674.out)|exact HB.out))):w.heap.size≤gb678)); have n8_:=Aside0.mk ((by rw [hg]; exact Nat.ne_of_lt (zap (g:=gb656) (o:=.cells #[.string a0_0,.string a0_1] 23 (0,0)) (by (with_reducible repeat (first|refine zag ?_ _|refine zai ?_|refine zah ?_ _)); exact BK656.out)):gb656≠gb678)); have n9_:=Aside0.mk ((by rw [hg]; exact Nat.ne_of_gt (zap (g:=gb656) (o:=.cells #[.string a0_0,.string a0_1] 23 (0,0)) (by (with_reducible repeat (first|refine zag ?_ _|refine zai ?_|refine zah ?_ _)); exact BK656.out)):gb678≠gb656)); have n10_:=Aside0.mk ((by rw [hg]; exact Nat.ne_of_lt (zap (g:=gb657) (o:=.cells #[.string a1_0,.string a1_1] 23 (0,0)) (by (with_reducible repeat (first|refine zag ?_ _|refine zai ?_|refine zah ?_ _)); exact BK657.out)):gb657≠gb678)); have n11_:=Aside0.mk ((by rw [hg]; exact Nat.ne_of_gt (zap (g:=gb657) (o:=.cells #[.string a1_0,.string a1_1] 23 (0,0)) (by (with_reducible repeat (first|refine zag ?_ _|refine zai ?_|refine zah ?_ _)); exact BK657.out)):gb678≠gb657)); have n12_:=Aside0.mk ((by rw [hg]; exact Nat.ne_of_lt (zap (g:=gb658) (o:=.cells #[.string a2_0,.string a2_1] 23 (0,0)) (by (with_reducible repeat (first|refine zag ?_ _|refine zai ?_|refine zah ?_ _)); exact BK658.out)):gb658≠gb678)); have n13_:=Aside0.mk ((by rw [hg]; exact Nat.ne_of_gt (zap (g:=gb658) (o:=.cells #[.string a2_0,.string a2_1] 23 (0,0)) (by (with_reducible repeat (first|refine zag ?_ _|refine zai ?_|refine zah ?_ _)); exact BK658.out)):gb678≠gb658)); have n14_:=Aside0.mk ((by rw [hg]; exact Nat.ne_of_lt (zap (g:=gb674) (o:=.cells #[.string t671,.string t672] 23 (0,0)) (by (with_reducible repeat (first|refine zag ?_ _|refine zai ?_|refine zah ?_ _)); exact BK674.out)):gb674≠gb678)); have n15_:=Aside0.mk ((by rw [hg]; exact Nat.ne_of_gt (zap (g:=gb674) (o:=.cells #[.string t671,.string t672] 23 (0,0)) (by (with_reducible repeat (first|refine zag ?_ _|refine zai ?_|refine zah ?_ _)); exact BK674.out)):gb678≠gb674)); clear BK656; clear BK657; clear BK658; clear BK674; clear HB; have BK656:=n0_; have BK657:=n1_; have BK658:=n2_; have BK674:=n3_; have HB:=n4_; have BK678:=n5_; have GW678:=n6_; have GE678:=n7_; have NB656_678:=n8_; have NB678_656:=n9_; have NB657_678:=n10_; have NB678_657:=n11_; have NB658_678:=n12_; have NB678_658:=n13_; have NB674_678:=n14_; have NB678_674:=n15_; clear n0_ n1_ n2_ n3_ n4_ n5_ n6_ n7_ n8_ n9_ n10_ n11_ n12_ n13_ n14_ n15_; clear hb hbox hg; have hnb92:=NB678_656.out; have hnc92:=NB656_678.out; have hnb93:=NB678_657.out; have hnc93:=NB657_678.out; have hnb94:=NB678_658.out; have hnc94:=NB658_678.out; have hnb95:=NB678_674.out; have hnc95:=NB674_678.out; have hcz96_0:w91.cell? ⟨gb678,0,none⟩=some (.string (⟨#[]⟩:ByteArray)):=(zaj BK678.out 0).trans rfl; have hcz96_1:w91.cell? ⟨gb678,1,none⟩=some (.string (⟨#[]⟩:ByteArray)):=(zaj BK678.out 1).trans rfl; have hfz96_0:=zae BK678.out 0; have hfz96_1:=zae BK678.out 1))
          (try simp only [Act.put,List.setIfInBounds_toArray,List.set_cons_zero,List.set_cons_succ])
          go_cut [114] (fun v114 wc=>∃ (kq:Nat) (x114_75:Bool),v114 = .bool x114_75∧Aside0 (l2_RatOrdered.j3 kq t663 x114_75 t671 t672 t675 t676=some r)∧Aside0 (kq≤kj60)∧Aside0 (wc.heap[gb656]? = some (.cells #[.string a0_0,.string a0_1] 23 (0,0)))∧Aside0 (wc.heap[gb657]? = some (.cells #[.string a1_0,.string a1_1] 23 (0,0)))∧Aside0 (wc.heap[gb658]? = some (.cells #[.string a2_0,.string a2_1] 23 (0,0)))∧Aside0 (wc.heap[gb674]? = some (.cells #[.string t671,.string t672] 23 (0,0)))∧Aside0 (wc.heap[gb678]? = some (.cells #[.string t675,.string t676] 23 (0,0)))∧Aside0 (Below w.heap.size w wc))
          case first =>
           have H:=HC76.out
           clear HC76
           by_cases c97:t673=0
           ·rw [if_pos c97] at H
            have c97b0:(t673 == 0)=true:=beq_iff_eq.mpr c97
            have c97b1:(t673 != 0)=false:=bne_eq_false_iff_eq.mpr c97
            clear c97
            (first|rw [c97b0]|(simp only [i64_w,i32_w]; rw [c97b0])|skip)
            have H':=Aside0.mk H
            clear H
            go_wp2
            go_meet
            case rel=>exact ⟨_,((t677 == 0)),(by first|rfl|(simp; done)|(simp [*]; done)),H',⟨by have:=HJ3.out; have:=HJ37.out; have:=HJ60.out; first|omega|exact Nat.le_refl _⟩,⟨by (with_reducible repeat (first|refine zag ?_ _|refine zai ?_|refine zah ?_ _)); refine zaV ?_ NB656_678.out _; (with_reducible repeat (first|refine zag ?_ _|refine zai ?_|refine zah ?_ _)); refine zaV ?_ NB656_678.out _; (with_reducible repeat (first|refine zag ?_ _|refine zai ?_|refine zah ?_ _)); exact BK656.out⟩,⟨by (with_reducible repeat (first|refine zag ?_ _|refine zai ?_|refine zah ?_ _)); refine zaV ?_ NB657_678.out _; (with_reducible repeat (first|refine zag ?_ _|refine zai ?_|refine zah ?_ _)); refine zaV ?_ NB657_678.out _; (with_reducible repeat (first|refine zag ?_ _|refine zai ?_|refine zah ?_ _)); exact BK657.out⟩,⟨by (with_reducible repeat (first|refine zag ?_ _|refine zai ?_|refine zah ?_ _)); refine zaV ?_ NB658_678.out _; (with_reducible repeat (first|refine zag ?_ _|refine zai ?_|refine zah ?_ _)); refine zaV ?_ NB658_678.out _; (with_reducible repeat (first|refine zag ?_ _|refine zai ?_|refine zah ?_ _)); exact BK658.out⟩,⟨by (with_reducible repeat (first|refine zag ?_ _|refine zai ?_|refine zah ?_ _)); refine zaV ?_ NB674_678.out _; (with_reducible repeat (first|refine zag ?_ _|refine zai ?_|refine zah ?_ _)); refine zaV ?_ NB674_678.out _; (with_reducible repeat (first|refine zag ?_ _|refine zai ?_|refine zah ?_ _)); exact BK674.out⟩,⟨by (with_reducible repeat (first|refine zag ?_ _|refine zai ?_|refine zah ?_ _)); refine zcr (cs:=#[.string t675,.string (⟨#[]⟩:ByteArray)]) ?_ 1 _ rfl; (with_reducible repeat (first|refine zag ?_ _|refine zai ?_|refine zah ?_ _)); refine zcr (cs:=#[.string (⟨#[]⟩:ByteArray),.string (⟨#[]⟩:ByteArray)]) ?_ 0 _ rfl; (with_reducible repeat (first|refine zag ?_ _|refine zai ?_|refine zah ?_ _)); exact BK678.out⟩,⟨by repeat (first|(with_reducible first|exact HB.out|apply zaa|apply zab|apply zaf|refine zad ?_ GE656.out|refine zad ?_ GE657.out|refine zad ?_ GE658.out|refine zad ?_ GE674.out|refine zad ?_ GE678.out)|exact HB.out)⟩⟩
           ·rw [if_neg c97] at H
            have c97b0:(t673 == 0)=false:=beq_eq_false_iff_ne.mpr c97
            have c97b1:(t673 != 0)=true:=bne_iff_ne.mpr c97
            (first|rw [c97b0]|(simp only [i64_w,i32_w]; rw [c97b0])|skip)
            have H':=Aside0.mk H
            clear H
            go_wp2
            go_meet
            case rel=>exact ⟨_,(false),(by first|rfl|(simp; done)|(simp [*]; done)),H',⟨by have:=HJ3.out; have:=HJ37.out; have:=HJ60.out; first|omega|exact Nat.le_refl _⟩,⟨by (with_reducible repeat (first|refine zag ?_ _|refine zai ?_|refine zah ?_ _)); refine zaV ?_ NB656_678.out _; (with_reducible repeat (first|refine zag ?_ _|refine zai ?_|refine zah ?_ _)); refine zaV ?_ NB656_678.out _; (with_reducible repeat (first|refine zag ?_ _|refine zai ?_|refine zah ?_ _)); exact BK656.out⟩,⟨by (with_reducible repeat (first|refine zag ?_ _|refine zai ?_|refine zah ?_ _)); refine zaV ?_ NB657_678.out _; (with_reducible repeat (first|refine zag ?_ _|refine zai ?_|refine zah ?_ _)); refine zaV ?_ NB657_678.out _; (with_reducible repeat (first|refine zag ?_ _|refine zai ?_|refine zah ?_ _)); exact BK657.out⟩,⟨by (with_reducible repeat (first|refine zag ?_ _|refine zai ?_|refine zah ?_ _)); refine zaV ?_ NB658_678.out _; (with_reducible repeat (first|refine zag ?_ _|refine zai ?_|refine zah ?_ _)); refine zaV ?_ NB658_678.out _; (with_reducible repeat (first|refine zag ?_ _|refine zai ?_|refine zah ?_ _)); exact BK658.out⟩,⟨by (with_reducible repeat (first|refine zag ?_ _|refine zai ?_|refine zah ?_ _)); refine zaV ?_ NB674_678.out _; (with_reducible repeat (first|refine zag ?_ _|refine zai ?_|refine zah ?_ _)); refine zaV ?_ NB674_678.out _; (with_reducible repeat (first|refine zag ?_ _|refine zai ?_|refine zah ?_ _)); exact BK674.out⟩,⟨by (with_reducible repeat (first|refine zag ?_ _|refine zai ?_|refine zah ?_ _)); refine zcr (cs:=#[.string t675,.string (⟨#[]⟩:ByteArray)]) ?_ 1 _ rfl; (with_reducible repeat (first|refine zag ?_ _|refine zai ?_|refine zah ?_ _)); refine zcr (cs:=#[.string (⟨#[]⟩:ByteArray),.string (⟨#[]⟩:ByteArray)]) ?_ 0 _ rfl; (with_reducible repeat (first|refine zag ?_ _|refine zai ?_|refine zah ?_ _)); exact BK678.out⟩,⟨by repeat (first|(with_reducible first|exact HB.out|apply zaa|apply zab|apply zaf|refine zad ?_ GE656.out|refine zad ?_ GE657.out|refine zad ?_ GE658.out|refine zad ?_ GE674.out|refine zad ?_ GE678.out)|exact HB.out)⟩⟩
          case rest =>
           clear HC76
           try clear c1
           try clear c2
           try clear p2
           try clear c3
           try clear c4
           try clear c5
           try clear c6
           try clear p6
           try clear c7
           try clear c8
           try clear c9
           try clear c11
           try clear c13
           try clear c14
           try clear c17
           try clear c22
           try clear c23
           try clear c26
           try clear c29
           try clear c30
           try clear c32
           try clear c33
           try clear c36
           try clear c39
           try clear c40
           try clear c42
           try clear c43
           try clear c44
           try clear c48
           try clear c48b0
           try clear c48b1
           try clear c49
           try clear c49b0
           try clear c49b1
           try clear c50
           try clear c50b0
           try clear c50b1
           try clear c51
           try clear c51b0
           try clear c52
           try clear c52b0
           try clear c53
           try clear c54
           try clear c56
           try clear c58
           try clear c62
           try clear c63
           try clear p64
           try clear c65
           try clear c71
           try clear c71b0
           try clear c72
           try clear c72b0
           try clear c73
           try clear c77
           try clear c78
           try clear c80
           try clear c84
           try clear c85
           try clear c86
           try clear c92
           try clear c93
           try clear c94
           try clear c95
           try clear c97
           try clear c97b0
           try clear c97b1
           try clear hcz15_0
           try clear hcz15_1
           try clear hcz18_0
           try clear hcz18_1
           try clear hcz20_0
           try clear hcz20_1
           try clear hcz24_0
           try clear hcz24_1
           try clear hcz27_0
           try clear hcz27_1
           try clear hcz31_0
           try clear hcz31_1
           try clear hcz41_0
           try clear hcz41_1
           try clear hcz43_0
           try clear hcz43_1
           try clear hcz45_0
           try clear hcz45_1
           try clear hcz46_0
           try clear hcz46_1
           try clear hcz55_0
           try clear hcz55_1
           try clear hcz57_0
           try clear hcz57_1
           try clear hcz64_0
           try clear hcz64_1
           try clear hcz66_0
           try clear hcz66_1
           try clear hcz68_0
           try clear hcz68_1
           try clear hcz69_0
           try clear hcz69_1
           try clear hcz79_0
           try clear hcz79_1
           try clear hcz81_0
           try clear hcz81_1
           try clear hcz87_0
           try clear hcz87_1
           try clear hcz88_0
           try clear hcz88_1
           try clear hcz89_0
           try clear hcz89_1
           try clear hcz96_0
           try clear hcz96_1
           try clear hfz15_0
           try clear hfz15_1
           try clear hfz18_0
           try clear hfz18_1
           try clear hfz20_0
           try clear hfz20_1
           try clear hfz24_0
           try clear hfz24_1
           try clear hfz27_0
           try clear hfz27_1
           try clear hfz31_0
           try clear hfz31_1
           try clear hfz41_0
           try clear hfz41_1
           try clear hfz43_0
           try clear hfz43_1
           try clear hfz45_0
           try clear hfz45_1
           try clear hfz46_0
           try clear hfz46_1
           try clear hfz55_0
           try clear hfz55_1
           try clear hfz57_0
           try clear hfz57_1
           try clear hfz64_0
           try clear hfz64_1
           try clear hfz66_0
           try clear hfz66_1
           try clear hfz68_0
           try clear hfz68_1
           try clear hfz69_0
           try clear hfz69_1
           try clear hfz79_0
           try clear hfz79_1
           try clear hfz81_0
           try clear hfz81_1
           try clear hfz87_0
           try clear hfz87_1
           try clear hfz88_0
           try clear hfz88_1
           try clear hfz89_0
           try clear hfz89_1
           try clear hfz96_0
           try clear hfz96_1
           try clear p2
           try clear p6
           try clear p64
           obtain ⟨kq,x114_75,rfl,HA,HJ75,BK656,BK657,BK658,BK674,BK678,HB⟩:=hcut
           cases kq with
           | zero=>exact absurd HA.out (by simp [l2_RatOrdered.j3])
           | succ kj75 =>
            have H:=HA.out
            clear HA
            simp only [l2_RatOrdered.j3] at H
            by_cases c98:x114_75=true
            ·subst c98
             have H1:((rat_Cmp.f t671 t672 t675 t676).bind fun bt679=>(if bt679.2=0 then (if bt679.1=t663 then ((l2_awake.f).bind fun t681=>(some t681)) else (some false)) else (some false)))=some r:=by rw [if_pos rfl] at H; exact H
             clear H
             have H:=H1
             clear H1
             replace H:=Option.bind_eq_some_iff.mp H
             obtain ⟨⟨t679,t680⟩,A990,H⟩:=H
             replace H:(if t680=0 then (if t679=t663 then ((l2_awake.f).bind fun t681=>(some t681)) else (some false)) else (some false))=some r:=H
             have A99:=Aside0.mk A990
             clear A990
             by_cases c100:t680=0
             ·rw [if_pos c100] at H
              have c100b0:(t680 == 0)=true:=beq_iff_eq.mpr c100
              have c100b1:(t680 != 0)=false:=bne_eq_false_iff_eq.mpr c100
              clear c100
              by_cases c101:t679=t663
              ·rw [if_pos c101] at H
               have c101b0:(t679 == t663)=true:=beq_iff_eq.mpr c101
               have c101b1:(t679 != t663)=false:=bne_eq_false_iff_eq.mpr c101
               clear c101
               replace H:=Option.bind_eq_some_iff.mp H
               obtain ⟨t681,A1020,H⟩:=H
               replace H:(some t681)=some r:=H
               have A102:=Aside0.mk A1020
               clear A1020
               obtain rfl:=Option.some.inj H; clear hr
               have hnb103:=NB674_656.out
               have hnc103:=NB656_674.out
               have hnb104:=NB674_657.out
               have hnc104:=NB657_674.out
               have hnb105:=NB674_658.out
               have hnc105:=NB658_674.out
               have hnb106:=NB674_678.out
               have hnc106:=NB678_674.out
               have hcz107_0:wc.cell? ⟨gb674,0,none⟩=some (.string t671):=(zaj BK674.out 0).trans rfl
               have hcz107_1:wc.cell? ⟨gb674,1,none⟩=some (.string t672):=(zaj BK674.out 1).trans rfl
               have hfz107_0:=zae BK674.out 0
               have hfz107_1:=zae BK674.out 1
               have hnb108:=NB678_656.out
               have hnc108:=NB656_678.out
               have hnb109:=NB678_657.out
               have hnc109:=NB657_678.out
               have hnb110:=NB678_658.out
               have hnc110:=NB658_678.out
               have hcz111_0:wc.cell? ⟨gb678,0,none⟩=some (.string t675):=(zaj BK678.out 0).trans rfl
               have hcz111_1:wc.cell? ⟨gb678,1,none⟩=some (.string t676):=(zaj BK678.out 1).trans rfl
               have hfz111_0:=zae BK678.out 0
               have hfz111_1:=zae BK678.out 1
               go_wp2_with (first|((with_reducible refine zat (f:=43) rfl ?_); refine zaU (some 118) rfl rfl Tryz.func43 (by kernel_rfl) rfl #[.agg #[.string t671,.string t672],.agg #[.string t675,.string t676]] rfl (by (try simp only [List.map_toArray,List.map_cons,List.map_nil]); first|done|rfl|(simp only [List.length_drop,List.length_take]; rfl)) ?_; (with_reducible refine (rat_Cmp.calls t671 t672 t675 t676 t679 t680 _ A99.out).mono ?_); rintro e w112 ⟨rfl,hb⟩; refine ⟨_,rfl,?_⟩; have n0_:=Aside0.mk (zak (g:=gb656) (o:=.cells #[.string a0_0,.string a0_1] 23 (0,0)) (by (with_reducible repeat (first|refine zag ?_ _|refine zai ?_|refine zah ?_ _)); exact BK656.out) hb); have n1_:=Aside0.mk (zak (g:=gb657) (o:=.cells #[.string a1_0,.string a1_1] 23 (0,0)) (by (with_reducible repeat (first|refine zag ?_ _|refine zai ?_|refine zah ?_ _)); exact BK657.out) hb); have n2_:=Aside0.mk (zak (g:=gb658) (o:=.cells #[.string a2_0,.string a2_1] 23 (0,0)) (by (with_reducible repeat (first|refine zag ?_ _|refine zai ?_|refine zah ?_ _)); exact BK658.out) hb); have n3_:=Aside0.mk (zak (g:=gb674) (o:=.cells #[.string t671,.string t672] 23 (0,0)) (by (with_reducible repeat (first|refine zag ?_ _|refine zai ?_|refine zah ?_ _)); exact BK674.out) hb); have n4_:=Aside0.mk (zak (g:=gb678) (o:=.cells #[.string t675,.string t676] 23 (0,0)) (by (with_reducible repeat (first|refine zag ?_ _|refine zai ?_|refine zah ?_ _)); exact BK678.out) hb); have n5_:=Aside0.mk (zan (by repeat (first|(with_reducible first|exact HB.out|apply zaa|apply zab|apply zaf|refine zad ?_ GE656.out|refine zad ?_ GE657.out|refine zad ?_ GE658.out|refine zad ?_ GE674.out|refine zad ?_ GE678.out)|exact HB.out)) hb); clear BK656; clear BK657; clear BK658; clear BK674; clear BK678; clear HB; have BK656:=n0_; have BK657:=n1_; have BK658:=n2_; have BK674:=n3_; have BK678:=n4_; have HB:=n5_; clear n0_ n1_ n2_ n3_ n4_ n5_; (try clear hb); (try clear hb2); (try clear hk); (try clear hi))|((with_reducible refine zat (f:=32) rfl ?_); refine zaU (some 128) rfl rfl Tryz.func32 (by kernel_rfl) rfl #[] rfl (by (try simp only [List.map_toArray,List.map_cons,List.map_nil]); first|done|rfl|(simp only [List.length_drop,List.length_take]; rfl)) ?_; (with_reducible refine (zct  t681 _ A102.out).mono ?_); rintro e w113 ⟨rfl,hb⟩; refine ⟨_,rfl,?_⟩; have n0_:=Aside0.mk (zak (g:=gb656) (o:=.cells #[.string a0_0,.string a0_1] 23 (0,0)) (by (with_reducible repeat (first|refine zag ?_ _|refine zai ?_|refine zah ?_ _)); exact BK656.out) hb); have n1_:=Aside0.mk (zak (g:=gb657) (o:=.cells #[.string a1_0,.string a1_1] 23 (0,0)) (by (with_reducible repeat (first|refine zag ?_ _|refine zai ?_|refine zah ?_ _)); exact BK657.out) hb); have n2_:=Aside0.mk (zak (g:=gb658) (o:=.cells #[.string a2_0,.string a2_1] 23 (0,0)) (by (with_reducible repeat (first|refine zag ?_ _|refine zai ?_|refine zah ?_ _)); exact BK658.out) hb); have n3_:=Aside0.mk (zak (g:=gb674) (o:=.cells #[.string t671,.string t672] 23 (0,0)) (by (with_reducible repeat (first|refine zag ?_ _|refine zai ?_|refine zah ?_ _)); exact BK674.out) hb); have n4_:=Aside0.mk (zak (g:=gb678) (o:=.cells #[.string t675,.string t676] 23 (0,0)) (by (with_reducible repeat (first|refine zag ?_ _|refine zai ?_|refine zah ?_ _)); exact BK678.out) hb); have n5_:=Aside0.mk (zan (by repeat (first|(with_reducible first|exact HB.out|apply zaa|apply zab|apply zaf|refine zad ?_ GE656.out|refine zad ?_ GE657.out|refine zad ?_ GE658.out|refine zad ?_ GE674.out|refine zad ?_ GE678.out)|exact HB.out)) hb); clear BK656; clear BK657; clear BK658; clear BK674; clear BK678; clear HB; have BK656:=n0_; have BK657:=n1_; have BK658:=n2_; have BK674:=n3_; have BK678:=n4_; have HB:=n5_; clear n0_ n1_ n2_ n3_ n4_ n5_; (try clear hb); (try clear hb2); (try clear hk); (try clear hi)))
               go_ret
               exact ⟨by first|rfl|(simp [zam,zal]<;>rfl)|(simp [*,zam,zal]<;>rfl),by repeat (first|(with_reducible first|exact HB.out|apply zaa|apply zab|apply zaf|refine zad ?_ GE656.out|refine zad ?_ GE657.out|refine zad ?_ GE658.out|refine zad ?_ GE674.out|refine zad ?_ GE678.out)|exact HB.out)⟩
              ·rw [if_neg c101] at H
               exact absurd ((Option.some.inj H).trans hr) (by decide)
             ·rw [if_neg c100] at H
              exact absurd ((Option.some.inj H).trans hr) (by decide)
            ·replace c98:=Bool.eq_false_iff.mpr c98
             subst c98
             have H1:((l2_awake.f).bind fun t682=>(some t682))=some r:=by rw [if_neg (show ¬ (false=true) by decide)] at H; exact H
             clear H
             have H:=H1
             clear H1
             replace H:=Option.bind_eq_some_iff.mp H
             obtain ⟨t682,A1340,H⟩:=H
             replace H:(some t682)=some r:=H
             have A134:=Aside0.mk A1340
             clear A1340
             obtain rfl:=Option.some.inj H; clear hr
             go_wp2_with (first|((with_reducible refine zat (f:=32) rfl ?_); refine zaU (some 128) rfl rfl Tryz.func32 (by kernel_rfl) rfl #[] rfl (by (try simp only [List.map_toArray,List.map_cons,List.map_nil]); first|done|rfl|(simp only [List.length_drop,List.length_take]; rfl)) ?_; (with_reducible refine (zct  t682 _ A134.out).mono ?_); rintro e w135 ⟨rfl,hb⟩; refine ⟨_,rfl,?_⟩; have n0_:=Aside0.mk (zak (g:=gb656) (o:=.cells #[.string a0_0,.string a0_1] 23 (0,0)) (by (with_reducible repeat (first|refine zag ?_ _|refine zai ?_|refine zah ?_ _)); exact BK656.out) hb); have n1_:=Aside0.mk (zak (g:=gb657) (o:=.cells #[.string a1_0,.string a1_1] 23 (0,0)) (by (with_reducible repeat (first|refine zag ?_ _|refine zai ?_|refine zah ?_ _)); exact BK657.out) hb); have n2_:=Aside0.mk (zak (g:=gb658) (o:=.cells #[.string a2_0,.string a2_1] 23 (0,0)) (by (with_reducible repeat (first|refine zag ?_ _|refine zai ?_|refine zah ?_ _)); exact BK658.out) hb); have n3_:=Aside0.mk (zak (g:=gb674) (o:=.cells #[.string t671,.string t672] 23 (0,0)) (by (with_reducible repeat (first|refine zag ?_ _|refine zai ?_|refine zah ?_ _)); exact BK674.out) hb); have n4_:=Aside0.mk (zak (g:=gb678) (o:=.cells #[.string t675,.string t676] 23 (0,0)) (by (with_reducible repeat (first|refine zag ?_ _|refine zai ?_|refine zah ?_ _)); exact BK678.out) hb); have n5_:=Aside0.mk (zan (by repeat (first|(with_reducible first|exact HB.out|apply zaa|apply zab|apply zaf|refine zad ?_ GE656.out|refine zad ?_ GE657.out|refine zad ?_ GE658.out|refine zad ?_ GE674.out|refine zad ?_ GE678.out)|exact HB.out)) hb); clear BK656; clear BK657; clear BK658; clear BK674; clear BK678; clear HB; have BK656:=n0_; have BK657:=n1_; have BK658:=n2_; have BK674:=n3_; have BK678:=n4_; have HB:=n5_; clear n0_ n1_ n2_ n3_ n4_ n5_; (try clear hb); (try clear hb2); (try clear hk); (try clear hi)))
             go_ret
             exact ⟨by first|rfl|(simp [zam,zal]<;>rfl)|(simp [*,zam,zal]<;>rfl),by repeat (first|(with_reducible first|exact HB.out|apply zaa|apply zab|apply zaf|refine zad ?_ GE656.out|refine zad ?_ GE657.out|refine zad ?_ GE658.out|refine zad ?_ GE674.out|refine zad ?_ GE678.out)|exact HB.out)⟩
end Go.Proofs.Q9
end
section
set_option linter.unusedVariables false
set_option exponentiation.threshold 20001
namespace Go.Proofs.Q9
open Go.RowKit Go.Proofs.W9.Wa Go.Proofs.P9
theorem cmpR_lt {x y:Rat}:cmpR x y<0↔x<y:=by
 unfold cmpR
 rw [Int.sign_neg_iff,Rat.lt_iff]; omega
theorem cmpR_eq {x y:Rat}:cmpR x y=0↔x=y:=by
 unfold cmpR
 rw [Int.sign_eq_zero_iff_zero]
 have hx:=den_ne x
 have hy:=den_ne y
 have h:=Rat.divInt_eq_divInt_iff (n₁:=x.num) (n₂:=y.num) hx hy
 rw [zbg,zbg] at h
 rw [h]; omega
theorem cmpR_neg (x y:Rat):cmpR y x = -cmpR x y:=by
 unfold cmpR
 rw [←Int.sign_neg]; congr 1; omega
theorem cmpR_le (x y:Rat) : -1≤cmpR x y∧cmpR x y≤1:=by
 unfold cmpR
 have:=Int.sign_trichotomy (x.num*y.den-y.num*x.den)
 omega
theorem cmpR_gt {x y:Rat}:0<cmpR x y↔y<x:=by rw [←cmpR_lt,cmpR_neg x y]; omega
theorem cmpR_tri {x y z w:Rat} (h1:z<w↔x<y) (h2:z=w↔x=y):cmpR z w=cmpR x y:=by
 have a1:=cmpR_le x y
 have a2:=cmpR_le z w
 by_cases h:x<y
 ·have b1:=cmpR_lt.2 h
  have b2:=cmpR_lt.2 (h1.2 h)
  omega
 ·by_cases e:x=y
  ·have b1:=cmpR_eq.2 e
   have b2:=cmpR_eq.2 (h2.2 e)
   omega
  ·have b1:¬ cmpR x y<0:=fun k=>h (cmpR_lt.1 k)
   have b2:¬ cmpR x y=0:=fun k=>e (cmpR_eq.1 k)
   have c1:¬ cmpR z w<0:=fun k=>h (h1.1 (cmpR_lt.1 k))
   have c2:¬ cmpR z w=0:=fun k=>e (h2.1 (cmpR_eq.1 k))
   omega
theorem told_rr {x:Rat} (h:(toldR x).2.2=0):RR (toldR x).1 (toldR x).2.1 x∧toldR x=(wtext x.num,T x.den,0):=by
 by_cases hs:Sm x
 ·have e:toldR x=(wtext x.num,T x.den,0):=if_pos hs
  rw [e]
  exact ⟨⟨rfl,rfl,hs.1,hs.2⟩,rfl⟩
 ·have e:toldR x=(⟨#[]⟩,⟨#[]⟩,7):=if_neg hs
  rw [e] at h; cases h
theorem rr_same {a0 a1 b0 b1:ByteArray} {x y:Rat} (hx:RR a0 a1 x) (hy:RR b0 b1 y):(a0.toList == b0.toList && (a1.toList == b1.toList))=decide (x=y):=by
 by_cases h:x=y
 ·subst h
  rw [hx.num,hy.num,hx.den,hy.den,decide_eq_true rfl,beq_self_eq_true,beq_self_eq_true]; rfl
 ·rw [decide_eq_false h]
  cases hb:(a0.toList == b0.toList && (a1.toList == b1.toList))
  ·rfl
  ·rw [Bool.and_eq_true,beq_iff_eq,beq_iff_eq,ba_toList,ba_toList,ba_toList,ba_toList] at hb
   have e1:=zaI hb.1
   have e2:=zaI hb.2
   subst e1; subst e2
   exact absurd (rr_one hx hy) h
theorem ordered_j3 (x:Rat) (y:Rat) (c:Int) (hc:cmpR x y=c) (b:Bool) (hb:b=true→(toldR x).2.2=0∧(toldR y).2.2=0):Ev (fun k=>l2_RatOrdered.j3 k c b (toldR x).1 (toldR x).2.1 (toldR y).1 (toldR y).2.1) true:=by
 refine Ev.step (f:=fun _=>some true) (fun k => ?_) (Ev.now _)
 simp only [l2_RatOrdered.j3,awake_f,Option.bind_some]
 cases b
 ·rw [if_neg (by decide)]
 ·obtain ⟨h1,h2⟩:=hb rfl
  rw [if_pos rfl,zbz (told_rr h1).1 (told_rr h2).1,Option.bind_some,if_pos rfl,if_pos hc]
theorem ratOrdered_ev (a0 a1 b0 b1 c0 c1 : ByteArray) : Ev (fun k => l2_RatOrdered.f k a0 a1 b0 b1 c0 c1) true := by
 have hJ:Ev (fun k=>l2_RatOrdered.j0 k true a0 a1 b0 b1 c0 c1) true:=by
  refine Ev.step (f:=fun _=>some true) (fun k => ?_) (Ev.now _)
  simp only [l2_RatOrdered.j0,awake_f,Option.bind_some]
  rw [if_pos trivial]
 unfold l2_RatOrdered.f
 by_cases ha:∃ x,RR a0 a1 x
 ·obtain ⟨x,hx⟩:=ha
  refine Ev.bind (right_yes hx) (Ev.congr (fun k=>if_pos rfl) ?_)
  by_cases hb:∃ y,RR b0 b1 y
  ·obtain ⟨y,hy⟩:=hb
   refine Ev.bind (right_yes hy) (Ev.congr (fun k=>if_pos rfl) ?_)
   by_cases hc:∃ z,RR c0 c1 z
   ·obtain ⟨z,hz⟩:=hc
    refine Ev.bind (right_yes hz) ?_
    have hxy:=cmpR_le x y
    have hyx:=cmpR_neg x y
    have hw:cmpR x y=wrap64 (-cmpR y x):=by rw [hyx]; unfold wrap64; omega
    have hsame:((cmpR x y == 0) != (a0.toList == b0.toList && (a1.toList == b1.toList)))=false:=by
     rw [rr_same hx hy]
     by_cases h:x=y
     ·rw [cmpR_eq.2 h,decide_eq_true h]; rfl
     ·rw [decide_eq_false h,beq_eq_false_iff_ne.2 (fun e=>h (cmpR_eq.1 e))]; rfl
    refine Ev.step (f:=fun k=>l2_RatOrdered.j1 k (cmpR x y) false a0 a1 b0 b1 c0 c1) (fun k => ?_) ?_
    ·show l2_RatOrdered.j0 (k+1) false a0 a1 b0 b1 c0 c1=_
     simp only [l2_RatOrdered.j0]
     rw [if_neg (by decide),zbz hx hy,Option.bind_some,zbz hy hx,Option.bind_some,if_pos rfl,if_pos rfl,if_pos hw,if_neg (by show ¬ cmpR x y < -1; omega),if_neg (by show ¬ cmpR x y>1; omega)]
     show l2_RatOrdered.j1 k (cmpR x y) ((cmpR x y == 0) != (a0.toList == b0.toList && (a1.toList == b1.toList))) a0 a1 b0 b1 c0 c1=_
     rw [hsame]
    refine Ev.step (f:=fun k=>l2_RatOrdered.j2 k (cmpR x y) false a0 a1 b0 b1 c0 c1) (fun k => ?_) ?_
    ·simp only [l2_RatOrdered.j1]
     rw [if_neg (by decide),zbz hy hz,Option.bind_some,zbz hx hz,Option.bind_some]
     by_cases h1:cmpR x y≤0
     ·rw [if_pos h1]
      by_cases h2:cmpR y z≤0
      ·have h3:¬ cmpR x z>0:=by
        intro h
        have e1:¬ y<x:=fun k=>by have:=cmpR_gt.2 k; omega
        have e2:¬ z<y:=fun k=>by have:=cmpR_gt.2 k; omega
        have e3:z<x:=cmpR_gt.1 h
        exact absurd (Rat.le_trans (Rat.not_lt.1 e1) (Rat.not_lt.1 e2)) (Rat.not_le.2 e3)
       rw [if_pos (show (cmpR y z,(0:Int)).1≤0 from h2)]
       show l2_RatOrdered.j2 k (cmpR x y) (decide (cmpR x z>0)) a0 a1 b0 b1 c0 c1=_
       rw [decide_eq_false h3]
      ·rw [if_neg (show ¬ (cmpR y z,(0:Int)).1≤0 from h2)]
     ·rw [if_neg h1]
    have hxz:rat_Add.f a0 a1 c0 c1=some (toldR (x+z)):=(twoF_yes hx hz).trans (congrArg some (tell_ok _))
    have hyz:rat_Add.f b0 b1 c0 c1=some (toldR (y+z)):=(twoF_yes hy hz).trans (congrArg some (tell_ok _))
    have hcmp:cmpR (x+z) (y+z)=cmpR x y:=cmpR_tri (by rw [Rat.add_lt_add_right]) (by constructor; (intro h; exact Rat.add_right_cancel _ h); (intro h; rw [h]))
    by_cases ho:(toldR (x+z)).2.2=0
    ·refine Ev.step (f:=fun k=>l2_RatOrdered.j3 k (cmpR x y) ((toldR (y+z)).2.2 == 0) (toldR (x+z)).1 (toldR (x+z)).2.1 (toldR (y+z)).1 (toldR (y+z)).2.1) (fun k => ?_) (ordered_j3 _ _ _ hcmp _ (fun e=>⟨ho,beq_iff_eq.1 e⟩))
     simp only [l2_RatOrdered.j2]
     rw [if_neg (by decide),hxz,Option.bind_some,hyz,Option.bind_some,if_pos ho]
    ·refine Ev.step (f:=fun k=>l2_RatOrdered.j3 k (cmpR x y) false (toldR (x+z)).1 (toldR (x+z)).2.1 (toldR (y+z)).1 (toldR (y+z)).2.1) (fun k => ?_) (ordered_j3 _ _ _ hcmp _ (fun e=>by cases e))
     simp only [l2_RatOrdered.j2]
     rw [if_neg (by decide),hxz,Option.bind_some,hyz,Option.bind_some,if_neg ho]
   ·exact Ev.bind (right_no hc) hJ
  ·exact Ev.bind (right_no hb) (Ev.congr (fun k=>if_neg (by decide)) hJ)
 ·exact Ev.bind (right_no ha) (Ev.congr (fun k=>if_neg (by decide)) hJ)
theorem RatOrdered_any (a0 a1 b0 b1 c0 c1:ByteArray) (W:World) :
  Calls Tryz.prog 8 #[.agg #[.string a0,.string a1],.agg #[.string b0,.string b1],.agg #[.string c0,.string c1]] W fun e W'=>e = .returned (.bool true)∧Below W.heap.size W W':=by
 obtain ⟨k,hk⟩:=(ratOrdered_ev a0 a1 b0 b1 c0 c1).rounds
 exact l2_RatOrdered.callsT k a0 a1 b0 b1 c0 c1 true W hk rfl
end Go.Proofs.Q9
end
