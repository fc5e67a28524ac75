/- Texts under the proof, joined by a program (prune.py): Q135, Q185, Q136, Q137, Q187. -/
import Derived.Test.YtglaeambknhjlaaGreatDoorCRatSums13
import Derived.Test.YtglaeambknhjlaaGreatDoorCRatSums11
set_option linter.unusedVariables false
set_option linter.unusedSimpArgs false
set_option exponentiation.threshold 20001
set_option maxHeartbeats 8000000
set_option maxRecDepth 100000
section
namespace Go.Proofs.ZQ
open Go.RowKit Go.Proofs.ZW.Wa Go.Proofs.ZW.Wb Go.Proofs.ZW.Wc
attribute [local go_sem] zaI zaG zaS zaR zaB zaA zaH zaF
noncomputable def c2_Right.j0:Nat→ByteArray→Bool→ByteArray→ByteArray→Option (Bool)
 | 0,_,_,_,_=>none
 | k+1,x3,x12,x407000,x407001=>if x12=true then (if 1≤(x3.size:Int) then (if (x3.extract 1 x3.size).toList=([48]:List UInt8) then (some false) else ((c1_Right.f (x3.extract 1 x3.size)).bind fun t407=>(if t407=true then ((c1_Right.f x407001).bind fun t408=>(if t408=true then (if x407001.toList=([48]:List UInt8) then (some false) else ((c1_Common.f (x3.extract 1 x3.size) x407001).bind fun t409=>(some (t409.toList == ([49]:List UInt8))))) else (some false))) else (some false)))) else (none)) else ((c1_Right.f x3).bind fun t410=>(if t410=true then ((c1_Right.f x407001).bind fun t411=>(if t411=true then (if x407001.toList=([48]:List UInt8) then (some false) else ((c1_Common.f x3 x407001).bind fun t412=>(some (t412.toList == ([49]:List UInt8))))) else (some false))) else (some false)))
noncomputable def c2_Right.f (k:Nat) (a0_0:ByteArray) (a0_1:ByteArray):Option (Bool):=if a0_0.toList=([]:List UInt8) then (c2_Right.j0 k a0_0 false a0_0 a0_1) else (if 0<(a0_0.size:Int) then (c2_Right.j0 k a0_0 ((bt a0_0 0) == 45) a0_0 a0_1) else (none))
theorem c2_Right.calls (k:Nat) (a0_0:ByteArray) (a0_1:ByteArray) (r:Bool) (w:World) (h:c2_Right.f k a0_0 a0_1=some r) :
  Calls Tryz.prog 36 #[.agg #[.string a0_0,.string a0_1]] w fun e w'=>e = .returned (.bool r)∧Below w.heap.size w w':=by
 have hu23:=Tryz.underlying23
 have HB:=Aside0.mk (Below.refl w.heap.size w)
 have H:(if a0_0.toList=([]:List UInt8) then (c2_Right.j0 k a0_0 false a0_0 a0_1) else (if 0<(a0_0.size:Int) then (c2_Right.j0 k a0_0 ((bt a0_0 0) == 45) a0_0 a0_1) else (none)))=some r:=h
 clear h
 have HC2:=Aside0.mk H
 clear H
 go_enter Tryz.func36,Tryz.ntmps36
 go_upto_region 2 with (first|((with_reducible refine zaO (N:=1) rfl ?_); refine za9 ?hg (N:=1) ?hd (cs:=#[.string a0_0,.string a0_1]) (t:=23) ?hr ?_; (case hd=>rfl); (case hg=>rfl); (case hr=>first|(go_simp; done)|(go_simp; rfl)); intro gb406 hg w3 hbox hb; have n0_:=Aside0.mk (zam (by repeat (first|(with_reducible first|exact HB.out|apply zaa|apply zab|apply zac)|exact HB.out)) hb); have n1_:=Aside0.mk (hbox); have n2_:=Aside0.mk ((by rw [hg]; exact (zan (by repeat (first|(with_reducible first|exact HB.out|apply zaa|apply zab|apply zac)|exact HB.out))):w.heap.size≤gb406)); have n3_:=Aside0.mk ((by rw [hg]; exact (zan (by repeat (first|(with_reducible first|exact HB.out|apply zaa|apply zab|apply zac)|exact HB.out))):w.heap.size≤gb406)); clear HB; have HB:=n0_; have BK406:=n1_; have GW406:=n2_; have GE406:=n3_; clear n0_ n1_ n2_ n3_; clear hb hbox hg; have hcz4_0:w3.cell? ⟨gb406,0,none⟩=some (.string a0_0):=(zaf BK406.out 0).trans rfl; have hcz4_1:w3.cell? ⟨gb406,1,none⟩=some (.string a0_1):=(zaf BK406.out 1).trans rfl; have hfz4_0:=zae BK406.out 0; have hfz4_1:=zae BK406.out 1))
 (try simp only [Act.put,List.setIfInBounds_toArray,List.set_cons_zero,List.set_cons_succ])
 go_cut [12] (fun v12 wc=>∃ (kq:Nat) (x12_1:Bool),v12 = .bool x12_1∧Aside0 (c2_Right.j0 kq a0_0 x12_1 a0_0 a0_1=some r)∧Aside0 (kq≤k)∧Aside0 (wc.heap[gb406]? = some (.cells #[.string a0_0,.string a0_1] 23 (0,0)))∧Aside0 (Below w.heap.size w wc))
 case first =>
  have H:=HC2.out
  clear HC2
  by_cases c5:a0_0.toList=([]:List UInt8)
  ·rw [if_pos c5] at H
   have c5b0:(a0_0.toList == ([]:List UInt8))=true:=beq_iff_eq.mpr c5
   have c5b1:(a0_0.toList != ([]:List UInt8))=false:=bne_eq_false_iff_eq.mpr c5
   clear c5
   (first|rw [c5b0]|(simp only [i64_w,i32_w]; rw [c5b0])|skip)
   have H':=Aside0.mk H
   clear H
   go_wp2
   go_meet
   case rel=>exact ⟨_,(false),(by first|rfl|(simp; done)|(simp [*]; done)),H',⟨by first|omega|exact Nat.le_refl _⟩,⟨by (with_reducible repeat (first|refine zah ?_ _|refine zaj ?_|refine zai ?_ _)); exact BK406.out⟩,⟨by repeat (first|(with_reducible first|exact HB.out|apply zaa|apply zab|apply zac|refine zag ?_ GE406.out)|exact HB.out)⟩⟩
  ·rw [if_neg c5] at H
   have c5b1:(a0_0.toList != ([]:List UInt8))=true:=bne_iff_ne.mpr c5
   (first|rw [c5b0]|(simp only [i64_w,i32_w]; rw [c5b0])|skip)
   by_cases c6:0<(a0_0.size:Int)
   ·rw [if_pos c6] at H
    have c6b0:decide (0<(a0_0.size:Int))=true:=decide_eq_true c6
    have c6b1:decide (0<a0_0.size)=true:=decide_eq_true (by omega)
    clear c6
    have H':=Aside0.mk H
    clear H
    have p7:0≤(0:Int):=(by omega)
    have q7:0<a0_0.size:=(by have:(0:Int)<(a0_0.size:Int):=of_decide_eq_true (by first|(with_reducible assumption)|assumption); omega)
    have hx7:∀ h:0<a0_0.size,((a0_0[0]'h).toNat:Int)=bt a0_0 0:=bt_at a0_0 0
    clear p7
    have qi7:(0<(a0_0.size:Int))=True:=eq_true (of_decide_eq_true (by first|(with_reducible assumption)|assumption))
    replace q7:=eq_true q7
    go_wp2
    go_meet
    case rel=>exact ⟨_,(((bt a0_0 0) == 45)),(by first|rfl|(simp; done)|(simp [*]; done)),H',⟨by first|omega|exact Nat.le_refl _⟩,⟨by (with_reducible repeat (first|refine zah ?_ _|refine zaj ?_|refine zai ?_ _)); exact BK406.out⟩,⟨by repeat (first|(with_reducible first|exact HB.out|apply zaa|apply zab|apply zac|refine zag ?_ GE406.out)|exact HB.out)⟩⟩
   ·rw [if_neg c6] at H
    exact absurd H (by simp)
 case rest =>
  clear HC2
  try clear p2
  try clear c3
  try clear c5
  try clear c5b0
  try clear c5b1
  try clear c6
  try clear c6b0
  try clear c6b1
  try clear p7
  try clear q7
  try clear qi7
  try clear p7
  try clear q7
  obtain ⟨kq,x12_1,rfl,HA,HJ1,BK406,HB⟩:=hcut
  cases kq with
  | zero=>exact absurd HA.out (by simp [c2_Right.j0])
  | succ kj1 =>
   have H:=HA.out
   clear HA
   simp only [c2_Right.j0] at H
   by_cases c8:x12_1=true
   ·subst c8
    have H1:(if 1≤(a0_0.size:Int) then (if (a0_0.extract 1 a0_0.size).toList=([48]:List UInt8) then (some false) else ((c1_Right.f (a0_0.extract 1 a0_0.size)).bind fun t407=>(if t407=true then ((c1_Right.f a0_1).bind fun t408=>(if t408=true then (if a0_1.toList=([48]:List UInt8) then (some false) else ((c1_Common.f (a0_0.extract 1 a0_0.size) a0_1).bind fun t409=>(some (t409.toList == ([49]:List UInt8))))) else (some false))) else (some false)))) else (none))=some r:=by rw [if_pos rfl] at H; exact H
    clear H
    have H:=H1
    clear H1
    by_cases c9:1≤(a0_0.size:Int)
    ·rw [if_pos c9] at H
     have c9b0:=eq_true c9
     clear c9
     by_cases c10:(a0_0.extract 1 a0_0.size).toList=([48]:List UInt8)
     ·rw [if_pos c10] at H
      have c10b0:((a0_0.extract 1 a0_0.size).toList == ([48]:List UInt8))=true:=beq_iff_eq.mpr c10
      have c10b1:((a0_0.extract 1 a0_0.size).toList != ([48]:List UInt8))=false:=bne_eq_false_iff_eq.mpr c10
      clear c10
      obtain rfl:=Option.some.inj H
      go_wp2
      go_ret
      exact ⟨by first|rfl|(simp [zal,zak]<;>rfl)|(simp [*,zal,zak]<;>rfl),by repeat (first|(with_reducible first|exact HB.out|apply zaa|apply zab|apply zac|refine zag ?_ GE406.out)|exact HB.out)⟩
     ·rw [if_neg c10] at H
      have c10b0:((a0_0.extract 1 a0_0.size).toList == ([48]:List UInt8))=false:=beq_eq_false_iff_ne.mpr c10
      have c10b1:((a0_0.extract 1 a0_0.size).toList != ([48]:List UInt8))=true:=bne_iff_ne.mpr c10
      replace H:=Option.bind_eq_some_iff.mp H
      obtain ⟨t407,A110,H⟩:=H
      replace H:(if t407=true then ((c1_Right.f a0_1).bind fun t408=>(if t408=true then (if a0_1.toList=([48]:List UInt8) then (some false) else ((c1_Common.f (a0_0.extract 1 a0_0.size) a0_1).bind fun t409=>(some (t409.toList == ([49]:List UInt8))))) else (some false))) else (some false))=some r:=H
      have A11:=Aside0.mk A110
      clear A110
      by_cases c12:t407=true
      ·subst c12
       have H1:((c1_Right.f a0_1).bind fun t408=>(if t408=true then (if a0_1.toList=([48]:List UInt8) then (some false) else ((c1_Common.f (a0_0.extract 1 a0_0.size) a0_1).bind fun t409=>(some (t409.toList == ([49]:List UInt8))))) else (some false)))=some r:=by rw [if_pos rfl] at H; exact H
       clear H
       have H:=H1
       clear H1
       replace H:=Option.bind_eq_some_iff.mp H
       obtain ⟨t408,A130,H⟩:=H
       replace H:(if t408=true then (if a0_1.toList=([48]:List UInt8) then (some false) else ((c1_Common.f (a0_0.extract 1 a0_0.size) a0_1).bind fun t409=>(some (t409.toList == ([49]:List UInt8))))) else (some false))=some r:=H
       have A13:=Aside0.mk A130
       clear A130
       by_cases c14:t408=true
       ·subst c14
        have H1:(if a0_1.toList=([48]:List UInt8) then (some false) else ((c1_Common.f (a0_0.extract 1 a0_0.size) a0_1).bind fun t409=>(some (t409.toList == ([49]:List UInt8)))))=some r:=by rw [if_pos rfl] at H; exact H
        clear H
        have H:=H1
        clear H1
        by_cases c15:a0_1.toList=([48]:List UInt8)
        ·rw [if_pos c15] at H
         have c15b0:(a0_1.toList == ([48]:List UInt8))=true:=beq_iff_eq.mpr c15
         clear c15
         obtain rfl:=Option.some.inj H
         go_wp2_with (first|((with_reducible refine zas (f:=94) rfl ?_); refine zaZ (some 18) rfl rfl Tryz.func94 (by kernel_rfl) rfl #[.string (a0_0.extract 1 a0_0.size)] rfl (by (try simp only [List.map_toArray,List.map_cons,List.map_nil]); first|done|rfl|(simp only [List.length_drop,List.length_take]; rfl)) ?_; (with_reducible refine (c1_Right.calls (a0_0.extract 1 a0_0.size) true _ A11.out).mono ?_); rintro e w16 ⟨rfl,hb⟩; refine ⟨_,rfl,?_⟩; have n0_:=Aside0.mk (zav (g:=gb406) (o:=.cells #[.string a0_0,.string a0_1] 23 (0,0)) (by (with_reducible repeat (first|refine zah ?_ _|refine zaj ?_|refine zai ?_ _)); exact BK406.out) hb); have n1_:=Aside0.mk (zam (by repeat (first|(with_reducible first|exact HB.out|apply zaa|apply zab|apply zac|refine zag ?_ GE406.out)|exact HB.out)) hb); clear BK406; clear HB; have BK406:=n0_; have HB:=n1_; clear n0_ n1_; (try clear hb); (try clear hb2); (try clear hk); (try clear hi); have hcz17_0:w16.cell? ⟨gb406,0,none⟩=some (.string a0_0):=(zaf BK406.out 0).trans rfl; have hcz17_1:w16.cell? ⟨gb406,1,none⟩=some (.string a0_1):=(zaf BK406.out 1).trans rfl; have hfz17_0:=zae BK406.out 0; have hfz17_1:=zae BK406.out 1)|(go_at_call 94; (with_reducible refine (c1_Right.calls a0_1 true _ A13.out).mono ?_); rintro e w18 ⟨rfl,hb⟩; have n0_:=Aside0.mk (zav (g:=gb406) (o:=.cells #[.string a0_0,.string a0_1] 23 (0,0)) (by (with_reducible repeat (first|refine zah ?_ _|refine zaj ?_|refine zai ?_ _)); exact BK406.out) hb); have n1_:=Aside0.mk (zam (by repeat (first|(with_reducible first|exact HB.out|apply zaa|apply zab|apply zac|refine zag ?_ GE406.out)|exact HB.out)) hb); clear BK406; clear HB; have BK406:=n0_; have HB:=n1_; clear n0_ n1_; (try clear hb); (try clear hb2); (try clear hk); (try clear hi); have hcz19_0:w18.cell? ⟨gb406,0,none⟩=some (.string a0_0):=(zaf BK406.out 0).trans rfl; have hcz19_1:w18.cell? ⟨gb406,1,none⟩=some (.string a0_1):=(zaf BK406.out 1).trans rfl; have hfz19_0:=zae BK406.out 0; have hfz19_1:=zae BK406.out 1))
         go_ret
         exact ⟨by first|rfl|(simp [zal,zak]<;>rfl)|(simp [*,zal,zak]<;>rfl),by repeat (first|(with_reducible first|exact HB.out|apply zaa|apply zab|apply zac|refine zag ?_ GE406.out)|exact HB.out)⟩
        ·rw [if_neg c15] at H
         have c15b1:(a0_1.toList != ([48]:List UInt8))=true:=bne_iff_ne.mpr c15
         replace H:=Option.bind_eq_some_iff.mp H
         obtain ⟨t409,A200,H⟩:=H
         replace H:(some (t409.toList == ([49]:List UInt8)))=some r:=H
         have A20:=Aside0.mk A200
         clear A200
         obtain rfl:=Option.some.inj H
         go_wp2_with (first|((with_reducible refine zas (f:=94) rfl ?_); refine zaZ (some 18) rfl rfl Tryz.func94 (by kernel_rfl) rfl #[.string (a0_0.extract 1 a0_0.size)] rfl (by (try simp only [List.map_toArray,List.map_cons,List.map_nil]); first|done|rfl|(simp only [List.length_drop,List.length_take]; rfl)) ?_; (with_reducible refine (c1_Right.calls (a0_0.extract 1 a0_0.size) true _ A11.out).mono ?_); rintro e w21 ⟨rfl,hb⟩; refine ⟨_,rfl,?_⟩; have n0_:=Aside0.mk (zav (g:=gb406) (o:=.cells #[.string a0_0,.string a0_1] 23 (0,0)) (by (with_reducible repeat (first|refine zah ?_ _|refine zaj ?_|refine zai ?_ _)); exact BK406.out) hb); have n1_:=Aside0.mk (zam (by repeat (first|(with_reducible first|exact HB.out|apply zaa|apply zab|apply zac|refine zag ?_ GE406.out)|exact HB.out)) hb); clear BK406; clear HB; have BK406:=n0_; have HB:=n1_; clear n0_ n1_; (try clear hb); (try clear hb2); (try clear hk); (try clear hi); have hcz22_0:w21.cell? ⟨gb406,0,none⟩=some (.string a0_0):=(zaf BK406.out 0).trans rfl; have hcz22_1:w21.cell? ⟨gb406,1,none⟩=some (.string a0_1):=(zaf BK406.out 1).trans rfl; have hfz22_0:=zae BK406.out 0; have hfz22_1:=zae BK406.out 1)|(go_at_call 94; (with_reducible refine (c1_Right.calls a0_1 true _ A13.out).mono ?_); rintro e w23 ⟨rfl,hb⟩; have n0_:=Aside0.mk (zav (g:=gb406) (o:=.cells #[.string a0_0,.string a0_1] 23 (0,0)) (by (with_reducible repeat (first|refine zah ?_ _|refine zaj ?_|refine zai ?_ _)); exact BK406.out) hb); have n1_:=Aside0.mk (zam (by repeat (first|(with_reducible first|exact HB.out|apply zaa|apply zab|apply zac|refine zag ?_ GE406.out)|exact HB.out)) hb); clear BK406; clear HB; have BK406:=n0_; have HB:=n1_; clear n0_ n1_; (try clear hb); (try clear hb2); (try clear hk); (try clear hi); have hcz24_0:w23.cell? ⟨gb406,0,none⟩=some (.string a0_0):=(zaf BK406.out 0).trans rfl; have hcz24_1:w23.cell? ⟨gb406,1,none⟩=some (.string a0_1):=(zaf BK406.out 1).trans rfl; have hfz24_0:=zae BK406.out 0; have hfz24_1:=zae BK406.out 1)|(go_at_call 95; (with_reducible refine (c1_Common.calls (a0_0.extract 1 a0_0.size) a0_1 t409 _ A20.out).mono ?_); rintro e w25 ⟨rfl,hb⟩; have n0_:=Aside0.mk (zav (g:=gb406) (o:=.cells #[.string a0_0,.string a0_1] 23 (0,0)) (by (with_reducible repeat (first|refine zah ?_ _|refine zaj ?_|refine zai ?_ _)); exact BK406.out) hb); have n1_:=Aside0.mk (zam (by repeat (first|(with_reducible first|exact HB.out|apply zaa|apply zab|apply zac|refine zag ?_ GE406.out)|exact HB.out)) hb); clear BK406; clear HB; have BK406:=n0_; have HB:=n1_; clear n0_ n1_; (try clear hb); (try clear hb2); (try clear hk); (try clear hi)))
         go_ret
         exact ⟨by first|rfl|(simp [zal,zak]<;>rfl)|(simp [*,zal,zak]<;>rfl),by repeat (first|(with_reducible first|exact HB.out|apply zaa|apply zab|apply zac|refine zag ?_ GE406.out)|exact HB.out)⟩
       ·replace c14:=Bool.eq_false_iff.mpr c14
        subst c14
        have H1:(some false)=some r:=by rw [if_neg (show ¬ (false=true) by decide)] at H; exact H
        clear H
        have H:=H1
        clear H1
        obtain rfl:=Option.some.inj H
        go_wp2_with (first|((with_reducible refine zas (f:=94) rfl ?_); refine zaZ (some 18) rfl rfl Tryz.func94 (by kernel_rfl) rfl #[.string (a0_0.extract 1 a0_0.size)] rfl (by (try simp only [List.map_toArray,List.map_cons,List.map_nil]); first|done|rfl|(simp only [List.length_drop,List.length_take]; rfl)) ?_; (with_reducible refine (c1_Right.calls (a0_0.extract 1 a0_0.size) true _ A11.out).mono ?_); rintro e w26 ⟨rfl,hb⟩; refine ⟨_,rfl,?_⟩; have n0_:=Aside0.mk (zav (g:=gb406) (o:=.cells #[.string a0_0,.string a0_1] 23 (0,0)) (by (with_reducible repeat (first|refine zah ?_ _|refine zaj ?_|refine zai ?_ _)); exact BK406.out) hb); have n1_:=Aside0.mk (zam (by repeat (first|(with_reducible first|exact HB.out|apply zaa|apply zab|apply zac|refine zag ?_ GE406.out)|exact HB.out)) hb); clear BK406; clear HB; have BK406:=n0_; have HB:=n1_; clear n0_ n1_; (try clear hb); (try clear hb2); (try clear hk); (try clear hi); have hcz27_0:w26.cell? ⟨gb406,0,none⟩=some (.string a0_0):=(zaf BK406.out 0).trans rfl; have hcz27_1:w26.cell? ⟨gb406,1,none⟩=some (.string a0_1):=(zaf BK406.out 1).trans rfl; have hfz27_0:=zae BK406.out 0; have hfz27_1:=zae BK406.out 1)|(go_at_call 94; (with_reducible refine (c1_Right.calls a0_1 false _ A13.out).mono ?_); rintro e w28 ⟨rfl,hb⟩; have n0_:=Aside0.mk (zav (g:=gb406) (o:=.cells #[.string a0_0,.string a0_1] 23 (0,0)) (by (with_reducible repeat (first|refine zah ?_ _|refine zaj ?_|refine zai ?_ _)); exact BK406.out) hb); have n1_:=Aside0.mk (zam (by repeat (first|(with_reducible first|exact HB.out|apply zaa|apply zab|apply zac|refine zag ?_ GE406.out)|exact HB.out)) hb); clear BK406; clear HB; have BK406:=n0_; have HB:=n1_; clear n0_ n1_; (try clear hb); (try clear hb2); (try clear hk); (try clear hi)))
        go_ret
        exact ⟨by first|rfl|(simp [zal,zak]<;>rfl)|(simp [*,zal,zak]<;>rfl),by repeat (first|(with_reducible first|exact HB.out|apply zaa|apply zab|apply zac|refine zag ?_ GE406.out)|exact HB.out)⟩
      ·replace c12:=Bool.eq_false_iff.mpr c12
       subst c12
       have H1:(some false)=some r:=by rw [if_neg (show ¬ (false=true) by decide)] at H; exact H
       clear H
       have H:=H1
       clear H1
       obtain rfl:=Option.some.inj H
       go_wp2_with (first|((with_reducible refine zas (f:=94) rfl ?_); refine zaZ (some 18) rfl rfl Tryz.func94 (by kernel_rfl) rfl #[.string (a0_0.extract 1 a0_0.size)] rfl (by (try simp only [List.map_toArray,List.map_cons,List.map_nil]); first|done|rfl|(simp only [List.length_drop,List.length_take]; rfl)) ?_; (with_reducible refine (c1_Right.calls (a0_0.extract 1 a0_0.size) false _ A11.out).mono ?_); rintro e w29 ⟨rfl,hb⟩; refine ⟨_,rfl,?_⟩; have n0_:=Aside0.mk (zav (g:=gb406) (o:=.cells #[.string a0_0,.string a0_1] 23 (0,0)) (by (with_reducible repeat (first|refine zah ?_ _|refine zaj ?_|refine zai ?_ _)); exact BK406.out) hb); have n1_:=Aside0.mk (zam (by repeat (first|(with_reducible first|exact HB.out|apply zaa|apply zab|apply zac|refine zag ?_ GE406.out)|exact HB.out)) hb); clear BK406; clear HB; have BK406:=n0_; have HB:=n1_; clear n0_ n1_; (try clear hb); (try clear hb2); (try clear hk); (try clear hi)))
       go_ret
       exact ⟨by first|rfl|(simp [zal,zak]<;>rfl)|(simp [*,zal,zak]<;>rfl),by repeat (first|(with_reducible first|exact HB.out|apply zaa|apply zab|apply zac|refine zag ?_ GE406.out)|exact HB.out)⟩
    ·rw [if_neg c9] at H
     exact absurd H (by simp)
   ·replace c8:=Bool.eq_false_iff.mpr c8
    subst c8
    have H1:((c1_Right.f a0_0).bind fun t410=>(if t410=true then ((c1_Right.f a0_1).bind fun t411=>(if t411=true then (if a0_1.toList=([48]:List UInt8) then (some false) else ((c1_Common.f a0_0 a0_1).bind fun t412=>(some (t412.toList == ([49]:List UInt8))))) else (some false))) else (some false)))=some r:=by rw [if_neg (show ¬ (false=true) by decide)] at H; exact H
    clear H
    have H:=H1
    clear H1
    replace H:=Option.bind_eq_some_iff.mp H
    obtain ⟨t410,A300,H⟩:=H
    replace H:(if t410=true then ((c1_Right.f a0_1).bind fun t411=>(if t411=true then (if a0_1.toList=([48]:List UInt8) then (some false) else ((c1_Common.f a0_0 a0_1).bind fun t412=>(some (t412.toList == ([49]:List UInt8))))) else (some false))) else (some false))=some r:=H
    have A30:=Aside0.mk A300
    clear A300
    by_cases c31:t410=true
    ·subst c31
     have H1:((c1_Right.f a0_1).bind fun t411=>(if t411=true then (if a0_1.toList=([48]:List UInt8) then (some false) else ((c1_Common.f a0_0 a0_1).bind fun t412=>(some (t412.toList == ([49]:List UInt8))))) else (some false)))=some r:=by rw [if_pos rfl] at H; exact H
     clear H
     have H:=H1
     clear H1
     replace H:=Option.bind_eq_some_iff.mp H
     obtain ⟨t411,A339,H⟩:=H
     replace H:(if t411=true then (if a0_1.toList=([48]:List UInt8) then (some false) else ((c1_Common.f a0_0 a0_1).bind fun t412=>(some (t412.toList == ([49]:List UInt8))))) else (some false))=some r:=H
     have A32:=Aside0.mk A339
     clear A339
     by_cases c33:t411=true
     ·subst c33
      have H1:(if a0_1.toList=([48]:List UInt8) then (some false) else ((c1_Common.f a0_0 a0_1).bind fun t412=>(some (t412.toList == ([49]:List UInt8)))))=some r:=by rw [if_pos rfl] at H; exact H
      clear H
      have H:=H1
      clear H1
      by_cases c34:a0_1.toList=([48]:List UInt8)
      ·rw [if_pos c34] at H
       have c34b0:(a0_1.toList == ([48]:List UInt8))=true:=beq_iff_eq.mpr c34
       clear c34
       obtain rfl:=Option.some.inj H
       go_wp2_with (first|((with_reducible refine zas (f:=94) rfl ?_); refine zaZ (some 18) rfl rfl Tryz.func94 (by kernel_rfl) rfl #[.string a0_0] rfl (by (try simp only [List.map_toArray,List.map_cons,List.map_nil]); first|done|rfl|(simp only [List.length_drop,List.length_take]; rfl)) ?_; (with_reducible refine (c1_Right.calls a0_0 true _ A30.out).mono ?_); rintro e w35 ⟨rfl,hb⟩; refine ⟨_,rfl,?_⟩; have n0_:=Aside0.mk (zav (g:=gb406) (o:=.cells #[.string a0_0,.string a0_1] 23 (0,0)) (by (with_reducible repeat (first|refine zah ?_ _|refine zaj ?_|refine zai ?_ _)); exact BK406.out) hb); have n1_:=Aside0.mk (zam (by repeat (first|(with_reducible first|exact HB.out|apply zaa|apply zab|apply zac|refine zag ?_ GE406.out)|exact HB.out)) hb); clear BK406; clear HB; have BK406:=n0_; have HB:=n1_; clear n0_ n1_; (try clear hb); (try clear hb2); (try clear hk); (try clear hi); have hcz36_0:w35.cell? ⟨gb406,0,none⟩=some (.string a0_0):=(zaf BK406.out 0).trans rfl; have hcz36_1:w35.cell? ⟨gb406,1,none⟩=some (.string a0_1):=(zaf BK406.out 1).trans rfl; have hfz36_0:=zae BK406.out 0; have hfz36_1:=zae BK406.out 1)|(go_at_call 94; (with_reducible refine (c1_Right.calls a0_1 true _ A32.out).mono ?_); rintro e w37 ⟨rfl,hb⟩; have n0_:=Aside0.mk (zav (g:=gb406) (o:=.cells #[.string a0_0,.string a0_1] 23 (0,0)) (by (with_reducible repeat (first|refine zah ?_ _|refine zaj ?_|refine zai ?_ _)); exact BK406.out) hb); have n1_:=Aside0.mk (zam (by repeat (first|(with_reducible first|exact HB.out|apply zaa|apply zab|apply zac|refine zag ?_ GE406.out)|exact HB.out)) hb); clear BK406; clear HB; have BK406:=n0_; have HB:=n1_; clear n0_ n1_; (try clear hb); (try clear hb2); (try clear hk); (try clear hi); have hcz38_0:w37.cell? ⟨gb406,0,none⟩=some (.string a0_0):=(zaf BK406.out 0).trans rfl; have hcz38_1:w37.cell? ⟨gb406,1,none⟩=some (.string a0_1):=(zaf BK406.out 1).trans rfl; have hfz38_0:=zae BK406.out 0; have hfz38_1:=zae BK406.out 1))
       go_ret
       exact ⟨by first|rfl|(simp [zal,zak]<;>rfl)|(simp [*,zal,zak]<;>rfl),by repeat (first|(with_reducible first|exact HB.out|apply zaa|apply zab|apply zac|refine zag ?_ GE406.out)|exact HB.out)⟩
      ·rw [if_neg c34] at H
       replace H:=Option.bind_eq_some_iff.mp H
       obtain ⟨t412,A409,H⟩:=H
       replace H:(some (t412.toList == ([49]:List UInt8)))=some r:=H
       have A39:=Aside0.mk A409
       clear A409
       obtain rfl:=Option.some.inj H
       go_wp2_with (first|((with_reducible refine zas (f:=94) rfl ?_); refine zaZ (some 18) rfl rfl Tryz.func94 (by kernel_rfl) rfl #[.string a0_0] rfl (by (try simp only [List.map_toArray,List.map_cons,List.map_nil]); first|done|rfl|(simp only [List.length_drop,List.length_take]; rfl)) ?_; (with_reducible refine (c1_Right.calls a0_0 true _ A30.out).mono ?_); rintro e w40 ⟨rfl,hb⟩; refine ⟨_,rfl,?_⟩; have n0_:=Aside0.mk (zav (g:=gb406) (o:=.cells #[.string a0_0,.string a0_1] 23 (0,0)) (by (with_reducible repeat (first|refine zah ?_ _|refine zaj ?_|refine zai ?_ _)); exact BK406.out) hb); have n1_:=Aside0.mk (zam (by repeat (first|(with_reducible first|exact HB.out|apply zaa|apply zab|apply zac|refine zag ?_ GE406.out)|exact HB.out)) hb); clear BK406; clear HB; have BK406:=n0_; have HB:=n1_; clear n0_ n1_; (try clear hb); (try clear hb2); (try clear hk); (try clear hi); have hcz41_0:w40.cell? ⟨gb406,0,none⟩=some (.string a0_0):=(zaf BK406.out 0).trans rfl; have hcz41_1:w40.cell? ⟨gb406,1,none⟩=some (.string a0_1):=(zaf BK406.out 1).trans rfl; have hfz41_0:=zae BK406.out 0; have hfz41_1:=zae BK406.out 1)|(go_at_call 94; (with_reducible refine (c1_Right.calls a0_1 true _ A32.out).mono ?_); rintro e w42 ⟨rfl,hb⟩; have n0_:=Aside0.mk (zav (g:=gb406) (o:=.cells #[.string a0_0,.string a0_1] 23 (0,0)) (by (with_reducible repeat (first|refine zah ?_ _|refine zaj ?_|refine zai ?_ _)); exact BK406.out) hb); have n1_:=Aside0.mk (zam (by repeat (first|(with_reducible first|exact HB.out|apply zaa|apply zab|apply zac|refine zag ?_ GE406.out)|exact HB.out)) hb); clear BK406; clear HB; have BK406:=n0_; have HB:=n1_; clear n0_ n1_; (try clear hb); (try clear hb2); (try clear hk); (try clear hi); have hcz43_0:w42.cell? ⟨gb406,0,none⟩=some (.string a0_0):=(zaf BK406.out 0).trans rfl; have hcz43_1:w42.cell? ⟨gb406,1,none⟩=some (.string a0_1):=(zaf BK406.out 1).trans rfl; have hfz43_0:=zae BK406.out 0; have hfz43_1:=zae BK406.out 1)|(go_at_call 95; (with_reducible refine (c1_Common.calls a0_0 a0_1 t412 _ A39.out).mono ?_); rintro e w44 ⟨rfl,hb⟩; have n0_:=Aside0.mk (zav (g:=gb406) (o:=.cells #[.string a0_0,.string a0_1] 23 (0,0)) (by (with_reducible repeat (first|refine zah ?_ _|refine zaj ?_|refine zai ?_ _)); exact BK406.out) hb); have n1_:=Aside0.mk (zam (by repeat (first|(with_reducible first|exact HB.out|apply zaa|apply zab|apply zac|refine zag ?_ GE406.out)|exact HB.out)) hb); clear BK406; clear HB; have BK406:=n0_; have HB:=n1_; clear n0_ n1_; (try clear hb); (try clear hb2); (try clear hk); (try clear hi)))
       go_ret
       exact ⟨by first|rfl|(simp [zal,zak]<;>rfl)|(simp [*,zal,zak]<;>rfl),by repeat (first|(with_reducible first|exact HB.out|apply zaa|apply zab|apply zac|refine zag ?_ GE406.out)|exact HB.out)⟩
     ·replace c33:=Bool.eq_false_iff.mpr c33
      subst c33
      have H1:(some false)=some r:=by rw [if_neg (show ¬ (false=true) by decide)] at H; exact H
      clear H
      have H:=H1
      clear H1
      obtain rfl:=Option.some.inj H
      go_wp2_with (first|((with_reducible refine zas (f:=94) rfl ?_); refine zaZ (some 18) rfl rfl Tryz.func94 (by kernel_rfl) rfl #[.string a0_0] rfl (by (try simp only [List.map_toArray,List.map_cons,List.map_nil]); first|done|rfl|(simp only [List.length_drop,List.length_take]; rfl)) ?_; (with_reducible refine (c1_Right.calls a0_0 true _ A30.out).mono ?_); rintro e w45 ⟨rfl,hb⟩; refine ⟨_,rfl,?_⟩; have n0_:=Aside0.mk (zav (g:=gb406) (o:=.cells #[.string a0_0,.string a0_1] 23 (0,0)) (by (with_reducible repeat (first|refine zah ?_ _|refine zaj ?_|refine zai ?_ _)); exact BK406.out) hb); have n1_:=Aside0.mk (zam (by repeat (first|(with_reducible first|exact HB.out|apply zaa|apply zab|apply zac|refine zag ?_ GE406.out)|exact HB.out)) hb); clear BK406; clear HB; have BK406:=n0_; have HB:=n1_; clear n0_ n1_; (try clear hb); (try clear hb2); (try clear hk); (try clear hi); have hcz46_0:w45.cell? ⟨gb406,0,none⟩=some (.string a0_0):=(zaf BK406.out 0).trans rfl; have hcz46_1:w45.cell? ⟨gb406,1,none⟩=some (.string a0_1):=(zaf BK406.out 1).trans rfl; have hfz46_0:=zae BK406.out 0; have hfz46_1:=zae BK406.out 1)|(go_at_call 94; (with_reducible refine (c1_Right.calls a0_1 false _ A32.out).mono ?_); rintro e w47 ⟨rfl,hb⟩; have n0_:=Aside0.mk (zav (g:=gb406) (o:=.cells #[.string a0_0,.string a0_1] 23 (0,0)) (by (with_reducible repeat (first|refine zah ?_ _|refine zaj ?_|refine zai ?_ _)); exact BK406.out) hb); have n1_:=Aside0.mk (zam (by repeat (first|(with_reducible first|exact HB.out|apply zaa|apply zab|apply zac|refine zag ?_ GE406.out)|exact HB.out)) hb); clear BK406; clear HB; have BK406:=n0_; have HB:=n1_; clear n0_ n1_; (try clear hb); (try clear hb2); (try clear hk); (try clear hi)))
      go_ret
      exact ⟨by first|rfl|(simp [zal,zak]<;>rfl)|(simp [*,zal,zak]<;>rfl),by repeat (first|(with_reducible first|exact HB.out|apply zaa|apply zab|apply zac|refine zag ?_ GE406.out)|exact HB.out)⟩
    ·replace c31:=Bool.eq_false_iff.mpr c31
     subst c31
     have H1:(some false)=some r:=by rw [if_neg (show ¬ (false=true) by decide)] at H; exact H
     clear H
     have H:=H1
     clear H1
     obtain rfl:=Option.some.inj H
     go_wp2_with (first|((with_reducible refine zas (f:=94) rfl ?_); refine zaZ (some 18) rfl rfl Tryz.func94 (by kernel_rfl) rfl #[.string a0_0] rfl (by (try simp only [List.map_toArray,List.map_cons,List.map_nil]); first|done|rfl|(simp only [List.length_drop,List.length_take]; rfl)) ?_; (with_reducible refine (c1_Right.calls a0_0 false _ A30.out).mono ?_); rintro e w48 ⟨rfl,hb⟩; refine ⟨_,rfl,?_⟩; have n0_:=Aside0.mk (zav (g:=gb406) (o:=.cells #[.string a0_0,.string a0_1] 23 (0,0)) (by (with_reducible repeat (first|refine zah ?_ _|refine zaj ?_|refine zai ?_ _)); exact BK406.out) hb); have n1_:=Aside0.mk (zam (by repeat (first|(with_reducible first|exact HB.out|apply zaa|apply zab|apply zac|refine zag ?_ GE406.out)|exact HB.out)) hb); clear BK406; clear HB; have BK406:=n0_; have HB:=n1_; clear n0_ n1_; (try clear hb); (try clear hb2); (try clear hk); (try clear hi)))
     go_ret
     exact ⟨by first|rfl|(simp [zal,zak]<;>rfl)|(simp [*,zal,zak]<;>rfl),by repeat (first|(with_reducible first|exact HB.out|apply zaa|apply zab|apply zac|refine zag ?_ GE406.out)|exact HB.out)⟩
mutual
noncomputable def c2_New.j0:Nat→ByteArray→ByteArray→Bool→Option (ByteArray×ByteArray×Int)
 | 0,_,_,_=>none
 | k+1,x0,x1,x6=>if x6=true then (if 1≤(x0.size:Int) then (c2_New.j1 k (x0.extract 1 x0.size) x1 x6) else (none)) else (c2_New.j1 k x0 x1 x6)
noncomputable def c2_New.j1:Nat→ByteArray→ByteArray→Bool→Option (ByteArray×ByteArray×Int)
 | 0,_,_,_=>none
 | k+1,x0,x1,x6=>(c1_Right.f x0).bind fun t566=>(if t566=true then ((c1_Right.f x1).bind fun t567=>(c2_New.j2 k x0 x1 x6 (!t567))) else (c2_New.j2 k x0 x1 x6 true))
noncomputable def c2_New.j2:Nat→ByteArray→ByteArray→Bool→Bool→Option (ByteArray×ByteArray×Int)
 | 0,_,_,_,_=>none
 | k+1,x0,x1,x6,x24=>if x24=true then (some ((⟨#[]⟩:ByteArray),(⟨#[]⟩:ByteArray),3)) else (if x1.toList=([48]:List UInt8) then (some ((⟨#[]⟩:ByteArray),(⟨#[]⟩:ByteArray),8)) else ((c2_Lowest.f x6 x0 x1).bind fun bt568=>((c2_Told.f k bt568.1 bt568.2.1 bt568.2.2).bind fun bt571=>(some (bt571.1,bt571.2.1,bt571.2.2)))))
end
noncomputable def c2_New.f (k:Nat) (a0:ByteArray) (a1:ByteArray):Option (ByteArray×ByteArray×Int):=if a0.toList=([]:List UInt8) then (c2_New.j0 k a0 a1 false) else (if 0<(a0.size:Int) then (c2_New.j0 k a0 a1 ((bt a0 0) == 45)) else (none))
noncomputable def c2_Whole.f (a0:Int):Option (Bool×ByteArray×ByteArray):=if a0<0 then ((c1_Of.f (IntKind.u64.wrap ((IntKind.u64.wrap (wrap64 (-(wrap64 (a0+1)))))+1))).bind fun t414=>(some (true,t414,(⟨#[49]⟩:ByteArray)))) else ((c1_Of.f (IntKind.u64.wrap (a0))).bind fun t415=>(some (false,t415,(⟨#[49]⟩:ByteArray))))
theorem c2_Whole.calls (a0:Int) (r1:Bool) (r2:ByteArray) (r3:ByteArray) (w:World) (h:c2_Whole.f a0=some (r1,r2,r3)) :
  Calls Tryz.prog 66 #[.int .i64 a0] w fun e w'=>e = .returned (.agg #[.bool r1,.string r2,.string r3])∧Below w.heap.size w w':=by
 have hu66:=Tryz.underlying66
 have HB:=Aside0.mk (Below.refl w.heap.size w)
 have H:(if a0<0 then ((c1_Of.f (IntKind.u64.wrap ((IntKind.u64.wrap (wrap64 (-(wrap64 (a0+1)))))+1))).bind fun t414=>(some (true,t414,(⟨#[49]⟩:ByteArray)))) else ((c1_Of.f (IntKind.u64.wrap (a0))).bind fun t415=>(some (false,t415,(⟨#[49]⟩:ByteArray)))))=some (r1,r2,r3):=h
 clear h
 by_cases c2:a0<0
 ·rw [if_pos c2] at H
  have c2b0:decide (a0<0)=true:=decide_eq_true c2
  clear c2
  replace H:=Option.bind_eq_some_iff.mp H
  obtain ⟨t414,A30,H⟩:=H
  replace H:(some (true,t414,(⟨#[49]⟩:ByteArray)))=some (r1,r2,r3):=H
  have A3:=Aside0.mk A30
  clear A30
  simp only [Option.some.injEq,Prod.mk.injEq] at H
  obtain ⟨rfl,rfl,rfl⟩:=H
  go_enter Tryz.func66,Tryz.ntmps66
  go_wp2_with (first|((with_reducible refine zaO (N:=2) rfl ?_); refine za9 ?hg (N:=2) ?hd (cs:=#[.bool false,.string (⟨#[]⟩:ByteArray),.string (⟨#[]⟩:ByteArray)]) (t:=66) ?hr ?_; (case hd=>rfl); (case hg=>rfl); (case hr=>first|(go_simp; done)|(go_simp; rfl)); intro gb413 hg w4 hbox hb; have n0_:=Aside0.mk (zam (by repeat (first|(with_reducible first|exact HB.out|apply zaa|apply zab|apply zac)|exact HB.out)) hb); have n1_:=Aside0.mk (hbox); have n2_:=Aside0.mk ((by rw [hg]; exact (zan (by repeat (first|(with_reducible first|exact HB.out|apply zaa|apply zab|apply zac)|exact HB.out))):w.heap.size≤gb413)); have n3_:=Aside0.mk ((by rw [hg]; exact (zan (by repeat (first|(with_reducible first|exact HB.out|apply zaa|apply zab|apply zac)|exact HB.out))):w.heap.size≤gb413)); clear HB; have HB:=n0_; have BK413:=n1_; have GW413:=n2_; have GE413:=n3_; clear n0_ n1_ n2_ n3_; clear hb hbox hg)|((with_reducible refine zas (f:=148) rfl ?_); refine zaZ (some 10) rfl rfl Tryz.func148 (by kernel_rfl) rfl #[.int .u64 (IntKind.u64.wrap ((IntKind.u64.wrap (wrap64 (-(wrap64 (a0+1)))))+1))] rfl (by (try simp only [List.map_toArray,List.map_cons,List.map_nil]); first|done|rfl|(simp only [List.length_drop,List.length_take]; rfl)) ?_; (with_reducible refine (c1_Of.calls (IntKind.u64.wrap ((IntKind.u64.wrap (wrap64 (-(wrap64 (a0+1)))))+1)) t414 _ A3.out).mono ?_); rintro e w5 ⟨rfl,hb⟩; refine ⟨_,rfl,?_⟩; have n0_:=Aside0.mk (zav (g:=gb413) (o:=.cells #[.bool false,.string (⟨#[]⟩:ByteArray),.string (⟨#[]⟩:ByteArray)] 66 (0,0)) (by (with_reducible repeat (first|refine zah ?_ _|refine zaj ?_|refine zai ?_ _)); exact BK413.out) hb); have n1_:=Aside0.mk (zam (by repeat (first|(with_reducible first|exact HB.out|apply zaa|apply zab|apply zac|refine zag ?_ GE413.out)|exact HB.out)) hb); clear BK413; clear HB; have BK413:=n0_; have HB:=n1_; clear n0_ n1_; (try clear hb); (try clear hb2); (try clear hk); (try clear hi); have hcz6_0:w5.cell? ⟨gb413,0,none⟩=some (.bool false):=(zaf BK413.out 0).trans rfl; have hcz6_1:w5.cell? ⟨gb413,1,none⟩=some (.string (⟨#[]⟩:ByteArray)):=(zaf BK413.out 1).trans rfl; have hcz6_2:w5.cell? ⟨gb413,2,none⟩=some (.string (⟨#[]⟩:ByteArray)):=(zaf BK413.out 2).trans rfl; have hfz6_0:=zae BK413.out 0; have hfz6_1:=zae BK413.out 1; have hfz6_2:=zae BK413.out 2))
  refine bodyPost_ret (results_cell_row rfl _ _ gb413 66 #[.bool true,.string t414,.string (⟨#[49]⟩:ByteArray)] (0,0) _ rfl (by (with_reducible repeat (first|refine zah ?_ _|refine zaj ?_|refine zai ?_ _)); refine zaE (cs:=#[.bool true,.string t414,.string (⟨#[]⟩:ByteArray)]) ?_ 2 _ rfl; (with_reducible repeat (first|refine zah ?_ _|refine zaj ?_|refine zai ?_ _)); refine zaE (cs:=#[.bool true,.string (⟨#[]⟩:ByteArray),.string (⟨#[]⟩:ByteArray)]) ?_ 1 _ rfl; (with_reducible repeat (first|refine zah ?_ _|refine zaj ?_|refine zai ?_ _)); refine zaE (cs:=#[.bool false,.string (⟨#[]⟩:ByteArray),.string (⟨#[]⟩:ByteArray)]) ?_ 0 _ rfl; (with_reducible repeat (first|refine zah ?_ _|refine zaj ?_|refine zai ?_ _)); exact BK413.out) Tryz.underlying66 rfl (by kernel_rfl)) rfl ?_
  exact ⟨by first|rfl|(simp [zal,zak]<;>rfl)|(simp [*,zal,zak]<;>rfl),by repeat (first|(with_reducible first|exact HB.out|apply zaa|apply zab|apply zac|refine zag ?_ GE413.out)|exact HB.out)⟩
 ·rw [if_neg c2] at H
  have c2b0:decide (a0<0)=false:=decide_eq_false c2
  clear c2
  replace H:=Option.bind_eq_some_iff.mp H
  obtain ⟨t415,A70,H⟩:=H
  replace H:(some (false,t415,(⟨#[49]⟩:ByteArray)))=some (r1,r2,r3):=H
  have A7:=Aside0.mk A70
  clear A70
  simp only [Option.some.injEq,Prod.mk.injEq] at H
  obtain ⟨rfl,rfl,rfl⟩:=H
  go_enter Tryz.func66,Tryz.ntmps66
  go_wp2_with (first|((with_reducible refine zaO (N:=2) rfl ?_); refine za9 ?hg (N:=2) ?hd (cs:=#[.bool false,.string (⟨#[]⟩:ByteArray),.string (⟨#[]⟩:ByteArray)]) (t:=66) ?hr ?_; (case hd=>rfl); (case hg=>rfl); (case hr=>first|(go_simp; done)|(go_simp; rfl)); intro gb413 hg w8 hbox hb; have n0_:=Aside0.mk (zam (by repeat (first|(with_reducible first|exact HB.out|apply zaa|apply zab|apply zac)|exact HB.out)) hb); have n1_:=Aside0.mk (hbox); have n2_:=Aside0.mk ((by rw [hg]; exact (zan (by repeat (first|(with_reducible first|exact HB.out|apply zaa|apply zab|apply zac)|exact HB.out))):w.heap.size≤gb413)); have n3_:=Aside0.mk ((by rw [hg]; exact (zan (by repeat (first|(with_reducible first|exact HB.out|apply zaa|apply zab|apply zac)|exact HB.out))):w.heap.size≤gb413)); clear HB; have HB:=n0_; have BK413:=n1_; have GW413:=n2_; have GE413:=n3_; clear n0_ n1_ n2_ n3_; clear hb hbox hg)|((with_reducible refine zas (f:=148) rfl ?_); refine zaZ (some 14) rfl rfl Tryz.func148 (by kernel_rfl) rfl #[.int .u64 (IntKind.u64.wrap (a0))] rfl (by (try simp only [List.map_toArray,List.map_cons,List.map_nil]); first|done|rfl|(simp only [List.length_drop,List.length_take]; rfl)) ?_; (with_reducible refine (c1_Of.calls (IntKind.u64.wrap (a0)) t415 _ A7.out).mono ?_); rintro e w9 ⟨rfl,hb⟩; refine ⟨_,rfl,?_⟩; have n0_:=Aside0.mk (zav (g:=gb413) (o:=.cells #[.bool false,.string (⟨#[]⟩:ByteArray),.string (⟨#[]⟩:ByteArray)] 66 (0,0)) (by (with_reducible repeat (first|refine zah ?_ _|refine zaj ?_|refine zai ?_ _)); exact BK413.out) hb); have n1_:=Aside0.mk (zam (by repeat (first|(with_reducible first|exact HB.out|apply zaa|apply zab|apply zac|refine zag ?_ GE413.out)|exact HB.out)) hb); clear BK413; clear HB; have BK413:=n0_; have HB:=n1_; clear n0_ n1_; (try clear hb); (try clear hb2); (try clear hk); (try clear hi); have hcz10_0:w9.cell? ⟨gb413,0,none⟩=some (.bool false):=(zaf BK413.out 0).trans rfl; have hcz10_1:w9.cell? ⟨gb413,1,none⟩=some (.string (⟨#[]⟩:ByteArray)):=(zaf BK413.out 1).trans rfl; have hcz10_2:w9.cell? ⟨gb413,2,none⟩=some (.string (⟨#[]⟩:ByteArray)):=(zaf BK413.out 2).trans rfl; have hfz10_0:=zae BK413.out 0; have hfz10_1:=zae BK413.out 1; have hfz10_2:=zae BK413.out 2))
  refine bodyPost_ret (results_cell_row rfl _ _ gb413 66 #[.bool false,.string t415,.string (⟨#[49]⟩:ByteArray)] (0,0) _ rfl (by (with_reducible repeat (first|refine zah ?_ _|refine zaj ?_|refine zai ?_ _)); refine zaE (cs:=#[.bool false,.string t415,.string (⟨#[]⟩:ByteArray)]) ?_ 2 _ rfl; (with_reducible repeat (first|refine zah ?_ _|refine zaj ?_|refine zai ?_ _)); refine zaE (cs:=#[.bool false,.string (⟨#[]⟩:ByteArray),.string (⟨#[]⟩:ByteArray)]) ?_ 1 _ rfl; (with_reducible repeat (first|refine zah ?_ _|refine zaj ?_|refine zai ?_ _)); refine zaE (cs:=#[.bool false,.string (⟨#[]⟩:ByteArray),.string (⟨#[]⟩:ByteArray)]) ?_ 0 _ rfl; (with_reducible repeat (first|refine zah ?_ _|refine zaj ?_|refine zai ?_ _)); exact BK413.out) Tryz.underlying66 rfl (by kernel_rfl)) rfl ?_
  exact ⟨by first|rfl|(simp [zal,zak]<;>rfl)|(simp [*,zal,zak]<;>rfl),by repeat (first|(with_reducible first|exact HB.out|apply zaa|apply zab|apply zac|refine zag ?_ GE413.out)|exact HB.out)⟩
noncomputable def c2_Read.j0:Nat→Bool→ByteArray→ByteArray→Option (Bool×ByteArray×ByteArray)
 | 0,_,_,_=>none
 | k+1,x10,x417000,x417001=>if x10=true then ((c2_Whole.f 0).bind fun bt418=>(some (bt418.1,bt418.2.1,bt418.2.2))) else (if 0<(x417000.size:Int) then (if (bt x417000 0)=45 then (if 1≤(x417000.size:Int) then (some (true,x417000.extract 1 x417000.size,x417001)) else (none)) else (some (false,x417000,x417001))) else (none))
noncomputable def c2_Read.f (k:Nat) (a0_0:ByteArray) (a0_1:ByteArray):Option (Bool×ByteArray×ByteArray):=if a0_0.toList=([]:List UInt8) then (c2_Read.j0 k true a0_0 a0_1) else (c2_Read.j0 k (a0_1.toList == ([]:List UInt8)) a0_0 a0_1)
theorem c2_Read.calls (k:Nat) (a0_0:ByteArray) (a0_1:ByteArray) (r1:Bool) (r2:ByteArray) (r3:ByteArray) (w:World) (h:c2_Read.f k a0_0 a0_1=some (r1,r2,r3)) :
  Calls Tryz.prog 61 #[.agg #[.string a0_0,.string a0_1]] w fun e w'=>e = .returned (.agg #[.bool r1,.string r2,.string r3])∧Below w.heap.size w w':=by
 have hu23:=Tryz.underlying23
 have hu66:=Tryz.underlying66
 have HB:=Aside0.mk (Below.refl w.heap.size w)
 have H:(if a0_0.toList=([]:List UInt8) then (c2_Read.j0 k true a0_0 a0_1) else (c2_Read.j0 k (a0_1.toList == ([]:List UInt8)) a0_0 a0_1))=some (r1,r2,r3):=h
 clear h
 have HC2:=Aside0.mk H
 clear H
 go_enter Tryz.func61,Tryz.ntmps61
 go_upto_region 1 with (first|((with_reducible refine zaO (N:=1) rfl ?_); refine za9 ?hg (N:=1) ?hd (cs:=#[.string a0_0,.string a0_1]) (t:=23) ?hr ?_; (case hd=>rfl); (case hg=>rfl); (case hr=>first|(go_simp; done)|(go_simp; rfl)); intro gb416 hg w3 hbox hb; have n0_:=Aside0.mk (zam (by repeat (first|(with_reducible first|exact HB.out|apply zaa|apply zab|apply zac)|exact HB.out)) hb); have n1_:=Aside0.mk (hbox); have n2_:=Aside0.mk ((by rw [hg]; exact (zan (by repeat (first|(with_reducible first|exact HB.out|apply zaa|apply zab|apply zac)|exact HB.out))):w.heap.size≤gb416)); have n3_:=Aside0.mk ((by rw [hg]; exact (zan (by repeat (first|(with_reducible first|exact HB.out|apply zaa|apply zab|apply zac)|exact HB.out))):w.heap.size≤gb416)); clear HB; have HB:=n0_; have BK416:=n1_; have GW416:=n2_; have GE416:=n3_; clear n0_ n1_ n2_ n3_; clear hb hbox hg)|((with_reducible refine zaO (N:=2) rfl ?_); refine za9 ?hg (N:=2) ?hd (cs:=#[.bool false,.string (⟨#[]⟩:ByteArray),.string (⟨#[]⟩:ByteArray)]) (t:=66) ?hr ?_; (case hd=>rfl); (case hg=>rfl); (case hr=>first|(go_simp; done)|(go_simp; rfl)); intro gb417 hg w4 hbox hb; have n0_:=Aside0.mk (zav (g:=gb416) (o:=.cells #[.string a0_0,.string a0_1] 23 (0,0)) (by (with_reducible repeat (first|refine zah ?_ _|refine zaj ?_|refine zai ?_ _)); exact BK416.out) hb); have n1_:=Aside0.mk (zam (by repeat (first|(with_reducible first|exact HB.out|apply zaa|apply zab|apply zac|refine zag ?_ GE416.out)|exact HB.out)) hb); have n2_:=Aside0.mk (hbox); have n3_:=Aside0.mk ((by rw [hg]; exact (zan (by repeat (first|(with_reducible first|exact HB.out|apply zaa|apply zab|apply zac|refine zag ?_ GE416.out)|exact HB.out))):w.heap.size≤gb417)); have n4_:=Aside0.mk ((by rw [hg]; exact (zan (by repeat (first|(with_reducible first|exact HB.out|apply zaa|apply zab|apply zac|refine zag ?_ GE416.out)|exact HB.out))):w.heap.size≤gb417)); have n5_:=Aside0.mk ((by rw [hg]; exact Nat.ne_of_lt (zar (g:=gb416) (o:=.cells #[.string a0_0,.string a0_1] 23 (0,0)) (by (with_reducible repeat (first|refine zah ?_ _|refine zaj ?_|refine zai ?_ _)); exact BK416.out)):gb416≠gb417)); have n6_:=Aside0.mk ((by rw [hg]; exact Nat.ne_of_gt (zar (g:=gb416) (o:=.cells #[.string a0_0,.string a0_1] 23 (0,0)) (by (with_reducible repeat (first|refine zah ?_ _|refine zaj ?_|refine zai ?_ _)); exact BK416.out)):gb417≠gb416)); clear BK416; clear HB; have BK416:=n0_; have HB:=n1_; have BK417:=n2_; have GW417:=n3_; have GE417:=n4_; have NB416_398:=n5_; have NB417_397:=n6_; clear n0_ n1_ n2_ n3_ n4_ n5_ n6_; clear hb hbox hg))
 (try simp only [Act.put,List.setIfInBounds_toArray,List.set_cons_zero,List.set_cons_succ])
 go_cut [10] (fun v10 wc=>∃ (kq:Nat) (x10_1:Bool),v10 = .bool x10_1∧Aside0 (c2_Read.j0 kq x10_1 a0_0 a0_1=some (r1,r2,r3))∧Aside0 (kq≤k)∧Aside0 (wc.heap[gb416]? = some (.cells #[.string a0_0,.string a0_1] 23 (0,0)))∧Aside0 (wc.heap[gb417]? = some (.cells #[.bool false,.string (⟨#[]⟩:ByteArray),.string (⟨#[]⟩:ByteArray)] 66 (0,0)))∧Aside0 (Below w.heap.size w wc))
 case first =>
  have H:=HC2.out
  clear HC2
  by_cases c5:a0_0.toList=([]:List UInt8)
  ·rw [if_pos c5] at H
   have c5b0:(a0_0.toList == ([]:List UInt8))=true:=beq_iff_eq.mpr c5
   clear c5
   (first|rw [c5b0]|(simp only [i64_w,i32_w]; rw [c5b0])|skip)
   have H':=Aside0.mk H
   clear H
   have hnb6:=NB416_398.out
   have hnc6:=NB417_397.out
   have hcz7_0:w4.cell? ⟨gb416,0,none⟩=some (.string a0_0):=(zaf BK416.out 0).trans rfl
   have hcz7_1:w4.cell? ⟨gb416,1,none⟩=some (.string a0_1):=(zaf BK416.out 1).trans rfl
   have hfz7_0:=zae BK416.out 0
   have hfz7_1:=zae BK416.out 1
   go_wp2
   go_meet
   case rel=>exact ⟨_,(true),(by first|rfl|(simp; done)|(simp [*]; done)),H',⟨by first|omega|exact Nat.le_refl _⟩,⟨by (with_reducible repeat (first|refine zah ?_ _|refine zaj ?_|refine zai ?_ _)); exact BK416.out⟩,⟨by (with_reducible repeat (first|refine zah ?_ _|refine zaj ?_|refine zai ?_ _)); exact BK417.out⟩,⟨by repeat (first|(with_reducible first|exact HB.out|apply zaa|apply zab|apply zac|refine zag ?_ GE416.out|refine zag ?_ GE417.out)|exact HB.out)⟩⟩
  ·rw [if_neg c5] at H
   (first|rw [c5b0]|(simp only [i64_w,i32_w]; rw [c5b0])|skip)
   have H':=Aside0.mk H
   clear H
   have hnb8:=NB416_398.out
   have hnc8:=NB417_397.out
   have hcz9_0:w4.cell? ⟨gb416,0,none⟩=some (.string a0_0):=(zaf BK416.out 0).trans rfl
   have hcz9_1:w4.cell? ⟨gb416,1,none⟩=some (.string a0_1):=(zaf BK416.out 1).trans rfl
   have hfz9_0:=zae BK416.out 0
   have hfz9_1:=zae BK416.out 1
   go_wp2
   go_meet
   case rel=>exact ⟨_,((a0_1.toList == ([]:List UInt8))),(by first|rfl|(simp; done)|(simp [*]; done)),H',⟨by first|omega|exact Nat.le_refl _⟩,⟨by (with_reducible repeat (first|refine zah ?_ _|refine zaj ?_|refine zai ?_ _)); exact BK416.out⟩,⟨by (with_reducible repeat (first|refine zah ?_ _|refine zaj ?_|refine zai ?_ _)); exact BK417.out⟩,⟨by repeat (first|(with_reducible first|exact HB.out|apply zaa|apply zab|apply zac|refine zag ?_ GE416.out|refine zag ?_ GE417.out)|exact HB.out)⟩⟩
 case rest =>
  clear HC2
  try clear p2
  try clear c5
  try clear c5b0
  try clear c5b1
  try clear c6
  try clear c8
  obtain ⟨kq,x10_1,rfl,HA,HJ1,BK416,BK417,HB⟩:=hcut
  cases kq with
  | zero=>exact absurd HA.out (by simp [c2_Read.j0])
  | succ kj1 =>
   have H:=HA.out
   clear HA
   simp only [c2_Read.j0] at H
   by_cases c10:x10_1=true
   ·subst c10
    have H1:((c2_Whole.f 0).bind fun bt418=>(some (bt418.1,bt418.2.1,bt418.2.2)))=some (r1,r2,r3):=by rw [if_pos rfl] at H; exact H
    clear H
    have H:=H1
    clear H1
    replace H:=Option.bind_eq_some_iff.mp H
    obtain ⟨⟨t418,t419,t420⟩,A110,H⟩:=H
    replace H:(some (t418,t419,t420))=some (r1,r2,r3):=H
    have A11:=Aside0.mk A110
    clear A110
    simp only [Option.some.injEq,Prod.mk.injEq] at H
    obtain ⟨rfl,rfl,rfl⟩:=H
    go_wp2_with (first|((with_reducible refine zas (f:=66) rfl ?_); refine zaZ (some 11) rfl rfl Tryz.func66 (by kernel_rfl) rfl #[.int .i64 0] rfl (by (try simp only [List.map_toArray,List.map_cons,List.map_nil]); first|done|rfl|(simp only [List.length_drop,List.length_take]; rfl)) ?_; (with_reducible refine (c2_Whole.calls 0 t418 t419 t420 _ A11.out).mono ?_); rintro e w12 ⟨rfl,hb⟩; refine ⟨_,rfl,?_⟩; have n0_:=Aside0.mk (zav (g:=gb416) (o:=.cells #[.string a0_0,.string a0_1] 23 (0,0)) (by (with_reducible repeat (first|refine zah ?_ _|refine zaj ?_|refine zai ?_ _)); exact BK416.out) hb); have n1_:=Aside0.mk (zav (g:=gb417) (o:=.cells #[.bool false,.string (⟨#[]⟩:ByteArray),.string (⟨#[]⟩:ByteArray)] 66 (0,0)) (by (with_reducible repeat (first|refine zah ?_ _|refine zaj ?_|refine zai ?_ _)); exact BK417.out) hb); have n2_:=Aside0.mk (zam (by repeat (first|(with_reducible first|exact HB.out|apply zaa|apply zab|apply zac|refine zag ?_ GE416.out|refine zag ?_ GE417.out)|exact HB.out)) hb); clear BK416; clear BK417; clear HB; have BK416:=n0_; have BK417:=n1_; have HB:=n2_; clear n0_ n1_ n2_; (try clear hb); (try clear hb2); (try clear hk); (try clear hi); have hnb13:=NB417_397.out; have hnc13:=NB416_398.out; have hcz14_0:w12.cell? ⟨gb417,0,none⟩=some (.bool false):=(zaf BK417.out 0).trans rfl; have hcz14_1:w12.cell? ⟨gb417,1,none⟩=some (.string (⟨#[]⟩:ByteArray)):=(zaf BK417.out 1).trans rfl; have hcz14_2:w12.cell? ⟨gb417,2,none⟩=some (.string (⟨#[]⟩:ByteArray)):=(zaf BK417.out 2).trans rfl; have hfz14_0:=zae BK417.out 0; have hfz14_1:=zae BK417.out 1; have hfz14_2:=zae BK417.out 2))
    refine bodyPost_ret (results_cell_row rfl _ _ gb417 66 #[.bool t418,.string t419,.string t420] (0,0) _ rfl (by (with_reducible repeat (first|refine zah ?_ _|refine zaj ?_|refine zai ?_ _)); refine zaE (cs:=#[.bool t418,.string t419,.string (⟨#[]⟩:ByteArray)]) ?_ 2 _ rfl; (with_reducible repeat (first|refine zah ?_ _|refine zaj ?_|refine zai ?_ _)); refine zaE (cs:=#[.bool t418,.string (⟨#[]⟩:ByteArray),.string (⟨#[]⟩:ByteArray)]) ?_ 1 _ rfl; (with_reducible repeat (first|refine zah ?_ _|refine zaj ?_|refine zai ?_ _)); refine zaE (cs:=#[.bool false,.string (⟨#[]⟩:ByteArray),.string (⟨#[]⟩:ByteArray)]) ?_ 0 _ rfl; (with_reducible repeat (first|refine zah ?_ _|refine zaj ?_|refine zai ?_ _)); exact BK417.out) Tryz.underlying66 rfl (by kernel_rfl)) rfl ?_
    exact ⟨by first|rfl|(simp [zal,zak]<;>rfl)|(simp [*,zal,zak]<;>rfl),by repeat (first|(with_reducible first|exact HB.out|apply zaa|apply zab|apply zac|refine zag ?_ GE416.out|refine zag ?_ GE417.out)|exact HB.out)⟩
   ·replace c10:=Bool.eq_false_iff.mpr c10
    subst c10
    have H1:(if 0<(a0_0.size:Int) then (if (bt a0_0 0)=45 then (if 1≤(a0_0.size:Int) then (some (true,a0_0.extract 1 a0_0.size,a0_1)) else (none)) else (some (false,a0_0,a0_1))) else (none))=some (r1,r2,r3):=by rw [if_neg (show ¬ (false=true) by decide)] at H; exact H
    clear H
    have H:=H1
    clear H1
    by_cases c15:0<(a0_0.size:Int)
    ·rw [if_pos c15] at H
     have c15b0:decide (0<(a0_0.size:Int))=true:=decide_eq_true c15
     clear c15
     by_cases c17:(bt a0_0 0)=45
     ·rw [if_pos c17] at H
      have c17b0:((bt a0_0 0) == 45)=true:=beq_iff_eq.mpr c17
      clear c17
      by_cases c18:1≤(a0_0.size:Int)
      ·rw [if_pos c18] at H
       have c18b0:=eq_true c18
       clear c18
       simp only [Option.some.injEq,Prod.mk.injEq] at H
       obtain ⟨rfl,rfl,rfl⟩:=H
       have hnb19:=NB416_398.out
       have hnc19:=NB417_397.out
       have hcz20_0:wc.cell? ⟨gb416,0,none⟩=some (.string a0_0):=(zaf BK416.out 0).trans rfl
       have hcz20_1:wc.cell? ⟨gb416,1,none⟩=some (.string a0_1):=(zaf BK416.out 1).trans rfl
       have hfz20_0:=zae BK416.out 0
       have hfz20_1:=zae BK416.out 1
       have p16:0≤(0:Int):=(by omega)
       have q16:0<a0_0.size:=(by have:(0:Int)<(a0_0.size:Int):=of_decide_eq_true (by first|(with_reducible assumption)|assumption); omega)
       have hx16:∀ h:0<a0_0.size,((a0_0[0]'h).toNat:Int)=bt a0_0 0:=bt_at a0_0 0
       clear p16
       have qi16:(0<(a0_0.size:Int))=True:=eq_true (of_decide_eq_true (by first|(with_reducible assumption)|assumption))
       replace q16:=eq_true q16
       try go_wp2
       have n0_:=Aside0.mk (zaj BK416.out)
       have n1_:=Aside0.mk (zaj BK417.out)
       have n2_:=Aside0.mk (zac HB.out)
       clear BK416
       clear BK417
       clear HB
       have BK416:=n0_
       have BK417:=n1_
       have HB:=n2_
       clear n0_ n1_ n2_
       refine start_ (n:=7) (S:=fun w'=>w'.cell? ⟨gb416,0,none⟩=some (.string a0_0)∧w'.cell? ⟨gb416,1,none⟩=some (.string a0_1)) (ds:=[]) #[false,false,false,false,false,false,false] (by kernel_rfl) rfl rfl ⟨(zaf BK416.out 0).trans rfl,(zaf BK416.out 1).trans rfl⟩ (fun hHeld => ?_)
       generalize wc.drew=w21 at BK416 BK417 HB hHeld ⊢
       refine pure_ (i:=0) (N:=some 16) (v:=?_) (a':=?_) #[true,false,false,false,false,false,false] rfl rfl (by kernel_rfl) (fun _ _ _ h=>h) (Or.inl ⟨by rfl,?_⟩) ?_ ?_
       rotate_left
       ·intro w'
        go_simp
        with_reducible rfl
       rotate_left
       ·simp only [Act.put,List.setIfInBounds_toArray,List.set_cons_zero,List.set_cons_succ,i64_w,i32_w]
        rfl
       refine pure_ (i:=3) (N:=some 19) (v:=?_) (a':=?_) #[true,false,false,true,false,false,false] rfl rfl (by kernel_rfl) (fun _ _ _ h=>h) (Or.inl ⟨by rfl,?_⟩) ?_ ?_
       rotate_left
       ·intro w'
        go_simp
        with_reducible rfl
       rotate_left
       ·simp only [Act.put,List.setIfInBounds_toArray,List.set_cons_zero,List.set_cons_succ,i64_w,i32_w]
        rfl
       refine take_ (i:=1) (N:=some 17) (v:=?_) (a':=?_) #[true,true,false,true,false,false,false] rfl rfl (by kernel_rfl) (fun _ _ _ h=>h) (Or.inl ⟨by rfl,?_⟩) hHeld ?_ ?_
       rotate_left
       ·rintro w' ⟨s0,s1⟩
        go_simp
        with_reducible rfl
       rotate_left
       ·simp only [Act.put,List.setIfInBounds_toArray,List.set_cons_zero,List.set_cons_succ,i64_w,i32_w]
        rfl
       refine pure_ (i:=2) (N:=some 18) (v:=?_) (a':=?_) #[true,true,true,true,false,false,false] rfl rfl (by kernel_rfl) (fun _ _ _ h=>h) (Or.inl ⟨by rfl,?_⟩) ?_ ?_
       rotate_left
       ·intro w'
        go_simp
        with_reducible rfl
       rotate_left
       ·simp only [Act.put,List.setIfInBounds_toArray,List.set_cons_zero,List.set_cons_succ,i64_w,i32_w]
        rfl
       refine take_ (i:=4) (N:=some 20) (v:=?_) (a':=?_) #[true,true,true,true,true,false,false] rfl rfl (by kernel_rfl) (fun _ _ _ h=>h) (Or.inl ⟨by rfl,?_⟩) hHeld ?_ ?_
       rotate_left
       ·rintro w' ⟨s0,s1⟩
        go_simp
        with_reducible rfl
       rotate_left
       ·simp only [Act.put,List.setIfInBounds_toArray,List.set_cons_zero,List.set_cons_succ,i64_w,i32_w]
        rfl
       refine pure_ (i:=5) (N:=some 21) (v:=?_) (a':=?_) #[true,true,true,true,true,true,false] rfl rfl (by kernel_rfl) (fun _ _ _ h=>h) (Or.inl ⟨by rfl,?_⟩) ?_ ?_
       rotate_left
       ·intro w'
        go_simp
        with_reducible rfl
       rotate_left
       ·simp only [Act.put,List.setIfInBounds_toArray,List.set_cons_zero,List.set_cons_succ,i64_w,i32_w]
        rfl
       refine one_ (i:=6) (N:=none) #[true,true,true,true,true,true,true] rfl rfl (by kernel_rfl) (by decide) (fun K hK => ?_)
       have hs22:w21.cell? ⟨gb417,0,none⟩=some (.bool false):=(zaf BK417.out 0).trans rfl
       have hfs22:=zae BK417.out 0
       have hns22_0:=NB416_398.out
       have hms22_0:=NB417_397.out
       have hs23:w21.cell? ⟨gb417,1,none⟩=some (.string (⟨#[]⟩:ByteArray)):=(zaf BK417.out 1).trans rfl
       have hfs23:=zae BK417.out 1
       have hns23_0:=NB416_398.out
       have hms23_0:=NB417_397.out
       have hs24:w21.cell? ⟨gb417,2,none⟩=some (.string (⟨#[]⟩:ByteArray)):=(zaf BK417.out 2).trans rfl
       have hfs24:=zae BK417.out 2
       have hns24_0:=NB416_398.out
       have hms24_0:=NB417_397.out
       refine skip_ (w1:=?_) (by rfl) rfl ?_ ?_
       rotate_left
       ·go_simp
        rfl
       refine hK.out _ _ ⟨((zaJ (p:=⟨gb417,_,none⟩) NB416_398.out _).trans (((zaJ (p:=⟨gb417,_,none⟩) NB416_398.out _).trans (((zaJ (p:=⟨gb417,_,none⟩) NB416_398.out _).trans (hHeld.1)))))),((zaJ (p:=⟨gb417,_,none⟩) NB416_398.out _).trans (((zaJ (p:=⟨gb417,_,none⟩) NB416_398.out _).trans (((zaJ (p:=⟨gb417,_,none⟩) NB416_398.out _).trans (hHeld.2))))))⟩ (fun hHeld => ?_)
       clear hK K
       refine done_ (by kernel_rfl) ?_
       try go_wp2
       refine bodyPost_ret (results_cell_row rfl _ _ gb417 66 #[.bool true,.string (a0_0.extract 1 a0_0.size),.string a0_1] (0,0) _ rfl (by (with_reducible repeat (first|refine zah ?_ _|refine zaj ?_|refine zai ?_ _)); refine zaE (cs:=#[.bool true,.string (a0_0.extract 1 a0_0.size),.string (⟨#[]⟩:ByteArray)]) ?_ 2 _ rfl; (with_reducible repeat (first|refine zah ?_ _|refine zaj ?_|refine zai ?_ _)); refine zaE (cs:=#[.bool true,.string (⟨#[]⟩:ByteArray),.string (⟨#[]⟩:ByteArray)]) ?_ 1 _ rfl; (with_reducible repeat (first|refine zah ?_ _|refine zaj ?_|refine zai ?_ _)); refine zaE (cs:=#[.bool false,.string (⟨#[]⟩:ByteArray),.string (⟨#[]⟩:ByteArray)]) ?_ 0 _ rfl; (with_reducible repeat (first|refine zah ?_ _|refine zaj ?_|refine zai ?_ _)); exact BK417.out) Tryz.underlying66 rfl (by kernel_rfl)) rfl ?_
       exact ⟨by first|rfl|(simp [zal,zak]<;>rfl)|(simp [*,zal,zak]<;>rfl),by repeat (first|(with_reducible first|exact HB.out|apply zaa|apply zab|apply zac|refine zag ?_ GE416.out|refine zag ?_ GE417.out)|exact HB.out)⟩
      ·rw [if_neg c18] at H
       exact absurd H (by simp)
     ·rw [if_neg c17] at H
      simp only [Option.some.injEq,Prod.mk.injEq] at H
      obtain ⟨rfl,rfl,rfl⟩:=H
      have hnb25:=NB416_398.out
      have hnc25:=NB417_397.out
      have hcz26_0:wc.cell? ⟨gb416,0,none⟩=some (.string a0_0):=(zaf BK416.out 0).trans rfl
      have hcz26_1:wc.cell? ⟨gb416,1,none⟩=some (.string a0_1):=(zaf BK416.out 1).trans rfl
      have hfz26_0:=zae BK416.out 0
      have hfz26_1:=zae BK416.out 1
      have p16:0≤(0:Int):=(by omega)
      have q16:0<a0_0.size:=(by have:(0:Int)<(a0_0.size:Int):=of_decide_eq_true (by first|(with_reducible assumption)|assumption); omega)
      have hx16:∀ h:0<a0_0.size,((a0_0[0]'h).toNat:Int)=bt a0_0 0:=bt_at a0_0 0
      clear p16
      have qi16:(0<(a0_0.size:Int))=True:=eq_true (of_decide_eq_true (by first|(with_reducible assumption)|assumption))
      replace q16:=eq_true q16
      have hcz27_0:wc.cell? ⟨gb417,0,none⟩=some (.bool false):=(zaf BK417.out 0).trans rfl
      have hcz27_1:wc.cell? ⟨gb417,1,none⟩=some (.string (⟨#[]⟩:ByteArray)):=(zaf BK417.out 1).trans rfl
      have hcz27_2:wc.cell? ⟨gb417,2,none⟩=some (.string (⟨#[]⟩:ByteArray)):=(zaf BK417.out 2).trans rfl
      have hfz27_0:=zae BK417.out 0
      have hfz27_1:=zae BK417.out 1
      have hfz27_2:=zae BK417.out 2
      go_wp2
      refine bodyPost_ret (results_cell_row rfl _ _ gb417 66 #[.bool false,.string a0_0,.string a0_1] (0,0) _ rfl (by (with_reducible repeat (first|refine zah ?_ _|refine zaj ?_|refine zai ?_ _)); refine zaE (cs:=#[.bool false,.string a0_0,.string (⟨#[]⟩:ByteArray)]) ?_ 2 _ rfl; (with_reducible repeat (first|refine zah ?_ _|refine zaj ?_|refine zai ?_ _)); refine zaE (cs:=#[.bool false,.string (⟨#[]⟩:ByteArray),.string (⟨#[]⟩:ByteArray)]) ?_ 1 _ rfl; (with_reducible repeat (first|refine zah ?_ _|refine zaj ?_|refine zai ?_ _)); refine zaE (cs:=#[.bool false,.string (⟨#[]⟩:ByteArray),.string (⟨#[]⟩:ByteArray)]) ?_ 0 _ rfl; (with_reducible repeat (first|refine zah ?_ _|refine zaj ?_|refine zai ?_ _)); exact BK417.out) Tryz.underlying66 rfl (by kernel_rfl)) rfl ?_
      exact ⟨by first|rfl|(simp [zal,zak]<;>rfl)|(simp [*,zal,zak]<;>rfl),by repeat (first|(with_reducible first|exact HB.out|apply zaa|apply zab|apply zac|refine zag ?_ GE416.out|refine zag ?_ GE417.out)|exact HB.out)⟩
    ·rw [if_neg c15] at H
     exact absurd H (by simp)
noncomputable def c2_Of.f (k:Nat) (a0:Int):Option (ByteArray×ByteArray):=(c2_Whole.f a0).bind fun bt575=>((c2_Told.f k bt575.1 bt575.2.1 bt575.2.2).bind fun bt578=>(some (bt578.1,bt578.2.1)))
end Go.Proofs.ZQ
end
