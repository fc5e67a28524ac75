/- Texts under the proof, joined by a program (prune.py): Q141, QPure3. -/
import Derived.Test.YtglaeambknhjlaaGreatDoorCShowNumbers13
import Derived.Test.YtglaeambknhjlaaGreatDoorCShowNumbers14
import Derived.Test.YtglaeambknhjlaaGreatDoorCShowNumbers15
set_option linter.unusedVariables false
set_option linter.unusedSimpArgs false
set_option exponentiation.threshold 20001
set_option maxHeartbeats 8000000
set_option maxRecDepth 100000
section
namespace Go.Proofs.ZQ
open Go.RowKit Go.Proofs.ZW.Wa Go.Proofs.ZW.Wb Go.Proofs.ZW.Wc
attribute [local go_sem] zaE zaD zaL zaK zaC zaB zaH zaG
mutual
noncomputable def c2_Digits.j0:Nat→Int→Bool→ByteArray→ByteArray→Option (ByteArray×Int)
 | 0,_,_,_,_=>none
 | k+1,x1,x17,x435000,x435001=>if x17=true then (some ((⟨#[]⟩:ByteArray),1)) else ((c2_Read.f k x435000 x435001).bind fun bt436=>((c2_Steps.f bt436.1 bt436.2.1 bt436.2.2 x1).bind fun t440=>(if (t440.size:Int)>600 then (some ((⟨#[]⟩:ByteArray),7)) else (if bt436.1=true then (c2_Digits.j1 k x1 t440 (⟨#[]⟩:ByteArray) (t440.toList != ([48]:List UInt8))) else (c2_Digits.j1 k x1 t440 (⟨#[]⟩:ByteArray) false)))))
noncomputable def c2_Digits.j1:Nat→Int→ByteArray→ByteArray→Bool→Option (ByteArray×Int)
 | 0,_,_,_,_=>none
 | k+1,x1,x7,x8,x31=>if x31=true then (c2_Digits.j2 k x1 x7 (⟨#[45]⟩:ByteArray)) else (c2_Digits.j2 k x1 x7 x8)
noncomputable def c2_Digits.j2:Nat→Int→ByteArray→ByteArray→Option (ByteArray×Int)
 | 0,_,_,_=>none
 | k+1,x1,x7,x8=>if (x7.size:Int)≤x1 then ((c2_Zeros.f (wrap64 ((wrap64 (x1+1))-(x7.size:Int)))).bind fun t441=>(if t441.size+x7.size≤9223372036854775807 then (if x1=0 then (if x8.size+(t441++x7).size≤9223372036854775807 then (some (x8++(t441++x7),0)) else (none)) else (if 0≤(wrap64 (((t441++x7).size:Int)-x1)) then (if (wrap64 (((t441++x7).size:Int)-x1))≤((t441++x7).size:Int) then (if x8.size+((t441++x7).extract 0 ((wrap64 (((t441++x7).size:Int)-x1)):Int).toNat).size≤9223372036854775807 then (if (x8++((t441++x7).extract 0 ((wrap64 (((t441++x7).size:Int)-x1)):Int).toNat)).size+1≤9223372036854775807 then (if ((x8++((t441++x7).extract 0 ((wrap64 (((t441++x7).size:Int)-x1)):Int).toNat))++(⟨#[46]⟩:ByteArray)).size+((t441++x7).extract ((wrap64 (((t441++x7).size:Int)-x1)):Int).toNat (t441++x7).size).size≤9223372036854775807 then (some (((x8++((t441++x7).extract 0 ((wrap64 (((t441++x7).size:Int)-x1)):Int).toNat))++(⟨#[46]⟩:ByteArray))++((t441++x7).extract ((wrap64 (((t441++x7).size:Int)-x1)):Int).toNat (t441++x7).size),0)) else (none)) else (none)) else (none)) else (none)) else (none))) else (none))) else (if x1=0 then (if x8.size+x7.size≤9223372036854775807 then (some (x8++x7,0)) else (none)) else (if 0≤(wrap64 ((x7.size:Int)-x1)) then (if (wrap64 ((x7.size:Int)-x1))≤(x7.size:Int) then (if x8.size+(x7.extract 0 ((wrap64 ((x7.size:Int)-x1)):Int).toNat).size≤9223372036854775807 then (if (x8++(x7.extract 0 ((wrap64 ((x7.size:Int)-x1)):Int).toNat)).size+1≤9223372036854775807 then (if ((x8++(x7.extract 0 ((wrap64 ((x7.size:Int)-x1)):Int).toNat))++(⟨#[46]⟩:ByteArray)).size+(x7.extract ((wrap64 ((x7.size:Int)-x1)):Int).toNat x7.size).size≤9223372036854775807 then (some (((x8++(x7.extract 0 ((wrap64 ((x7.size:Int)-x1)):Int).toNat))++(⟨#[46]⟩:ByteArray))++(x7.extract ((wrap64 ((x7.size:Int)-x1)):Int).toNat x7.size),0)) else (none)) else (none)) else (none)) else (none)) else (none)))
end
noncomputable def c2_Digits.f (k:Nat) (a0_0:ByteArray) (a0_1:ByteArray) (a1:Int):Option (ByteArray×Int):=(c2_Right.f k a0_0 a0_1).bind fun t435=>(if t435=true then (if a1<0 then (c2_Digits.j0 k a1 true a0_0 a0_1) else (c2_Digits.j0 k a1 (decide (a1>600)) a0_0 a0_1)) else (some ((⟨#[]⟩:ByteArray),3)))
theorem c2_Digits.calls (k:Nat) (a0_0:ByteArray) (a0_1:ByteArray) (a1:Int) (r1:ByteArray) (r2:Int) (w:World) (h:c2_Digits.f k a0_0 a0_1 a1=some (r1,r2)) :
  Calls Tryz.prog 24 #[.agg #[.string a0_0,.string a0_1],.int .i64 a1] w fun e w'=>e = .returned (.tuple #[.string r1,.int .i64 r2])∧Below w.heap.size w w':=by
 have hu23:=Tryz.underlying23
 have hu66:=Tryz.underlying66
 have HB:=Aside0.mk (Below.refl w.heap.size w)
 have H:((c2_Right.f k a0_0 a0_1).bind fun t435=>(if t435=true then (if a1<0 then (c2_Digits.j0 k a1 true a0_0 a0_1) else (c2_Digits.j0 k a1 (decide (a1>600)) a0_0 a0_1)) else (some ((⟨#[]⟩:ByteArray),3))))=some (r1,r2):=h
 clear h
 replace H:=Option.bind_eq_some_iff.mp H
 obtain ⟨t435,A30,H⟩:=H
 replace H:(if t435=true then (if a1<0 then (c2_Digits.j0 k a1 true a0_0 a0_1) else (c2_Digits.j0 k a1 (decide (a1>600)) a0_0 a0_1)) else (some ((⟨#[]⟩:ByteArray),3)))=some (r1,r2):=H
 have A3:=Aside0.mk A30
 clear A30
 by_cases c4:t435=true
 ·subst c4
  have H1:(if a1<0 then (c2_Digits.j0 k a1 true a0_0 a0_1) else (c2_Digits.j0 k a1 (decide (a1>600)) a0_0 a0_1))=some (r1,r2):=by rw [if_pos rfl] at H; exact H
  clear H
  have H:=H1
  clear H1
  have HC5:=Aside0.mk H
  clear H
  go_enter Tryz.func24,Tryz.ntmps24
  go_upto_region 3 with (first|((with_reducible refine zau (N:=2) rfl ?_); refine zas ?hg (N:=2) ?hd (cs:=#[.string a0_0,.string a0_1]) (t:=23) ?hr ?_; (case hd=>rfl); (case hg=>rfl); (case hr=>first|(go_simp; done)|(go_simp; rfl)); intro gb434 hg w6 hbox hb; have n0_:=Aside0.mk (zak (by repeat (first|(with_reducible first|exact HB.out|apply zab|apply zaa|apply zac)|exact HB.out)) hb); have n1_:=Aside0.mk (hbox); have n2_:=Aside0.mk ((by rw [hg]; exact (zal (by repeat (first|(with_reducible first|exact HB.out|apply zab|apply zaa|apply zac)|exact HB.out))):w.heap.size≤gb434)); have n3_:=Aside0.mk ((by rw [hg]; exact (zal (by repeat (first|(with_reducible first|exact HB.out|apply zab|apply zaa|apply zac)|exact HB.out))):w.heap.size≤gb434)); clear HB; have HB:=n0_; have BK434:=n1_; have GW434:=n2_; have GE434:=n3_; clear n0_ n1_ n2_ n3_; clear hb hbox hg; have hcz7_0:w6.cell? ⟨gb434,0,none⟩=some (.string a0_0):=(zad BK434.out 0).trans rfl; have hcz7_1:w6.cell? ⟨gb434,1,none⟩=some (.string a0_1):=(zad BK434.out 1).trans rfl; have hfz7_0:=zaj BK434.out 0; have hfz7_1:=zaj BK434.out 1)|(go_at_call 36; (with_reducible refine (c2_Right.calls k a0_0 a0_1 true _ A3.out).mono ?_); rintro e w8 ⟨rfl,hb⟩; have n0_:=Aside0.mk (zao (g:=gb434) (o:=.cells #[.string a0_0,.string a0_1] 23 (0,0)) (by (with_reducible repeat (first|refine zaf ?_ _|refine zai ?_|refine zag ?_ _)); exact BK434.out) hb); have n1_:=Aside0.mk (zak (by repeat (first|(with_reducible first|exact HB.out|apply zab|apply zaa|apply zac|refine zae ?_ GE434.out)|exact HB.out)) hb); clear BK434; clear HB; have BK434:=n0_; have HB:=n1_; clear n0_ n1_; (try clear hb); (try clear hb2); (try clear hk); (try clear hi)))
  (try simp only [Act.put,List.setIfInBounds_toArray,List.set_cons_zero,List.set_cons_succ])
  go_cut [17] (fun v17 wc=>∃ (kq:Nat) (x17_4:Bool),v17 = .bool x17_4∧Aside0 (c2_Digits.j0 kq a1 x17_4 a0_0 a0_1=some (r1,r2))∧Aside0 (kq≤k)∧Aside0 (wc.heap[gb434]? = some (.cells #[.string a0_0,.string a0_1] 23 (0,0)))∧Aside0 (Below w.heap.size w wc))
  case first =>
   have H:=HC5.out
   clear HC5
   by_cases c9:a1<0
   ·rw [if_pos c9] at H
    have c9b0:decide (a1<0)=true:=decide_eq_true c9
    clear c9
    (first|rw [c9b0]|(simp only [i64_w,i32_w]; rw [c9b0])|skip)
    have H':=Aside0.mk H
    clear H
    go_wp2
    go_meet
    case rel=>exact ⟨_,(true),(by first|rfl|(simp; done)|(simp [*]; done)),H',⟨by first|omega|exact Nat.le_refl _⟩,⟨by (with_reducible repeat (first|refine zaf ?_ _|refine zai ?_|refine zag ?_ _)); exact BK434.out⟩,⟨by repeat (first|(with_reducible first|exact HB.out|apply zab|apply zaa|apply zac|refine zae ?_ GE434.out)|exact HB.out)⟩⟩
   ·rw [if_neg c9] at H
    have c9b0:decide (a1<0)=false:=decide_eq_false c9
    clear c9
    (first|rw [c9b0]|(simp only [i64_w,i32_w]; rw [c9b0])|skip)
    have H':=Aside0.mk H
    clear H
    go_wp2
    go_meet
    case rel=>exact ⟨_,(decide (a1>600)),(by first|rfl|(simp; done)|(simp [*]; done)),H',⟨by first|omega|exact Nat.le_refl _⟩,⟨by (with_reducible repeat (first|refine zaf ?_ _|refine zai ?_|refine zag ?_ _)); exact BK434.out⟩,⟨by repeat (first|(with_reducible first|exact HB.out|apply zab|apply zaa|apply zac|refine zae ?_ GE434.out)|exact HB.out)⟩⟩
  case rest =>
   clear HC5
   try clear c2
   try clear p2
   try clear c4
   try clear c9
   try clear c9b0
   obtain ⟨kq,x17_4,rfl,HA,HJ4,BK434,HB⟩:=hcut
   cases kq with
   | zero=>exact absurd HA.out (by simp [c2_Digits.j0])
   | succ kj4 =>
    have H:=HA.out
    clear HA
    simp only [c2_Digits.j0] at H
    by_cases c10:x17_4=true
    ·subst c10
     have H1:(some ((⟨#[]⟩:ByteArray),1))=some (r1,r2):=by rw [if_pos rfl] at H; exact H
     clear H
     have H:=H1
     clear H1
     simp only [Option.some.injEq,Prod.mk.injEq] at H
     obtain ⟨rfl,rfl⟩:=H
     go_wp2
     go_ret2
     exact ⟨by first|rfl|(simp [zan,zam]<;>rfl)|(simp [*,zan,zam]<;>rfl),by repeat (first|(with_reducible first|exact HB.out|apply zab|apply zaa|apply zac|refine zae ?_ GE434.out)|exact HB.out)⟩
    ·replace c10:=Bool.eq_false_iff.mpr c10
     subst c10
     have H1:((c2_Read.f kj4 a0_0 a0_1).bind fun bt436=>((c2_Steps.f bt436.1 bt436.2.1 bt436.2.2 a1).bind fun t440=>(if (t440.size:Int)>600 then (some ((⟨#[]⟩:ByteArray),7)) else (if bt436.1=true then (c2_Digits.j1 kj4 a1 t440 (⟨#[]⟩:ByteArray) (t440.toList != ([48]:List UInt8))) else (c2_Digits.j1 kj4 a1 t440 (⟨#[]⟩:ByteArray) false)))))=some (r1,r2):=by rw [if_neg (show ¬ (false=true) by decide)] at H; exact H
     clear H
     have H:=H1
     clear H1
     replace H:=Option.bind_eq_some_iff.mp H
     obtain ⟨⟨t436,t437,t438⟩,A110,H⟩:=H
     replace H:((c2_Steps.f t436 t437 t438 a1).bind fun t440=>(if (t440.size:Int)>600 then (some ((⟨#[]⟩:ByteArray),7)) else (if t436=true then (c2_Digits.j1 kj4 a1 t440 (⟨#[]⟩:ByteArray) (t440.toList != ([48]:List UInt8))) else (c2_Digits.j1 kj4 a1 t440 (⟨#[]⟩:ByteArray) false))))=some (r1,r2):=H
     have A11:=Aside0.mk A110
     clear A110
     replace H:=Option.bind_eq_some_iff.mp H
     obtain ⟨t440,A120,H⟩:=H
     replace H:(if (t440.size:Int)>600 then (some ((⟨#[]⟩:ByteArray),7)) else (if t436=true then (c2_Digits.j1 kj4 a1 t440 (⟨#[]⟩:ByteArray) (t440.toList != ([48]:List UInt8))) else (c2_Digits.j1 kj4 a1 t440 (⟨#[]⟩:ByteArray) false)))=some (r1,r2):=H
     have A12:=Aside0.mk A120
     clear A120
     by_cases c13:(t440.size:Int)>600
     ·rw [if_pos c13] at H
      have c13b0:decide (600<(t440.size:Int))=true:=decide_eq_true c13
      have c13b1:decide (600<t440.size)=true:=decide_eq_true (by omega)
      clear c13
      simp only [Option.some.injEq,Prod.mk.injEq] at H
      obtain ⟨rfl,rfl⟩:=H
      have hcz14_0:wc.cell? ⟨gb434,0,none⟩=some (.string a0_0):=(zad BK434.out 0).trans rfl
      have hcz14_1:wc.cell? ⟨gb434,1,none⟩=some (.string a0_1):=(zad BK434.out 1).trans rfl
      have hfz14_0:=zaj BK434.out 0
      have hfz14_1:=zaj BK434.out 1
      go_wp2_with (first|(go_at_call 61; (with_reducible refine (c2_Read.calls kj4 a0_0 a0_1 t436 t437 t438 _ A11.out).mono ?_); rintro e w15 ⟨rfl,hb⟩; have n0_:=Aside0.mk (zao (g:=gb434) (o:=.cells #[.string a0_0,.string a0_1] 23 (0,0)) (by (with_reducible repeat (first|refine zaf ?_ _|refine zai ?_|refine zag ?_ _)); exact BK434.out) hb); have n1_:=Aside0.mk (zak (by repeat (first|(with_reducible first|exact HB.out|apply zab|apply zaa|apply zac|refine zae ?_ GE434.out)|exact HB.out)) hb); clear BK434; clear HB; have BK434:=n0_; have HB:=n1_; clear n0_ n1_; (try clear hb); (try clear hb2); (try clear hk); (try clear hi))|((with_reducible refine zau (N:=6) rfl ?_); refine zas ?hg (N:=6) ?hd (cs:=#[.bool false,.string (⟨#[]⟩:ByteArray),.string (⟨#[]⟩:ByteArray)]) (t:=66) ?hr ?_; (case hd=>rfl); (case hg=>rfl); (case hr=>first|(go_simp; done)|(go_simp; rfl)); intro gb439 hg w16 hbox hb; have n0_:=Aside0.mk (zao (g:=gb434) (o:=.cells #[.string a0_0,.string a0_1] 23 (0,0)) (by (with_reducible repeat (first|refine zaf ?_ _|refine zai ?_|refine zag ?_ _)); exact BK434.out) hb); have n1_:=Aside0.mk (zak (by repeat (first|(with_reducible first|exact HB.out|apply zab|apply zaa|apply zac|refine zae ?_ GE434.out)|exact HB.out)) hb); have n2_:=Aside0.mk (hbox); have n3_:=Aside0.mk ((by rw [hg]; exact (zal (by repeat (first|(with_reducible first|exact HB.out|apply zab|apply zaa|apply zac|refine zae ?_ GE434.out)|exact HB.out))):w.heap.size≤gb439)); have n4_:=Aside0.mk ((by rw [hg]; exact (zal (by repeat (first|(with_reducible first|exact HB.out|apply zab|apply zaa|apply zac|refine zae ?_ GE434.out)|exact HB.out))):w.heap.size≤gb439)); have n5_:=Aside0.mk ((by rw [hg]; exact Nat.ne_of_lt (zaz (g:=gb434) (o:=.cells #[.string a0_0,.string a0_1] 23 (0,0)) (by (with_reducible repeat (first|refine zaf ?_ _|refine zai ?_|refine zag ?_ _)); exact BK434.out)):gb434≠gb439)); have n6_:=Aside0.mk ((by rw [hg]; exact Nat.ne_of_gt (zaz (g:=gb434) (o:=.cells #[.string a0_0,.string a0_1] 23 (0,0)) (by (with_reducible repeat (first|refine zaf ?_ _|refine zai ?_|refine zag ?_ _)); exact BK434.out)):gb439≠gb434)); clear BK434; clear HB; have BK434:=n0_; have HB:=n1_; have BK439:=n2_; have GW439:=n3_; have GE439:=n4_; have NB434_420:=n5_; have NB439_415:=n6_; clear n0_ n1_ n2_ n3_ n4_ n5_ n6_; clear hb hbox hg; have hnb17:=NB439_415.out; have hnc17:=NB434_420.out; have hcz18_0:w16.cell? ⟨gb439,0,none⟩=some (.bool false):=(zad BK439.out 0).trans rfl; have hcz18_1:w16.cell? ⟨gb439,1,none⟩=some (.string (⟨#[]⟩:ByteArray)):=(zad BK439.out 1).trans rfl; have hcz18_2:w16.cell? ⟨gb439,2,none⟩=some (.string (⟨#[]⟩:ByteArray)):=(zad BK439.out 2).trans rfl; have hfz18_0:=zaj BK439.out 0; have hfz18_1:=zaj BK439.out 1; have hfz18_2:=zaj BK439.out 2)|(go_at_call 96; (with_reducible refine (c2_Steps.calls t436 t437 t438 a1 t440 _ A12.out).mono ?_); rintro e w19 ⟨rfl,hb⟩; have n0_:=Aside0.mk (zao (g:=gb434) (o:=.cells #[.string a0_0,.string a0_1] 23 (0,0)) (by (with_reducible repeat (first|refine zaf ?_ _|refine zai ?_|refine zag ?_ _)); refine zcc ?_ NB434_420.out _; (with_reducible repeat (first|refine zaf ?_ _|refine zai ?_|refine zag ?_ _)); refine zcc ?_ NB434_420.out _; (with_reducible repeat (first|refine zaf ?_ _|refine zai ?_|refine zag ?_ _)); refine zcc ?_ NB434_420.out _; (with_reducible repeat (first|refine zaf ?_ _|refine zai ?_|refine zag ?_ _)); exact BK434.out) hb); have n1_:=Aside0.mk (zao (g:=gb439) (o:=.cells #[.bool t436,.string t437,.string t438] 66 (0,0)) (by (with_reducible repeat (first|refine zaf ?_ _|refine zai ?_|refine zag ?_ _)); refine zaw (cs:=#[.bool t436,.string t437,.string (⟨#[]⟩:ByteArray)]) ?_ 2 _ rfl; (with_reducible repeat (first|refine zaf ?_ _|refine zai ?_|refine zag ?_ _)); refine zaw (cs:=#[.bool t436,.string (⟨#[]⟩:ByteArray),.string (⟨#[]⟩:ByteArray)]) ?_ 1 _ rfl; (with_reducible repeat (first|refine zaf ?_ _|refine zai ?_|refine zag ?_ _)); refine zaw (cs:=#[.bool false,.string (⟨#[]⟩:ByteArray),.string (⟨#[]⟩:ByteArray)]) ?_ 0 _ rfl; (with_reducible repeat (first|refine zaf ?_ _|refine zai ?_|refine zag ?_ _)); exact BK439.out) hb); have n2_:=Aside0.mk (zak (by repeat (first|(with_reducible first|exact HB.out|apply zab|apply zaa|apply zac|refine zae ?_ GE434.out|refine zae ?_ GE439.out)|exact HB.out)) hb); clear BK434; clear BK439; clear HB; have BK434:=n0_; have BK439:=n1_; have HB:=n2_; clear n0_ n1_ n2_; (try clear hb); (try clear hb2); (try clear hk); (try clear hi)))
      go_ret2
      exact ⟨by first|rfl|(simp [zan,zam]<;>rfl)|(simp [*,zan,zam]<;>rfl),by repeat (first|(with_reducible first|exact HB.out|apply zab|apply zaa|apply zac|refine zae ?_ GE434.out|refine zae ?_ GE439.out)|exact HB.out)⟩
     ·rw [if_neg c13] at H
      have c13b0:decide (600<(t440.size:Int))=false:=decide_eq_false c13
      have c13b1:decide (600<t440.size)=false:=decide_eq_false (by omega)
      clear c13
      have HC20:=Aside0.mk H
      clear H
      have hcz21_0:wc.cell? ⟨gb434,0,none⟩=some (.string a0_0):=(zad BK434.out 0).trans rfl
      have hcz21_1:wc.cell? ⟨gb434,1,none⟩=some (.string a0_1):=(zad BK434.out 1).trans rfl
      have hfz21_0:=zaj BK434.out 0
      have hfz21_1:=zaj BK434.out 1
      go_upto_region 10 with (first|(go_at_call 61; (with_reducible refine (c2_Read.calls kj4 a0_0 a0_1 t436 t437 t438 _ A11.out).mono ?_); rintro e w22 ⟨rfl,hb⟩; have n0_:=Aside0.mk (zao (g:=gb434) (o:=.cells #[.string a0_0,.string a0_1] 23 (0,0)) (by (with_reducible repeat (first|refine zaf ?_ _|refine zai ?_|refine zag ?_ _)); exact BK434.out) hb); have n1_:=Aside0.mk (zak (by repeat (first|(with_reducible first|exact HB.out|apply zab|apply zaa|apply zac|refine zae ?_ GE434.out)|exact HB.out)) hb); clear BK434; clear HB; have BK434:=n0_; have HB:=n1_; clear n0_ n1_; (try clear hb); (try clear hb2); (try clear hk); (try clear hi))|((with_reducible refine zau (N:=6) rfl ?_); refine zas ?hg (N:=6) ?hd (cs:=#[.bool false,.string (⟨#[]⟩:ByteArray),.string (⟨#[]⟩:ByteArray)]) (t:=66) ?hr ?_; (case hd=>rfl); (case hg=>rfl); (case hr=>first|(go_simp; done)|(go_simp; rfl)); intro gb439 hg w23 hbox hb; have n0_:=Aside0.mk (zao (g:=gb434) (o:=.cells #[.string a0_0,.string a0_1] 23 (0,0)) (by (with_reducible repeat (first|refine zaf ?_ _|refine zai ?_|refine zag ?_ _)); exact BK434.out) hb); have n1_:=Aside0.mk (zak (by repeat (first|(with_reducible first|exact HB.out|apply zab|apply zaa|apply zac|refine zae ?_ GE434.out)|exact HB.out)) hb); have n2_:=Aside0.mk (hbox); have n3_:=Aside0.mk ((by rw [hg]; exact (zal (by repeat (first|(with_reducible first|exact HB.out|apply zab|apply zaa|apply zac|refine zae ?_ GE434.out)|exact HB.out))):w.heap.size≤gb439)); have n4_:=Aside0.mk ((by rw [hg]; exact (zal (by repeat (first|(with_reducible first|exact HB.out|apply zab|apply zaa|apply zac|refine zae ?_ GE434.out)|exact HB.out))):w.heap.size≤gb439)); have n5_:=Aside0.mk ((by rw [hg]; exact Nat.ne_of_lt (zaz (g:=gb434) (o:=.cells #[.string a0_0,.string a0_1] 23 (0,0)) (by (with_reducible repeat (first|refine zaf ?_ _|refine zai ?_|refine zag ?_ _)); exact BK434.out)):gb434≠gb439)); have n6_:=Aside0.mk ((by rw [hg]; exact Nat.ne_of_gt (zaz (g:=gb434) (o:=.cells #[.string a0_0,.string a0_1] 23 (0,0)) (by (with_reducible repeat (first|refine zaf ?_ _|refine zai ?_|refine zag ?_ _)); exact BK434.out)):gb439≠gb434)); clear BK434; clear HB; have BK434:=n0_; have HB:=n1_; have BK439:=n2_; have GW439:=n3_; have GE439:=n4_; have NB434_420:=n5_; have NB439_415:=n6_; clear n0_ n1_ n2_ n3_ n4_ n5_ n6_; clear hb hbox hg; have hnb24:=NB439_415.out; have hnc24:=NB434_420.out; have hcz25_0:w23.cell? ⟨gb439,0,none⟩=some (.bool false):=(zad BK439.out 0).trans rfl; have hcz25_1:w23.cell? ⟨gb439,1,none⟩=some (.string (⟨#[]⟩:ByteArray)):=(zad BK439.out 1).trans rfl; have hcz25_2:w23.cell? ⟨gb439,2,none⟩=some (.string (⟨#[]⟩:ByteArray)):=(zad BK439.out 2).trans rfl; have hfz25_0:=zaj BK439.out 0; have hfz25_1:=zaj BK439.out 1; have hfz25_2:=zaj BK439.out 2)|(go_at_call 96; (with_reducible refine (c2_Steps.calls t436 t437 t438 a1 t440 _ A12.out).mono ?_); rintro e w26 ⟨rfl,hb⟩; have n0_:=Aside0.mk (zao (g:=gb434) (o:=.cells #[.string a0_0,.string a0_1] 23 (0,0)) (by (with_reducible repeat (first|refine zaf ?_ _|refine zai ?_|refine zag ?_ _)); refine zcc ?_ NB434_420.out _; (with_reducible repeat (first|refine zaf ?_ _|refine zai ?_|refine zag ?_ _)); refine zcc ?_ NB434_420.out _; (with_reducible repeat (first|refine zaf ?_ _|refine zai ?_|refine zag ?_ _)); refine zcc ?_ NB434_420.out _; (with_reducible repeat (first|refine zaf ?_ _|refine zai ?_|refine zag ?_ _)); exact BK434.out) hb); have n1_:=Aside0.mk (zao (g:=gb439) (o:=.cells #[.bool t436,.string t437,.string t438] 66 (0,0)) (by (with_reducible repeat (first|refine zaf ?_ _|refine zai ?_|refine zag ?_ _)); refine zaw (cs:=#[.bool t436,.string t437,.string (⟨#[]⟩:ByteArray)]) ?_ 2 _ rfl; (with_reducible repeat (first|refine zaf ?_ _|refine zai ?_|refine zag ?_ _)); refine zaw (cs:=#[.bool t436,.string (⟨#[]⟩:ByteArray),.string (⟨#[]⟩:ByteArray)]) ?_ 1 _ rfl; (with_reducible repeat (first|refine zaf ?_ _|refine zai ?_|refine zag ?_ _)); refine zaw (cs:=#[.bool false,.string (⟨#[]⟩:ByteArray),.string (⟨#[]⟩:ByteArray)]) ?_ 0 _ rfl; (with_reducible repeat (first|refine zaf ?_ _|refine zai ?_|refine zag ?_ _)); exact BK439.out) hb); have n2_:=Aside0.mk (zak (by repeat (first|(with_reducible first|exact HB.out|apply zab|apply zaa|apply zac|refine zae ?_ GE434.out|refine zae ?_ GE439.out)|exact HB.out)) hb); clear BK434; clear BK439; clear HB; have BK434:=n0_; have BK439:=n1_; have HB:=n2_; clear n0_ n1_ n2_; (try clear hb); (try clear hb2); (try clear hk); (try clear hi)))
      (try simp only [Act.put,List.setIfInBounds_toArray,List.set_cons_zero,List.set_cons_succ])
      go_cut [31] (fun v31 wc=>∃ (kq:Nat) (x31_19:Bool),v31 = .bool x31_19∧Aside0 (c2_Digits.j1 kq a1 t440 (⟨#[]⟩:ByteArray) x31_19=some (r1,r2))∧Aside0 (kq≤kj4)∧Aside0 (wc.heap[gb434]? = some (.cells #[.string a0_0,.string a0_1] 23 (0,0)))∧Aside0 (wc.heap[gb439]? = some (.cells #[.bool t436,.string t437,.string t438] 66 (0,0)))∧Aside0 (Below w.heap.size w wc))
      case first =>
       have H:=HC20.out
       clear HC20
       by_cases c27:t436=true
       ·subst c27
        have H1:(c2_Digits.j1 kj4 a1 t440 (⟨#[]⟩:ByteArray) (t440.toList != ([48]:List UInt8)))=some (r1,r2):=by rw [if_pos rfl] at H; exact H
        clear H
        have H:=H1
        clear H1
        have H':=Aside0.mk H
        clear H
        have hnb28:=NB439_415.out
        have hnc28:=NB434_420.out
        have hcz29_0:w26.cell? ⟨gb439,0,none⟩=some (.bool true):=(zad BK439.out 0).trans rfl
        have hcz29_1:w26.cell? ⟨gb439,1,none⟩=some (.string t437):=(zad BK439.out 1).trans rfl
        have hcz29_2:w26.cell? ⟨gb439,2,none⟩=some (.string t438):=(zad BK439.out 2).trans rfl
        have hfz29_0:=zaj BK439.out 0
        have hfz29_1:=zaj BK439.out 1
        have hfz29_2:=zaj BK439.out 2
        go_wp2
        go_meet
        case rel=>exact ⟨_,((t440.toList != ([48]:List UInt8))),(by first|rfl|(simp; done)|(simp [*]; done)),H',⟨by have:=HJ4.out; first|omega|exact Nat.le_refl _⟩,⟨by (with_reducible repeat (first|refine zaf ?_ _|refine zai ?_|refine zag ?_ _)); exact BK434.out⟩,⟨by (with_reducible repeat (first|refine zaf ?_ _|refine zai ?_|refine zag ?_ _)); exact BK439.out⟩,⟨by repeat (first|(with_reducible first|exact HB.out|apply zab|apply zaa|apply zac|refine zae ?_ GE434.out|refine zae ?_ GE439.out)|exact HB.out)⟩⟩
       ·replace c27:=Bool.eq_false_iff.mpr c27
        subst c27
        have H1:(c2_Digits.j1 kj4 a1 t440 (⟨#[]⟩:ByteArray) false)=some (r1,r2):=by rw [if_neg (show ¬ (false=true) by decide)] at H; exact H
        clear H
        have H:=H1
        clear H1
        have H':=Aside0.mk H
        clear H
        have hnb30:=NB439_415.out
        have hnc30:=NB434_420.out
        have hcz31_0:w26.cell? ⟨gb439,0,none⟩=some (.bool false):=(zad BK439.out 0).trans rfl
        have hcz31_1:w26.cell? ⟨gb439,1,none⟩=some (.string t437):=(zad BK439.out 1).trans rfl
        have hcz31_2:w26.cell? ⟨gb439,2,none⟩=some (.string t438):=(zad BK439.out 2).trans rfl
        have hfz31_0:=zaj BK439.out 0
        have hfz31_1:=zaj BK439.out 1
        have hfz31_2:=zaj BK439.out 2
        go_wp2
        go_meet
        case rel=>exact ⟨_,(false),(by first|rfl|(simp; done)|(simp [*]; done)),H',⟨by have:=HJ4.out; first|omega|exact Nat.le_refl _⟩,⟨by (with_reducible repeat (first|refine zaf ?_ _|refine zai ?_|refine zag ?_ _)); exact BK434.out⟩,⟨by (with_reducible repeat (first|refine zaf ?_ _|refine zai ?_|refine zag ?_ _)); exact BK439.out⟩,⟨by repeat (first|(with_reducible first|exact HB.out|apply zab|apply zaa|apply zac|refine zae ?_ GE434.out|refine zae ?_ GE439.out)|exact HB.out)⟩⟩
      case rest =>
       clear HC20
       try clear c1
       try clear c2
       try clear p2
       try clear c3
       try clear c4
       try clear c9
       try clear c9b0
       try clear c10
       try clear c13
       try clear c13b0
       try clear c13b1
       try clear c17
       try clear c24
       try clear c27
       try clear c28
       try clear c30
       try clear p2
       obtain ⟨kq,x31_19,rfl,HA,HJ19,BK434,BK439,HB⟩:=hcut
       cases kq with
       | zero=>exact absurd HA.out (by simp [c2_Digits.j1])
       | succ kj19 =>
        have H:=HA.out
        clear HA
        simp only [c2_Digits.j1] at H
        have HC32:=Aside0.mk H
        clear H
        go_upto_if 31 with (fail)
        go_cut [8] (fun v8 wc=>∃ (kq:Nat) (x8_31:ByteArray),v8 = .string x8_31∧Aside0 (c2_Digits.j2 kq a1 t440 x8_31=some (r1,r2))∧Aside0 (kq≤kj19)∧Aside0 (wc.heap[gb434]? = some (.cells #[.string a0_0,.string a0_1] 23 (0,0)))∧Aside0 (wc.heap[gb439]? = some (.cells #[.bool t436,.string t437,.string t438] 66 (0,0)))∧Aside0 (Below w.heap.size w wc))
        case first =>
         have H:=HC32.out
         clear HC32
         by_cases c33:x31_19=true
         ·subst c33
          have H1:(c2_Digits.j2 kj19 a1 t440 (⟨#[45]⟩:ByteArray))=some (r1,r2):=by rw [if_pos rfl] at H; exact H
          clear H
          have H:=H1
          clear H1
          have H':=Aside0.mk H
          clear H
          go_wp2
          go_meet
          case rel=>exact ⟨_,((⟨#[45]⟩:ByteArray)),(by first|rfl|(simp; done)|(simp [*]; done)),H',⟨by have:=HJ4.out; have:=HJ19.out; first|omega|exact Nat.le_refl _⟩,⟨by (with_reducible repeat (first|refine zaf ?_ _|refine zai ?_|refine zag ?_ _)); exact BK434.out⟩,⟨by (with_reducible repeat (first|refine zaf ?_ _|refine zai ?_|refine zag ?_ _)); exact BK439.out⟩,⟨by repeat (first|(with_reducible first|exact HB.out|apply zab|apply zaa|apply zac|refine zae ?_ GE434.out|refine zae ?_ GE439.out)|exact HB.out)⟩⟩
         ·replace c33:=Bool.eq_false_iff.mpr c33
          subst c33
          have H1:(c2_Digits.j2 kj19 a1 t440 (⟨#[]⟩:ByteArray))=some (r1,r2):=by rw [if_neg (show ¬ (false=true) by decide)] at H; exact H
          clear H
          have H:=H1
          clear H1
          have H':=Aside0.mk H
          clear H
          go_wp2
          go_meet
          case rel=>exact ⟨_,((⟨#[]⟩:ByteArray)),(by first|rfl|(simp; done)|(simp [*]; done)),H',⟨by have:=HJ4.out; have:=HJ19.out; first|omega|exact Nat.le_refl _⟩,⟨by (with_reducible repeat (first|refine zaf ?_ _|refine zai ?_|refine zag ?_ _)); exact BK434.out⟩,⟨by (with_reducible repeat (first|refine zaf ?_ _|refine zai ?_|refine zag ?_ _)); exact BK439.out⟩,⟨by repeat (first|(with_reducible first|exact HB.out|apply zab|apply zaa|apply zac|refine zae ?_ GE434.out|refine zae ?_ GE439.out)|exact HB.out)⟩⟩
        case rest =>
         clear HC32
         try clear c1
         try clear c2
         try clear p2
         try clear c3
         try clear c4
         try clear c9
         try clear c9b0
         try clear c10
         try clear c13
         try clear c13b0
         try clear c13b1
         try clear c17
         try clear c24
         try clear c27
         try clear c28
         try clear c30
         try clear c33
         try clear p2
         obtain ⟨kq,x8_31,rfl,HA,HJ31,BK434,BK439,HB⟩:=hcut
         cases kq with
         | zero=>exact absurd HA.out (by simp [c2_Digits.j2])
         | succ kj31 =>
          have H:=HA.out
          clear HA
          simp only [c2_Digits.j2] at H
          by_cases c34:(t440.size:Int)≤a1
          ·rw [if_pos c34] at H
           have c34b0:decide ((t440.size:Int)≤a1)=true:=decide_eq_true c34
           clear c34
           replace H:=Option.bind_eq_some_iff.mp H
           obtain ⟨t441,A369,H⟩:=H
           replace H:(if t441.size+t440.size≤9223372036854775807 then (if a1=0 then (if x8_31.size+(t441++t440).size≤9223372036854775807 then (some (x8_31++(t441++t440),0)) else (none)) else (if 0≤(wrap64 (((t441++t440).size:Int)-a1)) then (if (wrap64 (((t441++t440).size:Int)-a1))≤((t441++t440).size:Int) then (if x8_31.size+((t441++t440).extract 0 ((wrap64 (((t441++t440).size:Int)-a1)):Int).toNat).size≤9223372036854775807 then (if (x8_31++((t441++t440).extract 0 ((wrap64 (((t441++t440).size:Int)-a1)):Int).toNat)).size+1≤9223372036854775807 then (if ((x8_31++((t441++t440).extract 0 ((wrap64 (((t441++t440).size:Int)-a1)):Int).toNat))++(⟨#[46]⟩:ByteArray)).size+((t441++t440).extract ((wrap64 (((t441++t440).size:Int)-a1)):Int).toNat (t441++t440).size).size≤9223372036854775807 then (some (((x8_31++((t441++t440).extract 0 ((wrap64 (((t441++t440).size:Int)-a1)):Int).toNat))++(⟨#[46]⟩:ByteArray))++((t441++t440).extract ((wrap64 (((t441++t440).size:Int)-a1)):Int).toNat (t441++t440).size),0)) else (none)) else (none)) else (none)) else (none)) else (none))) else (none))=some (r1,r2):=H
           have A35:=Aside0.mk A369
           clear A369
           by_cases c36:t441.size+t440.size≤9223372036854775807
           ·rw [if_pos c36] at H
            have c36b0:=eq_true c36
            have c36b1:decide (t441.size+t440.size≤9223372036854775807)=true:=decide_eq_true c36
            try have c36b2:(9223372036854775807<t441.size+t440.size)=False:=eq_false (Nat.not_lt.2 c36)
            by_cases c37:a1=0
            ·rw [if_pos c37] at H
             have c37b0:(a1 == 0)=true:=beq_iff_eq.mpr c37
             have c37b1:(a1 != 0)=false:=bne_eq_false_iff_eq.mpr c37
             clear c37
             by_cases c38:x8_31.size+(t441++t440).size≤9223372036854775807
             ·rw [if_pos c38] at H
              have c38b0:=eq_true c38
              simp only [Option.some.injEq,Prod.mk.injEq] at H
              obtain ⟨rfl,rfl⟩:=H
              go_wp2_with (first|(go_at_call 65; (with_reducible refine (c2_Zeros.calls (wrap64 ((wrap64 (a1+1))-(t440.size:Int))) t441 _ A35.out).mono ?_); rintro e w39 ⟨rfl,hb⟩; have n0_:=Aside0.mk (zao (g:=gb434) (o:=.cells #[.string a0_0,.string a0_1] 23 (0,0)) (by (with_reducible repeat (first|refine zaf ?_ _|refine zai ?_|refine zag ?_ _)); exact BK434.out) hb); have n1_:=Aside0.mk (zao (g:=gb439) (o:=.cells #[.bool t436,.string t437,.string t438] 66 (0,0)) (by (with_reducible repeat (first|refine zaf ?_ _|refine zai ?_|refine zag ?_ _)); exact BK439.out) hb); have n2_:=Aside0.mk (zak (by repeat (first|(with_reducible first|exact HB.out|apply zab|apply zaa|apply zac|refine zae ?_ GE434.out|refine zae ?_ GE439.out)|exact HB.out)) hb); clear BK434; clear BK439; clear HB; have BK434:=n0_; have BK439:=n1_; have HB:=n2_; clear n0_ n1_ n2_; (try clear hb); (try clear hb2); (try clear hk); (try clear hi)))
              go_ret2
              exact ⟨by first|rfl|(simp [zan,zam]<;>rfl)|(simp [*,zan,zam]<;>rfl),by repeat (first|(with_reducible first|exact HB.out|apply zab|apply zaa|apply zac|refine zae ?_ GE434.out|refine zae ?_ GE439.out)|exact HB.out)⟩
             ·rw [if_neg c38] at H
              exact absurd H (by simp)
            ·rw [if_neg c37] at H
             have c37b1:(a1 != 0)=true:=bne_iff_ne.mpr c37
             obtain ⟨ji40,hji40⟩:∃ j_:Int,(wrap64 (((t441++t440).size:Int)-a1))=j_:=⟨_,rfl⟩
             replace H:(if 0≤(ji40) then (if (ji40)≤((t441++t440).size:Int) then (if x8_31.size+((t441++t440).extract 0 ((ji40):Int).toNat).size≤9223372036854775807 then (if (x8_31++((t441++t440).extract 0 ((ji40):Int).toNat)).size+1≤9223372036854775807 then (if ((x8_31++((t441++t440).extract 0 ((ji40):Int).toNat))++(⟨#[46]⟩:ByteArray)).size+((t441++t440).extract ((ji40):Int).toNat (t441++t440).size).size≤9223372036854775807 then (some (((x8_31++((t441++t440).extract 0 ((ji40):Int).toNat))++(⟨#[46]⟩:ByteArray))++((t441++t440).extract ((ji40):Int).toNat (t441++t440).size),0)) else (none)) else (none)) else (none)) else (none)) else (none))=some (r1,r2):=by first|(rw [hji40] at H; exact H)|(simp only [hji40] at H ⊢; exact H)
             (try rw [hji40] at A35)
             have hji40w:(IntKind.i64.wrap (((t441++t440).size:Int)-a1))=ji40:=(i64_w _).trans hji40
             by_cases c41:0≤(ji40)
             ·rw [if_pos c41] at H
              have c41b0:=eq_true c41
              have c41b1:decide (0≤(ji40))=true:=decide_eq_true c41
              clear c41
              by_cases c42:(ji40)≤((t441++t440).size:Int)
              ·rw [if_pos c42] at H
               have c42b0:=eq_true c42
               by_cases c43:x8_31.size+((t441++t440).extract 0 ((ji40):Int).toNat).size≤9223372036854775807
               ·rw [if_pos c43] at H
                by_cases c44:(x8_31++((t441++t440).extract 0 ((ji40):Int).toNat)).size+1≤9223372036854775807
                ·rw [if_pos c44] at H
                 by_cases c47:((x8_31++((t441++t440).extract 0 ((ji40):Int).toNat))++(⟨#[46]⟩:ByteArray)).size+((t441++t440).extract ((ji40):Int).toNat (t441++t440).size).size≤9223372036854775807
                 ·rw [if_pos c47] at H
                  have c47b1:decide (((x8_31++((t441++t440).extract 0 ((ji40):Int).toNat))++(⟨#[46]⟩:ByteArray)).size+((t441++t440).extract ((ji40):Int).toNat (t441++t440).size).size≤9223372036854775807)=true:=decide_eq_true c47
                  try have c47b2:(9223372036854775807<((x8_31++((t441++t440).extract 0 ((ji40):Int).toNat))++(⟨#[46]⟩:ByteArray)).size+((t441++t440).extract ((ji40):Int).toNat (t441++t440).size).size)=False:=eq_false (Nat.not_lt.2 c47)
                  simp only [Option.some.injEq,Prod.mk.injEq] at H
                  obtain ⟨rfl,rfl⟩:=H; have hq1:IntKind.i64.wrap ((t441.size:Int)+(t440.size:Int)-a1)=ji40:=(by have h:=hji40w; rw [ByteArray.size_append,Int.natCast_add] at h; exact h); have hq2:(ji40≤(t441.size:Int)+(t440.size:Int))=True:=eq_true (by have h:=c42; rw [ByteArray.size_append,Int.natCast_add] at h; exact h); have hq3:=of_eq_true hq2; have h1_:ji40≤((t441.size:Int)+(t440.size:Int)):=of_eq_true (by assumption); have e0_:((t441++t440).extract 0 ji40.toNat).size=min ji40.toNat (t441.size+t440.size):=(by rw [ByteArray.size_extract,Nat.sub_zero]; rw [ByteArray.size_append]); have e1_:((t441++t440).extract ji40.toNat (t441++t440).size).size=(t441.size+t440.size)-ji40.toNat:=(by rw [ByteArray.size_extract,Nat.min_self]; rw [ByteArray.size_append]); have e2_:=@ByteArray.size_append x8_31 ((t441++t440).extract 0 ji40.toNat); have e3_:=@ByteArray.size_append (x8_31++(t441++t440).extract 0 ji40.toNat) (⟨#[46]⟩:ByteArray); have e4_:(⟨#[46]⟩:ByteArray).size=1:=rfl; have q1_:(x8_31.size+min ji40.toNat (t441.size+t440.size)≤9223372036854775807)=True:=eq_true (by omega); have q2_:(x8_31.size+min ji40.toNat (t441.size+t440.size)+1≤9223372036854775807)=True:=eq_true (by omega); have q3_:(x8_31.size+min ji40.toNat (t441.size+t440.size)+1+((t441.size+t440.size)-ji40.toNat)≤9223372036854775807)=True:=eq_true (by omega); have q4_:min ji40.toNat (t441.size+t440.size)=ji40.toNat:=Nat.min_eq_left (by omega); have q5_:(x8_31.size+ji40.toNat≤9223372036854775807)=True:=eq_true (by omega); have q6_:(x8_31.size+ji40.toNat+1≤9223372036854775807)=True:=eq_true (by omega); have q7_:(x8_31.size+ji40.toNat+1+((t441.size+t440.size)-ji40.toNat)≤9223372036854775807)=True:=eq_true (by omega); have r5_:(9223372036854775807<x8_31.size+ji40.toNat)=False:=eq_false (by omega); have r6_:(9223372036854775807<x8_31.size+ji40.toNat+1)=False:=eq_false (by omega); have r7_:(9223372036854775807<x8_31.size+ji40.toNat+1+((t441.size+t440.size)-ji40.toNat))=False:=eq_false (by omega); clear e0_ e1_ e2_ e3_ e4_
                  go_wp2_with (first|(go_at_call 65; (with_reducible refine (c2_Zeros.calls (wrap64 ((wrap64 (a1+1))-(t440.size:Int))) t441 _ A35.out).mono ?_); rintro e w48 ⟨rfl,hb⟩; have n0_:=Aside0.mk (zao (g:=gb434) (o:=.cells #[.string a0_0,.string a0_1] 23 (0,0)) (by (with_reducible repeat (first|refine zaf ?_ _|refine zai ?_|refine zag ?_ _)); exact BK434.out) hb); have n1_:=Aside0.mk (zao (g:=gb439) (o:=.cells #[.bool t436,.string t437,.string t438] 66 (0,0)) (by (with_reducible repeat (first|refine zaf ?_ _|refine zai ?_|refine zag ?_ _)); exact BK439.out) hb); have n2_:=Aside0.mk (zak (by repeat (first|(with_reducible first|exact HB.out|apply zab|apply zaa|apply zac|refine zae ?_ GE434.out|refine zae ?_ GE439.out)|exact HB.out)) hb); clear BK434; clear BK439; clear HB; have BK434:=n0_; have BK439:=n1_; have HB:=n2_; clear n0_ n1_ n2_; (try clear hb); (try clear hb2); (try clear hk); (try clear hi)))
                  repeat (go_quiet (first|(go_at_call 65; (with_reducible refine (c2_Zeros.calls (wrap64 ((wrap64 (a1+1))-(t440.size:Int))) t441 _ A35.out).mono ?_); rintro e w48 ⟨rfl,hb⟩; have n0_:=Aside0.mk (zao (g:=gb434) (o:=.cells #[.string a0_0,.string a0_1] 23 (0,0)) (by (with_reducible repeat (first|refine zaf ?_ _|refine zai ?_|refine zag ?_ _)); exact BK434.out) hb); have n1_:=Aside0.mk (zao (g:=gb439) (o:=.cells #[.bool t436,.string t437,.string t438] 66 (0,0)) (by (with_reducible repeat (first|refine zaf ?_ _|refine zai ?_|refine zag ?_ _)); exact BK439.out) hb); have n2_:=Aside0.mk (zak (by repeat (first|(with_reducible first|exact HB.out|apply zab|apply zaa|apply zac|refine zae ?_ GE434.out|refine zae ?_ GE439.out)|exact HB.out)) hb); clear BK434; clear BK439; clear HB; have BK434:=n0_; have BK439:=n1_; have HB:=n2_; clear n0_ n1_ n2_; (try clear hb); (try clear hb2); (try clear hk); (try clear hi))); try go_wp2_with (first|(go_at_call 65; (with_reducible refine (c2_Zeros.calls (wrap64 ((wrap64 (a1+1))-(t440.size:Int))) t441 _ A35.out).mono ?_); rintro e w48 ⟨rfl,hb⟩; have n0_:=Aside0.mk (zao (g:=gb434) (o:=.cells #[.string a0_0,.string a0_1] 23 (0,0)) (by (with_reducible repeat (first|refine zaf ?_ _|refine zai ?_|refine zag ?_ _)); exact BK434.out) hb); have n1_:=Aside0.mk (zao (g:=gb439) (o:=.cells #[.bool t436,.string t437,.string t438] 66 (0,0)) (by (with_reducible repeat (first|refine zaf ?_ _|refine zai ?_|refine zag ?_ _)); exact BK439.out) hb); have n2_:=Aside0.mk (zak (by repeat (first|(with_reducible first|exact HB.out|apply zab|apply zaa|apply zac|refine zae ?_ GE434.out|refine zae ?_ GE439.out)|exact HB.out)) hb); clear BK434; clear BK439; clear HB; have BK434:=n0_; have BK439:=n1_; have HB:=n2_; clear n0_ n1_ n2_; (try clear hb); (try clear hb2); (try clear hk); (try clear hi))))
                  go_ret2
                  exact ⟨by first|rfl|(simp [zan,zam]<;>rfl)|(simp only [←hji40]; first|rfl|(simp [zan,zam]<;>rfl))|(simp [*,zan,zam]<;>rfl),by repeat (first|(with_reducible first|exact HB.out|apply zab|apply zaa|apply zac|refine zae ?_ GE434.out|refine zae ?_ GE439.out)|exact HB.out)⟩
                 ·rw [if_neg c47] at H
                  exact absurd H (by simp)
                ·rw [if_neg c44] at H
                 exact absurd H (by simp)
               ·rw [if_neg c43] at H
                exact absurd H (by simp)
              ·rw [if_neg c42] at H
               exact absurd H (by simp)
             ·rw [if_neg c41] at H
              exact absurd H (by simp)
           ·rw [if_neg c36] at H
            exact absurd H (by simp)
          ·rw [if_neg c34] at H
           have c34b0:decide ((t440.size:Int)≤a1)=false:=decide_eq_false c34
           clear c34
           by_cases c49:a1=0
           ·rw [if_pos c49] at H
            have c49b0:(a1 == 0)=true:=beq_iff_eq.mpr c49
            clear c49
            by_cases c50:x8_31.size+t440.size≤9223372036854775807
            ·rw [if_pos c50] at H
             try have c50b2:(9223372036854775807<x8_31.size+t440.size)=False:=eq_false (Nat.not_lt.2 c50)
             simp only [Option.some.injEq,Prod.mk.injEq] at H
             obtain ⟨rfl,rfl⟩:=H
             go_wp2
             repeat (go_quiet (fail); try go_wp2)
             go_ret2
             exact ⟨by first|rfl|(simp [zan,zam]<;>rfl)|(simp [*,zan,zam]<;>rfl),by repeat (first|(with_reducible first|exact HB.out|apply zab|apply zaa|apply zac|refine zae ?_ GE434.out|refine zae ?_ GE439.out)|exact HB.out)⟩
            ·rw [if_neg c50] at H
             exact absurd H (by simp)
           ·rw [if_neg c49] at H
            have c49b0:(a1 == 0)=false:=beq_eq_false_iff_ne.mpr c49
            have c49b1:(a1 != 0)=true:=bne_iff_ne.mpr c49
            obtain ⟨ji51,hji51⟩:∃ j_:Int,(wrap64 ((t440.size:Int)-a1))=j_:=⟨_,rfl⟩
            replace H:(if 0≤(ji51) then (if (ji51)≤(t440.size:Int) then (if x8_31.size+(t440.extract 0 ((ji51):Int).toNat).size≤9223372036854775807 then (if (x8_31++(t440.extract 0 ((ji51):Int).toNat)).size+1≤9223372036854775807 then (if ((x8_31++(t440.extract 0 ((ji51):Int).toNat))++(⟨#[46]⟩:ByteArray)).size+(t440.extract ((ji51):Int).toNat t440.size).size≤9223372036854775807 then (some (((x8_31++(t440.extract 0 ((ji51):Int).toNat))++(⟨#[46]⟩:ByteArray))++(t440.extract ((ji51):Int).toNat t440.size),0)) else (none)) else (none)) else (none)) else (none)) else (none))=some (r1,r2):=by first|(rw [hji51] at H; exact H)|(simp only [hji51] at H ⊢; exact H)
            have hji51w:(IntKind.i64.wrap ((t440.size:Int)-a1))=ji51:=(i64_w _).trans hji51
            by_cases c52:0≤(ji51)
            ·rw [if_pos c52] at H
             have c52b0:=eq_true c52
             have c52b1:decide (0≤(ji51))=true:=decide_eq_true c52
             clear c52
             by_cases c53:(ji51)≤(t440.size:Int)
             ·rw [if_pos c53] at H
              have c53b0:=eq_true c53
              have c53b1:decide ((ji51)≤(t440.size:Int))=true:=decide_eq_true c53
              clear c53
              by_cases c54:x8_31.size+(t440.extract 0 ((ji51):Int).toNat).size≤9223372036854775807
              ·rw [if_pos c54] at H
               by_cases c55:(x8_31++(t440.extract 0 ((ji51):Int).toNat)).size+1≤9223372036854775807
               ·rw [if_pos c55] at H
                by_cases c58:((x8_31++(t440.extract 0 ((ji51):Int).toNat))++(⟨#[46]⟩:ByteArray)).size+(t440.extract ((ji51):Int).toNat t440.size).size≤9223372036854775807
                ·rw [if_pos c58] at H
                 simp only [Option.some.injEq,Prod.mk.injEq] at H
                 obtain ⟨rfl,rfl⟩:=H; have h1_:ji51≤(t440.size:Int):=of_eq_true (by assumption); have e0_:(t440.extract 0 ji51.toNat).size=min ji51.toNat (t440.size):=(by rw [ByteArray.size_extract,Nat.sub_zero]); have e1_:(t440.extract ji51.toNat t440.size).size=(t440.size)-ji51.toNat:=(by rw [ByteArray.size_extract,Nat.min_self]); have e2_:=@ByteArray.size_append x8_31 (t440.extract 0 ji51.toNat); have e3_:=@ByteArray.size_append (x8_31++t440.extract 0 ji51.toNat) (⟨#[46]⟩:ByteArray); have e4_:(⟨#[46]⟩:ByteArray).size=1:=rfl; have q1_:(x8_31.size+min ji51.toNat (t440.size)≤9223372036854775807)=True:=eq_true (by omega); have q2_:(x8_31.size+min ji51.toNat (t440.size)+1≤9223372036854775807)=True:=eq_true (by omega); have q3_:(x8_31.size+min ji51.toNat (t440.size)+1+(t440.size-ji51.toNat)≤9223372036854775807)=True:=eq_true (by omega); have q4_:min ji51.toNat (t440.size)=ji51.toNat:=Nat.min_eq_left (by omega); have q5_:(x8_31.size+ji51.toNat≤9223372036854775807)=True:=eq_true (by omega); have q6_:(x8_31.size+ji51.toNat+1≤9223372036854775807)=True:=eq_true (by omega); have q7_:(x8_31.size+ji51.toNat+1+(t440.size-ji51.toNat)≤9223372036854775807)=True:=eq_true (by omega); have r5_:(9223372036854775807<x8_31.size+ji51.toNat)=False:=eq_false (by omega); have r6_:(9223372036854775807<x8_31.size+ji51.toNat+1)=False:=eq_false (by omega); have r7_:(9223372036854775807<x8_31.size+ji51.toNat+1+(t440.size-ji51.toNat))=False:=eq_false (by omega); clear e0_ e1_ e2_ e3_ e4_
                 go_wp2
                 repeat (go_quiet (fail); try go_wp2)
                 go_ret2
                 exact ⟨by first|rfl|(simp [zan,zam]<;>rfl)|(simp only [←hji51]; first|rfl|(simp [zan,zam]<;>rfl))|(simp [*,zan,zam]<;>rfl),by repeat (first|(with_reducible first|exact HB.out|apply zab|apply zaa|apply zac|refine zae ?_ GE434.out|refine zae ?_ GE439.out)|exact HB.out)⟩
                ·rw [if_neg c58] at H
                 exact absurd H (by simp)
               ·rw [if_neg c55] at H
                exact absurd H (by simp)
              ·rw [if_neg c54] at H
               exact absurd H (by simp)
             ·rw [if_neg c53] at H
              exact absurd H (by simp)
            ·rw [if_neg c52] at H
             exact absurd H (by simp)
 ·replace c4:=Bool.eq_false_iff.mpr c4
  subst c4
  have H1:(some ((⟨#[]⟩:ByteArray),3))=some (r1,r2):=by rw [if_neg (show ¬ (false=true) by decide)] at H; exact H
  clear H
  have H:=H1
  clear H1
  simp only [Option.some.injEq,Prod.mk.injEq] at H
  obtain ⟨rfl,rfl⟩:=H
  go_enter Tryz.func24,Tryz.ntmps24
  go_wp2_with (first|((with_reducible refine zau (N:=2) rfl ?_); refine zas ?hg (N:=2) ?hd (cs:=#[.string a0_0,.string a0_1]) (t:=23) ?hr ?_; (case hd=>rfl); (case hg=>rfl); (case hr=>first|(go_simp; done)|(go_simp; rfl)); intro gb434 hg w59 hbox hb; have n0_:=Aside0.mk (zak (by repeat (first|(with_reducible first|exact HB.out|apply zab|apply zaa|apply zac)|exact HB.out)) hb); have n1_:=Aside0.mk (hbox); have n2_:=Aside0.mk ((by rw [hg]; exact (zal (by repeat (first|(with_reducible first|exact HB.out|apply zab|apply zaa|apply zac)|exact HB.out))):w.heap.size≤gb434)); have n3_:=Aside0.mk ((by rw [hg]; exact (zal (by repeat (first|(with_reducible first|exact HB.out|apply zab|apply zaa|apply zac)|exact HB.out))):w.heap.size≤gb434)); clear HB; have HB:=n0_; have BK434:=n1_; have GW434:=n2_; have GE434:=n3_; clear n0_ n1_ n2_ n3_; clear hb hbox hg; have hcz60_0:w59.cell? ⟨gb434,0,none⟩=some (.string a0_0):=(zad BK434.out 0).trans rfl; have hcz60_1:w59.cell? ⟨gb434,1,none⟩=some (.string a0_1):=(zad BK434.out 1).trans rfl; have hfz60_0:=zaj BK434.out 0; have hfz60_1:=zaj BK434.out 1)|(go_at_call 36; (with_reducible refine (c2_Right.calls k a0_0 a0_1 false _ A3.out).mono ?_); rintro e w61 ⟨rfl,hb⟩; have n0_:=Aside0.mk (zao (g:=gb434) (o:=.cells #[.string a0_0,.string a0_1] 23 (0,0)) (by (with_reducible repeat (first|refine zaf ?_ _|refine zai ?_|refine zag ?_ _)); exact BK434.out) hb); have n1_:=Aside0.mk (zak (by repeat (first|(with_reducible first|exact HB.out|apply zab|apply zaa|apply zac|refine zae ?_ GE434.out)|exact HB.out)) hb); clear BK434; clear HB; have BK434:=n0_; have HB:=n1_; clear n0_ n1_; (try clear hb); (try clear hb2); (try clear hk); (try clear hi)))
  repeat (go_quiet (first|((with_reducible refine zau (N:=2) rfl ?_); refine zas ?hg (N:=2) ?hd (cs:=#[.string a0_0,.string a0_1]) (t:=23) ?hr ?_; (case hd=>rfl); (case hg=>rfl); (case hr=>first|(go_simp; done)|(go_simp; rfl)); intro gb434 hg w59 hbox hb; have n0_:=Aside0.mk (zak (by repeat (first|(with_reducible first|exact HB.out|apply zab|apply zaa|apply zac)|exact HB.out)) hb); have n1_:=Aside0.mk (hbox); have n2_:=Aside0.mk ((by rw [hg]; exact (zal (by repeat (first|(with_reducible first|exact HB.out|apply zab|apply zaa|apply zac)|exact HB.out))):w.heap.size≤gb434)); have n3_:=Aside0.mk ((by rw [hg]; exact (zal (by repeat (first|(with_reducible first|exact HB.out|apply zab|apply zaa|apply zac)|exact HB.out))):w.heap.size≤gb434)); clear HB; have HB:=n0_; have BK434:=n1_; have GW434:=n2_; have GE434:=n3_; clear n0_ n1_ n2_ n3_; clear hb hbox hg; have hcz60_0:w59.cell? ⟨gb434,0,none⟩=some (.string a0_0):=(zad BK434.out 0).trans rfl; have hcz60_1:w59.cell? ⟨gb434,1,none⟩=some (.string a0_1):=(zad BK434.out 1).trans rfl; have hfz60_0:=zaj BK434.out 0; have hfz60_1:=zaj BK434.out 1)|(go_at_call 36; (with_reducible refine (c2_Right.calls k a0_0 a0_1 false _ A3.out).mono ?_); rintro e w61 ⟨rfl,hb⟩; have n0_:=Aside0.mk (zao (g:=gb434) (o:=.cells #[.string a0_0,.string a0_1] 23 (0,0)) (by (with_reducible repeat (first|refine zaf ?_ _|refine zai ?_|refine zag ?_ _)); exact BK434.out) hb); have n1_:=Aside0.mk (zak (by repeat (first|(with_reducible first|exact HB.out|apply zab|apply zaa|apply zac|refine zae ?_ GE434.out)|exact HB.out)) hb); clear BK434; clear HB; have BK434:=n0_; have HB:=n1_; clear n0_ n1_; (try clear hb); (try clear hb2); (try clear hk); (try clear hi))); try go_wp2_with (first|((with_reducible refine zau (N:=2) rfl ?_); refine zas ?hg (N:=2) ?hd (cs:=#[.string a0_0,.string a0_1]) (t:=23) ?hr ?_; (case hd=>rfl); (case hg=>rfl); (case hr=>first|(go_simp; done)|(go_simp; rfl)); intro gb434 hg w59 hbox hb; have n0_:=Aside0.mk (zak (by repeat (first|(with_reducible first|exact HB.out|apply zab|apply zaa|apply zac)|exact HB.out)) hb); have n1_:=Aside0.mk (hbox); have n2_:=Aside0.mk ((by rw [hg]; exact (zal (by repeat (first|(with_reducible first|exact HB.out|apply zab|apply zaa|apply zac)|exact HB.out))):w.heap.size≤gb434)); have n3_:=Aside0.mk ((by rw [hg]; exact (zal (by repeat (first|(with_reducible first|exact HB.out|apply zab|apply zaa|apply zac)|exact HB.out))):w.heap.size≤gb434)); clear HB; have HB:=n0_; have BK434:=n1_; have GW434:=n2_; have GE434:=n3_; clear n0_ n1_ n2_ n3_; clear hb hbox hg; have hcz60_0:w59.cell? ⟨gb434,0,none⟩=some (.string a0_0):=(zad BK434.out 0).trans rfl; have hcz60_1:w59.cell? ⟨gb434,1,none⟩=some (.string a0_1):=(zad BK434.out 1).trans rfl; have hfz60_0:=zaj BK434.out 0; have hfz60_1:=zaj BK434.out 1)|(go_at_call 36; (with_reducible refine (c2_Right.calls k a0_0 a0_1 false _ A3.out).mono ?_); rintro e w61 ⟨rfl,hb⟩; have n0_:=Aside0.mk (zao (g:=gb434) (o:=.cells #[.string a0_0,.string a0_1] 23 (0,0)) (by (with_reducible repeat (first|refine zaf ?_ _|refine zai ?_|refine zag ?_ _)); exact BK434.out) hb); have n1_:=Aside0.mk (zak (by repeat (first|(with_reducible first|exact HB.out|apply zab|apply zaa|apply zac|refine zae ?_ GE434.out)|exact HB.out)) hb); clear BK434; clear HB; have BK434:=n0_; have HB:=n1_; clear n0_ n1_; (try clear hb); (try clear hb2); (try clear hk); (try clear hi))))
  go_ret2
  exact ⟨by first|rfl|(simp [zan,zam]<;>rfl)|(simp [*,zan,zam]<;>rfl),by repeat (first|(with_reducible first|exact HB.out|apply zab|apply zaa|apply zac|refine zae ?_ GE434.out)|exact HB.out)⟩
end Go.Proofs.ZQ
end
section
namespace Go.Proofs.ZQ
open Go.RowKit Go.Proofs.ZW.Wa Go.Proofs.ZP
theorem dval_zeros (k:Nat):dval (List.replicate k (48:UInt8))=0:=by
  induction k with
  | zero=>rfl
  | succ k ih=>rw [List.replicate_succ,zbP,ih]; simp
theorem T_ten (p:Nat):(⟨#[49]⟩:ByteArray)++ZP.zer p=T (10^p):=by
  have hd:((⟨#[49]⟩:ByteArray)++ZP.zer p).data.toList=49 :: List.replicate p (48:UInt8):=by
    rw [ByteArray.data_append,Array.toList_append]; simp [ZP.zer]
  refine (can_T ?_).trans (congrArg T ?_)
  · rw [hd]
    refine ⟨by simp,?_,fun e=>by simp at e⟩
    intro c hc
    rcases List.mem_cons.1 hc with rfl|hc
    · decide
    · rw [(List.mem_replicate.1 hc).2]; decide
  · rw [hd,zbP,dval_zeros,List.length_replicate]
    show (49-48)*10^p+0=_
    omega
theorem zer_sz (k:Nat):(ZP.zer k).size=k:=by show (List.replicate k (48:UInt8)).toArray.size=k; simp
theorem T_ten_size (p:Nat):(T (10^p)).size=p+1:=by
  rw [←T_ten,ByteArray.size_append,zer_sz]; show 1+p=_; omega
theorem T_last (n : Nat) : 0 < (T n).size ∧ bt (T n) (((T n).size : Int) - 1) = (48 + n % 10 : Nat) := by
  have hp:=za2 n
  refine ⟨hp,?_⟩
  have hl:(T n).size-1<(T n).data.toList.length:=by rw [zav]; omega
  have e:((T n).size:Int)-1=(((T n).size-1:Nat):Int):=by omega
  rw [e,bt_nth _ hl]
  congr 1
  have hg:∀ (l:List UInt8) (h:l.length-1<l.length),l[l.length-1]=l.getLast (fun e=>by rw [e] at h; cases h):=fun l h=>(List.getLast_eq_getElem _).symm
  have h2:(T n).data.toList.length-1<(T n).data.toList.length:=by rw [zav]; omega
  have e2:(T n).data.toList[(T n).size-1]=(T n).data.toList[(T n).data.toList.length-1]:=by
    congr 1
  rw [e2,hg _ h2]
  have hd:(T n).data.toList=decl n:=T_data n
  have h3:∀ (l:List UInt8) (h:l ≠ []),l=decl n→(l.getLast h).toNat=48+n%10:=by
    rintro l h rfl
    by_cases h0:n=0
    · subst h0; rfl
    · have e3:decl n=(rdig (n/10)).reverse ++ [UInt8.ofNat (48+n%10)]:=by
        unfold decl
        rw [if_neg h0,zby (by omega),List.reverse_cons]
      have:(decl n).getLast h=UInt8.ofNat (48+n%10):=by
        exact (fun (l l':List UInt8) (c:UInt8) (h:l ≠ []) (e:l=l' ++ [c])=>(by subst e; simp:l.getLast h=c)) _ _ _ h e3
      rw [this,zaZ _ (Nat.mod_lt _ (by decide))]
  exact h3 _ _ hd
theorem T_odd (n:Nat):((((bt (T n) (((T n).size:Int)-1))-48)%256)%2=1)↔n%2=1:=by
  rw [(T_last n).2]
  omega
theorem T_2:(⟨#[50]⟩:ByteArray)=T 2:=by unfold T; rw [zbH (by decide)]; rfl
theorem Near_T {a b:Nat} (ha:(T a).size≤137438950000) (hb:(T b).size≤137438950000) (h:0<b):c2_Near.f (T a) (T b)=some (T (near a b)):=by
  have hr:(T (a%b)).size≤137438950000:=Nat.le_trans (za0 (Nat.mod_le a b)) ha
  have hq:(T (a/b)).size≤137438950000:=Nat.le_trans (za0 (Nat.div_le_self a b)) ha
  have h2:(T 2).size≤137438950000:=by rw [←T_2]; decide
  have hr2:(T (a%b*2)).size≤137438952472:=by
    have:=zaR (a%b) 2
    have e:(T 2).size=1:=by rw [←T_2]; rfl
    omega
  have h1:(T 1).size≤137438952472:=by rw [←T_1]; decide
  have hp:=T_last (a/b)
  have ho:=T_odd (a/b)
  unfold c2_Near.f
  rw [zce (by omega) (by omega) h,Option.bind_some]
  simp only [T_2,T_1]
  rw [zcd (by omega) (by omega),Option.bind_some,Compare_T (by omega) (by omega),Option.bind_some,Plus_T (by omega) (by omega),Option.bind_some]
  have hw:wrap64 (((T (a/b)).size:Int)-1)=((T (a/b)).size:Int)-1:=by unfold wrap64; omega
  rw [hw]
  unfold near
  rcases Nat.lt_trichotomy (a%b*2) b with hlt|hE|hgt
  · have hc:cmpN (a%b*2) b = -1:=if_pos hlt
    rw [hc,if_neg (by decide),if_neg (by decide),if_neg (by omega)]
  · have hc:cmpN (a%b*2) b=0:=(if_neg (by omega)).trans (if_neg (by omega))
    rw [hc,if_neg (by decide),if_pos rfl,if_pos (by omega),if_pos (by omega)]
    by_cases h5:a/b%2=1
    · rw [if_pos (ho.2 h5),if_pos (by omega)]
    · rw [if_neg (fun e=>h5 (ho.1 e)),if_neg (by omega)]
  · have hc:cmpN (a%b*2) b=1:=(if_neg (by omega)).trans (if_pos hgt)
    rw [hc,if_pos (by decide),if_pos (by omega)]
theorem even_places (x : Rat) (p : Nat) : evenR (x * tenR (p : Int)) = sgn (decide (x.num < 0)) (near (x.num.natAbs * 10 ^ p) x.den) := by
  have hden:=x.den_pos
  have e1:x*tenR (p:Int)=Rat.divInt (sgn (decide (x.num<0)) (x.num.natAbs*10^p)) x.den:=by
    have ht:tenR (p:Int)=(((10:Int)^p:Int):Rat):=by unfold tenR; rw [if_neg (by omega),Int.natAbs_natCast]
    have hi:((((10:Int)^p:Int)):Rat).num=(10:Int)^p:=rfl
    have hj:((((10:Int)^p:Int)):Rat).den=1:=rfl
    rw [ht,zb2,hi,hj,Int.natCast_one,Int.mul_one,←zcA,zbZ,Int.natCast_pow]; rfl
  obtain ⟨f1,f2,f3⟩:=zbO (decide (x.num<0)) (x.num.natAbs*10^p) x.den hden
  rw [even_near,e1]
  have hn : near (Rat.divInt (sgn (decide (x.num < 0)) (x.num.natAbs * 10 ^ p)) x.den).num.natAbs (Rat.divInt (sgn (decide (x.num < 0)) (x.num.natAbs * 10 ^ p)) x.den).den = near (x.num.natAbs * 10 ^ p) x.den := by
    refine near_div _ _ _ hden ?_
    rw [f1,f2]
    generalize x.num.natAbs*10^p=A
    obtain ⟨u,hu⟩:=Nat.gcd_dvd_left A x.den
    obtain ⟨v,hv⟩:=Nat.gcd_dvd_right A x.den
    have hg:0<Nat.gcd A x.den:=Nat.gcd_pos_of_pos_right _ hden
    have hu' : A / Nat.gcd A x.den = u := by conv => lhs; lhs; rw [hu]
                                             exact Nat.mul_div_cancel_left _ hg
    have hv' : x.den / Nat.gcd A x.den = v := by conv => lhs; lhs; rw [hv]
                                                 exact Nat.mul_div_cancel_left _ hg
    rw [hu',hv']
    conv=>lhs; rw [hv]
    conv=>rhs; rw [hu]
    rw [←Nat.mul_assoc,Nat.mul_comm u,Nat.mul_assoc]
  rw [hn,f3]
  by_cases h0:x.num.natAbs*10^p=0
  · rw [h0]
    have:near 0 x.den=0:=by
      unfold near
      rw [Nat.zero_mod,Nat.zero_div]
      exact if_neg (by omega)
    rw [this]
    cases decide (x.num<0)<;>rfl
  · rw [decide_eq_true h0,Bool.and_true]
theorem Steps_T (s:Bool) (a b p:Nat) (hb:0<b) (ha:(T a).size≤100000) (hbs:(T b).size≤100000) (hp:p≤100000):c2_Steps.f s (T a) (T b) (p:Int)=some (T (near (a*10^p) b)):=by
  unfold c2_Steps.f
  have ht:=T_ten_size p
  have hm:(T (a*10^p)).size≤200001:=by have:=zaR a (10^p); omega
  rw [if_pos (by omega),Zeros_n p (by omega),Option.bind_some,if_pos (by rw [zbx]; omega),show (⟨#[49]⟩:ByteArray)++zer p=T (10^p) from T_ten p,zcd (by omega) (by omega),Option.bind_some,Near_T (by omega) (by omega) hb,Option.bind_some]
theorem read_ev (a b:ByteArray) (x:Rat) (h:RR a b x):Ev (fun k=>c2_Read.f k a b) (Fr x):=by
  have hs:spl a=(decide (x.num<0),T x.num.natAbs):=by
    rw [h.num]
    conv=>lhs; rw [←zbZ x.num]
    exact spl_wtext _ _ (fun e=>by have:=of_decide_eq_true e; omega)
  have hne:¬ a.toList=([]:List UInt8):=by
    intro e
    have h1:=spl_empty e
    rw [hs] at h1
    have h2:=congrArg Prod.snd h1
    have h3:=congrArg ByteArray.size h2
    have h4:=za2 x.num.natAbs
    have h5:a.size=0:=by rw [←zav,←ba_toList,e]; rfl
    have h6:(T x.num.natAbs).size=a.size:=h3
    omega
  have hp:=size_pos_of hne
  have hb:(b.toList == ([]:List UInt8))=false:=by
    refine beq_eq_false_iff_ne.2 (fun e => ?_)
    have h4:=za2 x.den
    rw [←h.den,←zav,←ba_toList,e] at h4
    cases h4
  unfold c2_Read.f
  rw [hb]
  refine Ev.congr (fun k=>if_neg hne) ?_
  refine Ev.step (f:=fun k=>some (Fr x)) (fun k => ?_) (Ev.now _)
  show c2_Read.j0 (k+1) false a b=_
  simp only [c2_Read.j0]
  have hbt:=bt0 hp
  rw [if_neg (by decide),if_pos (by omega)]
  have hF:Fr x=((spl a).1,(spl a).2,b):=by unfold Fr; rw [hs,h.den]
  rw [hF]
  cases hh:(spl a).1
  · rw [hh] at hbt
    rw [if_neg (beq_eq_false_iff_ne.1 hbt),spl_pos hh]
  · rw [hh] at hbt
    rw [if_pos (beq_iff_eq.1 hbt),if_pos (by omega),(spl_neg hh).2]
theorem tail_f (t sg:ByteArray) (p:Nat) (h1:p+1≤t.size) (h2:t.size≤100000) (h3:sg.size≤1):(if (p:Int)=0 then (if sg.size+t.size≤9223372036854775807 then (some (sg++t,(0:Int))) else (none)) else (if 0≤(wrap64 ((t.size:Int)-p)) then (if (wrap64 ((t.size:Int)-p))≤(t.size:Int) then (if sg.size+(t.extract 0 ((wrap64 ((t.size:Int)-p)):Int).toNat).size≤9223372036854775807 then (if (sg++(t.extract 0 ((wrap64 ((t.size:Int)-p)):Int).toNat)).size+1≤9223372036854775807 then (if ((sg++(t.extract 0 ((wrap64 ((t.size:Int)-p)):Int).toNat))++(⟨#[46]⟩:ByteArray)).size+(t.extract ((wrap64 ((t.size:Int)-p)):Int).toNat t.size).size≤9223372036854775807 then (some (((sg++(t.extract 0 ((wrap64 ((t.size:Int)-p)):Int).toNat))++(⟨#[46]⟩:ByteArray))++(t.extract ((wrap64 ((t.size:Int)-p)):Int).toNat t.size),0)) else (none)) else (none)) else (none)) else (none)) else (none)))=some (sg++ptT t p,0):=by
  have hw:wrap64 ((t.size:Int)-p)=(t.size:Int)-p:=by unfold wrap64; omega
  have hn:((t.size:Int)-p).toNat=t.size-p:=by omega
  have e0:(t.extract 0 (t.size-p)).size=min (t.size-p) t.size:=by rw [ByteArray.size_extract,Nat.sub_zero]
  have e1:(t.extract (t.size-p) t.size).size=t.size-(t.size-p):=by rw [ByteArray.size_extract,Nat.min_self]
  have e4:(⟨#[46]⟩:ByteArray).size=1:=rfl
  by_cases h0:p=0
  · subst h0
    have e:ptT t 0=t:=if_neg (by decide)
    rw [if_pos (show ((0:Nat):Int)=0 from rfl),if_pos (by omega),e]
  · rw [if_neg (by omega),hw,hn,if_pos (by omega),if_pos (by omega),if_pos (by omega),if_pos (by rw [ByteArray.size_append]; omega),if_pos (by rw [ByteArray.size_append,ByteArray.size_append]; omega)]
    unfold ptT
    rw [if_pos (by omega),ByteArray.append_assoc,ByteArray.append_assoc,ByteArray.append_assoc]
theorem j2_ev (p:Nat) (t sg:ByteArray) (hp:p≤600) (ht:t.size≤600) (ht0:0<t.size) (hs:sg.size≤1):Ev (fun k=>c2_Digits.j2 k (p:Int) t sg) (sg++ptT (padT t p) p,0):=by
  refine Ev.step (f:=fun k=>some (sg++ptT (padT t p) p,0)) (fun k => ?_) (Ev.now _)
  simp only [c2_Digits.j2]
  by_cases h:(t.size:Int)≤p
  · have hz:wrap64 ((wrap64 ((p:Int)+1))-(t.size:Int))=((p+1-t.size:Nat):Int):=by unfold wrap64; omega
    have hpad:padT t p=zer (p+1-t.size)++t:=if_pos (by omega)
    have hsz:(zer (p+1-t.size)).size=p+1-t.size:=zbx _
    rw [if_pos h,hz,Zeros_n _ (by omega),Option.bind_some,if_pos (by omega),hpad]
    exact tail_f _ sg p (by rw [ByteArray.size_append]; omega) (by rw [ByteArray.size_append]; omega) hs
  · have hpad:padT t p=t:=if_neg (by omega)
    rw [if_neg h,hpad]
    exact tail_f t sg p (by omega) (by omega) hs
theorem digits_ev (a b : ByteArray) (p : Int) (hp0 : -9223372036854775808 ≤ p) (hp1 : p < 9223372036854775808) : ∃ r, rat_Digits.f a b p = some r ∧ Ev (fun k => c2_Digits.f k a b p) r := by
  by_cases he:∃ x,RR a b x
  · have hx := he.choose_spec
    have hc:=(core_iff a b).2 he
    have hr:=right_ev a b
    rw [hc] at hr
    refine ⟨digR he.choose p,?_,?_⟩
    · unfold rat_Digits.f; rw [dif_pos he]
    unfold c2_Digits.f
    generalize he.choose=x at hx
    refine Ev.bind hr ?_
    refine Ev.congr (fun k=>if_pos rfl) ?_
    by_cases hb:p<0∨600<p
    · have hd:digR x p=(⟨#[]⟩,1):=if_pos hb
      rw [hd]
      have hj:Ev (fun k=>c2_Digits.j0 k p true a b) ((⟨#[]⟩:ByteArray),(1:Int)):=by
        refine Ev.step (f:=fun _=>some (⟨#[]⟩,1)) (fun k => ?_) (Ev.now _)
        simp only [c2_Digits.j0]
        rw [if_pos trivial]
      by_cases hn:p<0
      · exact Ev.congr (fun k=>if_pos hn) hj
      · have:decide (p>600)=true:=decide_eq_true (by omega)
        rw [this]
        exact Ev.congr (fun k=>if_neg hn) hj
    · obtain ⟨q,rfl⟩:∃ q:Nat,p=q:=⟨p.toNat,by omega⟩
      have hq:q≤600:=by omega
      have hf:decide ((q:Int)>600)=false:=decide_eq_false (by omega)
      rw [hf]
      refine Ev.congr (fun k=>if_neg (by omega)) ?_
      have sn:=(zaM (k:=600) (by decide)).2 hx.ln
      have sd:=(zaM (k:=600) (by decide)).2 hx.ld
      have hE:=even_places x q
      have hst:=Steps_T (Fr x).1 x.num.natAbs x.den q x.den_pos (by omega) (by omega) (by omega)
      have hab:(evenR (x*tenR (q:Int))).natAbs=near (x.num.natAbs*10^q) x.den:=by rw [hE,zcB]
      have hdg:digR x (q:Int)=if 600<(T (near (x.num.natAbs*10^q) x.den)).size then (⟨#[]⟩,7) else (dgt (evenR (x*tenR (q:Int))) q,0):=by
        unfold digR
        rw [if_neg hb,hab,Int.toNat_natCast]
      rw [hdg]
      generalize near (x.num.natAbs*10^q) x.den=M at hst hE hab
      refine Ev.step (f:=fun k=>(c2_Read.f k a b).bind fun bt436=>((c2_Steps.f bt436.1 bt436.2.1 bt436.2.2 (q:Int)).bind fun t440=>(if (t440.size:Int)>600 then (some ((⟨#[]⟩:ByteArray),7)) else (if bt436.1=true then (c2_Digits.j1 k (q:Int) t440 (⟨#[]⟩:ByteArray) (t440.toList != ([48]:List UInt8))) else (c2_Digits.j1 k (q:Int) t440 (⟨#[]⟩:ByteArray) false))))) (fun k => ?_) ?_
      · simp only [c2_Digits.j0]
        rw [if_neg (by decide)]
      refine Ev.bind (read_ev a b x hx) ?_
      refine Ev.congr (f:=fun k=>(if ((T M).size:Int)>600 then (some ((⟨#[]⟩:ByteArray),7)) else (if (Fr x).1=true then (c2_Digits.j1 k (q:Int) (T M) (⟨#[]⟩:ByteArray) ((T M).toList != ([48]:List UInt8))) else (c2_Digits.j1 k (q:Int) (T M) (⟨#[]⟩:ByteArray) false)))) (fun k => ?_) ?_
      · have:c2_Steps.f (Fr x).1 (Fr x).2.1 (Fr x).2.2 (q:Int)=some (T M):=hst
        rw [this,Option.bind_some]
      by_cases hM:600<(T M).size
      · rw [if_pos hM]
        exact Ev.congr (fun k=>if_pos (by omega)) (Ev.now _)
      · rw [if_neg hM]
        refine Ev.congr (fun k=>if_neg (by omega)) ?_
        have hMp:=za2 M
        have hj1f:Ev (fun k=>c2_Digits.j1 k (q:Int) (T M) (⟨#[]⟩:ByteArray) false) (ptT (padT (T M) q) q,0):=by
          refine Ev.step (f:=fun k=>c2_Digits.j2 k (q:Int) (T M) (⟨#[]⟩:ByteArray)) (fun k => ?_) ?_
          · simp only [c2_Digits.j1]
            rw [if_neg (by decide)]
          · have h:=j2_ev q (T M) ⟨#[]⟩ hq (by omega) hMp (by decide)
            have e:(⟨#[]⟩:ByteArray)++ptT (padT (T M) q) q=ptT (padT (T M) q) q:=ByteArray.empty_append
            rw [e] at h
            exact h
        have hj1t:Ev (fun k=>c2_Digits.j1 k (q:Int) (T M) (⟨#[]⟩:ByteArray) true) ((⟨#[45]⟩:ByteArray)++ptT (padT (T M) q) q,0):=by
          refine Ev.step (f:=fun k=>c2_Digits.j2 k (q:Int) (T M) (⟨#[45]⟩:ByteArray)) (fun k => ?_) ?_
          · simp only [c2_Digits.j1]
            rw [if_pos trivial]
          · exact j2_ev q (T M) ⟨#[45]⟩ hq (by omega) hMp (by decide)
        have hs1:(Fr x).1=decide (x.num<0):=rfl
        unfold dgt
        rw [hab]
        by_cases hn:x.num<0
        · rw [decide_eq_true hn] at hE hs1
          refine Ev.congr (fun k=>if_pos hs1) ?_
          by_cases hm0:M=0
          · subst hm0
            have hb0:((T 0).toList != ([48]:List UInt8))=false:=by rw [b48.2 rfl]; rfl
            rw [hb0,if_neg (by rw [hE]; decide)]
            exact hj1f
          · have hb1:((T M).toList != ([48]:List UInt8))=true:=bne_iff_ne.2 (fun e=>hm0 (T_inj (b48.1 e)))
            rw [hb1,if_pos (by rw [hE]; simp [sgn]; omega)]
            exact hj1t
        · rw [decide_eq_false hn] at hE hs1
          refine Ev.congr (fun k=>if_neg (by rw [hs1]; decide)) ?_
          rw [if_neg (by rw [hE]; simp [sgn])]
          exact hj1f
  · have hc:coreB (spl a).1 (spl a).2 b=false:=by
      cases hcc:coreB (spl a).1 (spl a).2 b
      · rfl
      · exact absurd ((core_iff a b).1 hcc) he
    have hr:=right_ev a b
    rw [hc] at hr
    refine ⟨(⟨#[]⟩,3),?_,?_⟩
    · unfold rat_Digits.f; rw [dif_neg he]
    · unfold c2_Digits.f
      refine Ev.bind hr ?_
      exact Ev.congr (fun k=>if_neg (by decide)) (Ev.now _)
end Go.Proofs.ZQ
end
