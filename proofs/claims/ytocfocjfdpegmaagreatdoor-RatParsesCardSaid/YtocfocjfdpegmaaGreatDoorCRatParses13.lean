/- Texts under the proof, joined by a program (prune.py): Q127, Q128, Q44, Q129, Q88, Q89, Q131, QPure1, Q94, Q95, QPure3, HAll, HTwo, QRatB, QPlus, Q155, Q137, Q158, QRefOps, SForm, QRefForm. -/
import Derived.Test.YtocfocjfdpegmaaGreatDoorCRatParses12
import Derived.Test.YtocfocjfdpegmaaGreatDoorCRatParses10
import Derived.Test.YtocfocjfdpegmaaGreatDoorCRatParses09
import Derived.Test.YtocfocjfdpegmaaGreatDoorCRatParses08
import Derived.Laws.CopyOwn
import Derived.Test.YtocfocjfdpegmaaGreatDoorCRatParses04
import Derived.WalkSpells
import Derived.StillTailTactics
import Derived.Shelf.Abstract
import Derived.Test.YtocfocjfdpegmaaGreatDoorCRatParses07
import Derived.Lib.Hide
import Derived.Deep.CutRange
set_option linter.unusedVariables false
set_option linter.unusedSimpArgs false
set_option exponentiation.threshold 20001
set_option maxHeartbeats 8000000
set_option maxRecDepth 100000
section
namespace Go.Proofs.ZQ
open Go.RowKit Go.Proofs.ZW.Wa Go.Proofs.ZW.Wb Go.Proofs.ZW.Wc
attribute [local go_sem] zaH zaF zaW zaV zaA zaz zaG zaE
noncomputable def c2_Told.j0:Nat→Bool→Bool→ByteArray→ByteArray→Option (ByteArray×ByteArray×Int)
 | 0,_,_,_,_=>none
 | k+1,x13,x303000,x303001,x303002=>if x13=true then (some ((⟨#[]⟩:ByteArray),(⟨#[]⟩:ByteArray),7)) else (if x303000=true then (if 1+x303001.size≤9223372036854775807 then (some ((⟨#[45]⟩:ByteArray)++x303001,x303002,0)) else (none)) else (some (x303001,x303002,0)))
noncomputable def c2_Told.f (k:Nat) (a0_0:Bool) (a0_1:ByteArray) (a0_2:ByteArray):Option (ByteArray×ByteArray×Int):=if (a0_1.size:Int)>600 then (c2_Told.j0 k true a0_0 a0_1 a0_2) else (c2_Told.j0 k (decide ((a0_2.size:Int)>600)) a0_0 a0_1 a0_2)
theorem c2_Told.calls (k:Nat) (a0_0:Bool) (a0_1:ByteArray) (a0_2:ByteArray) (r1:ByteArray) (r2:ByteArray) (r3:Int) (w:World) (h:c2_Told.f k a0_0 a0_1 a0_2=some (r1,r2,r3)) :
  Calls Tryz.prog 71 #[.agg #[.bool a0_0,.string a0_1,.string a0_2]] w fun e w'=>e = .returned (.tuple #[.agg #[.string r1,.string r2],.int .i64 r3])∧Below w.heap.size w w':=by
 have hu76:=Tryz.underlying76
 have hu23:=Tryz.underlying23
 have HB:=Aside0.mk (Below.refl w.heap.size w)
 have H:(if (a0_1.size:Int)>600 then (c2_Told.j0 k true a0_0 a0_1 a0_2) else (c2_Told.j0 k (decide ((a0_2.size:Int)>600)) a0_0 a0_1 a0_2))=some (r1,r2,r3):=h
 clear h
 have HC2:=Aside0.mk H
 clear H
 go_enter Tryz.func71,Tryz.ntmps71
 go_upto_region 1 with (first|((with_reducible refine za4 (N:=1) rfl ?_); (try (refine gate_guard (by rfl) ?_; dsimp only)); refine zb4 ?hg (N:=1) ?hd (cs:=#[.bool a0_0,.string a0_1,.string a0_2]) (t:=76) ?hr ?_; (case hd=>rfl); (case hg=>rfl); (case hr=>first|(go_simp; done)|(go_simp; rfl)); intro gb302 hg w3 hbox hb; have n0_:=Aside0.mk (zar (by repeat (first|(with_reducible first|exact HB.out|apply zaa|apply zab|apply zae)|exact HB.out)) hb); have n1_:=Aside0.mk (hbox); have n2_:=Aside0.mk ((by rw [hg]; exact (zaq (by repeat (first|(with_reducible first|exact HB.out|apply zaa|apply zab|apply zae)|exact HB.out))):w.heap.size≤gb302)); have n3_:=Aside0.mk ((by rw [hg]; exact (zaq (by repeat (first|(with_reducible first|exact HB.out|apply zaa|apply zab|apply zae)|exact HB.out))):w.heap.size≤gb302)); clear HB; have HB:=n0_; have BK302:=n1_; have GW302:=n2_; have GE302:=n3_; clear n0_ n1_ n2_ n3_; clear hb hbox hg)|((with_reducible refine za4 (N:=2) rfl ?_); (try (refine gate_guard (by rfl) ?_; dsimp only)); refine zb4 ?hg (N:=2) ?hd (cs:=#[.string (⟨#[]⟩:ByteArray),.string (⟨#[]⟩:ByteArray)]) (t:=23) ?hr ?_; (case hd=>rfl); (case hg=>rfl); (case hr=>first|(go_simp; done)|(go_simp; rfl)); intro gb303 hg w4 hbox hb; have n0_:=Aside0.mk (zbG (g:=gb302) (o:=.cells #[.bool a0_0,.string a0_1,.string a0_2] 76 (0,0)) (by (with_reducible repeat (first|refine zal ?_ _|refine zan ?_|refine zam ?_ _)); exact BK302.out) hb); have n1_:=Aside0.mk (zar (by repeat (first|(with_reducible first|exact HB.out|apply zaa|apply zab|apply zae|refine zag ?_ GE302.out)|exact HB.out)) hb); have n2_:=Aside0.mk (hbox); have n3_:=Aside0.mk ((by rw [hg]; exact (zaq (by repeat (first|(with_reducible first|exact HB.out|apply zaa|apply zab|apply zae|refine zag ?_ GE302.out)|exact HB.out))):w.heap.size≤gb303)); have n4_:=Aside0.mk ((by rw [hg]; exact (zaq (by repeat (first|(with_reducible first|exact HB.out|apply zaa|apply zab|apply zae|refine zag ?_ GE302.out)|exact HB.out))):w.heap.size≤gb303)); have n5_:=Aside0.mk ((by rw [hg]; exact Nat.ne_of_lt (zas (g:=gb302) (o:=.cells #[.bool a0_0,.string a0_1,.string a0_2] 76 (0,0)) (by (with_reducible repeat (first|refine zal ?_ _|refine zan ?_|refine zam ?_ _)); exact BK302.out)):gb302≠gb303)); have n6_:=Aside0.mk ((by rw [hg]; exact Nat.ne_of_gt (zas (g:=gb302) (o:=.cells #[.bool a0_0,.string a0_1,.string a0_2] 76 (0,0)) (by (with_reducible repeat (first|refine zal ?_ _|refine zan ?_|refine zam ?_ _)); exact BK302.out)):gb303≠gb302)); clear BK302; clear HB; have BK302:=n0_; have HB:=n1_; have BK303:=n2_; have GW303:=n3_; have GE303:=n4_; have NB302_303:=n5_; have NB303_302:=n6_; clear n0_ n1_ n2_ n3_ n4_ n5_ n6_; clear hb hbox hg))
 (try simp only [Act.put,List.setIfInBounds_toArray,List.set_cons_zero,List.set_cons_succ])
 go_cut [13] (fun v13 wc=>∃ (kq:Nat) (x13_1:Bool),v13 = .bool x13_1∧Aside0 (c2_Told.j0 kq x13_1 a0_0 a0_1 a0_2=some (r1,r2,r3))∧Aside0 (kq≤k)∧Aside0 (wc.heap[gb302]? = some (.cells #[.bool a0_0,.string a0_1,.string a0_2] 76 (0,0)))∧Aside0 (wc.heap[gb303]? = some (.cells #[.string (⟨#[]⟩:ByteArray),.string (⟨#[]⟩:ByteArray)] 23 (0,0)))∧Aside0 (Below w.heap.size w wc))
 case first =>
  have H:=HC2.out
  clear HC2
  by_cases c5:(a0_1.size:Int)>600
  ·rw [if_pos c5] at H
   have c5b0:decide (600<(a0_1.size:Int))=true:=decide_eq_true c5
   have c5b1:decide (600<a0_1.size)=true:=decide_eq_true (by omega)
   clear c5
   (first|rw [c5b0]|(simp only [i64_w,i32_w]; rw [c5b0])|skip)
   have H':=Aside0.mk H
   clear H
   have hnb6:=NB302_303.out
   have hnc6:=NB303_302.out
   have hcz7_0:w4.cell? ⟨gb302,0,none⟩=some (.bool a0_0):=(zaf BK302.out 0).trans rfl
   have hcz7_1:w4.cell? ⟨gb302,1,none⟩=some (.string a0_1):=(zaf BK302.out 1).trans rfl
   have hcz7_2:w4.cell? ⟨gb302,2,none⟩=some (.string a0_2):=(zaf BK302.out 2).trans rfl
   have hfz7_0:=zad BK302.out 0
   have hfz7_1:=zad BK302.out 1
   have hfz7_2:=zad BK302.out 2
   go_wp2
   go_meet
   case rel=>exact ⟨_,(true),(by first|rfl|(simp; done)|(simp [*]; done)),H',⟨by first|omega|exact Nat.le_refl _⟩,⟨by (with_reducible repeat (first|refine zal ?_ _|refine zan ?_|refine zam ?_ _)); exact BK302.out⟩,⟨by (with_reducible repeat (first|refine zal ?_ _|refine zan ?_|refine zam ?_ _)); exact BK303.out⟩,⟨by repeat (first|(with_reducible first|exact HB.out|apply zaa|apply zab|apply zae|refine zag ?_ GE302.out|refine zag ?_ GE303.out)|exact HB.out)⟩⟩
  ·rw [if_neg c5] at H
   have c5b0:decide (600<(a0_1.size:Int))=false:=decide_eq_false c5
   have c5b1:decide (600<a0_1.size)=false:=decide_eq_false (by omega)
   clear c5
   (first|rw [c5b0]|(simp only [i64_w,i32_w]; rw [c5b0])|skip)
   have H':=Aside0.mk H
   clear H
   have hnb8:=NB302_303.out
   have hnc8:=NB303_302.out
   have hcz9_0:w4.cell? ⟨gb302,0,none⟩=some (.bool a0_0):=(zaf BK302.out 0).trans rfl
   have hcz9_1:w4.cell? ⟨gb302,1,none⟩=some (.string a0_1):=(zaf BK302.out 1).trans rfl
   have hcz9_2:w4.cell? ⟨gb302,2,none⟩=some (.string a0_2):=(zaf BK302.out 2).trans rfl
   have hfz9_0:=zad BK302.out 0
   have hfz9_1:=zad BK302.out 1
   have hfz9_2:=zad BK302.out 2
   go_wp2
   go_meet
   case rel=>exact ⟨_,(decide ((a0_2.size:Int)>600)),(by first|rfl|(simp; done)|(simp [*]; done)),H',⟨by first|omega|exact Nat.le_refl _⟩,⟨by (with_reducible repeat (first|refine zal ?_ _|refine zan ?_|refine zam ?_ _)); exact BK302.out⟩,⟨by (with_reducible repeat (first|refine zal ?_ _|refine zan ?_|refine zam ?_ _)); exact BK303.out⟩,⟨by repeat (first|(with_reducible first|exact HB.out|apply zaa|apply zab|apply zae|refine zag ?_ GE302.out|refine zag ?_ GE303.out)|exact HB.out)⟩⟩
 case rest =>
  clear HC2
  try clear p2
  try clear c5
  try clear c5b0
  try clear c5b1
  try clear c6
  try clear c7
  try clear c8
  try clear hcz7_0
  try clear hcz7_1
  try clear hcz7_2
  try clear hcz9_0
  try clear hcz9_1
  try clear hcz9_2
  try clear hfz7_0
  try clear hfz7_1
  try clear hfz7_2
  try clear hfz9_0
  try clear hfz9_1
  try clear hfz9_2
  obtain ⟨kq,x13_1,rfl,HA,HJ1,BK302,BK303,HB⟩:=hcut
  cases kq with
  | zero=>exact absurd HA.out (by simp [c2_Told.j0])
  | succ kj1 =>
   have H:=HA.out
   clear HA
   simp only [c2_Told.j0] at H
   by_cases c10:x13_1=true
   ·subst c10
    have H1:(some ((⟨#[]⟩:ByteArray),(⟨#[]⟩:ByteArray),7))=some (r1,r2,r3):=by rw [if_pos rfl] at H; exact H
    clear H
    have H:=H1
    clear H1
    simp only [Option.some.injEq,Prod.mk.injEq] at H
    obtain ⟨rfl,rfl,rfl⟩:=H
    have hnb11:=NB303_302.out
    have hnc11:=NB302_303.out
    have hcz12_0:wc.cell? ⟨gb303,0,none⟩=some (.string (⟨#[]⟩:ByteArray)):=(zaf BK303.out 0).trans rfl
    have hcz12_1:wc.cell? ⟨gb303,1,none⟩=some (.string (⟨#[]⟩:ByteArray)):=(zaf BK303.out 1).trans rfl
    have hfz12_0:=zad BK303.out 0
    have hfz12_1:=zad BK303.out 1
    go_wp2
    refine bodyPost_ret (zaC rfl _ _ gb303 23 #[.string (⟨#[]⟩:ByteArray),.string (⟨#[]⟩:ByteArray)] (0,0) _ rfl (by (with_reducible repeat (first|refine zal ?_ _|refine zan ?_|refine zam ?_ _)); refine zaL (cs:=#[.string (⟨#[]⟩:ByteArray),.string (⟨#[]⟩:ByteArray)]) ?_ 1 _ rfl; (with_reducible repeat (first|refine zal ?_ _|refine zan ?_|refine zam ?_ _)); refine zaL (cs:=#[.string (⟨#[]⟩:ByteArray),.string (⟨#[]⟩:ByteArray)]) ?_ 0 _ rfl; (with_reducible repeat (first|refine zal ?_ _|refine zan ?_|refine zam ?_ _)); exact BK303.out) Tryz.underlying23 rfl (by kernel_rfl)) rfl ?_
    exact ⟨by first|rfl|(simp [zak,zaj]<;>rfl)|(simp [*,zak,zaj]<;>rfl),by repeat (first|(with_reducible first|exact HB.out|apply zaa|apply zab|apply zae|refine zag ?_ GE302.out|refine zag ?_ GE303.out)|exact HB.out)⟩
   ·replace c10:=Bool.eq_false_iff.mpr c10
    subst c10
    have H1:(if a0_0=true then (if 1+a0_1.size≤9223372036854775807 then (some ((⟨#[45]⟩:ByteArray)++a0_1,a0_2,0)) else (none)) else (some (a0_1,a0_2,0)))=some (r1,r2,r3):=by rw [if_neg (show ¬ (false=true) by decide)] at H; exact H
    clear H
    have H:=H1
    clear H1
    by_cases c13:a0_0=true
    ·subst c13
     have H1:(if 1+a0_1.size≤9223372036854775807 then (some ((⟨#[45]⟩:ByteArray)++a0_1,a0_2,0)) else (none))=some (r1,r2,r3):=by rw [if_pos rfl] at H; exact H
     clear H
     have H:=H1
     clear H1
     by_cases c14:1+a0_1.size≤9223372036854775807
     ·rw [if_pos c14] at H
      have c14b0:=eq_true c14
      have c14b1:decide (1+a0_1.size≤9223372036854775807)=true:=decide_eq_true c14
      try have c14b2:(9223372036854775807<1+a0_1.size)=False:=eq_false (Nat.not_lt.2 c14)
      simp only [Option.some.injEq,Prod.mk.injEq] at H
      obtain ⟨rfl,rfl,rfl⟩:=H
      have hnb15:=NB302_303.out
      have hnc15:=NB303_302.out
      have hcz16_0:wc.cell? ⟨gb302,0,none⟩=some (.bool true):=(zaf BK302.out 0).trans rfl
      have hcz16_1:wc.cell? ⟨gb302,1,none⟩=some (.string a0_1):=(zaf BK302.out 1).trans rfl
      have hcz16_2:wc.cell? ⟨gb302,2,none⟩=some (.string a0_2):=(zaf BK302.out 2).trans rfl
      have hfz16_0:=zad BK302.out 0
      have hfz16_1:=zad BK302.out 1
      have hfz16_2:=zad BK302.out 2
      have hcz17_0:wc.cell? ⟨gb303,0,none⟩=some (.string (⟨#[]⟩:ByteArray)):=(zaf BK303.out 0).trans rfl
      have hcz17_1:wc.cell? ⟨gb303,1,none⟩=some (.string (⟨#[]⟩:ByteArray)):=(zaf BK303.out 1).trans rfl
      have hfz17_0:=zad BK303.out 0
      have hfz17_1:=zad BK303.out 1
      go_wp2
      refine bodyPost_ret (zaC rfl _ _ gb303 23 #[.string ((⟨#[45]⟩:ByteArray)++a0_1),.string a0_2] (0,0) _ rfl (by (with_reducible repeat (first|refine zal ?_ _|refine zan ?_|refine zam ?_ _)); refine zaL (cs:=#[.string ((⟨#[45]⟩:ByteArray)++a0_1),.string (⟨#[]⟩:ByteArray)]) ?_ 1 _ rfl; (with_reducible repeat (first|refine zal ?_ _|refine zan ?_|refine zam ?_ _)); refine zaL (cs:=#[.string (⟨#[]⟩:ByteArray),.string (⟨#[]⟩:ByteArray)]) ?_ 0 _ rfl; (with_reducible repeat (first|refine zal ?_ _|refine zan ?_|refine zam ?_ _)); exact BK303.out) Tryz.underlying23 rfl (by kernel_rfl)) rfl ?_
      exact ⟨by first|rfl|(simp [zak,zaj]<;>rfl)|(simp [*,zak,zaj]<;>rfl),by repeat (first|(with_reducible first|exact HB.out|apply zaa|apply zab|apply zae|refine zag ?_ GE302.out|refine zag ?_ GE303.out)|exact HB.out)⟩
     ·rw [if_neg c14] at H
      exact absurd H (by simp)
    ·replace c13:=Bool.eq_false_iff.mpr c13
     subst c13
     have H1:(some (a0_1,a0_2,0))=some (r1,r2,r3):=by rw [if_neg (show ¬ (false=true) by decide)] at H; exact H
     clear H
     have H:=H1
     clear H1
     simp only [Option.some.injEq,Prod.mk.injEq] at H
     obtain ⟨rfl,rfl,rfl⟩:=H
     have hnb18:=NB302_303.out
     have hnc18:=NB303_302.out
     have hcz19_0:wc.cell? ⟨gb302,0,none⟩=some (.bool false):=(zaf BK302.out 0).trans rfl
     have hcz19_1:wc.cell? ⟨gb302,1,none⟩=some (.string a0_1):=(zaf BK302.out 1).trans rfl
     have hcz19_2:wc.cell? ⟨gb302,2,none⟩=some (.string a0_2):=(zaf BK302.out 2).trans rfl
     have hfz19_0:=zad BK302.out 0
     have hfz19_1:=zad BK302.out 1
     have hfz19_2:=zad BK302.out 2
     have hcz20_0:wc.cell? ⟨gb303,0,none⟩=some (.string (⟨#[]⟩:ByteArray)):=(zaf BK303.out 0).trans rfl
     have hcz20_1:wc.cell? ⟨gb303,1,none⟩=some (.string (⟨#[]⟩:ByteArray)):=(zaf BK303.out 1).trans rfl
     have hfz20_0:=zad BK303.out 0
     have hfz20_1:=zad BK303.out 1
     go_wp2
     refine bodyPost_ret (zaC rfl _ _ gb303 23 #[.string a0_1,.string a0_2] (0,0) _ rfl (by (with_reducible repeat (first|refine zal ?_ _|refine zan ?_|refine zam ?_ _)); refine zaL (cs:=#[.string a0_1,.string (⟨#[]⟩:ByteArray)]) ?_ 1 _ rfl; (with_reducible repeat (first|refine zal ?_ _|refine zan ?_|refine zam ?_ _)); refine zaL (cs:=#[.string (⟨#[]⟩:ByteArray),.string (⟨#[]⟩:ByteArray)]) ?_ 0 _ rfl; (with_reducible repeat (first|refine zal ?_ _|refine zan ?_|refine zam ?_ _)); exact BK303.out) Tryz.underlying23 rfl (by kernel_rfl)) rfl ?_
     exact ⟨by first|rfl|(simp [zak,zaj]<;>rfl)|(simp [*,zak,zaj]<;>rfl),by repeat (first|(with_reducible first|exact HB.out|apply zaa|apply zab|apply zae|refine zag ?_ GE302.out|refine zag ?_ GE303.out)|exact HB.out)⟩
noncomputable def c2_Lowest.f (a0:Bool) (a1:ByteArray) (a2:ByteArray):Option (Bool×ByteArray×ByteArray):=if a1.toList=([48]:List UInt8) then (some (false,(⟨#[48]⟩:ByteArray),(⟨#[49]⟩:ByteArray))) else ((c1_Common.f a1 a2).bind fun t305=>((c1_Divide.f a1 t305).bind fun bt306=>((c1_Divide.f a2 t305).bind fun bt308=>(some (a0,bt306.1,bt308.1)))))
theorem c2_Lowest.calls (a0:Bool) (a1:ByteArray) (a2:ByteArray) (r1:Bool) (r2:ByteArray) (r3:ByteArray) (w:World) (h:c2_Lowest.f a0 a1 a2=some (r1,r2,r3)) :
  Calls Tryz.prog 72 #[.bool a0,.string a1,.string a2] w fun e w'=>e = .returned (.agg #[.bool r1,.string r2,.string r3])∧Below w.heap.size w w':=by
 have hu76:=Tryz.underlying76
 have HB:=Aside0.mk (Below.refl w.heap.size w)
 have H:(if a1.toList=([48]:List UInt8) then (some (false,(⟨#[48]⟩:ByteArray),(⟨#[49]⟩:ByteArray))) else ((c1_Common.f a1 a2).bind fun t305=>((c1_Divide.f a1 t305).bind fun bt306=>((c1_Divide.f a2 t305).bind fun bt308=>(some (a0,bt306.1,bt308.1))))))=some (r1,r2,r3):=h
 clear h
 by_cases c4:a1.toList=([48]:List UInt8)
 ·rw [if_pos c4] at H
  have c4b0:(a1.toList == ([48]:List UInt8))=true:=beq_iff_eq.mpr c4
  have c4b1:(a1.toList != ([48]:List UInt8))=false:=bne_eq_false_iff_eq.mpr c4
  clear c4
  simp only [Option.some.injEq,Prod.mk.injEq] at H
  obtain ⟨rfl,rfl,rfl⟩:=H
  go_enter Tryz.func72,Tryz.ntmps72
  go_wp2_with (first|((with_reducible refine za4 (N:=6) rfl ?_); refine zb4 ?hg (N:=6) ?hd (cs:=#[.bool false,.string (⟨#[]⟩:ByteArray),.string (⟨#[]⟩:ByteArray)]) (t:=76) ?hr ?_; (case hd=>rfl); (case hg=>rfl); (case hr=>first|(go_simp; done)|(go_simp; rfl)); intro gb304 hg w5 hbox hb; have n0_:=Aside0.mk (zar (by repeat (first|(with_reducible first|exact HB.out|apply zaa|apply zab|apply zae)|exact HB.out)) hb); have n1_:=Aside0.mk (hbox); have n2_:=Aside0.mk ((by rw [hg]; exact (zaq (by repeat (first|(with_reducible first|exact HB.out|apply zaa|apply zab|apply zae)|exact HB.out))):w.heap.size≤gb304)); have n3_:=Aside0.mk ((by rw [hg]; exact (zaq (by repeat (first|(with_reducible first|exact HB.out|apply zaa|apply zab|apply zae)|exact HB.out))):w.heap.size≤gb304)); clear HB; have HB:=n0_; have BK304:=n1_; have GW304:=n2_; have GE304:=n3_; clear n0_ n1_ n2_ n3_; clear hb hbox hg; have hcz6_0:w5.cell? ⟨gb304,0,none⟩=some (.bool false):=(zaf BK304.out 0).trans rfl; have hcz6_1:w5.cell? ⟨gb304,1,none⟩=some (.string (⟨#[]⟩:ByteArray)):=(zaf BK304.out 1).trans rfl; have hcz6_2:w5.cell? ⟨gb304,2,none⟩=some (.string (⟨#[]⟩:ByteArray)):=(zaf BK304.out 2).trans rfl; have hfz6_0:=zad BK304.out 0; have hfz6_1:=zad BK304.out 1; have hfz6_2:=zad BK304.out 2))
  refine bodyPost_ret (results_cell_row rfl _ _ gb304 76 #[.bool false,.string (⟨#[48]⟩:ByteArray),.string (⟨#[49]⟩:ByteArray)] (0,0) _ rfl (by (with_reducible repeat (first|refine zal ?_ _|refine zan ?_|refine zam ?_ _)); refine zaL (cs:=#[.bool false,.string (⟨#[48]⟩:ByteArray),.string (⟨#[]⟩:ByteArray)]) ?_ 2 _ rfl; (with_reducible repeat (first|refine zal ?_ _|refine zan ?_|refine zam ?_ _)); refine zaL (cs:=#[.bool false,.string (⟨#[]⟩:ByteArray),.string (⟨#[]⟩:ByteArray)]) ?_ 1 _ rfl; (with_reducible repeat (first|refine zal ?_ _|refine zan ?_|refine zam ?_ _)); refine zaL (cs:=#[.bool false,.string (⟨#[]⟩:ByteArray),.string (⟨#[]⟩:ByteArray)]) ?_ 0 _ rfl; (with_reducible repeat (first|refine zal ?_ _|refine zan ?_|refine zam ?_ _)); exact BK304.out) Tryz.underlying76 rfl (by kernel_rfl)) rfl ?_
  exact ⟨by first|rfl|(simp [zak,zaj]<;>rfl)|(simp [*,zak,zaj]<;>rfl),by repeat (first|(with_reducible first|exact HB.out|apply zaa|apply zab|apply zae|refine zag ?_ GE304.out)|exact HB.out)⟩
 ·rw [if_neg c4] at H
  have c4b0:(a1.toList == ([48]:List UInt8))=false:=beq_eq_false_iff_ne.mpr c4
  have c4b1:(a1.toList != ([48]:List UInt8))=true:=bne_iff_ne.mpr c4
  replace H:=Option.bind_eq_some_iff.mp H
  obtain ⟨t305,A70,H⟩:=H
  replace H:((c1_Divide.f a1 t305).bind fun bt306=>((c1_Divide.f a2 t305).bind fun bt308=>(some (a0,bt306.1,bt308.1))))=some (r1,r2,r3):=H
  have A7:=Aside0.mk A70
  clear A70
  replace H:=Option.bind_eq_some_iff.mp H
  obtain ⟨⟨t306,t307⟩,A80,H⟩:=H
  replace H:((c1_Divide.f a2 t305).bind fun bt308=>(some (a0,t306,bt308.1)))=some (r1,r2,r3):=H
  have A8:=Aside0.mk A80
  clear A80
  replace H:=Option.bind_eq_some_iff.mp H
  obtain ⟨⟨t308,t309⟩,A90,H⟩:=H
  replace H:(some (a0,t306,t308))=some (r1,r2,r3):=H
  have A9:=Aside0.mk A90
  clear A90
  simp only [Option.some.injEq,Prod.mk.injEq] at H
  obtain ⟨rfl,rfl,rfl⟩:=H
  go_enter Tryz.func72,Tryz.ntmps72
  go_wp2_with (first|((with_reducible refine za4 (N:=6) rfl ?_); refine zb4 ?hg (N:=6) ?hd (cs:=#[.bool false,.string (⟨#[]⟩:ByteArray),.string (⟨#[]⟩:ByteArray)]) (t:=76) ?hr ?_; (case hd=>rfl); (case hg=>rfl); (case hr=>first|(go_simp; done)|(go_simp; rfl)); intro gb304 hg w10 hbox hb; have n0_:=Aside0.mk (zar (by repeat (first|(with_reducible first|exact HB.out|apply zaa|apply zab|apply zae)|exact HB.out)) hb); have n1_:=Aside0.mk (hbox); have n2_:=Aside0.mk ((by rw [hg]; exact (zaq (by repeat (first|(with_reducible first|exact HB.out|apply zaa|apply zab|apply zae)|exact HB.out))):w.heap.size≤gb304)); have n3_:=Aside0.mk ((by rw [hg]; exact (zaq (by repeat (first|(with_reducible first|exact HB.out|apply zaa|apply zab|apply zae)|exact HB.out))):w.heap.size≤gb304)); clear HB; have HB:=n0_; have BK304:=n1_; have GW304:=n2_; have GE304:=n3_; clear n0_ n1_ n2_ n3_; clear hb hbox hg)|((with_reducible refine zaD (f:=73) rfl ?_); refine zbR (some 17) rfl rfl Tryz.func73 (by kernel_rfl) rfl #[.string a1,.string a2] rfl (by (try simp only [List.map_toArray,List.map_cons,List.map_nil]); first|done|rfl|(simp only [List.length_drop,List.length_take]; rfl)) ?_; (with_reducible refine (c1_Common.calls a1 a2 t305 _ A7.out).mono ?_); rintro e w11 ⟨rfl,hb⟩; refine ⟨_,rfl,?_⟩; have n0_:=Aside0.mk (zbG (g:=gb304) (o:=.cells #[.bool false,.string (⟨#[]⟩:ByteArray),.string (⟨#[]⟩:ByteArray)] 76 (0,0)) (by (with_reducible repeat (first|refine zal ?_ _|refine zan ?_|refine zam ?_ _)); exact BK304.out) hb); have n1_:=Aside0.mk (zar (by repeat (first|(with_reducible first|exact HB.out|apply zaa|apply zab|apply zae|refine zag ?_ GE304.out)|exact HB.out)) hb); clear BK304; clear HB; have BK304:=n0_; have HB:=n1_; clear n0_ n1_; (try clear hb); (try clear hb2); (try clear hk); (try clear hi))|((with_reducible refine zaD (f:=156) rfl ?_); refine zbR (some 21) rfl rfl Tryz.func156 (by kernel_rfl) rfl #[.string a1,.string t305] rfl (by (try simp only [List.map_toArray,List.map_cons,List.map_nil]); first|done|rfl|(simp only [List.length_drop,List.length_take]; rfl)) ?_; (with_reducible refine (c1_Divide.calls a1 t305 t306 t307 _ A8.out).mono ?_); rintro e w12 ⟨rfl,hb⟩; refine ⟨_,rfl,?_⟩; have n0_:=Aside0.mk (zbG (g:=gb304) (o:=.cells #[.bool false,.string (⟨#[]⟩:ByteArray),.string (⟨#[]⟩:ByteArray)] 76 (0,0)) (by (with_reducible repeat (first|refine zal ?_ _|refine zan ?_|refine zam ?_ _)); exact BK304.out) hb); have n1_:=Aside0.mk (zar (by repeat (first|(with_reducible first|exact HB.out|apply zaa|apply zab|apply zae|refine zag ?_ GE304.out)|exact HB.out)) hb); clear BK304; clear HB; have BK304:=n0_; have HB:=n1_; clear n0_ n1_; (try clear hb); (try clear hb2); (try clear hk); (try clear hi))|((with_reducible refine zaD (f:=156) rfl ?_); refine zbR (some 27) rfl rfl Tryz.func156 (by kernel_rfl) rfl #[.string a2,.string t305] rfl (by (try simp only [List.map_toArray,List.map_cons,List.map_nil]); first|done|rfl|(simp only [List.length_drop,List.length_take]; rfl)) ?_; (with_reducible refine (c1_Divide.calls a2 t305 t308 t309 _ A9.out).mono ?_); rintro e w13 ⟨rfl,hb⟩; refine ⟨_,rfl,?_⟩; have n0_:=Aside0.mk (zbG (g:=gb304) (o:=.cells #[.bool false,.string (⟨#[]⟩:ByteArray),.string (⟨#[]⟩:ByteArray)] 76 (0,0)) (by (with_reducible repeat (first|refine zal ?_ _|refine zan ?_|refine zam ?_ _)); exact BK304.out) hb); have n1_:=Aside0.mk (zar (by repeat (first|(with_reducible first|exact HB.out|apply zaa|apply zab|apply zae|refine zag ?_ GE304.out)|exact HB.out)) hb); clear BK304; clear HB; have BK304:=n0_; have HB:=n1_; clear n0_ n1_; (try clear hb); (try clear hb2); (try clear hk); (try clear hi); have hcz14_0:w13.cell? ⟨gb304,0,none⟩=some (.bool false):=(zaf BK304.out 0).trans rfl; have hcz14_1:w13.cell? ⟨gb304,1,none⟩=some (.string (⟨#[]⟩:ByteArray)):=(zaf BK304.out 1).trans rfl; have hcz14_2:w13.cell? ⟨gb304,2,none⟩=some (.string (⟨#[]⟩:ByteArray)):=(zaf BK304.out 2).trans rfl; have hfz14_0:=zad BK304.out 0; have hfz14_1:=zad BK304.out 1; have hfz14_2:=zad BK304.out 2))
  refine bodyPost_ret (results_cell_row rfl _ _ gb304 76 #[.bool a0,.string t306,.string t308] (0,0) _ rfl (by (with_reducible repeat (first|refine zal ?_ _|refine zan ?_|refine zam ?_ _)); refine zaL (cs:=#[.bool a0,.string t306,.string (⟨#[]⟩:ByteArray)]) ?_ 2 _ rfl; (with_reducible repeat (first|refine zal ?_ _|refine zan ?_|refine zam ?_ _)); refine zaL (cs:=#[.bool a0,.string (⟨#[]⟩:ByteArray),.string (⟨#[]⟩:ByteArray)]) ?_ 1 _ rfl; (with_reducible repeat (first|refine zal ?_ _|refine zan ?_|refine zam ?_ _)); refine zaL (cs:=#[.bool false,.string (⟨#[]⟩:ByteArray),.string (⟨#[]⟩:ByteArray)]) ?_ 0 _ rfl; (with_reducible repeat (first|refine zal ?_ _|refine zan ?_|refine zam ?_ _)); exact BK304.out) Tryz.underlying76 rfl (by kernel_rfl)) rfl ?_
  exact ⟨by first|rfl|(simp [zak,zaj]<;>rfl)|(simp [*,zak,zaj]<;>rfl),by repeat (first|(with_reducible first|exact HB.out|apply zaa|apply zab|apply zae|refine zag ?_ GE304.out)|exact HB.out)⟩
noncomputable def c2_Right.j0:Nat→ByteArray→Bool→ByteArray→ByteArray→Option (Bool)
 | 0,_,_,_,_=>none
 | k+1,x3,x12,x207000,x207001=>if x12=true then (if 1≤(x3.size:Int) then (if (x3.extract 1 x3.size).toList=([48]:List UInt8) then (some false) else ((c1_Right.f (x3.extract 1 x3.size)).bind fun t207=>(if t207=true then ((c1_Right.f x207001).bind fun t208=>(if t208=true then (if x207001.toList=([48]:List UInt8) then (some false) else ((c1_Common.f (x3.extract 1 x3.size) x207001).bind fun t209=>(some (t209.toList == ([49]:List UInt8))))) else (some false))) else (some false)))) else (none)) else ((c1_Right.f x3).bind fun t210=>(if t210=true then ((c1_Right.f x207001).bind fun t211=>(if t211=true then (if x207001.toList=([48]:List UInt8) then (some false) else ((c1_Common.f x3 x207001).bind fun t212=>(some (t212.toList == ([49]:List UInt8))))) else (some false))) else (some false)))
noncomputable def c2_Right.f (k:Nat) (a0_0:ByteArray) (a0_1:ByteArray):Option (Bool):=if a0_0.toList=([]:List UInt8) then (c2_Right.j0 k a0_0 false a0_0 a0_1) else (if 0<(a0_0.size:Int) then (c2_Right.j0 k a0_0 ((bt a0_0 0) == 45) a0_0 a0_1) else (none))
mutual
noncomputable def c2_New.j0:Nat→ByteArray→ByteArray→Bool→Option (ByteArray×ByteArray×Int)
 | 0,_,_,_=>none
 | k+1,x0,x1,x6=>if x6=true then (if 1≤(x0.size:Int) then (c2_New.j1 k (x0.extract 1 x0.size) x1 x6) else (none)) else (c2_New.j1 k x0 x1 x6)
noncomputable def c2_New.j1:Nat→ByteArray→ByteArray→Bool→Option (ByteArray×ByteArray×Int)
 | 0,_,_,_=>none
 | k+1,x0,x1,x6=>(c1_Right.f x0).bind fun t311=>(if t311=true then ((c1_Right.f x1).bind fun t312=>(c2_New.j2 k x0 x1 x6 (!t312))) else (c2_New.j2 k x0 x1 x6 true))
noncomputable def c2_New.j2:Nat→ByteArray→ByteArray→Bool→Bool→Option (ByteArray×ByteArray×Int)
 | 0,_,_,_,_=>none
 | k+1,x0,x1,x6,x24=>if x24=true then (some ((⟨#[]⟩:ByteArray),(⟨#[]⟩:ByteArray),3)) else (if x1.toList=([48]:List UInt8) then (some ((⟨#[]⟩:ByteArray),(⟨#[]⟩:ByteArray),8)) else ((c2_Lowest.f x6 x0 x1).bind fun bt313=>((c2_Told.f k bt313.1 bt313.2.1 bt313.2.2).bind fun bt316=>(some (bt316.1,bt316.2.1,bt316.2.2)))))
end
noncomputable def c2_New.f (k:Nat) (a0:ByteArray) (a1:ByteArray):Option (ByteArray×ByteArray×Int):=if a0.toList=([]:List UInt8) then (c2_New.j0 k a0 a1 false) else (if 0<(a0.size:Int) then (c2_New.j0 k a0 a1 ((bt a0 0) == 45)) else (none))
noncomputable def c2_Whole.f (a0:Int):Option (Bool×ByteArray×ByteArray):=if a0<0 then ((c1_Of.f (IntKind.u64.wrap ((IntKind.u64.wrap (wrap64 (-(wrap64 (a0+1)))))+1))).bind fun t251=>(some (true,t251,(⟨#[49]⟩:ByteArray)))) else ((c1_Of.f (IntKind.u64.wrap (a0))).bind fun t252=>(some (false,t252,(⟨#[49]⟩:ByteArray))))
noncomputable def c2_Read.j0:Nat→Bool→ByteArray→ByteArray→Option (Bool×ByteArray×ByteArray)
 | 0,_,_,_=>none
 | k+1,x10,x254000,x254001=>if x10=true then ((c2_Whole.f 0).bind fun bt255=>(some (bt255.1,bt255.2.1,bt255.2.2))) else (if 0<(x254000.size:Int) then (if (bt x254000 0)=45 then (if 1≤(x254000.size:Int) then (some (true,x254000.extract 1 x254000.size,x254001)) else (none)) else (some (false,x254000,x254001))) else (none))
noncomputable def c2_Read.f (k:Nat) (a0_0:ByteArray) (a0_1:ByteArray):Option (Bool×ByteArray×ByteArray):=if a0_0.toList=([]:List UInt8) then (c2_Read.j0 k true a0_0 a0_1) else (c2_Read.j0 k (a0_1.toList == ([]:List UInt8)) a0_0 a0_1)
noncomputable def c2_Of.f (k:Nat) (a0:Int):Option (ByteArray×ByteArray):=(c2_Whole.f a0).bind fun bt320=>((c2_Told.f k bt320.1 bt320.2.1 bt320.2.2).bind fun bt323=>(some (bt323.1,bt323.2.1)))
end Go.Proofs.ZQ
end
section
namespace Go.Proofs.ZQ
open Go.RowKit Go.Proofs.ZW.Wa Go.Proofs.ZP
def Fr (x:Rat):Bool×ByteArray×ByteArray:=(decide (x.num<0),T x.num.natAbs,T x.den)
theorem wtext_neg {x:Int} (h:x<0):wtext x=(⟨#[45]⟩:ByteArray)++T x.natAbs:=by
 refine (zaT (zaS h)).trans (zaT ?_).symm
 simp
theorem told_ev (x:Rat):Ev (fun k=>c2_Told.f k (Fr x).1 (Fr x).2.1 (Fr x).2.2) (toldR x):=by
 have s1:=zaB (n:=x.num.natAbs) (k:=600) (by decide)
 have s2:=zaB (n:=x.den) (k:=600) (by decide)
 unfold c2_Told.f
 show Ev (fun k=>if ((T x.num.natAbs).size:Int)>600 then _ else _) _
 by_cases h1:((T x.num.natAbs).size:Int)>600
 ·refine Ev.congr (fun k=>if_pos h1) (Ev.step (f:=fun _=>some (⟨#[]⟩,⟨#[]⟩,7)) (fun k => ?_) ?_)
  ·simp only [c2_Told.j0]
   rw [if_pos trivial]
  ·have:toldR x=(⟨#[]⟩,⟨#[]⟩,7):=if_neg (fun h=>by have:=s1.2 h.1; omega)
   rw [this]; exact Ev.now _
 ·refine Ev.congr (fun k=>if_neg h1) ?_
  by_cases h2:((T x.den).size:Int)>600
  ·refine Ev.step (f:=fun _=>some (⟨#[]⟩,⟨#[]⟩,7)) (fun k => ?_) ?_
   ·show c2_Told.j0 (k+1) (decide (((T x.den).size:Int)>600)) _ _ _=_
    rw [decide_eq_true h2]
    simp only [c2_Told.j0]
    rw [if_pos trivial]
   ·have:toldR x=(⟨#[]⟩,⟨#[]⟩,7):=if_neg (fun h=>by have:=s2.2 h.2; omega)
    rw [this]; exact Ev.now _
  ·have ht:toldR x=(wtext x.num,T x.den,0):=if_pos ⟨s1.1 (by omega),s2.1 (by omega)⟩
   rw [ht]
   refine Ev.step (f:=fun _=>some (wtext x.num,T x.den,0)) (fun k => ?_) (Ev.now _)
   show c2_Told.j0 (k+1) (decide (((T x.den).size:Int)>600)) (decide (x.num<0)) (T x.num.natAbs) (T x.den)=_
   rw [decide_eq_false h2]
   simp only [c2_Told.j0]
   rw [if_neg (by decide)]
   by_cases hn:x.num<0
   ·rw [if_pos (decide_eq_true hn),if_pos (by omega),wtext_neg hn]
   ·rw [if_neg (by simpa using hn),za5 (by omega)]
theorem T_1:(⟨#[49]⟩:ByteArray)=T 1:=T_one.symm
theorem T_0:(⟨#[48]⟩:ByteArray)=T 0:=T_zero.symm
theorem fr_of (s:Bool) (a b:Nat) (hb:0<b):Fr (Rat.divInt (sgn s a) b)=(s && decide (a≠0),T (a/Nat.gcd a b),T (b/Nat.gcd a b)):=by
 obtain ⟨h1,h2,h3⟩:=fr_lowest s a b hb
 unfold Fr
 rw [h1,h2,h3]
theorem lowest_T (s:Bool) (a b:Nat) (hb:0<b) (ha:(T a).size≤137438953472) (hbs:(T b).size≤137438953472):c2_Lowest.f s (T a) (T b)=some (Fr (Rat.divInt (sgn s a) b)):=by
 unfold c2_Lowest.f
 rw [fr_of s a b hb]
 by_cases h0:a=0
 ·subst h0
  rw [if_pos (T_is0.2 rfl),T_0,T_1]
  have:b/Nat.gcd 0 b=1:=by rw [Nat.gcd_zero_left]; exact Nat.div_self hb
  rw [this,Nat.zero_div]
  simp
 ·have hg:0<Nat.gcd a b:=Nat.gcd_pos_of_pos_right _ hb
  have hgs:(T (Nat.gcd a b)).size≤137438953472:=Nat.le_trans (T_size_mono (Nat.le_of_dvd hb (Nat.gcd_dvd_right a b))) hbs
  rw [if_neg (fun e=>h0 (T_is0.1 e)),Common_T ha hbs,Option.bind_some,Divide_T ha hgs hg,Option.bind_some,Divide_T hbs hgs hg,Option.bind_some]
  rw [decide_eq_true h0,Bool.and_true]
end Go.Proofs.ZQ
end
section
namespace Go.Proofs.ZQ
open Go.RowKit Go.Proofs.ZW.Wa Go.Proofs.ZW.Wb Go.Proofs.ZW.Wc
attribute [local go_sem] zaH zaF zaW zaV zaA zaz zaG zaE
noncomputable def c2_Near.f (a0:ByteArray) (a1:ByteArray):Option (ByteArray):=(c1_Divide.f a0 a1).bind fun bt258=>((c1_Times.f bt258.2 (⟨#[50]⟩:ByteArray)).bind fun t260=>((c1_Compare.f t260 a1).bind fun t261=>(if t261>0 then ((c1_Plus.f bt258.1 (⟨#[49]⟩:ByteArray)).bind fun t262=>(some t262)) else (if t261=0 then (if 0≤(wrap64 ((bt258.1.size:Int)-1)) then (if (wrap64 ((bt258.1.size:Int)-1))<(bt258.1.size:Int) then (if ((((bt bt258.1 (wrap64 ((bt258.1.size:Int)-1)))-48)%256)%2)=1 then ((c1_Plus.f bt258.1 (⟨#[49]⟩:ByteArray)).bind fun t263=>(some t263)) else (some bt258.1)) else (none)) else (none)) else (some bt258.1)))))
noncomputable def c2_Steps.f (a0_0:Bool) (a0_1:ByteArray) (a0_2:ByteArray) (a1:Int):Option (ByteArray):=if a1≥0 then ((c2_Zeros.f a1).bind fun t265=>(if 1+t265.size≤9223372036854775807 then ((c1_Times.f a0_1 ((⟨#[49]⟩:ByteArray)++t265)).bind fun t266=>((c2_Near.f t266 a0_2).bind fun t267=>(some t267))) else (none))) else ((c2_Zeros.f (wrap64 (-a1))).bind fun t268=>(if 1+t268.size≤9223372036854775807 then ((c1_Times.f a0_2 ((⟨#[49]⟩:ByteArray)++t268)).bind fun t269=>((c2_Near.f a0_1 t269).bind fun t270=>(some t270))) else (none)))
noncomputable def c2_Steps.B2:List Nat:=[0,1,0,4,12,31,0,64,255,511]
end Go.Proofs.ZQ
end
section
namespace Go.Proofs.ZQ
open Go.RowKit Go.Proofs.ZW.Wa Go.Proofs.ZP
theorem zer_eq (k:Nat):ZP.zer k=zer k:=rfl
theorem dval_zeros (k:Nat):dval (List.replicate k (48:UInt8))=0:=by
 induction k with
 | zero=>rfl
 | succ k ih=>rw [List.replicate_succ,zbE,ih]; simp
theorem T_ten (p:Nat):(⟨#[49]⟩:ByteArray)++ZP.zer p=T (10^p):=by
 have hd:((⟨#[49]⟩:ByteArray)++ZP.zer p).data.toList=49 :: List.replicate p (48:UInt8):=by
  rw [ByteArray.data_append,Array.toList_append]; simp [ZP.zer]
 refine (can_T ?_).trans (congrArg T ?_)
 ·rw [hd]
  refine ⟨by simp,?_,fun e=>by simp at e⟩
  intro c hc
  rcases List.mem_cons.1 hc with rfl|hc
  ·decide
  ·rw [(List.mem_replicate.1 hc).2]; decide
 ·rw [hd,zbE,dval_zeros,List.length_replicate]
  show (49-48)*10^p+0=_
  omega
theorem zer_sz (k:Nat):(ZP.zer k).size=k:=by show (List.replicate k (48:UInt8)).toArray.size=k; simp
theorem T_ten_size (p:Nat):(T (10^p)).size=p+1:=by
 rw [←T_ten,ByteArray.size_append,zer_sz]; show 1+p=_; omega
end Go.Proofs.ZQ
end
section
namespace Go.Proofs.ZP
open Go.RowKit Go.Proofs.ZW.Wa
def RowR (w:World) (A:Option Addr) (ps:List (ByteArray×ByteArray)):Prop:=
 ∀ j (h:j<ps.length),∃ b o,A=some ⟨b,o,none⟩∧b<w.heap.size∧w.cell? ⟨b,o+j*2,none⟩=some (.string ps[j].1)∧w.cell? ⟨b,o+j*2+1,none⟩=some (.string ps[j].2)
theorem RowR.below {w w':World} {A:Option Addr} {ps:List (ByteArray×ByteArray)} (h:RowR w A ps) (hb:Below w.heap.size w w'):RowR w' A ps:=fun j hj=>by
 obtain ⟨b,o,e,hl,h1,h2⟩:=h j hj
 have hs:=hb.size
 exact ⟨b,o,e,by omega,(hb.cell (p:=⟨b,o+j*2,none⟩) hl).trans h1,(hb.cell (p:=⟨b,o+j*2+1,none⟩) hl).trans h2⟩
def ptrs (n:Nat) (ds:List Nat):List Value:=ds.map (fun d=>Value.pointer (some ⟨d,0,none⟩))++List.replicate (n-ds.length) (.pointer none)
theorem ptrs_length {n:Nat} {ds:List Nat} (h:ds.length≤n):(ptrs n ds).length=n:=by unfold ptrs; simp; omega
theorem ptrs_snoc {n:Nat} {ds:List Nat} (h:ds.length<n) (d:Nat):(ptrs n ds).take ds.length++([Value.pointer (some ⟨d,0,none⟩)]++(ptrs n ds).drop (ds.length+1))=ptrs n (ds ++ [d]):=by
 have hl:(ds.map (fun d=>Value.pointer (some ⟨d,0,none⟩))).length=ds.length:=by simp
 unfold ptrs
 rw [List.take_left' hl,List.drop_append,hl,show ds.length+1-ds.length=1 by omega,List.drop_of_length_le (by rw [hl]; omega),List.nil_append,List.drop_replicate]
 simp only [List.map_append,List.map_cons,List.map_nil,List.length_append,List.length_singleton,List.append_assoc]
 congr 3
theorem upd_setRow {w:World} {g:Nat} {cur new:Array Value} {t:TypeId} (hg:w.heap[g]? = some (.cells cur t (0,0))) (ht:t≠144) (hs:new.size=cur.size):Upd w (w.setRow g new) g 0 cur.size where
 os:=rfl
 tape:=rfl
 output:=rfl
 size:=by simp [World.setRow]
 other:=fun k _ hne=>setRow_other w g k new hne
 word:=fun k cs' hk=>setRow_other w g k new (by
  rintro rfl
  rw [hg] at hk
  injection hk with hk
  injection hk with _ hk
  exact ht hk)
 same:=fun cs' t' hk=>by
  rw [hg] at hk
  injection hk with hk
  injection hk with e1 e2
  subst e1; subst e2
  exact ⟨new,setRow_heap w g cur new t (0,0) hg,hs,fun i hi=>by
   rcases hi with hi|hi
   ·omega
   ·rw [Array.getElem?_eq_none (by omega),Array.getElem?_eq_none (by omega)]⟩
structure ASt (w wr:World) (g n:Nat) (X:Nat→Rat) (ds:List Nat):Prop where
 le:ds.length≤n
 blk:wr.heap[g]? = some (.cells (ptrs n ds).toArray 64 (0,0))
 at_:∀ j (h:j<ds.length),w.heap.size≤ds[j]∧g≠ds[j]∧RatAt wr ds[j] (X j)
 below:Below w.heap.size w wr
 ge:w.heap.size≤g
theorem ASt.below' {w wr w':World} {g n:Nat} {X:Nat→Rat} {ds:List Nat} (h:ASt w wr g n X ds) (hb:Below wr.heap.size wr w'):ASt w w' g n X ds where
 le:=h.le
 blk:=(hb.block _ (zas h.blk)).trans h.blk
 at_:=fun j hj=>by
  obtain ⟨h1,h2,h3⟩:=h.at_ j hj
  exact ⟨h1,h2,h3.below hb⟩
 below:=bthen h.below hb
 ge:=h.ge
theorem ASt.more {w wr:World} {g n:Nat} {X:Nat→Rat} {ds:List Nat} (h:ASt w wr g n X ds) (hl:ds.length<n) (d:Nat) (hd:w.heap.size≤d) (hne:g≠d) (hx:RatAt wr d (X ds.length)) :
  Hid (ASt w (wr.setRow g ((ptrs n ds).take ds.length++([Value.pointer (some ⟨d,0,none⟩)]++(ptrs n ds).drop (ds.length+1))).toArray) g n X (ds ++ [d])):=by
 rw [ptrs_snoc hl]
 have hu:=upd_setRow (new:=(ptrs n (ds ++ [d])).toArray) h.blk (by decide) (by
  simp only [List.size_toArray]
  rw [ptrs_length (by simp; omega),ptrs_length h.le])
 exact {
  le:=by simp; omega
  blk:=setRow_heap _ _ _ _ _ _ h.blk
  at_:=fun j hj=>by
   rw [List.length_append,List.length_singleton] at hj
   by_cases e:j<ds.length
   ·obtain ⟨h1,h2,h3⟩:=h.at_ j e
    rw [List.getElem_append_left e]
    exact ⟨h1,h2,h3.upd hu (fun e=>h2 e.symm)⟩
   ·have:j=ds.length:=by omega
    subst this
    rw [List.getElem_append_right (Nat.le_refl _)]
    simp only [Nat.sub_self,List.getElem_cons_zero]
    exact ⟨hd,hne,hx.upd hu (fun e=>hne e.symm)⟩
  below:=below_setRow h.below h.ge _
  ge:=h.ge }
theorem Upd.keepB {w w':World} {b lo hi:Nat} (h:Upd w w' b lo hi):KeepB w w' b:=⟨h.os,h.tape,h.output,h.size,h.other⟩
noncomputable def tell (why:Int) (r:Rat):ByteArray×ByteArray×Int:=if why=0 then toldR r else (⟨#[]⟩,⟨#[]⟩,why)
end Go.Proofs.ZP
end
section
namespace Go.Proofs.ZQ
open Go.RowKit Go.Proofs.ZW.Wa Go.Proofs.ZP
noncomputable def twoF (why:Rat→Rat→Int) (op:Rat→Rat→Rat) (a0 a1 b0 b1:ByteArray):Option (ByteArray×ByteArray×Int):=by
 classical exact if h:(∃ x,RR a0 a1 x)∧∃ y,RR b0 b1 y then some (tell (why h.1.choose h.2.choose) (op h.1.choose h.2.choose)) else some (⟨#[]⟩,⟨#[]⟩,3)
noncomputable def oneF (why:Rat→Int) (op:Rat→Rat) (a0 a1:ByteArray):Option (ByteArray×ByteArray×Int):=by
 classical exact if h:∃ x,RR a0 a1 x then some (tell (why h.choose) (op h.choose)) else some (⟨#[]⟩,⟨#[]⟩,3)
noncomputable def rat_Add.f (a0_0 a0_1 a1_0 a1_1:ByteArray):Option (ByteArray×ByteArray×Int):=twoF (fun x y=>0) (fun x y=>x+y) a0_0 a0_1 a1_0 a1_1
noncomputable def rat_Sub.f (a0_0 a0_1 a1_0 a1_1:ByteArray):Option (ByteArray×ByteArray×Int):=twoF (fun x y=>0) (fun x y=>x-y) a0_0 a0_1 a1_0 a1_1
noncomputable def rat_Mul.f (a0_0 a0_1 a1_0 a1_1:ByteArray):Option (ByteArray×ByteArray×Int):=twoF (fun x y=>0) (fun x y=>x*y) a0_0 a0_1 a1_0 a1_1
noncomputable def rat_Neg.f (a0_0 a0_1:ByteArray):Option (ByteArray×ByteArray×Int):=oneF (fun x=>0) (fun x => -x) a0_0 a0_1
noncomputable def rat_Quo.f (a0_0 a0_1 a1_0 a1_1:ByteArray):Option (ByteArray×ByteArray×Int):=twoF (fun x y=>if y=0 then 8 else 0) (fun x y=>x/y) a0_0 a0_1 a1_0 a1_1
noncomputable def rat_Inv.f (a0_0 a0_1:ByteArray):Option (ByteArray×ByteArray×Int):=oneF (fun x=>if x=0 then 8 else 0) (fun x=>x⁻¹) a0_0 a0_1
end Go.Proofs.ZQ
end
section
namespace Go.Proofs.ZQ
open Go.RowKit Go.Proofs.ZW.Wa Go.Proofs.ZP Go.Proofs.ZW.Wb Go.Proofs.ZW.Wc
def FrAt (w:World) (b:Nat) (s:Bool) (x y:ByteArray):Prop:=w.heap[b]? = some (.cells #[.bool s,.string x,.string y] 76 (0,0))
theorem FrAt.c0 {w:World} {b:Nat} {s:Bool} {x y:ByteArray} (h:FrAt w b s x y):w.cell? ⟨b,0,none⟩=some (.bool s):=(zaf h 0).trans rfl
theorem FrAt.c1 {w:World} {b:Nat} {s:Bool} {x y:ByteArray} (h:FrAt w b s x y):w.cell? ⟨b,1,none⟩=some (.string x):=(zaf h 1).trans rfl
theorem FrAt.c2 {w:World} {b:Nat} {s:Bool} {x y:ByteArray} (h:FrAt w b s x y):w.cell? ⟨b,2,none⟩=some (.string y):=(zaf h 2).trans rfl
theorem FrAt.below {w w':World} {b:Nat} {s:Bool} {x y:ByteArray} (h:FrAt w b s x y) (hb:Below w.heap.size w w'):FrAt w' b s x y:=(hb.block _ (zas h)).trans h
theorem FrAt.keep {w w':World} {b n:Nat} {s:Bool} {x y:ByteArray} (h:FrAt w b s x y) (hb:Below n w w') (hn:b<n):FrAt w' b s x y:=(hb.block _ hn).trans h
theorem FrAt.new (w:World) (s:Bool) (x y:ByteArray):FrAt (w.alloc (.cells #[.bool s,.string x,.string y] 76)) w.heap.size s x y:=zau w _
theorem FrAt.alloc {w:World} {b:Nat} {s:Bool} {x y:ByteArray} (h:FrAt w b s x y) (o:Obj):FrAt (w.alloc o) b s x y:=h.below (zaa (Below.refl _ _) _)
noncomputable def c2_Plus.f (a0_0:Bool) (a0_1:ByteArray) (a0_2:ByteArray) (a1_0:Bool) (a1_1:ByteArray) (a1_2:ByteArray):Option (Bool×ByteArray×ByteArray):=(c1_Times.f a0_1 a1_2).bind fun t601=>((c1_Times.f a1_1 a0_2).bind fun t602=>((c1_Times.f a0_2 a1_2).bind fun t603=>(if (a0_0 == a1_0)=true then ((c1_Plus.f t601 t602).bind fun t604=>((c2_Lowest.f a0_0 t604 t603).bind fun bt605=>(some (bt605.1,bt605.2.1,bt605.2.2)))) else ((c1_Compare.f t601 t602).bind fun t608=>(if t608≥0 then ((c1_Minus.f t601 t602).bind fun t609=>((c2_Lowest.f a0_0 t609 t603).bind fun bt610=>(some (bt610.1,bt610.2.1,bt610.2.2)))) else ((c1_Minus.f t602 t601).bind fun t613=>((c2_Lowest.f a1_0 t613 t603).bind fun bt614=>(some (bt614.1,bt614.2.1,bt614.2.2)))))))))
end Go.Proofs.ZQ
end
section
namespace Go.Proofs.ZQ
open Go.RowKit Go.Proofs.ZW.Wa Go.Proofs.ZW.Wb Go.Proofs.ZW.Wc
attribute [local go_sem] zaH zaF zaW zaV zaA zaz zaG zaE
noncomputable def c2_Times.f (a0_0:Bool) (a0_1:ByteArray) (a0_2:ByteArray) (a1_0:Bool) (a1_1:ByteArray) (a1_2:ByteArray):Option (Bool×ByteArray×ByteArray):=(c1_Times.f a0_1 a1_1).bind fun t473=>((c1_Times.f a0_2 a1_2).bind fun t474=>((c2_Lowest.f (a0_0 != a1_0) t473 t474).bind fun bt475=>(some (bt475.1,bt475.2.1,bt475.2.2))))
noncomputable def c2_Times.B1:List Nat:=[0,1,0,4,15,0,32,0,128,480,0,1024,0,4096,16352,32767,65535]
noncomputable def c2_Minus.f (a0_0:Bool) (a0_1:ByteArray) (a0_2:ByteArray):Option (Bool×ByteArray×ByteArray):=if a0_0=true then (some (false,a0_1,a0_2)) else (some ((a0_1.toList != ([48]:List UInt8)),a0_1,a0_2))
noncomputable def c2_Over.f (a0_0:Bool) (a0_1:ByteArray) (a0_2:ByteArray):Option (Bool×ByteArray×ByteArray):=some (a0_0,a0_2,a0_1)
end Go.Proofs.ZQ
end
section
namespace Go.Proofs.ZQ
open Go.RowKit Go.Proofs.ZW.Wa Go.Proofs.ZP Go.Proofs.ZW.Wb Go.Proofs.ZW.Wc
def RbAt (w:World) (b:Nat) (x y:ByteArray):Prop:=w.heap[b]? = some (.cells #[.string x,.string y] 23 (0,0))
theorem RbAt.c0 {w:World} {b:Nat} {x y:ByteArray} (h:RbAt w b x y):w.cell? ⟨b,0,none⟩=some (.string x):=(zaf h 0).trans rfl
theorem RbAt.c1 {w:World} {b:Nat} {x y:ByteArray} (h:RbAt w b x y):w.cell? ⟨b,1,none⟩=some (.string y):=(zaf h 1).trans rfl
theorem RbAt.below {w w':World} {b:Nat} {x y:ByteArray} (h:RbAt w b x y) (hb:Below w.heap.size w w'):RbAt w' b x y:=(hb.block _ (zas h)).trans h
theorem RbAt.keep {w w':World} {b n:Nat} {x y:ByteArray} (h:RbAt w b x y) (hb:Below n w w') (hn:b<n):RbAt w' b x y:=(hb.block _ hn).trans h
theorem RbAt.new (w:World) (x y:ByteArray):RbAt (w.alloc (.cells #[.string x,.string y] 23)) w.heap.size x y:=zau w _
theorem RbAt.alloc {w:World} {b:Nat} {x y:ByteArray} (h:RbAt w b x y) (o:Obj):RbAt (w.alloc o) b x y:=h.below (zaa (Below.refl _ _) _)
def Ans (f:FuncId) (args:Array Value) (v:Value):Prop:=∀ W:World,Calls Tryz.prog f args W fun e w'=>e = .returned v∧Below W.heap.size W w'
def FrV (x:Rat):Value:=.agg #[.bool (Fr x).1,.string (Fr x).2.1,.string (Fr x).2.2]
theorem told_ans (x:Rat):Ans 71 #[FrV x] (.tuple #[.agg #[.string (toldR x).1,.string (toldR x).2.1],.int .i64 (toldR x).2.2]):=fun W=>by
 obtain ⟨k,hk⟩:=(told_ev x).rounds
 exact c2_Told.calls k _ _ _ _ _ _ W hk
end Go.Proofs.ZQ
end
section
namespace Go.Proofs.ZQ
open Go.RowKit Go.Proofs.ZW.Wa Go.Proofs.ZW.Wb Go.Proofs.ZW.Wc Go.Proofs.ZP
def nzN (l:List UInt8):Nat:=min (l.takeWhile (· == 48)).length (l.length-1)
def bareT (s:ByteArray):ByteArray:=s.extract (nzN s.data.toList) s.size
theorem ext_ext (s:ByteArray) (a b:Nat):(s.extract a s.size).extract b (s.extract a s.size).size=s.extract (a+b) s.size:=by
  rw [ByteArray.extract_extract,ByteArray.size_extract]
  congr 1
  omega
theorem nzN_cons {l:List UInt8} (h:1<l.length) (h0:l.head? = some 48):nzN l=1+nzN (l.drop 1):=by
  cases l with
  | nil=>simp at h
  | cons c t =>
    obtain rfl:c=48:=by simpa using h0
    unfold nzN
    rw [List.takeWhile_cons,if_pos (by decide),List.length_cons,List.length_cons,List.drop_succ_cons,List.drop_zero]
    rw [List.length_cons] at h
    omega
theorem nzN_stop {l:List UInt8} (h:l.length≤1∨l.head? ≠ some 48):nzN l=0:=by
  unfold nzN
  rcases h with h|h
  · omega
  · cases l with
    | nil=>rfl
    | cons c t =>
      rw [List.takeWhile_cons,if_neg (by simpa using h)]; simp
structure Ct where
  neg:Bool
  m:ByteArray
  exp:ByteArray
  down:Bool
  point:Int
  den:ByteArray
  at_:Int
def Ct.zero (b:Bool):Ct:=⟨b,⟨#[]⟩,⟨#[]⟩,false,0,⟨#[]⟩,0⟩
def chr (s:ByteArray) (i:Nat):Option UInt8:=s.data.toList[i]?
theorem chr_at {s:ByteArray} {i:Nat} (h:i<s.size):chr s i=some (s[i]'h):=List.getElem?_eq_getElem (by rw [zah]; exact h)
theorem chr_out {s:ByteArray} {i:Nat} (h:¬ i<s.size):chr s i=none:=List.getElem?_eq_none (by rw [zah]; omega)
abbrev rn (s:ByteArray) (i:Nat):Nat:=ZP.runN s.data.toList i
theorem rn_le {s:ByteArray} {i:Nat} (h:i≤s.size):rn s i≤s.size:=by
  have:=runN_le (l:=s.data.toList) (i:=i) (by rw [zah]; exact h)
  rw [zah] at this
  exact this
def isC (s:ByteArray) (i:Nat) (c:UInt8):Bool:=chr s i == some c
def finF (s:ByteArray) (c:Ct) (e:Nat):Ct×Int:=({ c with m:=bareT c.m },if e<s.size then (e:Int) else -1)
def expF (s : ByteArray) (c : Ct) (e : Nat) : Ct × Int :=
  if isC s e 101 || isC s e 69 then
    if isC s (e+1) 43 || isC s (e+1) 45 then
      if rn s (e+2)=e+2 then ({ c with down:=isC s (e+1) 45 },((e+2:Nat):Int)) else finF s { c with down:=isC s (e+1) 45,exp:=bareT (s.extract (e+2) (rn s (e+2))) } (rn s (e+2))
    else if rn s (e+1)=e+1 then (c,((e+1:Nat):Int)) else finF s { c with exp:=bareT (s.extract (e+1) (rn s (e+1))) } (rn s (e+1))
  else finF s c e
def ptF (s:ByteArray) (c:Ct) (e:Nat):Ct×Int:=
  if isC s e 46 then (if rn s (e+1)=e+1 then (c,((e+1:Nat):Int)) else expF s { c with m:=c.m++s.extract (e+1) (rn s (e+1)),point:=((rn s (e+1):Nat):Int)-((e+1:Nat):Int) } (rn s (e+1)))
  else expF s c e
def sgA (s:ByteArray):Nat:=if isC s 0 45 then 1 else 0
def formR (s : ByteArray) : Ct × Int :=
  if rn s (sgA s)=sgA s then (Ct.zero (isC s 0 45),((sgA s:Nat):Int))
  else if isC s (rn s (sgA s)) 47 then
    (if rn s (rn s (sgA s)+1)=rn s (sgA s)+1∨rn s (rn s (sgA s)+1)<s.size then ({ Ct.zero (isC s 0 45) with m:=s.extract (sgA s) (rn s (sgA s)),den:=bareT (s.extract (rn s (sgA s)+1) (rn s (rn s (sgA s)+1))),at_:=((rn s (sgA s)+1:Nat):Int) },((rn s (rn s (sgA s)+1):Nat):Int))
     else ({ Ct.zero (isC s 0 45) with m:=bareT (s.extract (sgA s) (rn s (sgA s))),den:=bareT (s.extract (rn s (sgA s)+1) (rn s (rn s (sgA s)+1))),at_:=((rn s (sgA s)+1:Nat):Int) },-1))
  else ptF s { Ct.zero (isC s 0 45) with m:=s.extract (sgA s) (rn s (sgA s)) } (rn s (sgA s))
def sgF (s:ByteArray) (c:Ct) (a:Nat):Ct×Int:=if rn s a=a then (c,((a:Nat):Int)) else finF s { c with exp:=bareT (s.extract a (rn s a)) } (rn s a)
theorem zbQ {s:ByteArray} {i:Nat} {c:UInt8} (h:isC s i c=true):i<s.size:=by
  by_cases hp:i<s.size
  · exact hp
  · unfold isC at h; rw [chr_out hp] at h; exact absurd h (by simp)
def slF (s:ByteArray) (b:Bool) (A E F:Nat):Ct×Int:=
  if F=E+1∨F<s.size then ({ Ct.zero b with m:=s.extract A E,den:=bareT (s.extract (E+1) F),at_:=((E+1:Nat):Int) },((F:Nat):Int))
  else ({ Ct.zero b with m:=bareT (s.extract A E),den:=bareT (s.extract (E+1) F),at_:=((E+1:Nat):Int) },-1)
theorem slF_yes {s:ByteArray} {b:Bool} {A E F a:Nat} (ha:E+1=a) (h:F=a∨F<s.size):slF s b A E F=(⟨b,s.extract A E,⟨#[]⟩,false,0,bareT (s.extract a F),((a:Nat):Int)⟩,((F:Nat):Int)):=by
  subst ha
  exact if_pos h
theorem slF_no {s:ByteArray} {b:Bool} {A E F a:Nat} (ha:E+1=a) (h1:¬ F=a) (h2:¬ F<s.size):slF s b A E F=(⟨b,bareT (s.extract A E),⟨#[]⟩,false,0,bareT (s.extract a F),((a:Nat):Int)⟩,-1):=by
  subst ha
  exact if_neg (fun h=>h.elim h1 h2)
theorem ptF_no {s:ByteArray} {c:Ct} {e:Nat} (h:isC s e 46=false):ptF s c e=expF s c e:=by
  unfold ptF
  rw [h]; rfl
theorem ptF_stop {s:ByteArray} {c:Ct} {e a:Nat} (h:isC s e 46=true) (ha:e+1=a) (hr:ZP.runN s.data.toList a=a):ptF s c e=(c,((a:Nat):Int)):=by
  subst ha
  unfold ptF
  rw [h,if_pos rfl,if_pos hr]
theorem ptF_go {s:ByteArray} {n:Bool} {m x:ByteArray} {d:Bool} {p:Int} {g:ByteArray} {z:Int} {e a f:Nat} (h:isC s e 46=true) (ha:e+1=a) (hf:ZP.runN s.data.toList a=f) (hr:¬ f=a):ptF s ⟨n,m,x,d,p,g,z⟩ e=expF s ⟨n,m++s.extract a f,x,d,((f:Nat):Int)-((a:Nat):Int),g,z⟩ f:=by
  subst ha
  subst hf
  unfold ptF
  rw [h,if_pos rfl,if_neg hr]
theorem expF_no {s:ByteArray} {c:Ct} {e:Nat} (h:(isC s e 101 || isC s e 69)=false):expF s c e=finF s c e:=by
  unfold expF
  rw [h]; rfl
theorem expF_ns {s:ByteArray} {c:Ct} {e a:Nat} (h:(isC s e 101 || isC s e 69)=true) (ha:e+1=a) (h2:(isC s a 43 || isC s a 45)=false):expF s c e=sgF s c a:=by
  subst ha
  unfold expF
  rw [h,if_pos rfl,h2]; rfl
theorem expF_sg {s:ByteArray} {n:Bool} {m x:ByteArray} {d:Bool} {p:Int} {g:ByteArray} {z:Int} {e a b:Nat} {y:Bool} (h:(isC s e 101 || isC s e 69)=true) (ha:e+1=a) (h2:(isC s a 43 || isC s a 45)=true) (hb:a+1=b) (hy:isC s a 45=y):expF s ⟨n,m,x,d,p,g,z⟩ e=sgF s ⟨n,m,x,y,p,g,z⟩ b:=by
  subst ha
  subst hb
  subst hy
  unfold expF
  rw [h,if_pos rfl,h2]; rfl
theorem sgF_stop {s:ByteArray} {c:Ct} {a:Nat} (hr:ZP.runN s.data.toList a=a):sgF s c a=(c,((a:Nat):Int)):=if_pos hr
theorem sgF_go {s:ByteArray} {n:Bool} {m x:ByteArray} {d:Bool} {p:Int} {g:ByteArray} {z:Int} {a f:Nat} (hf:ZP.runN s.data.toList a=f) (hr:¬ f=a):sgF s ⟨n,m,x,d,p,g,z⟩ a=finF s ⟨n,m,bareT (s.extract a f),d,p,g,z⟩ f:=by
  subst hf
  exact if_neg hr
theorem finF_yes {s:ByteArray} {n:Bool} {m x:ByteArray} {d:Bool} {p:Int} {g:ByteArray} {z:Int} {e:Nat} (h:e<s.size):finF s ⟨n,m,x,d,p,g,z⟩ e=(⟨n,bareT m,x,d,p,g,z⟩,((e:Nat):Int)):=by
  unfold finF
  rw [if_pos h]
theorem finF_no {s:ByteArray} {n:Bool} {m x:ByteArray} {d:Bool} {p:Int} {g:ByteArray} {z:Int} {e:Nat} (h:¬ e<s.size):finF s ⟨n,m,x,d,p,g,z⟩ e=(⟨n,bareT m,x,d,p,g,z⟩,-1):=by
  unfold finF
  rw [if_neg h]
theorem ext_le {s:ByteArray} {a b:Nat} (hs:s.size≤65536):(s.extract a b).size≤200000:=by
  rw [ByteArray.size_extract]
  omega
theorem run_ans (s:ByteArray) (i:Nat) (hs:s.size≤65536) (hi:i≤s.size):Ans 176 #[.string s,.int .i64 (i:Int)] (.int .i64 (ZP.runN s.data.toList i:Nat)):=by
 intro w
 have hl:s.data.toList.length=s.size:=zah s
 obtain ⟨n,hn⟩:∃ n,ZP.runN s.data.toList i=n:=⟨_,rfl⟩
 rw [hn]
 have HV:=Lib.hid hn
 have HB:=Lib.hid (Below.refl w.heap.size w)
 clear hn
 go_enter Tryz.func176,Tryz.ntmps176
 go_wp2
 go_loopw [1] (fun v1 wr=>∃ j:Nat,j≤s.size∧v1 = .int .i64 j∧Hid (ZP.runN s.data.toList j=n)∧Hid (Below w.heap.size w wr)) (fun v1 _=>s.size-(intOf v1).toNat)
 case atStart=>exact ⟨i,hi,by go_num,HV,HB⟩
 case round =>
  clear HV HB
  obtain ⟨j,hj,rfl,HV,HB⟩:=hrel
  by_cases hjs:j<s.size
  ·have hjl:j<s.data.toList.length:=by omega
   obtain ⟨c,hcs⟩:∃ c,(s[j]'hjs).toNat=c:=⟨_,rfl⟩
   have hcc:(s.data.toList[j]).toNat=c:=hcs
   by_cases hd:48≤c∧c≤57
   ·have HN:=Lib.hid (show ZP.runN s.data.toList (j+1)=n from (runN_step hjl (by unfold isD; rw [hcc,decide_eq_true hd.1,decide_eq_true hd.2]; rfl)).symm.trans HV.out)
    have b1:decide (48≤((c:Nat):Int))=true:=decide_eq_true (by omega)
    have b2:decide (((c:Nat):Int)≤57)=true:=decide_eq_true (by omega)
    clear hcc hd
    go_wp2
    go_roundw
    case rel=>exact ⟨j+1,by omega,by go_num,HN,HB⟩
    case measure=>simp [intOf]; omega
   ·have HN:=Lib.hid (show n=j from HV.out.symm.trans (runN_stop hjl (by unfold isD; rw [hcc,Bool.and_eq_false_iff,decide_eq_false_iff_not,decide_eq_false_iff_not]; omega)))
    clear hcc HV
    by_cases h1:48≤c
    ·have b1:decide (48≤((c:Nat):Int))=true:=decide_eq_true (by omega)
     have b2:decide (((c:Nat):Int)≤57)=false:=decide_eq_false (by omega)
     clear hd h1
     go_wp2
     go_ret
     exact ⟨by rw [HN.out]; rfl,HB.out⟩
    ·have b1:decide (48≤((c:Nat):Int))=false:=decide_eq_false (by omega)
     clear hd h1
     go_wp2
     go_ret
     exact ⟨by rw [HN.out]; rfl,HB.out⟩
  ·obtain rfl:j=s.size:=by omega
   have HN:=Lib.hid (show n=s.size from HV.out.symm.trans (runN_end (by omega)))
   clear HV
   go_wp2
   go_ret
   exact ⟨by rw [HN.out]; rfl,HB.out⟩
theorem bare_ans (s:ByteArray) (hs:s.size≤200000):Ans 177 #[.string s] (.string (bareT s)):=by
 intro w
 have HB:=Lib.hid (Below.refl w.heap.size w)
 have H0:=Lib.hid (show bareT s=bareT s from rfl)
 obtain ⟨r,hr⟩:∃ r,bareT s=r:=⟨_,rfl⟩
 rw [hr]
 have HR:=Lib.hid hr
 clear hr H0
 go_enter Tryz.func177,Tryz.ntmps177
 go_wp2
 go_loopw [0] (fun v0 wr=>∃ t:ByteArray,t.size≤s.size∧v0 = .string t∧Hid (bareT t=r)∧Hid (Below w.heap.size w wr)) (fun v0 _=>match v0 with|.string t=>t.size|_=>0)
 case atStart=>exact ⟨s,Nat.le_refl _,rfl,HR,HB⟩
 case round =>
  clear HR HB
  obtain ⟨t,ht,rfl,HR,HB⟩:=hrel
  by_cases h1:1<t.size
  ·have b1:decide (1<(t.size:Int))=true:=decide_eq_true (by omega)
   have b3:decide (1<t.size)=true:=decide_eq_true h1
   obtain ⟨c,hc⟩:∃ c,(t[0]'(by omega)).toNat=c:=⟨_,rfl⟩
   have hh:t.data.toList.head? = some (t[0]'(by omega)):=by
    rw [List.head?_eq_getElem?,List.getElem?_eq_getElem (by rw [zah]; omega)]; rfl
   by_cases h48:c=48
   ·subst h48
    have HN:=Lib.hid (show bareT (t.extract 1 t.size)=r from by
     rw [←HR.out]
     have hl:t.data.toList.length=t.size:=zah t
     have e:=nzN_cons (l:=t.data.toList) (by omega) (by rw [hh]; exact congrArg some (UInt8.toNat_inj.1 (by rw [hc]; rfl)))
     have e2:(t.extract 1 t.size).data.toList=t.data.toList.drop 1:=by
      simp only [ByteArray.data_extract,Array.toList_extract,List.extract_eq_take_drop]
      rw [List.take_of_length_le (by rw [List.length_drop]; omega)]
     unfold bareT
     rw [e2,ext_ext,e])
    have b2:((((48:Nat):Int)) == 48)=true:=rfl
    clear hh HR
    go_wp2
    go_roundw
    case rel=>exact ⟨t.extract 1 t.size,by rw [ByteArray.size_extract]; omega,rfl,HN,HB⟩
    case measure=>show (t.extract 1 t.size).size<t.size; rw [ByteArray.size_extract]; omega
   ·have HN:=Lib.hid (show t=r from by
     rw [←HR.out]
     unfold bareT
     rw [nzN_stop (Or.inr (by rw [hh]; intro e; apply h48; rw [←hc,Option.some.inj e]; rfl))]
     exact (ByteArray.extract_zero_size).symm)
    have b2:(((c:Nat):Int) == 48)=false:=beq_eq_false_iff_ne.2 (by omega)
    clear hh HR h48
    go_wp2
    go_ret
    exact ⟨by rw [HN.out]; rfl,HB.out⟩
  ·have b1:decide (1<(t.size:Int))=false:=decide_eq_false (by omega)
   have b3:decide (1<t.size)=false:=decide_eq_false h1
   have HN:=Lib.hid (show t=r from by
    rw [←HR.out]
    unfold bareT
    rw [nzN_stop (Or.inl (by rw [zah]; omega))]
    exact (ByteArray.extract_zero_size).symm)
   clear HR
   go_wp2
   go_ret
   exact ⟨by rw [HN.out]; rfl,HB.out⟩
end Go.Proofs.ZQ
end
